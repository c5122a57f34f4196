import PyProof.Rows.All
import Wide.All
import OpenK.AllK
import Wide.FinOn
import PySem.Challenge.RW_pb0111_01
open PySem PySem.W PyProof.Rows
set_option Elab.async false
set_option compiler.extract_closed false
section
namespace Mine
/-- the text's statements without the five that the head does not look at -/
def kept : List Stmt → List Stmt
  | a :: _ :: b :: c :: d :: e :: f :: g :: _ :: r => a :: b :: c :: d :: e :: f :: g :: (r.take 13 ++ (r.drop 14).take 3 ++ (r.drop 18).take 8 ++ r.drop 27)
  | l => l
def view : Program := { PySem.Challenge.rw_pb0111_01.row.prog with main := { PySem.Challenge.rw_pb0111_01.row.prog.main with body := kept PySem.Challenge.rw_pb0111_01.row.prog.main.body } }
local macro_rules | `(tactic| o_law) => `(tactic| refine holds_law (by decide +kernel) fun said => ?_)
local macro_rules | `(tactic| o_head $H) => `(tactic| (apply holds_open (r := PySem.Challenge.rw_pb0111_01.row) (q := Mine.view) (loose := [Str.ofString "GitError", Str.ofString "Step"]) (Xt := fun s => xlAt Mine.view [] s && recOk (RowW.records PySem.Challenge.rw_pb0111_01.row.toRowW) s) (XP := XL Mine.view []) (Yf := Hook.obs $H) (Ya := Hook.val $H) (YP := Hook.says $H) (N := 4468) (fun w => by unfold openEnds fencedOpening topFrom; simp only [PySem.W.Fast.te14082659384304107361, PySem.W.Fast.te10274390034422433532, PySem.W.Fast.te14289696077712309145, PySem.W.Fast.te4187177175401517315, PySem.W.Fast.te1435165496053646825, PySem.W.Fast.te14364793385576792824, PySem.W.Fast.te5923862056798008813, PySem.W.Fast.te8920871248978507458]; kernel_rfl) (Hook.of $H) (Hook.keeps $H) (fun s e => xl_of s (Bool.and_eq_true_iff.mp e).1) XL.keeps (by rfl) (by rfl) (by rfl) (fun s e => recFacts_of (Bool.and_eq_true_iff.mp e).2) (by rfl) (by assumption) (by decide +kernel) ⟨rfl, rfl, rfl, rfl, rfl, by decide +kernel⟩))
set_option maxRecDepth 100000 in
set_option maxHeartbeats 8000000 in
open_top hd for PySem.Challenge.rw_pb0111_01
end Mine
end
open Mine
local macro_rules | `(tactic| walk_at $s:str) => `(tactic| k_extra $s)
local macro_rules | `(tactic| k_qdec) => `(tactic| decide +kernel)
section
namespace Mine
def Says (w : World) (f : Addr) (n : Nat) (vs : List Value) (news : List (Addr × Obj)) (R : Value → List (Addr × Obj) → Prop) : Prop :=
  ∀ (p : Program) (loose : List Str) (mean : ExcName → Option Value) (mg mb : Str → Option Value) (dp un : Nat) (gd : Option (List Code)) (cn : Str) (cs : Scope) (a : Addr) (ccd : Value) (cl : List (Str × Addr)) (outer : List Env)
    (A₀ : Around) (base h₀ : Heap) (L : Addr) (m : Str → Option Value) (s : Shared) (Q E : Value → Shared → Prop),
    Below A₀ base outer h₀ → Fr h₀ L s.heap m → (hd.heap_1 w.params).In h₀ → News h₀ L s.heap news → Top p loose mean mg mb h₀ → cs.kind = .function →
    dp + n < recursionLimit → un + 8 * n < cLine →
    (∀ (v : Value) (news' : List (Addr × Obj)) (h' : Heap) (tk' : Nat), Fr h₀ L h' m → News h₀ L h' news' → R v news' → Q v { s with heap := h', toks := tk' }) →
    wpAny (model PySem.Challenge.rw_pb0111_01.row.prog w) (ktrTop dp un gd cn cs L a ccd cl outer) (call (.ref f) vs) Q E s
def RB (x : List UInt8) (news : List (Addr × Obj)) (v : Value) (news' : List (Addr × Obj)) : Prop := (∃ t, v = .bytes x.toArray t) ∧ news = news'
end Mine
end
section
namespace Mine
namespace By
set_option maxRecDepth 100000
theorem slot_find : Slot "bytes" "find" "bytes.find" :=
  .of (owner := "bytes") (n := "find") (by rw [typeLookup_type, builtinLookup_eq_fast]; kernel_rfl) (by decide +kernel) (by decide +kernel) (by decide +kernel)
    (by first | exact .inl (by decide +kernel) | exact .inr (by decide +kernel)) (by rw [isSubtype_type]; kernel_rfl)
theorem type_find : typeOf (.builtin "bytes.find") = pure (.type "method_descriptor") := by show builtinType _ = _; rw [builtinType_eq_fast]; kernel_rfl
theorem entry_find : entryFor table "bytes.find" = some Builtin.«bytes.find» := entryFor_of_tree (by kernel_rfl)
theorem args_find_2 (a b : Value) : argsOk "bytes.find" ⟨[a, b], []⟩ := by
  unfold argsOk; rw [signature?_of (id := "bytes.find") (n := ['d', 'n', 'i', 'f']) (o := ['s', 'e', 't', 'y', 'b']) (by kernel_rfl) PySem.W.FB.owner_bytes]; kernel_rfl
theorem args_find_3 (a b c : Value) : argsOk "bytes.find" ⟨[a, b, c], []⟩ := by
  unfold argsOk; rw [signature?_of (id := "bytes.find") (n := ['d', 'n', 'i', 'f']) (o := ['s', 'e', 't', 'y', 'b']) (by kernel_rfl) PySem.W.FB.owner_bytes]; kernel_rfl
theorem slot_split : Slot "bytes" "split" "bytes.split" :=
  .of (owner := "bytes") (n := "split") (by rw [typeLookup_type, builtinLookup_eq_fast]; kernel_rfl) (by decide +kernel) (by decide +kernel) (by decide +kernel)
    (by first | exact .inl (by decide +kernel) | exact .inr (by decide +kernel)) (by rw [isSubtype_type]; kernel_rfl)
theorem type_split : typeOf (.builtin "bytes.split") = pure (.type "method_descriptor") := by show builtinType _ = _; rw [builtinType_eq_fast]; kernel_rfl
theorem entry_split : entryFor table "bytes.split" = some Builtin.«bytes.split» := entryFor_of_tree (by kernel_rfl)
theorem args_split_2 (a b : Value) : argsOk "bytes.split" ⟨[a, b], []⟩ := by
  unfold argsOk; rw [signature?_of (id := "bytes.split") (n := ['t', 'i', 'l', 'p', 's']) (o := ['s', 'e', 't', 'y', 'b']) (by kernel_rfl) PySem.W.FB.owner_bytes]; kernel_rfl
theorem slot_rstrip : Slot "bytes" "rstrip" "bytes.rstrip" :=
  .of (owner := "bytes") (n := "rstrip") (by rw [typeLookup_type, builtinLookup_eq_fast]; kernel_rfl) (by decide +kernel) (by decide +kernel) (by decide +kernel)
    (by first | exact .inl (by decide +kernel) | exact .inr (by decide +kernel)) (by rw [isSubtype_type]; kernel_rfl)
theorem type_rstrip : typeOf (.builtin "bytes.rstrip") = pure (.type "method_descriptor") := by show builtinType _ = _; rw [builtinType_eq_fast]; kernel_rfl
theorem entry_rstrip : entryFor table "bytes.rstrip" = some Builtin.«bytes.rstrip» := entryFor_of_tree (by kernel_rfl)
theorem args_rstrip_2 (a b : Value) : argsOk "bytes.rstrip" ⟨[a, b], []⟩ := by
  unfold argsOk; rw [signature?_of (id := "bytes.rstrip") (n := ['p', 'i', 'r', 't', 's', 'r']) (o := ['s', 'e', 't', 'y', 'b']) (by kernel_rfl) PySem.W.FB.owner_bytes]; kernel_rfl
theorem slot_lstrip : Slot "bytes" "lstrip" "bytes.lstrip" :=
  .of (owner := "bytes") (n := "lstrip") (by rw [typeLookup_type, builtinLookup_eq_fast]; kernel_rfl) (by decide +kernel) (by decide +kernel) (by decide +kernel)
    (by first | exact .inl (by decide +kernel) | exact .inr (by decide +kernel)) (by rw [isSubtype_type]; kernel_rfl)
theorem type_lstrip : typeOf (.builtin "bytes.lstrip") = pure (.type "method_descriptor") := by show builtinType _ = _; rw [builtinType_eq_fast]; kernel_rfl
theorem entry_lstrip : entryFor table "bytes.lstrip" = some Builtin.«bytes.lstrip» := entryFor_of_tree (by kernel_rfl)
theorem args_lstrip_2 (a b : Value) : argsOk "bytes.lstrip" ⟨[a, b], []⟩ := by
  unfold argsOk; rw [signature?_of (id := "bytes.lstrip") (n := ['p', 'i', 'r', 't', 's', 'l']) (o := ['s', 'e', 't', 'y', 'b']) (by kernel_rfl) PySem.W.FB.owner_bytes]; kernel_rfl
theorem slot_join : Slot "bytes" "join" "bytes.join" :=
  .of (owner := "bytes") (n := "join") (by rw [typeLookup_type, builtinLookup_eq_fast]; kernel_rfl) (by decide +kernel) (by decide +kernel) (by decide +kernel)
    (by first | exact .inl (by decide +kernel) | exact .inr (by decide +kernel)) (by rw [isSubtype_type]; kernel_rfl)
theorem type_join : typeOf (.builtin "bytes.join") = pure (.type "method_descriptor") := by show builtinType _ = _; rw [builtinType_eq_fast]; kernel_rfl
theorem entry_join : entryFor table "bytes.join" = some Builtin.«bytes.join» := entryFor_of_tree (by kernel_rfl)
theorem args_join_2 (a b : Value) : argsOk "bytes.join" ⟨[a, b], []⟩ := by
  unfold argsOk; rw [signature?_of (id := "bytes.join") (n := ['n', 'i', 'o', 'j']) (o := ['s', 'e', 't', 'y', 'b']) (by kernel_rfl) PySem.W.FB.owner_bytes]; kernel_rfl
end By
end Mine
end
section
namespace Mine
namespace By
open Builtin
set_option maxRecDepth 100000
def findI (b : List UInt8) (x : UInt8) (n : Nat) : Int := match (b.drop n).findIdx? (· == x) with
  | some k => ((n + k : Nat) : Int)
  | none => -1
theorem find_one (b : List UInt8) (x : UInt8) (n m : Nat) (hm : m = b.length) (hn : n ≤ m) : Bytes.find? b.toArray #[x] n m = ((b.drop n).findIdx? (· == x)).map (n + ·) := by
  subst hm
  unfold Bytes.find?
  have hsz : (#[x] : Array UInt8).size = 1 := rfl
  rw [hsz]
  have e1 : b.length + 1 - (n + 1) = (b.drop n).length := by rw [List.length_drop]; omega
  rw [e1]
  have key : ∀ (l : List UInt8) (n : Nat), b.drop n = l → (((List.range l.length).map (· + n)).find? fun i => b.toArray.extract i (i + 1) == #[x]) = (l.findIdx? (· == x)).map (n + ·) := by
    intro l
    induction l with
    | nil => intro n _; rfl
    | cons y r ih =>
      intro n hd
      have hlt : n < b.length := by
        have := congrArg List.length hd
        rw [List.length_drop, List.length_cons] at this
        omega
      have hr : b.drop (n + 1) = r := by
        rw [← List.tail_drop, hd]; rfl
      have hy : b[n]'hlt = y := by
        have := List.getElem_cons_drop (h := hlt)
        rw [hd] at this
        exact (List.cons.inj this).1
      have hx : (b.toArray.extract n (n + 1) == #[x]) = (y == x) := by
        have e : b.toArray.extract n (n + 1) = #[y] := by
          apply Array.toList_inj.mp
          simp only [Array.toList_extract]
          rw [List.extract_eq_take_drop, hd]
          simp
        rw [e]
        by_cases h : y = x
        · subst h; simp
        · simp [h]
      rw [List.length_cons, List.range_succ_eq_map, List.map_cons, List.find?_cons, List.findIdx?_cons]
      rw [Nat.zero_add, hx]
      cases h : (y == x) with
      | true => simp
      | false =>
        have := ih (n + 1) hr
        simp only [Bool.false_eq_true, if_false, List.map_map]
        have e2 : ((fun x => x + n) ∘ Nat.succ) = (· + (n + 1)) := by
          funext z
          show z.succ + n = z + (n + 1)
          omega
        rw [e2, this]
        cases List.findIdx? (· == x) r with
        | none => rfl
        | some k => simp only [Option.map_some]; congr 1; omega
  exact key _ n rfl
variable {b c : List UInt8} {t u v : Tok}
theorem findI_none {x : UInt8} {n : Nat} (h : (b.drop n).findIdx? (· == x) = none) : findI b x n = -1 := by unfold findI; rw [h]
theorem findI_some {x : UInt8} {n k : Nat} (h : (b.drop n).findIdx? (· == x) = some k) : findI b x n = ((n + k : Nat) : Int) := by unfold findI; rw [h]
theorem gives_find_tail {x : UInt8} {n : Nat} {M : Model} {A : Around} {E : Value → Shared → Prop} {s : Shared} {Q : Value → Shared → Prop} {str : String} {z : String} {lo hi : Int} (elo : lo = (n : Int)) (ehi : hi = (b.length : Int)) (hn : n ≤ b.length) (hq : Q (.int (findI b x n) s.toks) { s with toks := s.toks + 1 }) :
    wpAny M A (match (if hi - lo < ((#[x] : Array UInt8).size : Int) then none else some (lo.toNat, hi.toNat)).bind fun (p : Nat × Nat) => Bytes.find? b.toArray #[x] p.1 p.2 with
      | some i => retInt i
      | none => do rule str; if false then raiseErrorWords "ValueError" z else retInt (-1)) (fun fin s' => ∃ v, fin = .done (.ret v) ∧ Q v s') E s := by
  subst elo ehi
  have e : ((if (b.length : Int) - (n : Int) < ((#[x] : Array UInt8).size : Int) then none else some ((n : Int).toNat, (b.length : Int).toNat)).bind fun (p : Nat × Nat) => Bytes.find? b.toArray #[x] p.1 p.2) = ((b.drop n).findIdx? (· == x)).map (n + ·) := by
    by_cases h : (b.length : Int) - (n : Int) < ((#[x] : Array UInt8).size : Int)
    · rw [if_pos h]
      have h1 : ((#[x] : Array UInt8).size : Int) = 1 := rfl
      have : b.drop n = [] := List.drop_eq_nil_of_le (by omega)
      rw [this]; rfl
    · rw [if_neg h]
      exact find_one b x n b.length rfl hn
  rw [e]
  cases h : (b.drop n).findIdx? (· == x) with
  | none =>
    rw [findI_none h] at hq
    exact wpAny_bind (wpAny_rule (wpAny_bind (wpAny_mkInt (wpAny_pure ⟨_, rfl, hq⟩))))
  | some k =>
    rw [findI_some h] at hq
    exact wpAny_bind (wpAny_mkInt (wpAny_pure ⟨_, rfl, hq⟩))
theorem gives_find2 {x : UInt8} : Gives («bytes.find» ⟨[.bytes b.toArray t, .bytes #[x] u], []⟩) (.int (findI b x 0)) := by
  refine .of_wp fun M A E s Q hq => ?_
  show wpAny M A (Bytes.searchArgs .bytes "find" _ >>= fun r => _) _ E s
  refine wpAny_bind ?_
  unfold Bytes.searchArgs
  refine wpAny_bind (wpAny_of_eq (a := (.bytes b.toArray t, [.bytes #[x] u])) rfl ?_)
  refine wpAny_bind (wpAny_of_eq (a := none) rfl ?_)
  refine wpAny_bind (wpAny_of_eq (a := none) rfl ?_)
  refine wpAny_bind (wpAny_of_eq (KBy.buffer_eq (b := #[x]) (t := u)) ?_)
  refine wpAny_bind (wpAny_pure ?_)
  refine wpAny_bind (wpAny_of_eq (a := b.toArray) rfl ?_)
  refine wpAny_pure ?_
  have ehi : (Min.min (b.toArray.size : Int) (if (none : Option Int).getD (b.toArray.size : Int) < 0 then Max.max 0 ((none : Option Int).getD (b.toArray.size : Int) + (b.toArray.size : Int)) else (none : Option Int).getD (b.toArray.size : Int))) = (b.length : Int) := by
    simp only [Option.getD_none, List.size_toArray]
    split <;> omega
  dsimp only
  exact gives_find_tail (n := 0) rfl ehi (Nat.zero_le _) hq
theorem gives_find3 {x : UInt8} {n : Nat} (hn : n ≤ b.length) : Gives («bytes.find» ⟨[.bytes b.toArray t, .bytes #[x] u, .int (n : Int) v], []⟩) (.int (findI b x n)) := by
  refine .of_wp fun M A E s Q hq => ?_
  show wpAny M A (Bytes.searchArgs .bytes "find" _ >>= fun r => _) _ E s
  refine wpAny_bind ?_
  unfold Bytes.searchArgs
  refine wpAny_bind (wpAny_of_eq (a := (.bytes b.toArray t, [.bytes #[x] u, .int (n : Int) v])) rfl ?_)
  refine wpAny_bind ?_
  show wpAny M A (specialOf (.int (n : Int) v) "__index__" >>= fun r => _) _ E s
  refine wpAny_bind (wpAny_specialOf (typeIs_int s _ _) F.slot_int_index.lookup ?_)
  refine wpAny_bind (wpAny_of_eq (a := (n : Int)) rfl (wpAny_pure ?_))
  refine wpAny_bind (wpAny_of_eq (a := none) rfl ?_)
  refine wpAny_bind (wpAny_of_eq (KBy.buffer_eq (b := #[x]) (t := u)) ?_)
  refine wpAny_bind (wpAny_pure ?_)
  refine wpAny_bind (wpAny_of_eq (a := b.toArray) rfl ?_)
  refine wpAny_pure ?_
  have ehi : (Min.min (b.toArray.size : Int) (if (none : Option Int).getD (b.toArray.size : Int) < 0 then Max.max 0 ((none : Option Int).getD (b.toArray.size : Int) + (b.toArray.size : Int)) else (none : Option Int).getD (b.toArray.size : Int))) = (b.length : Int) := by
    simp only [Option.getD_none, List.size_toArray]
    split <;> omega
  have elo : (if (some (n : Int)).getD 0 < 0 then Max.max 0 ((some (n : Int)).getD 0 + (b.toArray.size : Int)) else (some (n : Int)).getD 0) = (n : Int) := by
    simp only [Option.getD_some]
    split <;> omega
  dsimp only
  exact gives_find_tail elo ehi hn hq
end By
end Mine
end
section
namespace Mine
namespace By
open Builtin
set_option maxRecDepth 100000
variable {b c : List UInt8} {t u v : Tok}
theorem isInst_tuple : isInstance (.bytes c.toArray u) (.type "tuple") = pure false := by
  have e : isInstance (.bytes c.toArray u) (.type "tuple") = isSubtype (.type "bytes") (.type "tuple") := rfl
  rw [e, isSubtype_type]; kernel_rfl
theorem hi_none : (Min.min (b.toArray.size : Int) (if (none : Option Int).getD (b.toArray.size : Int) < 0 then Max.max 0 ((none : Option Int).getD (b.toArray.size : Int) + (b.toArray.size : Int)) else (none : Option Int).getD (b.toArray.size : Int))) = (b.length : Int) := by
  simp only [Option.getD_none, List.size_toArray]
  split <;> omega
theorem take_of_short (h : (b.length : Int) - 0 < (c.toArray.size : Int)) : (b.take c.length == c) = false := by
  rw [List.size_toArray] at h
  refine beq_eq_false_iff_ne.mpr fun e => ?_
  have := congrArg List.length e
  rw [List.length_take] at this
  omega
theorem drop_of_short (h : (b.length : Int) - 0 < (c.toArray.size : Int)) : (b.drop (b.length - c.length) == c) = false := by
  rw [List.size_toArray] at h
  refine beq_eq_false_iff_ne.mpr fun e => ?_
  have := congrArg List.length e
  rw [List.length_drop] at this
  omega
theorem ext_beq {x : Array UInt8} {l : List UInt8} (e : x.toList = l) : (x == c.toArray) = (l == c) := by
  subst e
  by_cases h : x.toList = c
  · have : x = c.toArray := by rw [← h]
    simp [this]
  · have : x ≠ c.toArray := fun e => h (by rw [e])
    rw [beq_eq_false_iff_ne.mpr this, beq_eq_false_iff_ne.mpr h]
theorem fits_start : (if (b.length : Int) - 0 < (c.toArray.size : Int) then false else b.toArray.extract (0 : Int).toNat ((0 : Int).toNat + c.toArray.size) == c.toArray) = (b.take c.length == c) := by
  split
  · rename_i h; exact (take_of_short h).symm
  · refine ext_beq ?_
    rw [Array.toList_extract]
    simp [List.extract_eq_take_drop]
theorem fits_end : (if (b.length : Int) - 0 < (c.toArray.size : Int) then false else b.toArray.extract ((b.length : Int).toNat - c.toArray.size) (b.length : Int).toNat == c.toArray) = (b.drop (b.length - c.length) == c) := by
  split
  · rename_i h; exact (drop_of_short h).symm
  · rename_i h
    rw [List.size_toArray] at h
    refine ext_beq ?_
    rw [Array.toList_extract]
    simp only [List.extract_eq_take_drop, List.size_toArray, Int.toNat_natCast]
    exact List.take_of_length_le (by rw [List.length_drop]; omega)
theorem fitsS {lo hi : Int} (elo : lo = 0) (ehi : hi = (b.length : Int)) : (if hi - lo < (c.toArray.size : Int) then false else if false = true then b.toArray.extract (hi.toNat - c.toArray.size) hi.toNat == c.toArray else b.toArray.extract lo.toNat (lo.toNat + c.toArray.size) == c.toArray) = (b.take c.length == c) := by
  subst elo ehi
  exact fits_start
theorem fitsE {lo hi : Int} (elo : lo = 0) (ehi : hi = (b.length : Int)) : (if hi - lo < (c.toArray.size : Int) then false else if true = true then b.toArray.extract (hi.toNat - c.toArray.size) hi.toNat == c.toArray else b.toArray.extract lo.toNat (lo.toNat + c.toArray.size) == c.toArray) = (b.drop (b.length - c.length) == c) := by
  subst elo ehi
  exact fits_end
theorem gives_startswith : Gives («bytes.startswith» ⟨[.bytes b.toArray t, .bytes c.toArray u], []⟩) (.val (.bool (b.take c.length == c))) := by
  refine .of_wp fun M A E s Q hq => ?_
  refine wpAny_bind (wpAny_of_eq (a := (.bytes b.toArray t, [.bytes c.toArray u])) rfl ?_)
  refine wpAny_bind (wpAny_of_eq (a := none) rfl ?_)
  refine wpAny_bind (wpAny_of_eq (a := none) rfl ?_)
  refine wpAny_bind (wpAny_of_eq (a := b.toArray) rfl ?_)
  refine wpAny_bind (wpAny_of_eq isInst_tuple ?_)
  refine wpAny_bind (wpAny_of_eq KBy.buffer_eq ?_)
  have this : ∀ x : Bool, x = (b.take c.length == c) → Q (.bool x) s := fun x e => e ▸ hq
  exact wpAny_pure ⟨_, rfl, this _ (fitsS rfl hi_none)⟩
theorem gives_endswith : Gives («bytes.endswith» ⟨[.bytes b.toArray t, .bytes c.toArray u], []⟩) (.val (.bool (b.drop (b.length - c.length) == c))) := by
  refine .of_wp fun M A E s Q hq => ?_
  refine wpAny_bind (wpAny_of_eq (a := (.bytes b.toArray t, [.bytes c.toArray u])) rfl ?_)
  refine wpAny_bind (wpAny_of_eq (a := none) rfl ?_)
  refine wpAny_bind (wpAny_of_eq (a := none) rfl ?_)
  refine wpAny_bind (wpAny_of_eq (a := b.toArray) rfl ?_)
  refine wpAny_bind (wpAny_of_eq isInst_tuple ?_)
  refine wpAny_bind (wpAny_of_eq KBy.buffer_eq ?_)
  have this : ∀ x : Bool, x = (b.drop (b.length - c.length) == c) → Q (.bool x) s := fun x e => e ▸ hq
  exact wpAny_pure ⟨_, rfl, this _ (fitsE rfl hi_none)⟩
def rcut (c b : List UInt8) : List UInt8 := (b.reverse.dropWhile fun x => c.contains x).reverse
def lcut (c b : List UInt8) : List UInt8 := b.dropWhile fun x => c.contains x
theorem rcut_pre (c b : List UInt8) : rcut c b <+: b := by
  unfold rcut
  have h := List.dropWhile_suffix (l := b.reverse) (fun x => c.contains x)
  have := List.reverse_prefix.mpr h
  rwa [List.reverse_reverse] at this
theorem lcut_suf (c b : List UInt8) : lcut c b <:+ b := List.dropWhile_suffix _
theorem rcut_len (c b : List UInt8) : (rcut c b).length ≤ b.length := (rcut_pre c b).length_le
theorem lcut_len (c b : List UInt8) : (lcut c b).length ≤ b.length := (lcut_suf c b).length_le
theorem bytesLike_eq {id : String} : Bytes.bytesLike id (.bytes c.toArray u) = pure c.toArray := by
  unfold Bytes.bytesLike
  rw [KBy.buffer_eq]
  rfl
theorem same_eq : Bytes.Kind.bytes.same (.bytes b.toArray t) = pure (.bytes b.toArray t) := by
  unfold Bytes.Kind.same
  rfl
theorem contains_toArray (c : List UInt8) : (c.toArray.contains : UInt8 → Bool) = fun x => c.contains x := by
  funext x; simp
theorem strip_tail {M : Model} {A : Around} {E : Value → Shared → Prop} {s : Shared} {Q : Value → Shared → Prop} {str : String} {kept r : List UInt8} (er : kept = r) (hl : r.length ≤ b.length) (hw : r.length = b.length → r = b) (hb : b.length ≤ 16777216)
    (hq : ∀ t' k, Q (.bytes r.toArray t') { s with toks := k }) :
    wpAny M A (if (kept.length == b.toArray.size) = true then do rule str; ret (← Bytes.Kind.bytes.same (.bytes b.toArray t)) else do ret (← Bytes.Kind.bytes.new kept.toArray)) (fun fin s' => ∃ v, fin = .done (.ret v) ∧ Q v s') E s := by
  subst er
  rw [List.size_toArray]
  by_cases h : kept.length = b.length
  · rw [if_pos (by simpa using h)]
    refine wpAny_bind (wpAny_rule (wpAny_bind (wpAny_of_eq same_eq (wpAny_pure ⟨_, rfl, ?_⟩))))
    have := hq t s.toks
    rw [hw h] at this
    exact this
  · rw [if_neg (by simpa using h)]
    exact wpAny_bind (wpAny_mkBytes (wpAny_pure ⟨_, rfl, hq _ _⟩) (by rw [sizeLine_eq, List.size_toArray]; omega))
section
variable {prog : Program} {w : World} {A : Around} {E : Value → Shared → Prop} {s : Shared} {Q : Value → Shared → Prop}
theorem call_slot {T : String} {name : Str} {id : String} {B : Builtin} {self : Value} {rest : List Value} (slot : Slot T name id) (hT : s.TypeIs self T) (entry : entryFor table id = some B) (args : argsOk id ⟨self :: rest, []⟩)
    (h : wpAny (model prog w) A.in1 (B ⟨self :: rest, []⟩) (fun fin s' => ∃ v, fin = .done (.ret v) ∧ Q v s') E s) : wpAny (model prog w) A (call (.builtin id) (self :: rest)) Q E s :=
  wpAny_call (codeAny_call_builtin slot.plain entry (slot.check _ _ _ _ _ _ _ _ hT args
    (wpAny_mono h (fun fin s' h' => by obtain ⟨v, rfl, hv⟩ := h'; exact hv) fun _ _ x => x)))
theorem call_rstrip (hb : b.length ≤ 16777216) (hq : ∀ t' k, Q (.bytes (rcut c b).toArray t') { s with toks := k }) :
    wpAny (model prog w) A (call (.builtin "bytes.rstrip") [.bytes b.toArray t, .bytes c.toArray u]) Q E s := by
  refine call_slot slot_rstrip (typeIs_bytes s _ _) entry_rstrip (args_rstrip_2 _ _) ?_
  refine wpAny_bind (wpAny_of_eq (a := (.bytes b.toArray t, [.bytes c.toArray u])) rfl ?_)
  refine wpAny_bind (wpAny_of_eq bytesLike_eq (wpAny_bind (wpAny_pure ?_)))
  refine wpAny_bind (wpAny_of_eq (a := b.toArray) rfl ?_)
  have er : (b.toArray.toList.reverse.dropWhile (c.toArray.contains)).reverse = rcut c b := by
    rw [contains_toArray]; rfl
  exact strip_tail er (rcut_len c b) (fun e => (rcut_pre c b).eq_of_length e) hb hq
theorem call_lstrip (hb : b.length ≤ 16777216) (hq : ∀ t' k, Q (.bytes (lcut c b).toArray t') { s with toks := k }) :
    wpAny (model prog w) A (call (.builtin "bytes.lstrip") [.bytes b.toArray t, .bytes c.toArray u]) Q E s := by
  refine call_slot slot_lstrip (typeIs_bytes s _ _) entry_lstrip (args_lstrip_2 _ _) ?_
  refine wpAny_bind (wpAny_of_eq (a := (.bytes b.toArray t, [.bytes c.toArray u])) rfl ?_)
  refine wpAny_bind (wpAny_of_eq bytesLike_eq (wpAny_bind (wpAny_pure ?_)))
  refine wpAny_bind (wpAny_of_eq (a := b.toArray) rfl ?_)
  have er : (b.toArray.toList.dropWhile (c.toArray.contains)) = lcut c b := by
    rw [contains_toArray]; rfl
  exact strip_tail er (lcut_len c b) (fun e => (lcut_suf c b).eq_of_length e) hb hq
theorem call_startswith (hq : Q (.bool (b.take c.length == c)) s) : wpAny (model prog w) A (call (.builtin "bytes.startswith") [.bytes b.toArray t, .bytes c.toArray u]) Q E s :=
  call_gives FB.slot_bytes_startswith (typeIs_bytes s _ _) FB.entry_bytes_startswith (FB.args_bytes_startswith_2 _ _) gives_startswith hq
theorem call_endswith (hq : Q (.bool (b.drop (b.length - c.length) == c)) s) : wpAny (model prog w) A (call (.builtin "bytes.endswith") [.bytes b.toArray t, .bytes c.toArray u]) Q E s :=
  call_gives FB.slot_bytes_endswith (typeIs_bytes s _ _) FB.entry_bytes_endswith (FB.args_bytes_endswith_2 _ _) gives_endswith hq
theorem call_find2 {x : UInt8} (hq : Q (.int (findI b x 0) s.toks) { s with toks := s.toks + 1 }) : wpAny (model prog w) A (call (.builtin "bytes.find") [.bytes b.toArray t, .bytes #[x] u]) Q E s :=
  call_gives slot_find (typeIs_bytes s _ _) entry_find (args_find_2 _ _) gives_find2 hq
theorem call_find3 {x : UInt8} {n : Nat} (hn : n ≤ b.length) (hq : Q (.int (findI b x n) s.toks) { s with toks := s.toks + 1 }) : wpAny (model prog w) A (call (.builtin "bytes.find") [.bytes b.toArray t, .bytes #[x] u, .int (n : Int) v]) Q E s :=
  call_gives slot_find (typeIs_bytes s _ _) entry_find (args_find_3 _ _ _) (gives_find3 hn) hq
theorem gives_contains {i : Int} (h0 : 0 ≤ i) (h1 : i < 256) : Gives («bytes.__contains__» ⟨[.bytes b.toArray t, .int i u], []⟩) (.val (.bool (b.contains i.toNat.toUInt8))) := by
  refine .of_wp fun M A E s Q hq => ?_
  refine wpAny_bind (wpAny_of_eq (a := (.bytes b.toArray t, [.int i u])) rfl ?_)
  refine wpAny_bind ?_
  unfold Bytes.containsIn
  refine wpAny_bind (wpAny_of_eq (a := .ok i) rfl ?_)
  refine wpAny_bind (wpAny_of_eq KBy.buffer_eq ?_)
  dsimp only
  have hn : ¬ ((decide (i < 0) || decide (i ≥ 256)) = true) := by
    simp only [Bool.or_eq_true, decide_eq_true_eq]; omega
  rw [if_neg hn]
  refine wpAny_pure (wpAny_pure ⟨_, rfl, ?_⟩)
  rw [List.contains_toArray]
  exact hq
theorem in_bytes {i : Int} (h0 : 0 ≤ i) (h1 : i < 256) (h : Q (.bool (b.contains i.toNat.toUInt8)) s) : wpAny (model prog w) A (compareOp .In (.int i u) (.bytes b.toArray t)) Q E s :=
  in_gives (typeIs_bytes s _ t) FB.slot_bytes_contains FB.entry_bytes_contains (FB.args_bytes_contains_2 _ _) (gives_contains h0 h1) h
theorem get_method {name : Str} {id : String} {pl : Sem Bool} {R : Value × List Value → Shared → Prop} (slot : Slot "bytes" name id) (ty : typeOf (.builtin id) = pure (.type "method_descriptor")) (h : R (.builtin id, [.bytes b.toArray t]) s) :
    wpAny (model prog w) A (getMethod (.bytes b.toArray t) name pl) R E s :=
  getMethod_builtin (typeIs_bytes s _ _) FB.plainAttrs_bytes slot ty (fun _ e => nomatch e) h
end
end By
end Mine
end
section
namespace Mine
inductive BsAre : List Value → List (List UInt8) → Prop
  | nil : BsAre [] []
  | cons {vs : List Value} {bs : List (List UInt8)} {b : List UInt8} (t : Tok) (h : BsAre vs bs) : BsAre (.bytes b.toArray t :: vs) (b :: bs)
namespace BsAre
theorem length {vs : List Value} {bs : List (List UInt8)} (h : BsAre vs bs) : vs.length = bs.length := by
  induction h with
  | nil => rfl
  | cons t _ ih => rw [List.length_cons, List.length_cons, ih]
theorem get {vs : List Value} {bs : List (List UInt8)} (h : BsAre vs bs) : ∀ {i : Nat} {b : List UInt8}, bs[i]? = some b → ∃ t, vs[i]? = some (.bytes b.toArray t) := by
  induction h with
  | nil => intro i b e; cases e
  | @cons vs bs c t _ ih =>
    intro i b e
    cases i with
    | zero => cases e; exact ⟨t, rfl⟩
    | succ i => exact ih e
theorem get' {vs : List Value} {bs : List (List UInt8)} (h : BsAre vs bs) : ∀ {i : Nat} {v : Value}, vs[i]? = some v → ∃ b t, bs[i]? = some b ∧ v = .bytes b.toArray t := by
  induction h with
  | nil => intro i b e; cases e
  | @cons vs bs c t _ ih =>
    intro i b e
    cases i with
    | zero => cases e; exact ⟨c, t, rfl, rfl⟩
    | succ i => exact ih e
theorem append {vs ws : List Value} {bs cs : List (List UInt8)} (h : BsAre vs bs) (k : BsAre ws cs) : BsAre (vs ++ ws) (bs ++ cs) := by
  induction h with
  | nil => exact k
  | cons t _ ih => exact .cons t ih
theorem take {vs : List Value} {bs : List (List UInt8)} (h : BsAre vs bs) : ∀ n, BsAre (vs.take n) (bs.take n) := by
  induction h with
  | nil => intro n; simp only [List.take_nil]; exact .nil
  | cons t _ ih => intro n; cases n with
    | zero => exact .nil
    | succ n => exact .cons t (ih n)
theorem drop {vs : List Value} {bs : List (List UInt8)} (h : BsAre vs bs) : ∀ n, BsAre (vs.drop n) (bs.drop n) := by
  induction h with
  | nil => intro n; simp only [List.drop_nil]; exact .nil
  | cons t h ih => intro n; cases n with
    | zero => exact .cons t h
    | succ n => exact ih n
theorem one (b : List UInt8) (t : Tok) : BsAre [.bytes b.toArray t] [b] := .cons t .nil
theorem snoc {vs : List Value} {bs : List (List UInt8)} (h : BsAre vs bs) (b : List UInt8) (t : Tok) : BsAre (vs ++ [.bytes b.toArray t]) (bs ++ [b]) := h.append (one b t)
end BsAre
theorem off1_of {D : Addr} : ∀ {l : List (Addr × Obj)}, (∀ p ∈ l, p.1 ≠ D) → LCg.Off1 D l
  | [], _ => trivial
  | _ :: _, h => ⟨h _ (.head _), off1_of fun p hp => h p (.tail _ hp)⟩
theorem off1_lt {D : Addr} {l : List (Addr × Obj)} (h : ∀ p ∈ l, p.1 < D) : LCg.Off1 D l := off1_of fun p hp => Nat.ne_of_lt (h p hp)
def Short (n : Nat) (bs : List (List UInt8)) : Prop := ∀ c ∈ bs, c.length ≤ n
theorem Short.at {n : Nat} {bs : List (List UInt8)} (h : Short n bs) {c : List UInt8} (hc : c ∈ bs) : c.length ≤ n := h c hc
namespace By
open Builtin
set_option maxRecDepth 100000
def cuts (x : UInt8) : List UInt8 → List (List UInt8)
  | [] => [[]]
  | y :: r => if y == x then [] :: cuts x r else match cuts x r with
    | h :: t => (y :: h) :: t
    | [] => [[y]]
theorem cuts_none {x : UInt8} : ∀ {b : List UInt8}, (∀ y ∈ b, (y == x) = false) → cuts x b = [b]
  | [], _ => rfl
  | y :: r, h => by
    unfold cuts
    rw [cuts_none fun z hz => h z (.tail _ hz), h y (.head _)]
    simp
theorem cuts_app {x : UInt8} {q : List UInt8} : ∀ {p : List UInt8}, (∀ y ∈ p, (y == x) = false) → cuts x (p ++ x :: q) = p :: cuts x q
  | [], _ => by
    rw [List.nil_append]
    show (if x == x then [] :: cuts x q else _) = _
    simp
  | y :: r, h => by
    rw [List.cons_append]
    show (if y == x then [] :: cuts x (r ++ x :: q) else match cuts x (r ++ x :: q) with | h :: t => (y :: h) :: t | [] => [[y]]) = _
    rw [cuts_app fun z hz => h z (.tail _ hz), h y (.head _)]
    simp
def places (x : UInt8) : List UInt8 → Nat → List Nat
  | [], _ => []
  | y :: r, n => if y == x then n :: places x r (n + 1) else places x r (n + 1)
theorem places_length (x : UInt8) : ∀ (l : List UInt8) (n : Nat), (places x l n).length ≤ l.length
  | [], _ => Nat.le_refl _
  | y :: r, n => by
    have := places_length x r (n + 1)
    unfold places
    split
    · rw [List.length_cons, List.length_cons]; omega
    · rw [List.length_cons]; omega
theorem extract_one {b : List UInt8} {n : Nat} {y : UInt8} {r : List UInt8} (hd : b.drop n = y :: r) : b.toArray.extract n (n + 1) = #[y] := by
  apply Array.toList_inj.mp
  simp only [Array.toList_extract]
  rw [List.extract_eq_take_drop, hd]
  simp
theorem drop_succ_of {b : List UInt8} {n : Nat} {y : UInt8} {r : List UInt8} (hd : b.drop n = y :: r) : b.drop (n + 1) = r := by
  rw [← List.tail_drop, hd]; rfl
theorem one_beq (y x : UInt8) : ((#[y] : Array UInt8) == #[x]) = (y == x) := by
  by_cases h : y = x
  · subst h; simp
  · rw [beq_eq_false_iff_ne.mpr h]
    exact beq_eq_false_iff_ne.mpr fun e => h (by cases e; rfl)
theorem occurrences_one (b : List UInt8) (x : UInt8) : Bytes.occurrences b.toArray #[x] 0 b.toArray.size = places x b 0 := by
  unfold Bytes.occurrences
  have hsz : (#[x] : Array UInt8).size = 1 := rfl
  simp only [hsz, List.size_toArray, Nat.zero_add, Nat.add_sub_cancel]
  have key : ∀ (l : List UInt8) (n m : Nat) (acc : List Nat), b.drop n = l → m ≤ n →
      (((List.range l.length).map (· + n)).foldl (fun (acc : List Nat × Nat) i => if i ≥ acc.2 && b.toArray.extract i (i + 1) == #[x] then (i :: acc.1, i + 1) else acc) (acc, m)).1 = (places x l n).reverse ++ acc := by
    intro l
    induction l with
    | nil => intro n m acc _ _; rfl
    | cons y r ih =>
      intro n m acc hd hm
      rw [List.length_cons, List.range_succ_eq_map, List.map_cons, List.foldl_cons, List.map_map]
      have e2 : ((fun x => x + n) ∘ Nat.succ) = (· + (n + 1)) := by
        funext z
        show z.succ + n = z + (n + 1)
        omega
      rw [e2, Nat.zero_add, extract_one hd, one_beq]
      unfold places
      by_cases h : (y == x) = true
      · have hc : (decide (n ≥ m) && (y == x)) = true := by rw [h]; simp [hm]
        rw [if_pos hc, if_pos h, ih (n + 1) (n + 1) _ (drop_succ_of hd) (Nat.le_refl _)]
        simp
      · have hc : ¬ ((decide (n ≥ m) && (y == x)) = true) := by
          simp only [Bool.and_eq_true, not_and]; intro _; exact h
        rw [if_neg hc, if_neg h, ih (n + 1) m _ (drop_succ_of hd) (by omega)]
  have := key b 0 0 [] rfl (Nat.le_refl _)
  rw [List.append_nil] at this
  have e3 : (List.range b.length).map (· + 0) = (List.range b.length) := by simp
  rw [e3] at this
  rw [e3, this, List.reverse_reverse]
theorem between_one (b : List UInt8) (x : UInt8) : Bytes.between b.toArray 1 (places x b 0) = (cuts x b).map List.toArray := by
  unfold Bytes.between
  have key : ∀ (l p : List UInt8) (n last : Nat) (parts : Array (Array UInt8)), b.drop last = p ++ l → n = last + p.length → (∀ y ∈ p, (y == x) = false) → last ≤ b.length →
      (match (places x l n).foldl (fun (q : Array (Array UInt8) × Nat) i => (q.1.push (b.toArray.extract q.2 i), i + 1)) (parts, last) with | (ps, la) => (ps.push (b.toArray.extract la b.toArray.size)).toList) = parts.toList ++ (cuts x (b.drop last)).map List.toArray := by
    intro l
    induction l with
    | nil =>
      intro p n last parts hd hn hp hl
      show (parts.push (b.toArray.extract last b.toArray.size)).toList = _
      rw [List.append_nil] at hd
      rw [hd, cuts_none hp, Array.toList_push]
      congr 1
      show [_] = [p.toArray]
      congr 1
      apply Array.toList_inj.mp
      rw [Array.toList_extract, List.extract_eq_take_drop, hd, List.size_toArray]
      exact List.take_of_length_le (by have := congrArg List.length hd; rw [List.length_drop] at this; omega)
    | cons y r ih =>
      intro p n last parts hd hn hp hl
      have hlen : b.length = last + p.length + (r.length + 1) := by
        have := congrArg List.length hd
        rw [List.length_drop, List.length_append, List.length_cons] at this
        omega
      unfold places
      by_cases h : (y == x) = true
      · have hy : y = x := eq_of_beq h
        subst hy
        rw [if_pos h, List.foldl_cons]
        have hd2 : b.drop (n + 1) = r := by
          rw [hn, show last + p.length + 1 = last + (p.length + 1) from rfl, ← List.drop_drop, hd, List.drop_append]
          simp
        rw [ih [] (n + 1) (n + 1) _ hd2 rfl (fun _ h => nomatch h) (by omega), hd, cuts_app hp, hd2, Array.toList_push, List.map_cons, List.append_assoc]
        congr 1
        have e : b.toArray.extract last n = p.toArray := by
          apply Array.toList_inj.mp
          rw [Array.toList_extract, List.extract_eq_take_drop, hd, hn]
          simp
        show b.toArray.extract last n :: _ = _
        rw [e]
        rfl
      · rw [if_neg h]
        refine ih (p ++ [y]) (n + 1) last parts (by rw [hd]; simp) (by rw [List.length_append]; simp; omega) (fun z hz => ?_) hl
        rcases List.mem_append.mp hz with hz | hz
        · exact hp z hz
        · rw [List.mem_singleton.mp hz]; simpa using h
  have := key b [] 0 0 #[] rfl rfl (fun _ h => nomatch h) (Nat.zero_le _)
  rw [List.drop_zero] at this
  exact this
theorem cuts_short {x : UInt8} : ∀ {b p : List UInt8}, p ∈ cuts x b → p.length ≤ b.length
  | [], p, h => by rw [List.mem_singleton.mp h]; exact Nat.le_refl _
  | y :: r, p, h => by
    unfold cuts at h
    split at h
    · rcases List.mem_cons.mp h with h | h
      · rw [h]; exact Nat.zero_le _
      · have := cuts_short h; rw [List.length_cons]; omega
    · split at h
      · rename_i h2 t e
        rcases List.mem_cons.mp h with h | h
        · have := cuts_short (x := x) (b := r) (p := h2) (by rw [e]; exact .head _)
          rw [h, List.length_cons, List.length_cons]; omega
        · have := cuts_short (x := x) (b := r) (p := p) (by rw [e]; exact .tail _ h)
          rw [List.length_cons]; omega
      · rw [List.mem_singleton.mp h, List.length_cons]; simp
theorem cuts_count {x : UInt8} : ∀ {b : List UInt8}, (cuts x b).length ≤ b.length + 1
  | [] => Nat.le_refl _
  | y :: r => by
    have ih := cuts_count (x := x) (b := r)
    unfold cuts
    split
    · rw [List.length_cons, List.length_cons]; omega
    · split
      · rename_i h t e
        rw [e, List.length_cons] at ih
        rw [List.length_cons, List.length_cons]; omega
      · rw [List.length_cons, List.length_cons]; simp
theorem places_nil {x : UInt8} : ∀ {b : List UInt8} {n : Nat}, places x b n = [] → cuts x b = [b]
  | [], _, _ => rfl
  | y :: r, n, h => by
    unfold places at h
    split at h
    · cases h
    · rename_i hy
      unfold cuts
      rw [if_neg hy, places_nil h]
section
variable {prog : Program} {w : World} {A : Around} {E : Value → Shared → Prop} {s : Shared} {b : List UInt8} {t u : Tok}
theorem wp_news {M : Model} : ∀ (ls : List (List UInt8)) (s : Shared) (Q : List Value → Shared → Prop), (∀ l ∈ ls, l.length ≤ 16777216) → (∀ vs k, BsAre vs ls → Q vs { s with toks := k }) →
    wpAny M A ((ls.map List.toArray).mapM Bytes.Kind.bytes.new) Q E s
  | [], s, Q, _, h => by rw [List.map_nil, List.mapM_nil]; exact wpAny_pure (h [] s.toks .nil)
  | l :: r, s, Q, hl, h => by
    rw [List.map_cons, List.mapM_cons]
    refine wpAny_bind (wpAny_mkBytes (wpAny_bind (wp_news r _ _ (fun y hy => hl y (.tail _ hy)) fun vs k hv => wpAny_pure ?_)) (by rw [sizeLine_eq, List.size_toArray]; exact hl l (.head _)))
    exact h _ k (.cons _ hv)
theorem call_split {h₀ : Heap} {L : Addr} {m : Str → Option Value} {news : List (Addr × Obj)} {x : UInt8} {Q : Value → Shared → Prop} (F : Fr h₀ L s.heap m) (N : News h₀ L s.heap news) (hb : b.length < 16777216)
    (hq : ∀ l vs h' k, BsAre vs (cuts x b) → Short b.length (cuts x b) → vs.length ≤ b.length + 1 → Fr h₀ L h' m → News h₀ L h' ((l, listOf vs.toArray 0) :: news) → LCg.Off1 l news → Q (.ref l) { s with heap := h', toks := k }) :
    wpAny (model prog w) A (call (.builtin "bytes.split") [.bytes b.toArray t, .bytes #[x] u]) Q E s := by
  refine call_slot slot_split (typeIs_bytes s _ _) entry_split (args_split_2 _ _) ?_
  show wpAny _ _ (Bytes.bindOptional _ _ _ _ _ >>= fun r => _) _ _ _
  refine wpAny_bind (wpAny_of_eq (a := [some (.bytes #[x] u), none]) rfl ?_)
  refine wpAny_bind (wpAny_pure ?_)
  refine wpAny_bind (wpAny_of_eq (a := b.toArray) rfl ?_)
  refine wpAny_bind (wpAny_of_eq (bytesLike_eq (c := [x])) ?_)
  have hsz : (#[x] : Array UInt8).isEmpty = false := rfl
  show wpAny _ _ (if ((Bytes.occurrences b.toArray #[x] 0 b.toArray.size).take (b.toArray.size + 1)).isEmpty = true then _ else _) _ _ _
  have e1 : (Bytes.occurrences b.toArray #[x] 0 b.toArray.size).take (b.toArray.size + 1) = places x b 0 := by
    rw [occurrences_one]
    exact List.take_of_length_le (by have := places_length x b 0; rw [List.size_toArray]; omega)
  by_cases he : (places x b 0).isEmpty = true
  · rw [if_pos (by rw [e1]; exact he)]
    refine wpAny_bind (wpAny_rule (wpAny_bind (wpAny_of_eq same_eq (wpAny_bind ?_))))
    refine newList_K F N (fun l h' F' N' hl => wpAny_pure ⟨_, rfl, hq l _ h' s.toks ?_ (fun _ => cuts_short) (by simp) F' N' (off1_lt hl)⟩) (by rw [sizeLine_eq]; simp)
    rw [places_nil (List.isEmpty_iff.mp he)]
    exact .one _ _
  · rw [if_neg (by rw [e1]; exact he)]
    show wpAny _ _ ((Bytes.between b.toArray (#[x] : Array UInt8).size ((Bytes.occurrences b.toArray #[x] 0 b.toArray.size).take (b.toArray.size + 1))).mapM Bytes.Kind.bytes.new >>= fun r => _) _ _ _
    rw [show (Bytes.between b.toArray (#[x] : Array UInt8).size ((Bytes.occurrences b.toArray #[x] 0 b.toArray.size).take (b.toArray.size + 1))) = (cuts x b).map List.toArray from by rw [e1]; exact between_one b x]
    refine wpAny_bind (wp_news (cuts x b) _ _ (fun l hl => by have := cuts_short hl; omega) fun vs k hv => wpAny_bind ?_)
    refine newList_K F N (fun l h' F' N' hl => wpAny_pure ⟨_, rfl, hq l _ h' _ hv (fun _ => cuts_short) (by rw [hv.length]; exact cuts_count) F' N' (off1_lt hl)⟩) (by have := cuts_count (x := x) (b := b); rw [sizeLine_eq, hv.length]; omega)
end
end By
end Mine
end
section
namespace Mine
namespace By
open Builtin
set_option maxRecDepth 100000
def joinB (sep : List UInt8) : List (List UInt8) → List UInt8
  | [] => []
  | [b] => b
  | b :: c :: r => b ++ (sep ++ joinB sep (c :: r))
theorem joinB_foldl (sep : List UInt8) : ∀ (bs : List (List UInt8)) (out : List UInt8) (n : Nat), 0 < n →
    ((bs.map List.toArray).zipIdx n).foldl (fun (out : Array UInt8) (p : Array UInt8 × Nat) => (if p.2 > 0 then out ++ sep.toArray else out) ++ p.1) out.toArray = (out ++ (bs.map (sep ++ ·)).flatten).toArray
  | [], out, n, _ => by simp
  | b :: r, out, n, hn => by
    rw [List.map_cons, List.zipIdx_cons, List.foldl_cons]
    dsimp only
    rw [if_pos (show n > 0 from hn)]
    have := joinB_foldl sep r (out ++ sep ++ b) (n + 1) (Nat.succ_pos n)
    have e : out.toArray ++ sep.toArray ++ b.toArray = (out ++ sep ++ b).toArray := by simp
    rw [e, this]
    simp
theorem joinB_cons (sep b : List UInt8) : ∀ r : List (List UInt8), joinB sep (b :: r) = b ++ (r.map (sep ++ ·)).flatten
  | [] => by simp [joinB]
  | c :: r => by
    show b ++ (sep ++ joinB sep (c :: r)) = _
    rw [joinB_cons sep c r]; simp
theorem joined_eq (sep : List UInt8) (bs : List (List UInt8)) : Bytes.joined sep.toArray (bs.map List.toArray) = (joinB sep bs).toArray := by
  unfold Bytes.joined
  cases bs with
  | nil => rfl
  | cons b r =>
    rw [List.map_cons, List.zipIdx_cons, List.foldl_cons]
    dsimp only
    rw [if_neg (Nat.lt_irrefl 0), Array.empty_append, joinB_cons]
    exact joinB_foldl sep r b 1 Nat.one_pos
theorem joinB_nil (bs : List (List UInt8)) : joinB [] bs = bs.flatten := by
  cases bs with
  | nil => rfl
  | cons b r => rw [joinB_cons]; simp
theorem sizes_foldl (bs : List (List UInt8)) : ∀ n : Nat, (bs.map List.toArray).foldl (fun (a : Nat) (x : Array UInt8) => a + x.size) n = n + (bs.map List.length).sum := by
  induction bs with
  | nil => intro n; rfl
  | cons b r ih => intro n; rw [List.map_cons, List.foldl_cons, ih, List.map_cons, List.sum_cons, List.size_toArray]; omega
theorem sizes_rest (sep : List UInt8) (r : List (List UInt8)) : ((r.map (sep ++ ·)).flatten).length = sep.length * r.length + (r.map List.length).sum := by
  induction r with
  | nil => rfl
  | cons b r ih => rw [List.map_cons, List.flatten_cons, List.length_append, List.length_append, ih, List.length_cons, List.map_cons, List.sum_cons, Nat.mul_succ]; omega
theorem joinB_size (sep : List UInt8) (bs : List (List UInt8)) : (bs.map List.toArray).toArray.foldl (fun (a : Nat) (x : Array UInt8) => a + x.size) (sep.toArray.size * ((bs.map List.toArray).toArray.size - 1)) = (joinB sep bs).length := by
  rw [List.foldl_toArray, sizes_foldl, List.size_toArray, List.size_toArray, List.length_map]
  cases bs with
  | nil => simp [joinB]
  | cons b r => rw [joinB_cons, List.length_append, sizes_rest, List.length_cons, Nat.add_sub_cancel, List.map_cons, List.sum_cons]; omega
section
variable {prog : Program} {w : World} {A : Around} {E : Value → Shared → Prop} {s : Shared} {b : List UInt8} {t u : Tok}
abbrev JS := Array (Array UInt8) × List (Value × Option Value)
def took (vs : List Value) : List (Value × Option Value) := vs.map fun v => (v, none)
theorem join_loop {M : Model} {vs : List Value} {bs : List (List UInt8)} (hb : BsAre vs bs) (f : Nat → JS → Sem (ForInStep JS))
    (hf : ∀ (i : Nat) (c : List UInt8) (v : Tok) (ps : Array (Array UInt8)) (Q : ForInStep JS → Shared → Prop), bs[i]? = some c → vs[i]? = some (.bytes c.toArray v) → Q (.yield (ps.push c.toArray, took (vs.take (i + 1)))) s → wpAny M A (f i (ps, took (vs.take i))) Q E s) :
    ∀ (k i : Nat) (Q : JS → Shared → Prop), i + k = vs.length → Q ((bs.map List.toArray).toArray, took vs) s → wpAny M A (forIn (List.range' i k) (((bs.take i).map List.toArray).toArray, took (vs.take i)) f) Q E s
  | 0, i, Q, hk, hq => by
    have e1 : vs.take i = vs := List.take_of_length_le (by omega)
    have e2 : bs.take i = bs := List.take_of_length_le (by have := hb.length; omega)
    rw [e1, e2]
    exact wpAny_pure hq
  | k + 1, i, Q, hk, hq => by
    have hi : i < bs.length := by have := hb.length; omega
    obtain ⟨v, hv⟩ := hb.get (i := i) (b := bs[i]) (by simp [hi])
    rw [List.range'_succ, List.forIn_cons]
    refine wpAny_bind (hf i bs[i] v _ _ (by simp [hi]) hv ?_)
    have e : ((bs.take i).map List.toArray).toArray.push bs[i].toArray = ((bs.take (i + 1)).map List.toArray).toArray := by
      rw [List.take_succ_eq_append_getElem hi, List.map_append, List.map_singleton, List.push_toArray]
    rw [e]
    exact join_loop hb f hf k (i + 1) Q (by omega) hq
theorem letgo_join {M : Model} : ∀ (vs keep : List Value) (Q : Unit → Shared → Prop), Q () s → wpAny M A (Bytes.joinLetGo (took vs) keep) Q E s
  | [], _, _, h => wpAny_pure h
  | v :: r, keep, Q, h => by
    unfold took
    rw [List.map_cons]
    unfold Bytes.joinLetGo
    refine wpAny_bind (wpAny_letGo (letgo_join r keep Q h))
theorem takeQuiet_eq {id : String} : Bytes.takeBufferQuiet? id (.bytes b.toArray t) 0 = pure (some (b.toArray, none)) := by
  unfold Bytes.takeBufferQuiet? Bytes.takeBuffer?
  rw [KBy.special_eq KBy.look_buffer, KBy.own_buffer]
  have e : ∀ full, Bytes.buffer? id (.bytes b.toArray t) full = pure (some b.toArray) := fun full => by
    unfold Bytes.buffer?
    rw [KBy.special_eq KBy.look_buffer, KBy.own_buffer, KBy.own_release]
    kernel_rfl
  simp only [pure_bind, e, Bool.not_true, Bool.false_eq_true, if_false]
  rfl
theorem call_join {l : Addr} {vs : List Value} {bs : List (List UInt8)} {Q : Value → Shared → Prop} (hl : s.heap.IsList l vs.toArray) (hb : BsAre vs bs) (hsz : (joinB b bs).length ≤ 16777216)
    (hq : ∀ t' k, Q (.bytes (joinB b bs).toArray t') { s with toks := k }) :
    wpAny (model prog w) A (call (.builtin "bytes.join") [.bytes b.toArray t, .ref l]) Q E s := by
  obtain ⟨o, ho, hc, n, hd⟩ := id hl
  have hT : s.TypeIs (.ref l) "list" := ⟨o, ho, hc⟩
  have items : ∀ (A' : Around) (R : Option (Array Value) → Shared → Prop) (E' : Value → Shared → Prop), R (some vs.toArray) s → wpAny (model prog w) A' (seqItems? (.ref l)) R E' s := by
    intro A' R E' h
    refine wpAny_bind (wpAny_load ho ?_)
    rw [hd]
    exact wpAny_pure h
  refine call_slot slot_join (typeIs_bytes s _ _) entry_join (args_join_2 _ _) ?_
  show wpAny _ _ (Bytes.joinM .bytes _) _ _ _
  unfold Bytes.joinM
  refine wpAny_bind (wpAny_of_eq (a := (.bytes b.toArray t, .ref l)) rfl ?_)
  refine wpAny_bind ?_
  show wpAny _ _ (Bytes.joinItems (.ref l)) _ _ _
  refine wpAny_bind (wpAny_typeOf hT (wpAny_pure ?_))
  refine wpAny_bind (items _ _ _ ?_)
  have one : ∀ v, vs = [v] → ∃ c u, bs = [c] ∧ v = .bytes c.toArray u := by
    rintro v rfl
    cases hb with
    | cons u h => cases h with
      | nil => exact ⟨_, u, rfl, rfl⟩
  refine wpAny_ite (KBc.ite_yes (show (Bytes.Kind.bytes == Bytes.Kind.bytes) = true from rfl) ?_)
  by_cases h1 : ∃ x, vs = [x]
  · obtain ⟨x, hv⟩ := h1
    obtain ⟨c, u, rfl, rfl⟩ := one x hv
    subst hv
    refine wpAny_bind (wpAny_typeOf (typeIs_bytes s _ _) ?_)
    refine wpAny_bind (wpAny_rule (wpAny_pure ⟨_, rfl, hq u s.toks⟩))
  · have go : ∀ (f : Value → Sem PySem.Fin) (g : Sem PySem.Fin) (R : PySem.Fin → Shared → Prop) (E' : Value → Shared → Prop), wpAny (model prog w) A.in1 g R E' s → wpAny (model prog w) A.in1 (match vs.toArray with | #[x] => f x | _ => g) R E' s := by
      have h2 : ∀ x, vs.toArray ≠ #[x] := fun x hx => h1 ⟨x, by have := congrArg Array.toList hx; simpa using this⟩
      intro f g R E' hg
      generalize vs.toArray = xs at h2
      obtain ⟨ys⟩ := xs
      cases ys with
      | nil => exact hg
      | cons y r => cases r with
        | nil => exact absurd rfl (h2 y)
        | cons z r => exact hg
    refine go _ _ _ _ ?_
    refine wpAny_bind ?_
    rw [Std.Legacy.Range.forIn_eq_forIn_range']
    have e0 : (([:vs.toArray.size] : Std.Legacy.Range).size) = vs.length := by simp [Std.Legacy.Range.size]
    rw [e0]
    refine join_loop hb _ ?_ vs.length 0 _ (by simp) ?_
    · intro i c v ps R hc hv hr
      refine wpAny_bind (items _ _ _ ?_)
      have eg : vs.toArray.getD i .none = .bytes c.toArray v := by
        simp [Array.getD_eq_getD_getElem?, hv]
      have et : ((took (vs.take i)).any fun x => x.1.onHeap) = false := by
        refine List.any_eq_false.mpr fun p hp => ?_
        obtain ⟨x, hx, rfl⟩ := List.mem_map.mp hp
        obtain ⟨j, hj⟩ := List.mem_iff_getElem?.mp (List.mem_of_mem_take hx)
        obtain ⟨b', t', _, rfl⟩ := hb.get' hj
        exact Bool.false_ne_true
      dsimp only
      rw [eg, et, if_neg (by decide)]
      refine wpAny_bind (wpAny_holding (wpAny_of_eq takeQuiet_eq ?_))
      refine wpAny_bind (items _ _ _ ?_)
      dsimp only
      rw [if_neg (by simp)]
      refine wpAny_pure ?_
      have e : took (vs.take i) ++ [(Value.bytes c.toArray v, none)] = took (vs.take (i + 1)) := by
        unfold took
        rw [List.take_add_one, hv]; simp
      rw [e]
      exact hr
    · refine wpAny_bind (wpAny_of_eq (a := b.toArray) rfl ?_)
      have ht : Bytes.tooLong (Array.foldl (fun x1 x2 => x1 + x2.size) (b.toArray.size * ((bs.map List.toArray).toArray.size - 1)) (bs.map List.toArray).toArray) = false := by
        rw [joinB_size]
        exact KBy.tooLong_not hsz
      dsimp only
      rw [ht, if_neg Bool.false_ne_true]
      rw [show Bytes.joined b.toArray (bs.map List.toArray).toArray.toList = (joinB b bs).toArray from joined_eq b bs]
      refine wpAny_bind (wpAny_mkBytes (wpAny_bind (wpAny_holding (wpAny_point (wpAny_bind (letgo_join _ _ _ (wpAny_pure ⟨_, rfl, hq _ _⟩)))))) (by rw [sizeLine_eq, List.size_toArray]; exact hsz))
end
end By
end Mine
end
section
namespace Mine
namespace By
open Builtin
set_option maxRecDepth 100000
def sl {α : Type} (b : List α) (lo hi : Option Int) : List α := (b.drop (lo.elim 0 (clipAt b.length))).take (hi.elim b.length (clipAt b.length) - lo.elim 0 (clipAt b.length))
theorem clip_of {n : Nat} {i : Int} (h : 0 ≤ i) : clipAt n i = min i.toNat n := by
  unfold clipAt
  rw [if_neg (by omega)]
  omega
theorem clip_neg {n : Nat} {i : Int} (h : i < 0) : clipAt n i = n - (-i).toNat := by
  unfold clipAt
  rw [if_pos h]
  omega
theorem sl_to {α : Type} {b : List α} {i : Int} (h : 0 ≤ i) : sl b none (some i) = b.take i.toNat := by
  unfold sl
  simp only [Option.elim, clip_of h, List.drop_zero, Nat.sub_zero]
  rw [← List.take_eq_take_min]
theorem sl_from {α : Type} {b : List α} {i : Int} (h : 0 ≤ i) : sl b (some i) none = b.drop i.toNat := by
  unfold sl
  simp only [Option.elim, clip_of h]
  by_cases hl : i.toNat ≤ b.length
  · rw [Nat.min_eq_left hl]
    exact List.take_of_length_le (by rw [List.length_drop]; exact Nat.le_refl _)
  · rw [Nat.min_eq_right (by omega), List.drop_length, List.take_nil, List.drop_of_length_le (by omega)]
theorem sl_both {α : Type} {b : List α} {i j : Int} (h : 0 ≤ i) (hj : 0 ≤ j) : sl b (some i) (some j) = (b.take j.toNat).drop i.toNat := by
  unfold sl
  simp only [Option.elim, clip_of h, clip_of hj]
  rw [List.drop_take]
  by_cases hl : i.toNat ≤ b.length
  · rw [Nat.min_eq_left hl]
    by_cases hk : j.toNat ≤ b.length
    · rw [Nat.min_eq_left hk]
    · rw [Nat.min_eq_right (by omega), List.take_of_length_le (by rw [List.length_drop]; exact Nat.le_refl _), List.take_of_length_le (by rw [List.length_drop]; omega)]
  · have e1 : List.drop i.toNat b = [] := List.drop_of_length_le (by omega)
    have e2 : List.drop (min i.toNat b.length) b = [] := List.drop_of_length_le (by omega)
    rw [e1, e2, List.take_nil, List.take_nil]
section
variable {prog : Program} {w : World} {A : Around} {E : Value → Shared → Prop} {s : Shared} {b c : List UInt8} {t u : Tok} {Q : Value → Shared → Prop} {value slice : PySem.Expr} {h₀ : Heap} {L : Addr} {m : PySem.Str → Option Value} {news : List (Addr × Obj)} {l r : Value} {lo hi : Option Int} {i : Int}
theorem len_B (hb : b.length ≤ 16777216) (h : ∀ t' k, Q (.int (b.length : Int) t') { s with toks := k }) : wpAny (model prog w) A (call (.builtin "len") [.bytes b.toArray t]) Q E s :=
  len_bytes (by rw [List.size_toArray]; omega) (by rw [List.size_toArray]; exact h _ _)
theorem add_B (hb : b.length + c.length ≤ 16777216) (h : ∀ t' k, Q (.bytes (b ++ c).toArray t') { s with toks := k }) : wpAny (model prog w) A (binaryOp .Add (.bytes b.toArray t) (.bytes c.toArray u)) Q E s :=
  KBy.add_bytes (by rw [List.size_toArray, List.size_toArray]; exact hb) (fun t' k => by rw [List.append_toArray]; exact h t' k)
theorem eq_B (h : Q (.bool (b == c)) s) : wpAny (model prog w) A (compareOp .Eq (.bytes b.toArray t) (.bytes c.toArray u)) Q E s := eq_bytes h
theorem ne_B (h : Q (.bool (b != c)) s) : wpAny (model prog w) A (compareOp .NotEq (.bytes b.toArray t) (.bytes c.toArray u)) Q E s := ne_bytes h
theorem slice_B (hF : Fr h₀ L s.heap m) (hN : News h₀ L s.heap news) (hl : IsPart l lo) (hu : IsPart r hi) (hz : b.length ≤ 16777216)
    (h : ∀ h' t' k, Fr h₀ L h' m → News h₀ L h' news → Q (.bytes (sl b lo hi).toArray t') { s with heap := h', toks := k })
    (hs : subscripted slice false (.bytes b.toArray t) (.ref s.heap.objs.size) = operate [.ref s.heap.objs.size, .bytes b.toArray t] (getItem (.bytes b.toArray t) (.ref s.heap.objs.size)) := by with_unfolding_all rfl)
    (ht : ∀ r, letTemporaryGo value (.bytes b.toArray t) r = pure () := by intro _; with_unfolding_all rfl) :
    wpAny (model prog w) A (subscriptTail value slice (.bytes b.toArray t) (.ref s.heap.objs.size)) Q E { s with heap := s.heap.push { cls := .type "slice", data := .fields #[l, r, .none] } } :=
  KBc.slice_K hF hN rfl hl hu (by rw [KBw.ints_length, List.size_toArray]; exact hz) (fun h' t' k F N _ => by rw [KBc.picked_eq, List.size_toArray]; exact h h' t' k F N) hs ht
theorem item_B {ui : Tok} (hfit : b.length ≤ 16777216) (h0 : 0 ≤ i) (h1 : i < (b.length : Int)) (h : ∀ t' k, Q (.int (b.getD i.toNat 0).toNat t') { s with toks := k })
    (hs : subscripted slice false (.bytes b.toArray t) (.int i ui) = operate [.bytes b.toArray t, .int i ui] (getItem (.bytes b.toArray t) (.int i ui)) := by with_unfolding_all rfl)
    (ht : ∀ r, letTemporaryGo value (.bytes b.toArray t) r = pure () := by intro _; with_unfolding_all rfl) :
    wpAny (model prog w) A (subscriptTail value slice (.bytes b.toArray t) (.int i ui)) Q E s := KBy.item_N (by omega) h0 h1 (h _ _) hs ht
theorem in_byte {x : UInt8} (h : Q (.bool (b.contains x)) s) : wpAny (model prog w) A (compareOp .In (.int (x.toNat : Int) u) (.bytes b.toArray t)) Q E s := by
  refine in_bytes (by omega) (by have := x.toNat_lt; omega) ?_
  have e : ((x.toNat : Int)).toNat.toUInt8 = x := by simp
  rw [e]; exact h
end
end By
end Mine
end
section
namespace Mine
theorem RB.of {x y : List UInt8} {news : List (Addr × Obj)} {t : Tok} (e : x = y) : RB y news (.bytes x.toArray t) news := ⟨⟨t, by rw [e]⟩, rfl⟩
def RL (bs : List (List UInt8)) (news : List (Addr × Obj)) (v : Value) (news' : List (Addr × Obj)) : Prop :=
  ∃ (l : Addr) (vs : List Value) (n : Nat), v = .ref l ∧ BsAre vs bs ∧ news' = (l, listOf vs.toArray n) :: news ∧ LCg.Off1 l news
theorem RL.of {bs : List (List UInt8)} {news : List (Addr × Obj)} {l : Addr} {vs : List Value} {n : Nat} (h : BsAre vs bs) (hl : LCg.Off1 l news) : RL bs news (.ref l) ((l, listOf vs.toArray n) :: news) := ⟨l, vs, n, rfl, h, rfl, hl⟩
theorem says_use {w : World} {f : Addr} {n : Nat} {vs : List Value} {news : List (Addr × Obj)} {R : Value → List (Addr × Obj) → Prop} {p : Program} {loose : List Str} {mean : ExcName → Option Value} {mg mb : Str → Option Value} {dp un : Nat} {gd : Option (List Code)} {cn : Str} {cs : Scope} {a : Addr} {ccd : Value} {cl : List (Str × Addr)} {outer : List Env}
    {A₀ : Around} {base h₀ : Heap} {L : Addr} {m : Str → Option Value} {s : Shared} {Q E : Value → Shared → Prop} (C : Says w f n vs news R)
    (B : Below A₀ base outer h₀) (F : Fr h₀ L s.heap m) (X : (hd.heap_1 w.params).In h₀) (N : News h₀ L s.heap news) (T : Top p loose mean mg mb h₀) (hk : cs.kind = .function)
    (hd : dp + n < recursionLimit) (hu : un + 8 * n < cLine)
    (h : ∀ (v : Value) (news' : List (Addr × Obj)) (h' : Heap) (tk' : Nat), Fr h₀ L h' m → News h₀ L h' news' → R v news' → Q v { s with heap := h', toks := tk' }) :
    wpAny (model PySem.Challenge.rw_pb0111_01.row.prog w) (ktrTop dp un gd cn cs L a ccd cl outer) (call (.ref f) vs) Q E s :=
  C p loose mean mg mb dp un gd cn cs a ccd cl outer A₀ base h₀ L m s Q E B F X N T hk hd hu h
namespace By
theorem rcut_snoc {c : List UInt8} {p : List UInt8} {x : UInt8} (h : c.contains x = true) : rcut c (p ++ [x]) = rcut c p := by
  unfold rcut
  rw [List.reverse_append, List.reverse_singleton, List.singleton_append, List.dropWhile_cons, if_pos h]
theorem rcut_keep {c : List UInt8} {p : List UInt8} {x : UInt8} (h : c.contains x = false) : rcut c (p ++ [x]) = p ++ [x] := by
  unfold rcut
  rw [List.reverse_append, List.reverse_singleton, List.singleton_append, List.dropWhile_cons, if_neg (by rw [h]; exact Bool.false_ne_true), List.reverse_cons, List.reverse_reverse]
theorem take_snoc {a : List UInt8} {e : Int} (h0 : 0 < e) (h1 : e ≤ (a.length : Int)) : a.take e.toNat = a.take (e - 1).toNat ++ [a.getD (e - 1).toNat 0] := by
  have e1 : e.toNat = (e - 1).toNat + 1 := by omega
  have h2 : (e - 1).toNat < a.length := by omega
  rw [e1, List.take_succ_eq_append_getElem h2]
  congr 2
  rw [List.getD_eq_getElem?_getD, List.getElem?_eq_getElem h2]; rfl
theorem rcut_step {a c : List UInt8} {e : Int} (h0 : 0 < e) (h1 : e ≤ (a.length : Int)) (h : c.contains (a.getD (e - 1).toNat 0) = true) (k : rcut c (a.take e.toNat) = rcut c a) :
    0 ≤ e - 1 ∧ e - 1 ≤ (a.length : Int) ∧ rcut c (a.take (e - 1).toNat) = rcut c a := by
  refine ⟨by omega, by omega, ?_⟩
  rw [take_snoc h0 h1, rcut_snoc h] at k
  exact k
theorem rcut_start {a c : List UInt8} : 0 ≤ (a.length : Int) ∧ (a.length : Int) ≤ (a.length : Int) ∧ rcut c (a.take ((a.length : Int)).toNat) = rcut c a := by
  refine ⟨by omega, by omega, ?_⟩
  rw [Int.toNat_natCast, List.take_length]
theorem rcut_done {a c : List UInt8} {e : Int} (h0 : 0 < e) (h1 : e ≤ (a.length : Int)) (h : c.contains (a.getD (e - 1).toNat 0) = false) (k : rcut c (a.take e.toNat) = rcut c a) : sl a none (some e) = rcut c a := by
  rw [sl_to (by omega), ← k, take_snoc h0 h1, rcut_keep h]
theorem rcut_none {a c : List UInt8} {e : Int} (h0 : 0 ≤ e) (h : ¬ 0 < e) (k : rcut c (a.take e.toNat) = rcut c a) : sl a none (some e) = rcut c a := by
  have : e = 0 := by omega
  subst this
  rw [sl_to (by omega), ← k]; rfl
end By
end Mine
end
section
namespace Mine
theorem ne_of_lt' {news : List (Addr × Obj)} {l : Addr} (h : ∀ p ∈ news, p.1 < l) : ∀ p ∈ news, p.1 ≠ l := fun p hp => Nat.ne_of_lt (h p hp)
theorem off1_ne {D : Addr} : ∀ {l : List (Addr × Obj)}, LCg.Off1 D l → ∀ p ∈ l, p.1 ≠ D
  | [], _, _, h => nomatch h
  | _ :: _, x, p, h => by
    rcases List.mem_cons.mp h with rfl | h
    · exact x.1
    · exact off1_ne x.2 p h
def BEl (news : List (Addr × Obj)) (r : List UInt8) (y : Value) (news' : List (Addr × Obj)) : Prop := news' = news ∧ ∃ t : Tok, y = .bytes r.toArray t
theorem BEl.of {news : List (Addr × Obj)} {r r' : List UInt8} {t : Tok} (e : r' = r) : BEl news r (.bytes r'.toArray t) news := ⟨rfl, t, by rw [e]⟩
section
variable {prog : Program} {w : World} {A : Around} {h₀ : Heap} {L : Addr} {m : Str → Option Value} {env : Env} {elt : Expr} {x : Str} {scope : Scope} {cl : List (Str × Addr)} {s : Shared} {S : List (Addr × Obj) → Prop} {P : Nat → Value → Prop} {Fin : List Value → List (Addr × Obj) → Prop} {news : List (Addr × Obj)}
theorem bcf_list {vs : List Value} {bs : List (List UInt8)} (g : List UInt8 → List UInt8) (hb : BsAre vs bs)
    (turn : ∀ b t I oI C oC D m₂ ys h tk (E' : Value → Shared → Prop), b ∈ bs → LCg.NsObj oC m₂ → m₂ x = some (.bytes b.toArray t) → Fr h₀ L h m → News h₀ L h ((I, oI) :: (C, oC) :: (D, LCg.lst ys) :: news) → LCg.Off3 I C D news → ((@Ne Nat I C) ∧ (@Ne Nat I D) ∧ (@Ne Nat C D)) →
      wpAny (model prog w) A (eval elt (compEnvC scope cl C env)) (LCg.CompEnd h₀ L m { s with heap := h, toks := tk } I oI C oC D (LCg.lst ys) S (fun y news' => BEl news (g b) y news')) E' { s with heap := h, toks := tk })
    (fin : ∀ ys, BsAre ys (bs.map g) → Fin ys news) : LCg.CompRest prog w A h₀ L m env elt x scope cl s S (fun i v => vs.toArray[i]? = some v) Fin vs.toArray.size 0 [] news := by
  have key : ∀ (j i : Nat) (ys : List Value), i + j = vs.toArray.size → BsAre ys ((bs.take i).map g) → LCg.CompRest prog w A h₀ L m env elt x scope cl s S (fun i v => vs.toArray[i]? = some v) Fin j i ys news := by
    intro j
    induction j with
    | zero =>
      intro i ys hi hy
      rw [List.take_of_length_le (by rw [List.size_toArray, hb.length] at hi; omega)] at hy
      exact LCg.CompRest.zero (fin ys hy)
    | succ j ih =>
      intro i ys hi hy
      refine LCg.CompRest.succ ?_
      intro v I oI C oC D m₂ h tk E' hv hC hx F N off ne
      obtain ⟨b, t, hk, hv'⟩ := hb.get' (i := i) (v := v) (by simpa using hv)
      rw [hv'] at hx
      refine wpAny_mono (turn b t I oI C oC D m₂ ys h tk E' (List.mem_of_getElem? hk) hC hx F N off ne) (fun y s₂ hq => ?_) fun _ _ e => e
      obtain ⟨h', tk', nw, e, F', N', off', hS, hn, t', hy'⟩ := hq
      rw [hn] at N' off' hS
      refine ⟨h', tk', news, e, F', N', off', hS, ?_⟩
      rw [hy']
      refine ih (i + 1) _ (by omega) ?_
      rw [List.take_add_one, hk]
      simpa using BsAre.append hy (BsAre.one (g b) t')
  exact key vs.toArray.size 0 [] (by omega) (by simp only [List.take_zero, List.map_nil]; exact .nil)
end
end Mine
end
section
namespace Mine
namespace By
theorem call_findI {prog : Program} {w : World} {A : Around} {E : Value → Shared → Prop} {s : Shared} {b : List UInt8} {t u v : Tok} {Q : Value → Shared → Prop} {x : UInt8} {i : Int} (h0 : 0 ≤ i) (h1 : i ≤ (b.length : Int)) (hq : ∀ t' k, Q (.int (findI b x i.toNat) t') { s with toks := k }) :
    wpAny (model prog w) A (call (.builtin "bytes.find") [.bytes b.toArray t, .bytes #[x] u, .int i v]) Q E s := by
  obtain ⟨n, rfl⟩ := Int.eq_ofNat_of_zero_le h0
  exact call_find3 (by omega) (hq _ _)
theorem call_find0 {prog : Program} {w : World} {A : Around} {E : Value → Shared → Prop} {s : Shared} {b : List UInt8} {t u : Tok} {Q : Value → Shared → Prop} {x : UInt8} (hq : ∀ t' k, Q (.int (findI b x 0) t') { s with toks := k }) :
    wpAny (model prog w) A (call (.builtin "bytes.find") [.bytes b.toArray t, .bytes #[x] u]) Q E s := call_find2 (hq _ _)
theorem findI_neg {b : List UInt8} {x : UInt8} {n : Nat} (h : findI b x n < 0) : (b.drop n).findIdx? (· == x) = none := by
  unfold findI at h
  cases e : (b.drop n).findIdx? (· == x) with
  | none => rfl
  | some k => rw [e] at h; simp only at h; omega
theorem findI_pos {b : List UInt8} {x : UInt8} {n : Nat} (h : ¬ findI b x n < 0) : ∃ k, (b.drop n).findIdx? (· == x) = some k ∧ findI b x n = ((n + k : Nat) : Int) ∧ n + k < b.length := by
  unfold findI at h ⊢
  cases e : (b.drop n).findIdx? (· == x) with
  | none => rw [e] at h; simp only at h; omega
  | some k =>
    refine ⟨k, rfl, rfl, ?_⟩
    have := (List.findIdx?_eq_some_iff_getElem.mp e).1
    rw [List.length_drop] at this
    omega
def linesOf : List UInt8 → List (List UInt8)
  | [] => []
  | y :: r => if y == 10 then [y] :: linesOf r else match linesOf r with
    | h :: t => (y :: h) :: t
    | [] => [[y]]
theorem linesOf_none : ∀ {l : List UInt8}, l ≠ [] → l.findIdx? (· == 10) = none → linesOf l = [l]
  | [], h, _ => absurd rfl h
  | y :: r, _, h => by
    rw [List.findIdx?_cons] at h
    by_cases hy : (y == 10) = true
    · rw [if_pos hy] at h; cases h
    · rw [if_neg hy] at h
      have h' : r.findIdx? (· == 10) = none := by
        cases e : r.findIdx? (· == 10) with
        | none => rfl
        | some k => rw [e] at h; cases h
      unfold linesOf
      rw [if_neg hy]
      cases r with
      | nil => rfl
      | cons z r' => rw [linesOf_none (l := z :: r') (by simp) h']
theorem linesOf_some : ∀ {l : List UInt8} {k : Nat}, l.findIdx? (· == 10) = some k → linesOf l = l.take (k + 1) :: linesOf (l.drop (k + 1))
  | [], _, h => nomatch h
  | y :: r, k, h => by
    rw [List.findIdx?_cons] at h
    by_cases hy : (y == 10) = true
    · rw [if_pos hy] at h
      cases h
      rw [linesOf, if_pos hy]
      rfl
    · rw [if_neg hy] at h
      cases e : r.findIdx? (· == 10) with
      | none => rw [e] at h; cases h
      | some j =>
        rw [e] at h
        cases h
        rw [linesOf, if_neg hy, linesOf_some e]
        rfl
def LinesAt (a : List UInt8) (i : Int) (vs : List Value) (bs : List (List UInt8)) : Prop :=
  0 ≤ i ∧ i ≤ (a.length : Int) ∧ BsAre vs bs ∧ (vs.length : Int) ≤ i ∧ bs ++ linesOf (a.drop i.toNat) = linesOf a
theorem LinesAt.start (a : List UInt8) : LinesAt a 0 [] [] := ⟨by omega, by omega, .nil, by simp, rfl⟩
theorem LinesAt.last {a : List UInt8} {i : Int} {vs : List Value} {bs : List (List UInt8)} (h : LinesAt a i vs bs) (hi : i < (a.length : Int)) (hf : findI a 10 i.toNat < 0) (t : Tok) :
    LinesAt a (a.length : Int) (vs ++ [.bytes (sl a (some i) (some (a.length : Int))).toArray t]) (bs ++ [a.drop i.toNat]) := by
  obtain ⟨h0, h1, hb, hl, he⟩ := h
  have e : sl a (some i) (some (a.length : Int)) = a.drop i.toNat := by
    rw [sl_both h0 (by omega), Int.toNat_natCast, List.take_length]
  have hne : a.drop i.toNat ≠ [] := fun q => by
    have := congrArg List.length q
    rw [List.length_drop, List.length_nil] at this
    omega
  refine ⟨by omega, by omega, by rw [e]; exact hb.snoc _ t, by rw [List.length_append, List.length_singleton]; omega, ?_⟩
  rw [Int.toNat_natCast, List.drop_length, ← he, linesOf_none hne (findI_neg hf)]
  show bs ++ [a.drop i.toNat] ++ [] = _
  rw [List.append_nil]
theorem LinesAt.next {a : List UInt8} {i : Int} {vs : List Value} {bs : List (List UInt8)} (h : LinesAt a i vs bs) (hf : ¬ findI a 10 i.toNat < 0) (t : Tok) :
    LinesAt a (findI a 10 i.toNat + 1) (vs ++ [.bytes (sl a (some i) (some (findI a 10 i.toNat + 1))).toArray t]) (bs ++ [sl a (some i) (some (findI a 10 i.toNat + 1))]) ∧ i < findI a 10 i.toNat + 1 := by
  obtain ⟨h0, h1, hb, hl, he⟩ := h
  obtain ⟨k, e1, e2, e3⟩ := findI_pos hf
  refine ⟨⟨by omega, by omega, hb.snoc _ t, by rw [List.length_append, List.length_singleton]; omega, ?_⟩, by omega⟩
  rw [sl_both h0 (by omega), e2, ← he, linesOf_some e1, List.append_assoc]
  have n1 : (((i.toNat + k : Nat) : Int) + 1).toNat = i.toNat + (k + 1) := by omega
  rw [n1, List.drop_drop, List.drop_take]
  congr 1
  show [_] ++ _ = _
  rw [List.singleton_append]
  congr 2
  omega
theorem linesOf_short : ∀ {l : List UInt8}, Short l.length (linesOf l)
  | [], _, h => nomatch h
  | y :: r, c, h => by
    have ih := linesOf_short (l := r)
    unfold linesOf at h
    split at h
    · rcases List.mem_cons.mp h with h | h
      · rw [h, List.length_cons]; simp
      · have := ih c h; rw [List.length_cons]; omega
    · split at h
      · rename_i q t e
        rcases List.mem_cons.mp h with h | h
        · have := ih q (by rw [e]; exact .head _)
          rw [h, List.length_cons, List.length_cons]; omega
        · have := ih c (by rw [e]; exact .tail _ h)
          rw [List.length_cons]; omega
      · rw [List.mem_singleton.mp h]; simp
theorem linesOf_count : ∀ {l : List UInt8}, (linesOf l).length ≤ l.length
  | [] => Nat.le_refl _
  | y :: r => by
    have ih := linesOf_count (l := r)
    unfold linesOf
    split
    · rw [List.length_cons, List.length_cons]; omega
    · split
      · rename_i h t e
        rw [e, List.length_cons] at ih
        rw [List.length_cons, List.length_cons]; omega
      · rw [List.length_cons]; simp
end By
end Mine
end
section
namespace Mine
section
variable {prog : Program} {w : World} {A : Around} {E : Value → Shared → Prop} {Q : Flow → Shared → Prop} {s : Shared} {env : Env} {h₀ : Heap} {L : Addr}
theorem while1 {σ : Type} {l : Addr} {news : List (Addr × Obj)} {test : Expr} {body : List Stmt} {pos : Pos} {m₀ : Str → Option Value} (o : σ → Obj) (ps : σ → List (Str × Value)) (stored : List Str) (P : σ → Prop) (μ : σ → Nat) (c₀ : σ)
    (F : Fr h₀ L s.heap m₀) (N : News h₀ L s.heap ((l, o c₀) :: news)) (hk : ∀ p ∈ ps c₀, m₀ p.1 = some p.2) (hp : P c₀)
    (turn : ∀ (c : σ) (u : Str → Option Value) h tk, P c → Fr h₀ L h (kstB (fun z => if stored.contains z then u z else m₀ z) (ps c)) → News h₀ L h ((l, o c) :: news) →
      wpAny (model prog w) A (isTrue test env (eval test env)) (fun b s₂ =>
        if b = true then wpAny (model prog w) A (execs body env) (KswPost h₀ L s (fun c => (l, o c) :: news) ps (fun _ => True) stored m₀ P μ Q c) E s₂ else Q .next s₂) E { s with heap := h, toks := tk })
    (hE : PassesOwn (model prog w) A env E := by passes_own) :
    wpAny (model prog w) A (exec (.While test body [] pos) env) Q E s :=
  ksw_while (fun c => (l, o c) :: news) ps (fun _ => True) stored P μ c₀ F N trivial hk hp (fun c u h tk _ => turn c u h tk) hE
end
end Mine
namespace Mine
def Held (P : Prop) : Prop := P
theorem Held.out {P : Prop} (h : Held P) : P := h
theorem Held.on {P : Prop} (h : P) : Held P := h
end Mine
end
section
namespace Mine
open By
theorem BsAre.sl {vs : List Value} {bs : List (List UInt8)} (h : BsAre vs bs) (lo hi : Option Int) : BsAre (By.sl vs lo hi) (By.sl bs lo hi) := by
  unfold By.sl
  rw [h.length]
  exact (h.drop _).take _
theorem BsAre.dropLast {vs : List Value} {bs : List (List UInt8)} (h : BsAre vs bs) : BsAre vs.dropLast bs.dropLast := by
  rw [List.dropLast_eq_take, List.dropLast_eq_take, h.length]
  exact h.take _
section
variable {prog : Program} {w : World} {A : Around} {E : Value → Shared → Prop} {s : Shared} {h₀ : Heap} {L l b : Addr} {m : Str → Option Value} {news news' : List (Addr × Obj)} {vs : List Value} {bs : List (List UInt8)} {n k : Nat} {Q : Value → Shared → Prop} {value slice : PySem.Expr} {u : Tok} {i : Int}
theorem ne_nilK (N : News h₀ L s.heap news) (hl : (l, listOf vs.toArray n) ∈ news) (hb : (b, listOf ([] : List Value).toArray k) ∈ news) (hu : A.units < cLine) (h : Q (.bool (decide (0 < vs.length))) s) :
    wpAny (model prog w) A (compareOp .NotEq (.ref l) (.ref b)) Q E s := by
  have h1 := N.isList hl
  have h2 := N.isList hb
  cases vs with
  | nil => exact SeqAt.RcNeAt.lists (e := fun _ => true) h1 h2 rfl hu (fun j j1 _ => absurd j1 (Nat.not_lt_zero j)) prog w E Q h
  | cons x r => exact SeqAt.RcNeAt.lists_lengths h1 h2 (by simp) hu prog w E Q (by simpa using h)
theorem eq_nilK (N : News h₀ L s.heap news) (hl : (l, listOf vs.toArray n) ∈ news) (hb : (b, listOf ([] : List Value).toArray k) ∈ news) (hu : A.units < cLine) (h : Q (.bool (decide (vs.length = 0))) s) :
    wpAny (model prog w) A (compareOp .Eq (.ref l) (.ref b)) Q E s := by
  have h1 := N.isList hl
  have h2 := N.isList hb
  cases vs with
  | nil => exact SeqAt.eq_listAt (e := fun _ => true) h1 h2 rfl hu (fun j j1 _ => absurd j1 (Nat.not_lt_zero j)) h
  | cons x r => exact SeqAt.eq_list_lengthsAt h1 h2 (by simp) hu (by simpa using h)
theorem item_K (N : News h₀ L s.heap news) (hl : (l, listOf vs.toArray n) ∈ news) (hb : BsAre vs bs) (h0 : 0 ≤ i) (h1 : i < (vs.length : Int)) (h2 : vs.length ≤ 16777216) (h : ∀ t', Q (.bytes (bs.getD i.toNat []).toArray t') s)
    (hs : subscripted slice false (.ref l) (.int i u) = operate [.ref l, .int i u] (getItem (.ref l) (.int i u)) := by with_unfolding_all rfl) (hg : ∀ r, letTemporaryGo value (.ref l) r = pure () := by intro _; with_unfolding_all rfl) :
    wpAny (model prog w) A (subscriptTail value slice (.ref l) (.int i u)) Q E s := by
  have hlt : i.toNat < bs.length := by rw [← hb.length]; omega
  obtain ⟨t', e⟩ := hb.get (i := i.toNat) (b := bs[i.toNat]) (by simp [hlt])
  have e2 : bs.getD i.toNat [] = bs[i.toNat] := by rw [List.getD_eq_getElem?_getD, List.getElem?_eq_getElem hlt]; rfl
  refine item_listL (N.isList hl) h0 (by omega) e ?_ hs hg
  rw [← e2]
  exact h t'
theorem item_lastK (N : News h₀ L s.heap news) (hl : (l, listOf vs.toArray n) ∈ news) (hb : BsAre vs bs) (hne : 0 < vs.length) (h2 : vs.length ≤ 16777216) (h : ∀ t', Q (.bytes (bs.getLastD []).toArray t') s)
    (hs : subscripted slice false (.ref l) (.int (-1) u) = operate [.ref l, .int (-1) u] (getItem (.ref l) (.int (-1) u)) := by with_unfolding_all rfl) (hg : ∀ r, letTemporaryGo value (.ref l) r = pure () := by intro _; with_unfolding_all rfl) :
    wpAny (model prog w) A (subscriptTail value slice (.ref l) (.int (-1) u)) Q E s := by
  have hlt : vs.length - 1 < bs.length := by rw [← hb.length]; omega
  obtain ⟨t', e⟩ := hb.get (i := vs.length - 1) (b := bs[vs.length - 1]) (by simp [hlt])
  have e2 : bs.getLastD [] = bs[vs.length - 1] := by
    have hbne : bs ≠ [] := fun q => by rw [q] at hlt; exact absurd hlt (Nat.not_lt_zero _)
    rw [List.getLastD_eq_getLast?, List.getLast?_eq_getElem?, ← hb.length, List.getElem?_eq_getElem hlt]; rfl
  have hx : vs.toArray[((-1 : Int) + (vs.toArray.size : Int)).toNat]? = some (.bytes (bs[vs.length - 1]).toArray t') := by
    have : ((-1 : Int) + (vs.toArray.size : Int)).toNat = vs.length - 1 := by rw [List.size_toArray]; omega
    rw [this]; simpa using e
  refine subscriptTail_builtin (N.isList hl).typeIs slot_list_getitem.lookup (wpAny_getItem_list_neg (N.isList hl) (by decide) (by rw [List.size_toArray]; omega) (by decide) hx ?_) hs hg
  rw [← e2]
  exact h t'
theorem popK (F : Fr h₀ L s.heap m) (N : News h₀ L s.heap news) (U : Upd l (listOf vs.toArray n) (listOf vs.dropLast.toArray (n + 1)) news news') (hb : BsAre vs bs) (hne : 0 < vs.length) (h2 : vs.length ≤ 16777216)
    (h : ∀ h' t', Fr h₀ L h' m → News h₀ L h' news' → Q (.bytes (bs.getLastD []).toArray t') { s with heap := h' }) : wpAny (model prog w) A (call (.builtin "list.pop") [.ref l]) Q E s := by
  have hlt : vs.length - 1 < bs.length := by rw [← hb.length]; omega
  obtain ⟨t', e⟩ := hb.get (i := vs.length - 1) (b := bs[vs.length - 1]) (by simp [hlt])
  have e2 : bs.getLastD [] = bs[vs.length - 1] := by
    rw [List.getLastD_eq_getLast?, List.getLast?_eq_getElem?, ← hb.length, List.getElem?_eq_getElem hlt]; rfl
  have hv : vs.dropLast ++ [.bytes (bs[vs.length - 1]).toArray t'] = vs := by
    have hne' : vs ≠ [] := fun q => by rw [q] at hne; exact absurd hne (Nat.not_lt_zero _)
    have := List.dropLast_concat_getLast hne'
    rw [List.getLast_eq_getElem] at this
    rw [List.getElem?_eq_getElem (by omega)] at e
    rw [← Option.some.inj e]
    exact this
  refine kl_pop F N (p := vs.dropLast) (y := .bytes (bs[vs.length - 1]).toArray t') ?_ U (by rw [sizeLine_eq]; exact h2) fun h' F' N' => ?_
  · have := kpa_last (.bytes (bs[vs.length - 1]).toArray t') vs.dropLast
    rw [hv] at this
    exact this
  · rw [← e2]
    exact h h' t' F' N'
theorem slice_L {vl vu : Value} {lo hi : Option Int} (F : Fr h₀ L s.heap m) (N : News h₀ L s.heap news) (hl : (l, listOf vs.toArray n) ∈ news) (hb : BsAre vs bs) (pl : IsPart vl lo) (pu : IsPart vu hi) (h2 : vs.length ≤ 16777216)
    (h : ∀ l' vs' h', BsAre vs' (By.sl bs lo hi) → vs'.length ≤ vs.length → Fr h₀ L h' m → News h₀ L h' ((l', listOf vs'.toArray 0) :: news) → LCg.Off1 l' news → Q (.ref l') { s with heap := h' })
    (hs : subscripted slice false (.ref l) (.ref s.heap.objs.size) = operate [.ref s.heap.objs.size, .ref l] (getItem (.ref l) (.ref s.heap.objs.size)) := by with_unfolding_all rfl)
    (ht : ∀ r, letTemporaryGo value (.ref l) r = pure () := by intro _; with_unfolding_all rfl) :
    wpAny (model prog w) A (subscriptTail value slice (.ref l) (.ref s.heap.objs.size)) Q E { s with heap := s.heap.push { cls := .type "slice", data := .fields #[vl, vu, .none] } } := by
  have e : slicePick vs.toArray lo hi none = (By.sl vs lo hi).toArray := by
    rw [slicePick_plain]
    unfold By.sl
    rw [List.size_toArray]
  refine slice_list F N (N.isList hl) pl pu (fun h' F' N' => ?_) hs ht (by rw [sizeLine_eq, List.size_toArray]; exact h2)
  rw [e] at N'
  refine h _ (By.sl vs lo hi) h' (hb.sl lo hi) ?_ F' N' (off1_lt fun p hp => Nat.lt_succ_of_lt (Heap.lt_size (N p hp).1))
  unfold By.sl
  rw [List.length_take, List.length_drop]; omega
end
end Mine
end
section
namespace Mine
def WEnd {σ : Type} (h₀ : Heap) (L : Addr) (s : Shared) (Led : σ → List (Addr × Obj)) (ps : σ → List (Str × Value)) (stored : List Str) (m₀ : Str → Option Value) (D : σ → Prop) (s₂ : Shared) : Prop :=
  ∃ (c : σ) (h' : Heap) (tk : Nat) (m' : Str → Option Value) (news' : List (Addr × Obj)), s₂ = { s with heap := h', toks := tk } ∧ Fr h₀ L h' m' ∧ News h₀ L h' news' ∧ (∀ p ∈ Led c, p ∈ news') ∧ (∀ p ∈ ps c, m' p.1 = some p.2) ∧ (∀ z, (∀ p ∈ ps c, z ≠ p.1) → stored.contains z = false → m' z = m₀ z) ∧ D c
theorem WEnd.intro {σ : Type} {h₀ : Heap} {L : Addr} {s : Shared} {Led : σ → List (Addr × Obj)} {ps : σ → List (Str × Value)} {stored : List Str} {m₀ m' : Str → Option Value} {D : σ → Prop} {h' : Heap} {tk : Nat} {news' : List (Addr × Obj)} (c : σ)
    (F : Fr h₀ L h' m') (N : News h₀ L h' news') (hn : ∀ p ∈ Led c, p ∈ news') (hk : ∀ p ∈ ps c, m' p.1 = some p.2) (hr : ∀ z, (∀ p ∈ ps c, z ≠ p.1) → stored.contains z = false → m' z = m₀ z) (hd : D c) : WEnd h₀ L s Led ps stored m₀ D { s with heap := h', toks := tk } :=
  ⟨c, h', tk, m', news', rfl, F, N, hn, hk, hr, hd⟩
section
variable {prog : Program} {w : World} {A : Around} {E : Value → Shared → Prop} {Q : Flow → Shared → Prop} {s : Shared} {env : Env} {h₀ : Heap} {L : Addr}
theorem whileD {σ : Type} {test : Expr} {body : List Stmt} {pos : Pos} {m₀ : Str → Option Value} (Led : σ → List (Addr × Obj)) (ps : σ → List (Str × Value)) (stored : List Str) (P : σ → Prop) (μ : σ → Nat) (D : σ → Prop) (c₀ : σ)
    (F : Fr h₀ L s.heap m₀) (N : News h₀ L s.heap (Led c₀)) (hk : ∀ p ∈ ps c₀, m₀ p.1 = some p.2) (hp : P c₀)
    (turn : ∀ (c : σ) (u : Str → Option Value) h tk (Q' : Flow → Shared → Prop), P c → Fr h₀ L h (kstB (fun z => if stored.contains z then u z else m₀ z) (ps c)) → News h₀ L h (Led c) →
      wpAny (model prog w) A (isTrue test env (eval test env)) (fun b s₂ =>
        if b = true then wpAny (model prog w) A (execs body env) (KswPost h₀ L s Led ps (fun _ => True) stored m₀ P μ Q' c) E s₂ else WEnd h₀ L s Led ps stored m₀ D s₂) E { s with heap := h, toks := tk })
    (done : ∀ (c : σ) (u : Str → Option Value) h tk, D c → Fr h₀ L h (kstB (fun z => if stored.contains z then u z else m₀ z) (ps c)) → News h₀ L h (Led c) → Q .next { s with heap := h, toks := tk })
    (hE : PassesOwn (model prog w) A env E := by passes_own) :
    wpAny (model prog w) A (exec (.While test body [] pos) env) Q E s := by
  let Q' : Flow → Shared → Prop := fun f s₂ => match f with
    | .next => WEnd h₀ L s Led ps stored m₀ D s₂
    | f => Q f s₂
  refine wpAny_mono (ksw_while (Q := Q') Led ps (fun _ => True) stored P μ c₀ F N trivial hk hp (fun c u h tk _ hp F N => turn c u h tk Q' hp F N) hE) (fun f s₂ q => ?_) fun _ _ x => x
  cases f with
  | next =>
    obtain ⟨c, h', tk, m', news', rfl, F', N', hn, hk', hr, hd⟩ := q
    exact done c m' h' tk hd (ksw_fr hk' hr F') (fun p hp => N' p (hn p hp))
  | _ => exact q
theorem whileG {σ : Type} {news : List (Addr × Obj)} {test : Expr} {body : List Stmt} {pos : Pos} {m₀ : Str → Option Value} (ad : σ → Addr) (o : σ → Obj) (ps : σ → List (Str × Value)) (stored : List Str) (P : σ → Prop) (μ : σ → Nat) (D : σ → Prop) (c₀ : σ)
    (F : Fr h₀ L s.heap m₀) (N : News h₀ L s.heap ((ad c₀, o c₀) :: news)) (hk : ∀ p ∈ ps c₀, m₀ p.1 = some p.2) (hp : P c₀)
    (turn : ∀ (c : σ) (u : Str → Option Value) h tk (Q' : Flow → Shared → Prop), P c → Fr h₀ L h (kstB (fun z => if stored.contains z then u z else m₀ z) (ps c)) → News h₀ L h ((ad c, o c) :: news) →
      wpAny (model prog w) A (isTrue test env (eval test env)) (fun b s₂ =>
        if b = true then wpAny (model prog w) A (execs body env) (KswPost h₀ L s (fun c => (ad c, o c) :: news) ps (fun _ => True) stored m₀ P μ Q' c) E s₂ else WEnd h₀ L s (fun c => (ad c, o c) :: news) ps stored m₀ D s₂) E { s with heap := h, toks := tk })
    (done : ∀ (c : σ) (u : Str → Option Value) h tk, D c → Fr h₀ L h (kstB (fun z => if stored.contains z then u z else m₀ z) (ps c)) → News h₀ L h ((ad c, o c) :: news) → Q .next { s with heap := h, toks := tk })
    (hE : PassesOwn (model prog w) A env E := by passes_own) :
    wpAny (model prog w) A (exec (.While test body [] pos) env) Q E s :=
  whileD (fun c => (ad c, o c) :: news) ps stored P μ D c₀ F N hk hp turn done hE
theorem whileN {σ : Type} {news : List (Addr × Obj)} {test : Expr} {body : List Stmt} {pos : Pos} {m₀ : Str → Option Value} (ps : σ → List (Str × Value)) (stored : List Str) (P : σ → Prop) (μ : σ → Nat) (D : σ → Prop) (c₀ : σ)
    (F : Fr h₀ L s.heap m₀) (N : News h₀ L s.heap news) (hk : ∀ p ∈ ps c₀, m₀ p.1 = some p.2) (hp : P c₀)
    (turn : ∀ (c : σ) (u : Str → Option Value) h tk (Q' : Flow → Shared → Prop), P c → Fr h₀ L h (kstB (fun z => if stored.contains z then u z else m₀ z) (ps c)) → News h₀ L h news →
      wpAny (model prog w) A (isTrue test env (eval test env)) (fun b s₂ =>
        if b = true then wpAny (model prog w) A (execs body env) (KswPost h₀ L s (fun _ => news) ps (fun _ => True) stored m₀ P μ Q' c) E s₂ else WEnd h₀ L s (fun _ => news) ps stored m₀ D s₂) E { s with heap := h, toks := tk })
    (done : ∀ (c : σ) (u : Str → Option Value) h tk, D c → Fr h₀ L h (kstB (fun z => if stored.contains z then u z else m₀ z) (ps c)) → News h₀ L h news → Q .next { s with heap := h, toks := tk })
    (hE : PassesOwn (model prog w) A env E := by passes_own) :
    wpAny (model prog w) A (exec (.While test body [] pos) env) Q E s :=
  whileD (fun _ => news) ps stored P μ D c₀ F N hk hp turn done hE
end
namespace By
def tcut (rs : List (List UInt8)) : List (List UInt8) := (rs.reverse.dropWhile (· == [])).reverse
def hcut (rs : List (List UInt8)) : List (List UInt8) := rs.dropWhile (· == [])
theorem tcut_snoc (rs : List (List UInt8)) : tcut (rs ++ [[]]) = tcut rs := by
  unfold tcut
  rw [List.reverse_append, List.reverse_singleton, List.singleton_append, List.dropWhile_cons, if_pos (by decide)]
theorem tcut_keep {rs : List (List UInt8)} {r : List UInt8} (h : r ≠ []) : tcut (rs ++ [r]) = rs ++ [r] := by
  unfold tcut
  rw [List.reverse_append, List.reverse_singleton, List.singleton_append, List.dropWhile_cons, if_neg (by simpa using h), List.reverse_cons, List.reverse_reverse]
theorem last_split {rs : List (List UInt8)} (h : rs ≠ []) : rs = rs.dropLast ++ [rs.getLastD []] := by
  have := List.dropLast_concat_getLast h
  rw [List.getLastD_eq_getLast?, List.getLast?_eq_some_getLast h]
  exact this.symm
theorem tcut_pop {rs : List (List UInt8)} (h : rs ≠ []) (e : (rs.getLastD [] == []) = true) : tcut rs.dropLast = tcut rs := by
  have e' : rs.getLastD [] = [] := by simpa using e
  have := last_split h
  rw [e'] at this
  exact (tcut_snoc rs.dropLast).symm.trans (congrArg tcut this.symm)
theorem tcut_done {rs : List (List UInt8)} (h : rs ≠ []) (e : (rs.getLastD [] == []) = false) : tcut rs = rs := by
  have e' : rs.getLastD [] ≠ [] := by simpa using e
  rw [last_split h]
  exact tcut_keep e'
theorem hcut_pop {rs : List (List UInt8)} (h : rs ≠ []) (e : (rs.getD 0 [] == []) = true) : hcut (rs.drop 1) = hcut rs := by
  cases rs with
  | nil => exact absurd rfl h
  | cons r t =>
    have e' : (r == []) = true := e
    unfold hcut
    rw [List.dropWhile_cons, if_pos e']; rfl
theorem hcut_done {rs : List (List UInt8)} (h : rs ≠ []) (e : (rs.getD 0 [] == []) = false) : hcut rs = rs := by
  cases rs with
  | nil => exact absurd rfl h
  | cons r t =>
    have e' : (r == []) = false := e
    unfold hcut
    rw [List.dropWhile_cons, if_neg (by rw [e']; exact Bool.false_ne_true)]
def endRows (rs : List (List UInt8)) : List UInt8 := ((hcut (tcut rs)).map (· ++ [10])).flatten
def ended (a : List UInt8) : List UInt8 := endRows ((linesOf a).map (rcut [32, 9, 13, 10]))
end By
end Mine
namespace Mine
namespace By
theorem tcut_pre (rs : List (List UInt8)) : tcut rs <+: rs := by
  unfold tcut
  have h := List.dropWhile_suffix (l := rs.reverse) (· == [])
  have := List.reverse_prefix.mpr h
  rwa [List.reverse_reverse] at this
theorem hcut_suf (rs : List (List UInt8)) : hcut rs <:+ rs := List.dropWhile_suffix _
theorem sum_le_of_sublist {r s : List (List UInt8)} (h : r.Sublist s) : (r.map List.length).sum ≤ (s.map List.length).sum := by
  induction h with
  | slnil => exact Nat.le_refl _
  | cons a _ ih => rw [List.map_cons, List.sum_cons]; omega
  | cons_cons a _ ih => rw [List.map_cons, List.sum_cons, List.map_cons, List.sum_cons]; omega
theorem linesOf_sum : ∀ a : List UInt8, ((linesOf a).map List.length).sum = a.length
  | [] => rfl
  | y :: r => by
    have ih := linesOf_sum r
    unfold linesOf
    split
    · rw [List.map_cons, List.sum_cons, ih, List.length_cons]; simp; omega
    · split
      · rename_i h t e
        rw [e, List.map_cons, List.sum_cons] at ih
        rw [List.map_cons, List.sum_cons, List.length_cons, List.length_cons]; omega
      · rename_i e
        rw [e] at ih
        rw [List.map_nil, List.sum_nil] at ih
        have : r = [] := List.eq_nil_of_length_eq_zero ih.symm
        subst this
        rfl
theorem rcut_sum (c : List UInt8) : ∀ rs : List (List UInt8), ((rs.map (rcut c)).map List.length).sum ≤ (rs.map List.length).sum
  | [] => Nat.le_refl _
  | r :: t => by
    have ih := rcut_sum c t
    have := rcut_len c r
    rw [List.map_cons, List.map_cons, List.sum_cons, List.map_cons, List.sum_cons]; omega
theorem feeds_len : ∀ rs : List (List UInt8), (rs.map (· ++ [10])).flatten.length = (rs.map List.length).sum + rs.length
  | [] => rfl
  | r :: t => by
    rw [List.map_cons, List.flatten_cons, List.length_append, feeds_len t, List.map_cons, List.sum_cons, List.length_cons, List.length_append, List.length_singleton]; omega
theorem ended_len (a : List UInt8) : (ended a).length ≤ 2 * a.length := by
  unfold ended endRows
  rw [feeds_len]
  have s1 : (hcut (tcut ((linesOf a).map (rcut [32, 9, 13, 10])))).Sublist ((linesOf a).map (rcut [32, 9, 13, 10])) := (hcut_suf _).sublist.trans (tcut_pre _).sublist
  have h1 := sum_le_of_sublist s1
  have h2 := rcut_sum [32, 9, 13, 10] (linesOf a)
  rw [linesOf_sum] at h2
  have h3 := s1.length_le
  rw [List.length_map] at h3
  have h4 := linesOf_count (l := a)
  omega
end By
end Mine
end
section
namespace Mine
namespace By
theorem cuts_sum (x : UInt8) : ∀ a : List UInt8, ((cuts x a).map List.length).sum ≤ a.length
  | [] => Nat.le_refl _
  | y :: r => by
    have ih := cuts_sum x r
    unfold cuts
    split
    · rw [List.map_cons, List.sum_cons, List.length_cons, List.length_nil]; omega
    · split
      · rename_i h t e
        rw [e, List.map_cons, List.sum_cons] at ih
        rw [List.map_cons, List.sum_cons, List.length_cons, List.length_cons]; omega
      · simp
def rowsB (a : List UInt8) : List (List UInt8) := (cuts 10 a).map (rcut [32, 9, 13, 11, 12])
theorem rowsB_count (a : List UInt8) : (rowsB a).length ≤ a.length + 1 := by unfold rowsB; rw [List.length_map]; exact cuts_count
theorem rowsB_sum (a : List UInt8) : ((rowsB a).map List.length).sum ≤ a.length := Nat.le_trans (rcut_sum _ _) (cuts_sum 10 a)
theorem rowsB_short (a : List UInt8) : Short a.length (rowsB a) := fun c hc => by
  obtain ⟨r, hr, rfl⟩ := List.mem_map.mp hc
  exact Nat.le_trans (rcut_len _ _) (cuts_short hr)
theorem joinB_len (sep : List UInt8) : ∀ rs : List (List UInt8), (joinB sep rs).length ≤ (rs.map List.length).sum + sep.length * rs.length
  | [] => by simp [joinB]
  | r :: t => by
    rw [joinB_cons, List.length_append, sizes_rest, List.map_cons, List.sum_cons, List.length_cons, Nat.mul_succ]; omega
theorem sl_sublist {α : Type} (b : List α) (lo hi : Option Int) : (sl b lo hi).Sublist b := (List.take_sublist _ _).trans (List.drop_sublist _ _)
def runN (p : List UInt8 → Bool) (bs : List (List UInt8)) : Nat := (bs.takeWhile p).length
theorem runN_le (p : List UInt8 → Bool) (bs : List (List UInt8)) : runN p bs ≤ bs.length := (List.takeWhile_sublist p).length_le
theorem runN_more {p : List UInt8 → Bool} : ∀ {bs : List (List UInt8)} {k : Nat}, k ≤ runN p bs → k < bs.length → p (bs.getD k []) = true → k + 1 ≤ runN p bs
  | [], k, _, h, _ => absurd h (Nat.not_lt_zero k)
  | b :: r, 0, _, _, h => by
    have h' : p b = true := h
    unfold runN
    rw [List.takeWhile_cons, if_pos h', List.length_cons]; omega
  | b :: r, k + 1, h1, h2, h3 => by
    unfold runN at h1 ⊢
    rw [List.takeWhile_cons] at h1 ⊢
    split at h1
    · rename_i hb
      rw [if_pos hb, List.length_cons]
      rw [List.length_cons] at h1 h2
      have := runN_more (p := p) (bs := r) (k := k) (by unfold runN; omega) (by omega) h3
      unfold runN at this
      omega
    · simp at h1
theorem runN_last {p : List UInt8 → Bool} : ∀ {bs : List (List UInt8)} {k : Nat}, k ≤ runN p bs → k < bs.length → p (bs.getD k []) = false → k = runN p bs
  | [], k, _, h, _ => absurd h (Nat.not_lt_zero k)
  | b :: r, 0, _, _, h => by
    have h' : p b = false := h
    unfold runN
    rw [List.takeWhile_cons, if_neg (by rw [h']; exact Bool.false_ne_true)]; rfl
  | b :: r, k + 1, h1, h2, h3 => by
    unfold runN at h1 ⊢
    rw [List.takeWhile_cons] at h1 ⊢
    split at h1
    · rename_i hb
      rw [if_pos hb, List.length_cons]
      rw [List.length_cons] at h1 h2
      have := runN_last (p := p) (bs := r) (k := k) (by unfold runN; omega) (by omega) h3
      unfold runN at this
      omega
    · simp at h1
def isE (b : List UInt8) : Bool := b == []
def notE (b : List UInt8) : Bool := b != []
def RunAt (p : List UInt8 → Bool) (bs : List (List UInt8)) (n : Nat) (i : Int) : Prop := (n : Int) ≤ i ∧ i ≤ (bs.length : Int) ∧ i.toNat - n ≤ runN p (bs.drop n)
theorem getD_drop (bs : List (List UInt8)) (n k : Nat) : (bs.drop n).getD k [] = bs.getD (n + k) [] := by
  rw [List.getD_eq_getElem?_getD, List.getD_eq_getElem?_getD, List.getElem?_drop]
theorem RunAt.start {p : List UInt8 → Bool} {bs : List (List UInt8)} {n : Nat} {i : Int} (hi : i = (n : Int)) (h : n ≤ bs.length) : RunAt p bs n i := ⟨by omega, by omega, by omega⟩
theorem RunAt.more {p : List UInt8 → Bool} {bs : List (List UInt8)} {n : Nat} {i : Int} (h : RunAt p bs n i) (hl : i < (bs.length : Int)) (hp : p (bs.getD i.toNat []) = true) : RunAt p bs n (i + 1) := by
  obtain ⟨h1, h2, h3⟩ := h
  refine ⟨by omega, by omega, ?_⟩
  have := runN_more (p := p) (bs := bs.drop n) (k := i.toNat - n) h3 (by rw [List.length_drop]; omega) (by rw [getD_drop, show n + (i.toNat - n) = i.toNat by omega]; exact hp)
  omega
theorem RunAt.last {p : List UInt8 → Bool} {bs : List (List UInt8)} {n : Nat} {i : Int} (h : RunAt p bs n i) (hl : i < (bs.length : Int)) (hp : p (bs.getD i.toNat []) = false) : i = ((n + runN p (bs.drop n) : Nat) : Int) := by
  obtain ⟨h1, h2, h3⟩ := h
  have := runN_last (p := p) (bs := bs.drop n) (k := i.toNat - n) h3 (by rw [List.length_drop]; omega) (by rw [getD_drop, show n + (i.toNat - n) = i.toNat by omega]; exact hp)
  omega
theorem RunAt.whole {p : List UInt8 → Bool} {bs : List (List UInt8)} {n : Nat} {i : Int} (h : RunAt p bs n i) (hl : ¬ i < (bs.length : Int)) : i = ((n + runN p (bs.drop n) : Nat) : Int) := by
  obtain ⟨h1, h2, h3⟩ := h
  have := runN_le p (bs.drop n)
  rw [List.length_drop] at this
  omega
def subjS (bs : List (List UInt8)) : Nat := runN isE bs
def subjE (bs : List (List UInt8)) : Nat := subjS bs + runN notE (bs.drop (subjS bs))
theorem subjS_le (bs : List (List UInt8)) : subjS bs ≤ bs.length := runN_le _ _
theorem subjE_le (bs : List (List UInt8)) : subjE bs ≤ bs.length := by
  unfold subjE
  have h1 := subjS_le bs
  have h2 := runN_le notE (bs.drop (subjS bs))
  rw [List.length_drop] at h2
  omega
def subjB (bs : List (List UInt8)) : List UInt8 := joinB [32] ((bs.take (subjE bs)).drop (subjS bs))
theorem subjB_len (a : List UInt8) : (subjB (rowsB a)).length ≤ 2 * a.length + 1 := by
  unfold subjB
  refine Nat.le_trans (joinB_len _ _) ?_
  have s1 : (((rowsB a).take (subjE (rowsB a))).drop (subjS (rowsB a))).Sublist (rowsB a) := (List.drop_sublist _ _).trans (List.take_sublist _ _)
  have h1 := sum_le_of_sublist s1
  have h2 := rowsB_sum a
  have h3 := s1.length_le
  have h4 := rowsB_count a
  simp only [List.length_singleton]
  omega
end By
abbrev tupO (vs : List Value) : Obj := { cls := .type "tuple", data := .seq vs.toArray }
def RSubj (bs : List (List UInt8)) (news : List (Addr × Obj)) (v : Value) (news' : List (Addr × Obj)) : Prop :=
  ∃ (q : Addr) (t t2 : Tok), v = .ref q ∧ news' = (q, tupO [.bytes (By.subjB bs).toArray t, .int (By.subjE bs : Nat) t2]) :: news ∧ LCg.Off1 q news
section
variable {prog : Program} {w : World} {A : Around} {E : Value → Shared → Prop} {s : Shared} {h₀ : Heap} {L l : Addr} {m : Str → Option Value} {news : List (Addr × Obj)} {vs : List Value} {n : Nat} {Q : Value → Shared → Prop}
theorem len_LK (N : News h₀ L s.heap news) (hl : (l, listOf vs.toArray n) ∈ news) (hz : vs.length ≤ 16777216) (h : ∀ t' k, Q (.int (vs.length : Int) t') { s with toks := k }) : wpAny (model prog w) A (call (.builtin "len") [.ref l]) Q E s :=
  len_list (N.isList hl) (by rw [List.size_toArray]; omega) (by rw [List.size_toArray]; exact h _ _)
end
end Mine
namespace Mine
theorem off1_all {D : Addr} : ∀ {l : List (Addr × Obj)}, AllLt D l → LCg.Off1 D l
  | [], _ => trivial
  | _ :: _, h => ⟨Nat.ne_of_lt h.1, off1_all h.2⟩
end Mine
end
section
namespace Mine
def RSome (n : Nat) (news : List (Addr × Obj)) (v : Value) (news' : List (Addr × Obj)) : Prop := (∃ (x : List UInt8) (t : Tok), v = .bytes x.toArray t ∧ x.length ≤ n) ∧ news = news'
theorem RSome.of {n : Nat} {x : List UInt8} {news : List (Addr × Obj)} {t : Tok} (h : x.length ≤ n) : RSome n news (.bytes x.toArray t) news := ⟨⟨x, t, rfl, h⟩, rfl⟩
namespace By
theorem sl_len {α : Type} (b : List α) (lo hi : Option Int) : (sl b lo hi).length ≤ b.length := (sl_sublist b lo hi).length_le
end By
end Mine
end
section
namespace Mine
def ForS {σ : Type} (Led : σ → List (Addr × Obj)) (ps : σ → List (Str × Value)) (x : Str) (stored : List Str) (m₀ : Str → Option Value) (P : σ → Prop) (m : Str → Option Value) (nx : List (Addr × Obj)) : Prop :=
  ∃ c : σ, nx = Led c ∧ (∀ p ∈ ps c, m p.1 = some p.2) ∧ (∀ z, z ≠ x → (∀ p ∈ ps c, z ≠ p.1) → stored.contains z = false → m z = m₀ z) ∧ P c
theorem ForS.end {σ : Type} {h₀ : Heap} {L : Addr} {Led : σ → List (Addr × Obj)} {ps : σ → List (Str × Value)} {x : Str} {stored : List Str} {m₀ m' : Str → Option Value} {P : σ → Prop} {own news' : List (Addr × Obj)} {adr : List Addr} {s₁ : Shared} {h' : Heap} {tk : Nat} (c : σ)
    (F : Fr h₀ L h' m') (N : News h₀ L h' news') (hn : ∀ p ∈ Led c, p ∈ news') (ho : ∀ p ∈ own, p ∈ news') (ha : (Led c).map (·.1) = adr) (hk : ∀ p ∈ ps c, m' p.1 = some p.2) (hr : ∀ z, z ≠ x → (∀ p ∈ ps c, z ≠ p.1) → stored.contains z = false → m' z = m₀ z) (hp : P c) :
    InvEndN h₀ L (ForS Led ps x stored m₀ P) own adr s₁ { s₁ with heap := h', toks := tk } := InvEndN.intro F N ⟨c, rfl, hk, hr, hp⟩ ha hn ho
section
variable {prog : Program} {w : World} {A : Around} {E : Value → Shared → Prop} {s : Shared} {env : Env} {h₀ : Heap} {x : Str} {body : List Stmt} {Q : Flow → Shared → Prop}
theorem iter_valsNL {l : Addr} {vs : List Value} {nn : Nat} {m₀ : Str → Option Value} {news : List (Addr × Obj)} (J : Nat → (Str → Option Value) → List (Addr × Obj) → Prop)
    (hh : A.handled = none) (hl : (l, listOf vs.toArray nn) ∈ news) (F : Fr h₀ env.locals s.heap m₀) (N : News h₀ env.locals s.heap news) (hj : J 0 m₀ news)
    (turn : ∀ i v m₁ news₁ h tk own, vs[i]? = some v → OwnOff own (news.map (·.1)) → (l, listOf vs.toArray nn) ∈ news₁ → J i m₁ news₁ → Fr h₀ env.locals h (fun y => if y = x then some v else m₁ y) → News h₀ env.locals h (news₁ ++ own) →
      wpAny (model prog w) A (execs body env) (InvPostN h₀ env.locals (fun m' nx => (l, listOf vs.toArray nn) ∈ nx ∧ J (i + 1) m' nx) own (news.map (·.1)) { s with heap := h, toks := tk } Q) E { s with heap := h, toks := tk })
    (done : ∀ m₁ news₁ h tk, J vs.length m₁ news₁ → Fr h₀ env.locals h m₁ → News h₀ env.locals h news₁ → Q .next { s with heap := h, toks := tk }) :
    wpAny (model prog w) A (pyIter (.ref l)) (fun it s₂ => LoopAtV prog w A h₀ env x body Q E it s₂) E s := by
  have hol : s.heap.get? l = some (listOf vs.toArray nn) := (N _ hl).1
  have hls : s.heap.IsList l vs.toArray := ⟨_, hol, rfl, nn, rfl⟩
  have hne : l ≠ s.heap.objs.size := Nat.ne_of_lt (Heap.lt_size hol)
  refine wpAny_pyIter_list hls ?_
  have W := Walks.list (prog := prog) (w := w) hh s.heap.objs.size l hne vs.toArray
  rw [List.size_toArray] at W
  refine ⟨_, _, _, vs.length, _, _, m₀, news, (fun i m nx => nx.map (·.1) = news.map (·.1) ∧ (l, listOf vs.toArray nn) ∈ nx ∧ J i m nx), rfl, W, ?_, ?_, ?_, ⟨⟨_, Heap.get?_push_size _ rfl, rfl, rfl⟩, hls.at fun o e => Heap.get?_push_of_some _ e⟩, F.push _, (fun p hp => ⟨Heap.get?_push_of_some _ (N p hp).1, (N p hp).2⟩), ⟨rfl, hl, hj⟩, ?_, ?_⟩
  · intro hm
    rcases List.mem_cons.mp hm with e | hm
    · exact absurd F.ns.lt (e ▸ Nat.lt_irrefl _)
    · exact (N _ hl).2.1 ((List.mem_singleton.mp hm).symm)
  · intro b hb
    rw [List.mem_singleton.mp hb]
    exact next_is_new F
  · intro p hp hI
    exact absurd (Heap.lt_size (N p hp).1) ((List.mem_singleton.mp hI) ▸ Nat.lt_irrefl _)
  · rintro i v m₁ news₁ s₁ own ⟨hh', tk', rfl⟩ hin hP ⟨hadr, hl₁, hJ⟩ hoff hown hget hfp _ F₁ N₁
    have hsep : OwnOff (own.filter fun p => decide (p.1 = s.heap.objs.size)) (news.map (·.1)) := by
      intro p hp b hb e
      obtain ⟨q, hq, rfl⟩ := List.mem_map.mp hb
      have h1 : p.1 = s.heap.objs.size := by simpa using (List.mem_filter.mp hp).2
      exact absurd (Heap.lt_size (N q hq).1) (by rw [← e, h1]; exact Nat.lt_irrefl _)
    have hx : vs[i]? = some v := by simpa using hP
    have N₂ : News h₀ env.locals hh' (news₁ ++ own.filter fun p => decide (p.1 = s.heap.objs.size)) := fun p hp => N₁ p ((List.mem_append.mp hp).elim (fun h => List.mem_append.mpr (.inr h)) fun h => List.mem_append.mpr (.inl ((List.mem_filter.mp h).1)))
    have hlo : hh'.get? l = some (listOf vs.toArray nn) := (N₁ _ (List.mem_append.mpr (.inr hl₁))).1
    refine wpAny_mono (turn i v m₁ news₁ hh' tk' _ hx hsep hl₁ hJ F₁ N₂) (fun f s₂ p => ?_) fun _ _ e => e
    have fin : InvEndN h₀ env.locals (fun m' nx => (l, listOf vs.toArray nn) ∈ nx ∧ J (i + 1) m' nx) (own.filter fun p => decide (p.1 = s.heap.objs.size)) (news.map (·.1)) { s with heap := hh', toks := tk' } s₂ →
        LoopStepU h₀ env.locals [s.heap.objs.size] own (fun m nx => nx.map (·.1) = news.map (·.1) ∧ (l, listOf vs.toArray nn) ∈ nx ∧ J (i + 1) m nx) { s with heap := hh', toks := tk' } .next s₂ := by
      rintro ⟨h', tk, m', news', nx, e, F', N', hn, ho, ha, hm⟩
      refine ⟨rfl, h', tk, m', nx, e, F', fun p hp => ?_, fun p hp => ?_, ha, hm⟩
      · rcases List.mem_append.mp hp with h | h
        · by_cases hI : p.1 = s.heap.objs.size
          · exact N' p (ho p (List.mem_filter.mpr ⟨h, by simpa using hI⟩))
          · have h1 : p.1 = l := by
              rcases List.mem_cons.mp (hown p h) with h2 | h2
              · exact absurd h2 hI
              · exact List.mem_singleton.mp h2
            have h2 : hh'.get? p.1 = some p.2 := hget p h
            rw [h1, hlo] at h2
            have h3 : p = (l, listOf vs.toArray nn) := Prod.ext h1 (Option.some.inj h2).symm
            rw [h3]
            exact N' _ (hn _ hm.1)
        · exact N' p (hn p h)
      · have h1 : p.1 ∈ nx.map (·.1) := List.mem_map.mpr ⟨p, hp, rfl⟩
        rw [ha] at h1
        obtain ⟨q, hq, e⟩ := List.mem_map.mp h1
        intro hI
        exact absurd (Heap.lt_size (N q hq).1) (by rw [e, List.mem_singleton.mp hI]; exact Nat.lt_irrefl _)
    cases f with
    | ret v => exact .ret p
    | brk => exact .brk p
    | next => exact .next (fin p)
    | cont => exact .cont (fin p)
  · rintro h' tk m' news' F' N' _ ⟨_, hl', hJ⟩
    exact done m' news' h' tk hJ F' N'
theorem forL {σ : Type} {l : Addr} {vs : List Value} {bs : List (List UInt8)} {nn : Nat} {m₀ : Str → Option Value} (Led : σ → List (Addr × Obj)) (ps : σ → List (Str × Value)) (stored : List Str) (P : Nat → σ → Prop) (c₀ : σ)
    (hh : A.handled = none) (hl : ∀ c : σ, (l, listOf vs.toArray nn) ∈ Led c) (hb : BsAre vs bs) (F : Fr h₀ env.locals s.heap m₀) (N : News h₀ env.locals s.heap (Led c₀)) (hk : ∀ p ∈ ps c₀, m₀ p.1 = some p.2) (hp : P 0 c₀)
    (turn : ∀ (c : σ) (i : Nat) (b : List UInt8) t (u : Str → Option Value) h tk own, bs[i]? = some b → OwnOff own ((Led c₀).map (·.1)) → P i c →
      Fr h₀ env.locals h (fun y => if y = x then some (.bytes b.toArray t) else kstB (fun z => if stored.contains z then u z else m₀ z) (ps c) y) → News h₀ env.locals h (Led c ++ own) →
      wpAny (model prog w) A (execs body env) (InvPostN h₀ env.locals (ForS Led ps x stored m₀ (P (i + 1))) own ((Led c₀).map (·.1)) { s with heap := h, toks := tk } Q) E { s with heap := h, toks := tk })
    (done : ∀ (c : σ) (u : Str → Option Value) h tk, P bs.length c → Fr h₀ env.locals h (fun y => if y = x then u y else kstB (fun z => if stored.contains z then u z else m₀ z) (ps c) y) → News h₀ env.locals h (Led c) → Q .next { s with heap := h, toks := tk }) :
    wpAny (model prog w) A (pyIter (.ref l)) (fun it s₂ => LoopAtV prog w A h₀ env x body Q E it s₂) E s := by
  refine iter_valsNL (fun i m nx => ForS Led ps x stored m₀ (P i) m nx) hh (hl c₀) F N ⟨c₀, rfl, hk, fun _ _ _ _ => rfl, hp⟩ ?_ ?_
  · rintro i v m₁ nx h tk own hv hoff _ ⟨c, rfl, h1, h2, hp'⟩ F₁ N₁
    obtain ⟨b, t, hbi, rfl⟩ := hb.get' hv
    refine wpAny_mono (turn c i b t m₁ h tk own hbi hoff hp' (kst_fr h1 h2 F₁) N₁) (fun f s₂ p => ?_) fun _ _ x => x
    have up : InvEndN h₀ env.locals (ForS Led ps x stored m₀ (P (i + 1))) own ((Led c₀).map (·.1)) { s with heap := h, toks := tk } s₂ →
        InvEndN h₀ env.locals (fun m' nx => (l, listOf vs.toArray nn) ∈ nx ∧ ForS Led ps x stored m₀ (P (i + 1)) m' nx) own ((Led c₀).map (·.1)) { s with heap := h, toks := tk } s₂ := by
      rintro ⟨h', tk', m', news', nx', e', F', N', hn', ho', ha, hS⟩
      refine ⟨h', tk', m', news', nx', e', F', N', hn', ho', ha, ?_, hS⟩
      obtain ⟨c', rfl, _⟩ := hS
      exact hl c'
    cases f with
    | ret v => exact p
    | brk => exact p
    | next => exact up p
    | cont => exact up p
  · rintro m₁ nx h tk ⟨c, rfl, h1, h2, hp'⟩ F₁ N₁
    rw [hb.length] at hp'
    exact done c m₁ h tk hp' (kst_frOut h1 h2 F₁) N₁
theorem forB {σ : Type} {b : List UInt8} {tb : Tok} {m₀ : Str → Option Value} (Led : σ → List (Addr × Obj)) (ps : σ → List (Str × Value)) (stored : List Str) (P : Nat → σ → Prop) (c₀ : σ)
    (hh : A.handled = none) (F : Fr h₀ env.locals s.heap m₀) (N : News h₀ env.locals s.heap (Led c₀)) (hk : ∀ p ∈ ps c₀, m₀ p.1 = some p.2) (hp : P 0 c₀)
    (turn : ∀ (c : σ) (i : Nat) (y : UInt8) t (u : Str → Option Value) h tk own, b[i]? = some y → (0 : Int) ≤ (y.toNat : Int) → (y.toNat : Int) < 256 → OwnOff own ((Led c₀).map (·.1)) → P i c →
      Fr h₀ env.locals h (fun z => if z = x then some (.int (y.toNat : Int) t) else kstB (fun z => if stored.contains z then u z else m₀ z) (ps c) z) → News h₀ env.locals h (Led c ++ own) →
      wpAny (model prog w) A (execs body env) (InvPostN h₀ env.locals (ForS Led ps x stored m₀ (P (i + 1))) own ((Led c₀).map (·.1)) { s with heap := h, toks := tk } Q) E { s with heap := h, toks := tk })
    (done : ∀ (c : σ) (u : Str → Option Value) h tk, P b.length c → Fr h₀ env.locals h (fun y => if y = x then u y else kstB (fun z => if stored.contains z then u z else m₀ z) (ps c) y) → News h₀ env.locals h (Led c) → Q .next { s with heap := h, toks := tk }) :
    wpAny (model prog w) A (pyIter (.bytes b.toArray tb)) (fun it s₂ => LoopAtV prog w A h₀ env x body Q E it s₂) E s := by
  refine KBmo.iter_bytesN (fun i m nx => ForS Led ps x stored m₀ (P i) m nx) rfl hh F N ⟨c₀, rfl, hk, fun _ _ _ _ => rfl, hp⟩ ?_ ?_
  · rintro i k t m₁ nx h tk own hi hlo hhi hoff ⟨c, rfl, h1, h2, hp'⟩ F₁ N₁
    obtain ⟨y, hy, e⟩ : ∃ y, b[i]? = some y ∧ k = (y.toNat : Int) := by
      have hi' : (b.map fun c => (c.toNat : Int))[i]? = some k := hi
      rw [List.getElem?_map] at hi'
      cases hb : b[i]? with
      | none => rw [hb] at hi'; cases hi'
      | some y => rw [hb] at hi'; exact ⟨y, rfl, (Option.some.inj hi').symm⟩
    subst e
    exact turn c i y t m₁ h tk own hy hlo hhi hoff hp' (kst_fr h1 h2 F₁) N₁
  · rintro m₁ nx h tk ⟨c, rfl, h1, h2, hp'⟩ F₁ N₁
    rw [KBw.ints_length, List.size_toArray] at hp'
    exact done c m₁ h tk hp' (kst_frOut h1 h2 F₁) N₁
end
end Mine
end
section
namespace Mine
namespace By
def okSign (y : UInt8) : Bool := (decide (48 ≤ y.toNat) && decide (y.toNat ≤ 57)) || (decide (65 ≤ y.toNat) && decide (y.toNat ≤ 90)) || (decide (97 ≤ y.toNat) && decide (y.toNat ≤ 122)) || decide (y.toNat = 45)
def preKey (r : List UInt8) : List UInt8 := if 0 < findI r 58 0 then rcut [32, 9, 13, 11, 12] (r.take (findI r 58 0).toNat) else []
def trailerKey (r : List UInt8) : Option (List UInt8) := if preKey r = [] then none else if (preKey r).all okSign then some (preKey r) else none
theorem preKey_len (r : List UInt8) : (preKey r).length ≤ r.length := by
  unfold preKey
  split
  · exact Nat.le_trans (rcut_len _ _) (List.length_take_le' _ _)
  · exact Nat.zero_le _
theorem findI_le (r : List UInt8) (x : UInt8) : findI r x 0 < (r.length : Int) ∨ findI r x 0 = -1 := by
  by_cases h : findI r x 0 < 0
  · right
    exact findI_none (findI_neg h)
  · left
    obtain ⟨k, _, e2, e3⟩ := findI_pos h
    omega
theorem key_yes {r : List UInt8} (h : 0 < findI r 58 0) : rcut [32, 9, 13, 11, 12] (sl r none (some (findI r 58 0))) = preKey r := by
  unfold preKey
  rw [if_pos h, sl_to (by omega)]
theorem key_no {r : List UInt8} (h : ¬ 0 < findI r 58 0) : [] = preKey r := by
  unfold preKey
  rw [if_neg h]
theorem all_take_succ {b : List UInt8} {i : Nat} {y : UInt8} {p : UInt8 → Bool} (hi : b[i]? = some y) (h : (b.take i).all p = true) (hy : p y = true) : (b.take (i + 1)).all p = true := by
  rw [List.take_add_one, hi]
  simp only [Option.toList_some, List.all_append, List.all_cons, List.all_nil, Bool.and_true, Bool.and_eq_true]
  exact ⟨h, hy⟩
theorem all_not {b : List UInt8} {i : Nat} {y : UInt8} {p : UInt8 → Bool} (hi : b[i]? = some y) (hy : p y = false) : b.all p = false := by
  refine List.all_eq_false.mpr ⟨y, List.mem_of_getElem? hi, by rw [hy]; exact Bool.false_ne_true⟩
end By
def RTrail (r : List UInt8) (news : List (Addr × Obj)) (v : Value) (news' : List (Addr × Obj)) : Prop :=
  (By.trailerKey r = none ∧ v = .none ∧ news = news') ∨
  ∃ (k : List UInt8) (q : Addr) (t t2 : Tok) (x : List UInt8), By.trailerKey r = some k ∧ v = .ref q ∧ news' = (q, tupO [.bytes k.toArray t, .bytes x.toArray t2]) :: news ∧ LCg.Off1 q news
end Mine
namespace Mine
namespace By
theorem ok_of {y : UInt8} (h : (48 ≤ y.toNat ∧ y.toNat ≤ 57) ∨ (65 ≤ y.toNat ∧ y.toNat ≤ 90) ∨ (97 ≤ y.toNat ∧ y.toNat ≤ 122) ∨ y.toNat = 45) : okSign y = true := by
  unfold okSign
  simp only [Bool.or_eq_true, Bool.and_eq_true, decide_eq_true_eq]
  omega
theorem ok_not {y : UInt8} (h : ¬ ((48 ≤ y.toNat ∧ y.toNat ≤ 57) ∨ (65 ≤ y.toNat ∧ y.toNat ≤ 90) ∨ (97 ≤ y.toNat ∧ y.toNat ≤ 122) ∨ y.toNat = 45)) : okSign y = false := by
  cases e : okSign y with
  | false => rfl
  | true =>
    unfold okSign at e
    simp only [Bool.or_eq_true, Bool.and_eq_true, decide_eq_true_eq] at e
    omega
theorem trailer_bad {r : List UInt8} {i : Nat} {y : UInt8} (hne : preKey r ≠ []) (hi : (preKey r)[i]? = some y) (hy : okSign y = false) : trailerKey r = none := by
  unfold trailerKey
  rw [if_neg hne, if_neg (by rw [all_not hi hy]; exact Bool.false_ne_true)]
theorem trailer_good {r : List UInt8} (hne : preKey r ≠ []) (h : (preKey r).all okSign = true) : trailerKey r = some (preKey r) := by
  unfold trailerKey
  rw [if_neg hne, if_pos h]
end By
end Mine
end
section
namespace Mine
namespace By
def lastS (rs : List (List UInt8)) : Nat := rs.length - (rs.reverse.takeWhile notE).length
def lastPart (rs : List (List UInt8)) : List (List UInt8) := if (rs.take (lastS rs)).all isE then [] else rs.drop (lastS rs)
def LastAt (rs : List (List UInt8)) (i : Int) : Prop := 0 ≤ i ∧ i ≤ (rs.length : Int) ∧ (rs.drop i.toNat).all notE = true
theorem LastAt.start (rs : List (List UInt8)) : LastAt rs (rs.length : Int) := ⟨by omega, by omega, by rw [Int.toNat_natCast, List.drop_length]; rfl⟩
theorem LastAt.next {rs : List (List UInt8)} {i : Int} (h : LastAt rs i) (hi : 0 < i) (hp : notE (rs.getD (i - 1).toNat []) = true) : LastAt rs (i - 1) := by
  obtain ⟨h1, h2, h3⟩ := h
  refine ⟨by omega, by omega, ?_⟩
  have hlt : (i - 1).toNat < rs.length := by omega
  have e : rs.drop (i - 1).toNat = rs.getD (i - 1).toNat [] :: rs.drop i.toNat := by
    rw [List.drop_eq_getElem_cons hlt, List.getD_eq_getElem?_getD, List.getElem?_eq_getElem hlt, show (i - 1).toNat + 1 = i.toNat by omega]; rfl
  rw [e, List.all_cons, hp, h3]; rfl
theorem lastS_of {rs : List (List UInt8)} {n : Nat} (hn : n ≤ rs.length) (h : (rs.drop n).all notE = true) (h0 : n = 0 ∨ notE (rs.getD (n - 1) []) = false) : lastS rs = n := by
  unfold lastS
  have e : rs.reverse = (rs.drop n).reverse ++ (rs.take n).reverse := by rw [← List.reverse_append, List.take_append_drop]
  rw [e, List.takeWhile_append_of_pos (fun x hx => List.all_eq_true.mp h x (List.mem_reverse.mp hx))]
  have e2 : (rs.take n).reverse.takeWhile notE = [] := by
    rcases h0 with h0 | h0
    · subst h0; rfl
    · cases n with
      | zero => rfl
      | succ k =>
        rw [List.take_succ_eq_append_getElem hn, List.reverse_append, List.reverse_singleton, List.singleton_append, List.takeWhile_cons]
        have : notE rs[k] = false := by
          rw [Nat.add_sub_cancel, List.getD_eq_getElem?_getD, List.getElem?_eq_getElem (by omega)] at h0
          exact h0
        rw [this]; rfl
  rw [e2, List.append_nil, List.length_reverse, List.length_drop]; omega
theorem LastAt.stop {rs : List (List UInt8)} {i : Int} (h : LastAt rs i) (hi : 0 < i) (hp : notE (rs.getD (i - 1).toNat []) = false) : i = (lastS rs : Nat) := by
  obtain ⟨h1, h2, h3⟩ := h
  have := lastS_of (rs := rs) (n := i.toNat) (by omega) h3 (.inr (by rw [show i.toNat - 1 = (i - 1).toNat by omega]; exact hp))
  omega
theorem LastAt.whole {rs : List (List UInt8)} {i : Int} (h : LastAt rs i) (hi : ¬ 0 < i) : i = (lastS rs : Nat) := by
  obtain ⟨h1, h2, h3⟩ := h
  have := lastS_of (rs := rs) (n := i.toNat) (by omega) h3 (.inl (by omega))
  omega
theorem allE_take {bs : List (List UInt8)} {i : Nat} {b : List UInt8} (hi : bs[i]? = some b) (h : (bs.take i).all isE = true) (hb : isE b = true) : (bs.take (i + 1)).all isE = true := by
  rw [List.take_add_one, hi]
  simp only [Option.toList_some, List.all_append, List.all_cons, List.all_nil, Bool.and_true, Bool.and_eq_true]
  exact ⟨h, hb⟩
theorem lastPart_some {rs : List (List UInt8)} {i : Nat} {b : List UInt8} (hi : (rs.take (lastS rs))[i]? = some b) (hb : isE b = false) : lastPart rs = rs.drop (lastS rs) := by
  unfold lastPart
  rw [if_neg]
  intro h
  have := List.all_eq_true.mp h b (List.mem_of_getElem? hi)
  rw [hb] at this; cases this
theorem lastPart_none {rs : List (List UInt8)} (h : (rs.take (lastS rs)).all isE = true) : lastPart rs = [] := by
  unfold lastPart
  rw [if_pos h]
theorem lastPart_sub (rs : List (List UInt8)) : (lastPart rs).Sublist rs := by
  unfold lastPart
  split
  · exact List.nil_sublist _
  · exact List.drop_sublist _ _
end By
end Mine
namespace Mine
theorem off1_sub {D : Addr} {l k : List (Addr × Obj)} (h : LCg.Off1 D l) (hs : ∀ p ∈ k, p ∈ l) : LCg.Off1 D k := off1_of fun p hp => off1_ne h p (hs p hp)
end Mine
namespace Mine.By
theorem isE_ne {b : List UInt8} (h : (b != []) = true) : isE b = false := by unfold isE; simpa using h
theorem isE_eq {b : List UInt8} (h : (b != []) = false) : isE b = true := by unfold isE; simpa using h
end Mine.By
end
section
namespace Mine
section
open PySem.SeqAt
variable {prog : Program} {w : World} {A : Around} {E : Value → Shared → Prop} {s : Shared} {b c : List UInt8} {t u : Tok}
theorem rcAt_bytes : RcAt A s (.bytes b.toArray t) (.bytes c.toArray u) (b == c) := fun _ _ _ _ h => By.eq_B h
theorem eqAt_bytes : EqAt A s (.bytes b.toArray t) (.bytes c.toArray u) (b == c) := fun prog w E Q h => by
  unfold eqBool
  refine wpAny_holding ?_
  refine wpAny_ite_split (fun hab => ?_) (fun _ => ?_)
  · have e := eq_of_beq hab
    injection e with e1 e2
    have e3 : b = c := by
      have := congrArg Array.toList e1
      exact this
    subst e3
    rw [beq_self_eq_true] at h
    exact wpAny_bind (wpAny_rule (wpAny_pure h))
  · exact wpAny_bind (rcAt_bytes prog w E _ (wpAny_truthy_bool h))
theorem notIn_two {h₀ : Heap} {L q : Addr} {news : List (Addr × Obj)} {c1 c2 : List UInt8} {t1 t2 : Tok} {Q : Value → Shared → Prop} (N : News h₀ L s.heap news) (hq : (q, tupO [.bytes c1.toArray t1, .bytes c2.toArray t2]) ∈ news)
    (h : Q (.bool (!(c1 == b || c2 == b))) s) : wpAny (model prog w) A (compareOp .NotIn (.bytes b.toArray t) (.ref q)) Q E s := by
  have ht : s.heap.IsTuple q ([.bytes c1.toArray t1, .bytes c2.toArray t2] : List Value).toArray := ⟨_, (N _ hq).1, rfl, _, rfl⟩
  refine notIn_tupleAt (fun v => match v with | .bytes x _ => x.toList == b | _ => false) ht (fun y hy => ?_) ?_
  · simp only [List.mem_toArray, List.mem_cons, List.not_mem_nil, or_false] at hy
    rcases hy with rfl | rfl
    · exact eqAt_bytes
    · exact eqAt_bytes
  · simpa using h
theorem in_two {h₀ : Heap} {L q : Addr} {news : List (Addr × Obj)} {c1 c2 : List UInt8} {t1 t2 : Tok} {Q : Value → Shared → Prop} (N : News h₀ L s.heap news) (hq : (q, tupO [.bytes c1.toArray t1, .bytes c2.toArray t2]) ∈ news)
    (h : Q (.bool (c1 == b || c2 == b)) s) : wpAny (model prog w) A (compareOp .In (.bytes b.toArray t) (.ref q)) Q E s := by
  have ht : s.heap.IsTuple q ([.bytes c1.toArray t1, .bytes c2.toArray t2] : List Value).toArray := ⟨_, (N _ hq).1, rfl, _, rfl⟩
  refine in_tupleAt (fun v => match v with | .bytes x _ => x.toList == b | _ => false) ht (fun y hy => ?_) ?_
  · simp only [List.mem_toArray, List.mem_cons, List.not_mem_nil, or_false] at hy
    rcases hy with rfl | rfl
    · exact eqAt_bytes
    · exact eqAt_bytes
  · simpa using h
end
namespace By
def lead (r : List UInt8) : Bool := [32] == r.take 1 || [9] == r.take 1
def pickedB : List UInt8 := [40, 99, 104, 101, 114, 114, 121, 32, 112, 105, 99, 107, 101, 100, 32, 102, 114, 111, 109, 32, 99, 111, 109, 109, 105, 116, 32]
def signedB : List UInt8 := [83, 105, 103, 110, 101, 100, 45, 111, 102, 102, 45, 98, 121]
structure Tr where
  f : Nat
  o : Nat
  p : Nat
  m : Nat
def Tr.step (x : Tr) (r : List UInt8) : Tr :=
  if r.take pickedB.length == pickedB then { x with p := x.p + 1, m := x.m + 1 }
  else match trailerKey r with
    | some k => { x with f := x.f + 1, m := x.m + (if k == signedB then 1 else 0) }
    | none => { x with o := x.o + 1 }
def trOf (rs : List (List UInt8)) : Tr := rs.foldl Tr.step ⟨0, 0, 0, 0⟩
def trailN (rs : List (List UInt8)) : Nat := if 0 < (trOf rs).o ∧ ((trOf rs).m = 0 ∨ 3 * ((trOf rs).f + (trOf rs).p) < (trOf rs).o) then 0 else (trOf rs).f
theorem trOf_succ {rs : List (List UInt8)} {i : Nat} {b : List UInt8} (h : rs[i]? = some b) : trOf (rs.take (i + 1)) = (trOf (rs.take i)).step b := by
  unfold trOf
  rw [List.take_add_one, h]
  simp
theorem tr_count (rs : List (List UInt8)) : (trOf rs).f ≤ rs.length ∧ (trOf rs).o ≤ rs.length ∧ (trOf rs).p ≤ rs.length ∧ (trOf rs).m ≤ rs.length := by
  have key : ∀ (rs : List (List UInt8)) (x : Tr), (rs.foldl Tr.step x).f ≤ x.f + rs.length ∧ (rs.foldl Tr.step x).o ≤ x.o + rs.length ∧ (rs.foldl Tr.step x).p ≤ x.p + rs.length ∧ (rs.foldl Tr.step x).m ≤ x.m + rs.length := by
    intro rs
    induction rs with
    | nil => intro x; exact ⟨Nat.le_refl _, Nat.le_refl _, Nat.le_refl _, Nat.le_refl _⟩
    | cons r t ih =>
      intro x
      have h := ih (x.step r)
      have h2 : (x.step r).f ≤ x.f + 1 ∧ (x.step r).o ≤ x.o + 1 ∧ (x.step r).p ≤ x.p + 1 ∧ (x.step r).m ≤ x.m + 1 := by
        unfold Tr.step
        split
        · exact ⟨by dsimp only; omega, by dsimp only; omega, by dsimp only; omega, by dsimp only; omega⟩
        · split
          · refine ⟨by dsimp only; omega, by dsimp only; omega, by dsimp only; omega, ?_⟩
            dsimp only
            split <;> omega
          · exact ⟨by dsimp only; omega, by dsimp only; omega, by dsimp only; omega, by dsimp only; omega⟩
      rw [List.foldl_cons, List.length_cons]
      omega
  have := key rs ⟨0, 0, 0, 0⟩
  simpa [trOf] using this
def TrAt (rs : List (List UInt8)) (i : Nat) (xs : List Value) (o p m : Int) : Prop :=
  xs.length = (trOf (rs.take i)).f ∧ o = ((trOf (rs.take i)).o : Nat) ∧ p = ((trOf (rs.take i)).p : Nat) ∧ m = ((trOf (rs.take i)).m : Nat)
theorem TrAt.picked {rs : List (List UInt8)} {i : Nat} {xs : List Value} {o p m : Int} {b : List UInt8} (h : TrAt rs i xs o p m) (hi : rs[i]? = some b) (hb : (b.take pickedB.length == pickedB) = true) : TrAt rs (i + 1) xs o (p + 1) (m + 1) := by
  obtain ⟨h1, h2, h3, h4⟩ := h
  unfold TrAt
  rw [trOf_succ hi]
  unfold Tr.step
  rw [if_pos hb]
  exact ⟨h1, h2, by rw [h3]; simp, by rw [h4]; simp⟩
theorem TrAt.found {rs : List (List UInt8)} {i : Nat} {xs : List Value} {o p m : Int} {b k : List UInt8} (h : TrAt rs i xs o p m) (hi : rs[i]? = some b) (hb : (b.take pickedB.length == pickedB) = false) (hk : trailerKey b = some k) (v : Value) :
    TrAt rs (i + 1) (xs ++ [v]) o p (m + (if k == signedB then 1 else 0)) := by
  obtain ⟨h1, h2, h3, h4⟩ := h
  unfold TrAt
  rw [trOf_succ hi]
  unfold Tr.step
  rw [if_neg (by rw [hb]; exact Bool.false_ne_true), hk]
  refine ⟨by simp [h1], h2, h3, ?_⟩
  rw [h4]
  dsimp only
  split <;> simp
theorem TrAt.other {rs : List (List UInt8)} {i : Nat} {xs : List Value} {o p m : Int} {b : List UInt8} (h : TrAt rs i xs o p m) (hi : rs[i]? = some b) (hb : (b.take pickedB.length == pickedB) = false) (hk : trailerKey b = none) :
    TrAt rs (i + 1) xs (o + 1) p m := by
  obtain ⟨h1, h2, h3, h4⟩ := h
  unfold TrAt
  rw [trOf_succ hi]
  unfold Tr.step
  rw [if_neg (by rw [hb]; exact Bool.false_ne_true), hk]
  exact ⟨h1, by rw [h2]; simp, h3, h4⟩
theorem TrAt.start (rs : List (List UInt8)) : TrAt rs 0 [] 0 0 0 := ⟨rfl, rfl, rfl, rfl⟩
end By
def RLen (n : Nat) (news : List (Addr × Obj)) (v : Value) (news' : List (Addr × Obj)) : Prop :=
  ∃ (l : Addr) (xs : List Value) (k : Nat), v = .ref l ∧ xs.length = n ∧ news' = (l, listOf xs.toArray k) :: news ∧ LCg.Off1 l news
end Mine
namespace Mine
section
variable {prog : Program} {w : World} {A : Around} {E : Value → Shared → Prop} {s : Shared} {b : List UInt8} {t : Tok}
theorem notIn_known {h₀ : Heap} {L q : Addr} {news : List (Addr × Obj)} {c1 c2 : List UInt8} {t1 t2 : Tok} {Q : Value → Shared → Prop} (N : News h₀ L s.heap news) (hq : (q, tupO [.bytes c1.toArray t1, .bytes c2.toArray t2]) ∈ news)
    (hk : (c1 == b || c2 == b) = false) (h : Q (.bool true) s) : wpAny (model prog w) A (compareOp .NotIn (.bytes b.toArray t) (.ref q)) Q E s := notIn_two N hq (by rw [hk]; exact h)
theorem in_known {h₀ : Heap} {L q : Addr} {news : List (Addr × Obj)} {c1 c2 : List UInt8} {t1 t2 : Tok} {Q : Value → Shared → Prop} (N : News h₀ L s.heap news) (hq : (q, tupO [.bytes c1.toArray t1, .bytes c2.toArray t2]) ∈ news)
    (hk : (c1 == b || c2 == b) = false) (h : Q (.bool false) s) : wpAny (model prog w) A (compareOp .In (.bytes b.toArray t) (.ref q)) Q E s := in_two N hq (by rw [hk]; exact h)
end
end Mine
namespace Mine
section
variable {prog : Program} {w : World} {A : Around} {E : Value → Shared → Prop} {s : Shared} {env : Env} {h₀ : Heap} {x : Str} {body : List Stmt} {Q : Flow → Shared → Prop}
theorem forL2 {σ : Type} {l lf : Addr} {vs : List Value} {bs : List (List UInt8)} {nn : Nat} {news : List (Addr × Obj)} {m₀ : Str → Option Value} (o : σ → Obj) (ps : σ → List (Str × Value)) (stored : List Str) (P : Nat → σ → Prop) (c₀ : σ)
    (hh : A.handled = none) (hb : BsAre vs bs) (F : Fr h₀ env.locals s.heap m₀) (N : News h₀ env.locals s.heap ((l, listOf vs.toArray nn) :: (lf, o c₀) :: news)) (hk : ∀ p ∈ ps c₀, m₀ p.1 = some p.2) (hp : P 0 c₀)
    (turn : ∀ (c : σ) (i : Nat) (b : List UInt8) t (u : Str → Option Value) h tk own, bs[i]? = some b → OwnOff own (l :: lf :: news.map (·.1)) → P i c →
      Fr h₀ env.locals h (fun y => if y = x then some (.bytes b.toArray t) else kstB (fun z => if stored.contains z then u z else m₀ z) (ps c) y) → News h₀ env.locals h (((l, listOf vs.toArray nn) :: (lf, o c) :: news) ++ own) →
      wpAny (model prog w) A (execs body env) (InvPostN h₀ env.locals (ForS (fun c => (l, listOf vs.toArray nn) :: (lf, o c) :: news) ps x stored m₀ (P (i + 1))) own (l :: lf :: news.map (·.1)) { s with heap := h, toks := tk } Q) E { s with heap := h, toks := tk })
    (done : ∀ (c : σ) (u : Str → Option Value) h tk, P bs.length c → Fr h₀ env.locals h (fun y => if y = x then u y else kstB (fun z => if stored.contains z then u z else m₀ z) (ps c) y) → News h₀ env.locals h ((l, listOf vs.toArray nn) :: (lf, o c) :: news) → Q .next { s with heap := h, toks := tk }) :
    wpAny (model prog w) A (pyIter (.ref l)) (fun it s₂ => LoopAtV prog w A h₀ env x body Q E it s₂) E s :=
  forL (fun c => (l, listOf vs.toArray nn) :: (lf, o c) :: news) ps stored P c₀ hh (fun _ => .head _) hb F N hk hp turn done
end
end Mine
namespace Mine
theorem app_ne {D : Addr} {news own : List (Addr × Obj)} {adr : List Addr} (h : LCg.Off1 D news) (ho : OwnOff own adr) (hb : D ∈ adr) : ∀ p ∈ news ++ own, p.1 ≠ D := by
  intro p hp
  rcases List.mem_append.mp hp with h1 | h1
  · exact off1_ne h p h1
  · exact ho p h1 D hb
theorem RLen.yes {rs : List (List UInt8)} {xs : List Value} {o p m : Int} {l : Addr} {k : Nat} {news : List (Addr × Obj)} (h : By.TrAt rs rs.length xs o p m) (hl : LCg.Off1 l news) (hc : ¬ (0 < o ∧ (m = 0 ∨ 3 * ((xs.length : Nat) + p) < o))) :
    RLen (By.trailN rs) news (.ref l) ((l, listOf xs.toArray k) :: news) := by
  refine ⟨l, xs, k, rfl, ?_, rfl, hl⟩
  obtain ⟨h1, h2, h3, h4⟩ := h
  rw [List.take_length] at h1 h2 h3 h4
  unfold By.trailN
  rw [if_neg, h1]
  intro hh
  apply hc
  subst h2 h3 h4
  rw [h1]
  omega
theorem RLen.no {rs : List (List UInt8)} {xs : List Value} {o p m : Int} {l : Addr} {k : Nat} {news : List (Addr × Obj)} (h : By.TrAt rs rs.length xs o p m) (hl : LCg.Off1 l news) (hc : 0 < o ∧ (m = 0 ∨ 3 * ((xs.length : Nat) + p) < o)) :
    RLen (By.trailN rs) news (.ref l) ((l, listOf ([] : List Value).toArray k) :: news) := by
  refine ⟨l, [], k, rfl, ?_, rfl, hl⟩
  obtain ⟨h1, h2, h3, h4⟩ := h
  rw [List.take_length] at h1 h2 h3 h4
  unfold By.trailN
  rw [if_pos]
  · rfl
  · subst h2 h3 h4
    rw [h1] at hc
    omega
end Mine
end
section
open PyProof.Rows.LCg
namespace Mine
def IterOn (prog : Program) (w : World) (A : Around) (xv : Value) (n : Nat) (P : Nat → Value → Prop) : Prop :=
  ∀ (s : Shared) (Q E : Value → Shared → Prop),
    (∀ (o : Obj) (St : Nat → Heap → Prop), Walks prog w A s.heap.objs.size [s.heap.objs.size] [s.heap.objs.size] n P St → (∀ i h, St i h → ∃ o, h.get? s.heap.objs.size = some o) → St 0 (s.heap.push o) → Q (.ref s.heap.objs.size) { s with heap := s.heap.push o }) →
    wpAny (model prog w) A (pyIter xv) Q E s
theorem IterOn.bytes {prog : Program} {w : World} {A : Around} (hh : A.handled = none) (b : Array UInt8) (t : Tok) : IterOn prog w A (.bytes b t) b.size (fun i v => ∃ c u, b[i]? = some c ∧ v = .int (c.toNat : Int) u) := by
  intro s Q E h
  refine KBw.pyIter_bytes (h _ _ (KBw.walks hh s.heap.objs.size b t) ?_ ⟨_, Heap.get?_push_size _ rfl, rfl, rfl⟩)
  rintro i h ⟨o, e, _⟩
  exact ⟨o, e⟩
theorem IterOn.str {prog : Program} {w : World} {A : Around} (hh : A.handled = none) (x : Str) (t : Tok) : IterOn prog w A (.str x t) x.cps.size (SignAt x) := by
  intro s Q E h
  cases ha : x.cps.all (· < 128)
  · refine wpAny_pyIter_wide ha (h _ _ (Walks.strWide hh s.heap.objs.size x t) ?_ ⟨_, Heap.get?_push_size _ rfl, rfl, rfl⟩)
    rintro i h ⟨o, e, _⟩
    exact ⟨o, e⟩
  · refine wpAny_pyIter_ascii ha (h _ _ (Walks.strAscii hh s.heap.objs.size x t) ?_ ⟨_, Heap.get?_push_size _ rfl, rfl, rfl⟩)
    rintro i h ⟨o, e, _⟩
    exact ⟨o, e⟩
def SrcW (prog : Program) (w : World) (A : Around) (h₀ : Heap) (L : Addr) (m : Str → Option Value) (env : Env) (elt : Expr) (x : Str) (scope : Scope) (cl : List (Str × Addr)) (Fin : Shared → List Value → List (Addr × Obj) → Prop) (xv : Value) (s₁ : Shared) : Prop :=
  ∃ n P news, IterOn prog w A xv n P ∧ Fr h₀ L s₁.heap m ∧ News h₀ L s₁.heap news ∧ n ≤ sizeLine ∧
    ∀ g, CompRest prog w A h₀ L m env elt x scope cl { s₁ with heap := g } (fun _ => True) P (Fin { s₁ with heap := g }) n 0 [] news
section
variable {prog : Program} {w : World} {A : Around} {E : Value → Shared → Prop} {s : Shared} {h₀ : Heap} {L : Addr} {m : Str → Option Value} {env : Env}
theorem st_of {I : Addr} {n : Nat} {P : Nat → Value → Prop} {St : Nat → Heap → Prop} (W : Walks prog w A I [I] [I] n P St) :
    ∀ i (h h' : Heap) (o : Obj) (nw : List (Addr × Obj)), St i h → h.get? I = some o → h'.get? I = some o → (∀ b o, h₀.get? b = some o → h'.get? b = some o) → News h₀ L h' nw → True → St i h' := by
  intro i h h' o nw st e e' _ _ _
  refine W.frame _ _ _ st fun b hb o' eb => ?_
  rw [List.mem_singleton.mp hb] at eb ⊢
  rw [e', ← e, eb]
theorem ListComp_W {elt iter : Expr} {x : Str} {px : Pos} {scope : Scope} {cl : List (Str × Addr)} {pos : Pos} {Q : Value → Shared → Prop}
    (hclos : closureFor scope env = pure cl) (hcell : ∀ y ∈ scope.names, y.2 ≠ .cell) (hkind : scope.kind = .function)
    (hnames : ∀ y ∈ scope.names, y.2 = .local → scope.names.lookup y.1 = some .local) (hx : scope.names.lookup x = some .local)
    (h : wpAny (model prog w) A (eval iter env) (SrcW prog w A h₀ L m env elt x scope cl (fun s₂ => FinE h₀ L m s₂ Q)) E s)
    (hs : ∀ x, foldedSetIterable iter env x = pure x := by intro _; rfl) :
    wpAny (model prog w) A (eval (.ListComp elt [⟨.Name x px, iter, [], 0⟩] scope pos) env) Q E s := by
  rw [eval_ListComp]
  refine wpAny_comprehension_free (use := none) rfl hs hclos hkind hnames (wpAny_mono h (fun xv s₁ h₁ => ?_) fun _ _ e => e)
  rcases h₁ with ⟨n, P, news, hI, F, N, hsz, R⟩
  refine hI _ _ _ fun o St W hIo st0 => ?_
  refine block_U W hsz hIo (st_of W) hcell hkind hx st0 (fun b hb => ?_)
      (F.keeps fun _ _ e => Heap.get?_push_of_some _ e) (N.grown fun _ _ e => Heap.get?_push_of_some _ e) (Nat.ne_of_lt F.ns.lt) (next_is_new F) (fun p hp => Nat.ne_of_lt (Heap.lt_size (N p hp).1)) trivial (R _) ?_
  · rw [List.mem_singleton.mp hb]
    show s₁.heap.objs.size < (s₁.heap.push _).objs.size
    rw [Heap.size_push]; exact Nat.lt_succ_self _
  · intro D C h tk m' ys news' F' N' o1 hn hC₀ hD₀ hCL hDL hCD offC fin
    refine ⟨m', hn, fun h'' hs'' => fin D h'' tk (F'.change hs'' hCL hC₀) (fun p hp => ?_) o1⟩
    refine ⟨hs''.extBut _ _ ?_ (N' p hp).1, (N' p hp).2⟩
    rcases List.mem_cons.mp hp with rfl | hp
    · exact Ne.symm hCD
    · exact offC p hp
theorem Assign_ListComp_W {elt iter : Expr} {x y : Str} {px py : Pos} {scope : Scope} {cl : List (Str × Addr)} {pos spos : Pos} {Q : Flow → Shared → Prop} (F₀ : Fr h₀ L s.heap m) (hLe : env.locals = L)
    (hsw : swapsWith (.ListComp elt [⟨.Name x px, iter, [], 0⟩] scope pos) (some (.Name y py)) spos.line env = pure true)
    (hclos : closureFor scope env = pure cl) (hcell : ∀ z ∈ scope.names, z.2 ≠ .cell) (hkind : scope.kind = .function)
    (hnames : ∀ z ∈ scope.names, z.2 = .local → scope.names.lookup z.1 = some .local) (hx : scope.names.lookup x = some .local)
    (hy : env.kindOf y = some .local) (hp : (env.scope.kind == .class || (env.scope.kind == .module && env.locals != env.globals)) = false)
    (h : wpAny (model prog w) A (eval iter env) (SrcW prog w A h₀ L m env elt x scope cl (fun s₂ => FinA h₀ L m s₂ y Q)) E s)
    (hs : ∀ x, foldedSetIterable iter env x = pure x := by intro _; rfl) :
    wpAny (model prog w) A (exec (.Assign [.Name y py] (.ListComp elt [⟨.Name x px, iter, [], 0⟩] scope pos) spos) env) Q E s := by
  subst hLe
  rw [exec_Assign_Name_used _ _ _ _ hsw]
  refine wpAny_bind (wpAny_standAt (wpAny_bind ?_))
  show wpAny _ A (do let _ ← comprehension (.ListComp elt [⟨.Name x px, iter, [], 0⟩] scope pos) scope env _ (newList []) false (eval iter env) (some (assign (.Name y py) env))) _ _ s
  refine wpAny_bind (wpAny_mono (wpAny_comprehension_free (use := some (assign (.Name y py) env)) (Q := fun _ s' => Q .next s') rfl hs hclos hkind hnames
    (wpAny_mono h (fun xv s₁ h₁ => ?_) fun _ _ e => e)) (fun _ s' hq => wpAny_pure (wpAny_pure hq)) fun _ _ e => e)
  rcases h₁ with ⟨n, P, news, hI, F, N, hsz, R⟩
  refine hI _ _ _ fun o St W hIo st0 => ?_
  refine block_U W hsz hIo (st_of W) hcell hkind hx st0 (fun b hb => ?_)
      (F.keeps fun _ _ e => Heap.get?_push_of_some _ e) (N.grown fun _ _ e => Heap.get?_push_of_some _ e) (Nat.ne_of_lt F.ns.lt) (next_is_new F) (fun p hp => Nat.ne_of_lt (Heap.lt_size (N p hp).1)) trivial (R _) ?_
  · rw [List.mem_singleton.mp hb]
    show s₁.heap.objs.size < (s₁.heap.push _).objs.size
    rw [Heap.size_push]; exact Nat.lt_succ_self _
  · intro D C h' tk m' ys news' F' N' o1 hn hC₀ hD₀ hCL hDL hCD offC fin
    show wpAny _ A (assign (.Name y py) env (.ref D)) _ _ _
    refine wpAny_assign_Name (wpAny_storeName_local hy F'.ns (fun h₂ hn₂ hs₂ => ?_) hp)
    have hL₀ : h₀.get? env.locals = none := Heap.get?_none_of_le F'.above
    have F₂ : Fr h₀ env.locals h₂ (fun z => if z = y then some (.ref D) else m z) := ⟨hn₂, fun b o e => hs₂.extBut b o (fun q => by rw [q, hL₀] at e; cases e) (F'.keep b o e), F'.above⟩
    refine ⟨m', hn.sameBut hs₂ hCL, fun h'' hs'' => fin D h'' _ (F₂.change hs'' hCL hC₀) (fun p hp => ?_) o1⟩
    have z : h₂.get? p.1 = some p.2 := hs₂.extBut _ _ (N' p hp).2.1 (N' p hp).1
    refine ⟨hs''.extBut _ _ ?_ z, (N' p hp).2⟩
    rcases List.mem_cons.mp hp with rfl | hp
    · exact Ne.symm hCD
    · exact offC p hp
theorem SrcW.bytes {elt : Expr} {x : Str} {scope : Scope} {cl : List (Str × Addr)} {Fin : Shared → List Value → List (Addr × Obj) → Prop} {b : List UInt8} {t : Tok} {news : List (Addr × Obj)} {s₁ : Shared}
    (hh : A.handled = none) (F : Fr h₀ L s₁.heap m) (N : News h₀ L s₁.heap news) (hsz : b.length ≤ 16777216)
    (h : ∀ g, CompRest prog w A h₀ L m env elt x scope cl { s₁ with heap := g } (fun _ => True) (fun i v => ∃ c u, b.toArray[i]? = some c ∧ v = .int (c.toNat : Int) u) (Fin { s₁ with heap := g }) b.toArray.size 0 [] news) :
    SrcW prog w A h₀ L m env elt x scope cl Fin (.bytes b.toArray t) s₁ := ⟨_, _, news, IterOn.bytes hh _ t, F, N, by rw [sizeLine_eq, List.size_toArray]; exact hsz, h⟩
theorem SrcW.str {elt : Expr} {x : Str} {scope : Scope} {cl : List (Str × Addr)} {Fin : Shared → List Value → List (Addr × Obj) → Prop} {c : List Nat} {t : Tok} {news : List (Addr × Obj)} {s₁ : Shared}
    (hh : A.handled = none) (F : Fr h₀ L s₁.heap m) (N : News h₀ L s₁.heap news) (hsz : c.length ≤ 16777216)
    (h : ∀ g, CompRest prog w A h₀ L m env elt x scope cl { s₁ with heap := g } (fun _ => True) (SignAt ⟨c.toArray⟩) (Fin { s₁ with heap := g }) c.length 0 [] news) :
    SrcW prog w A h₀ L m env elt x scope cl Fin (.str ⟨c.toArray⟩ t) s₁ := ⟨_, _, news, IterOn.str hh _ t, F, N, by rw [sizeLine_eq]; show c.toArray.size ≤ _; rw [List.size_toArray]; exact hsz, h⟩
inductive Rel2 {α : Type} (R : α → Value → Prop) : List α → List Value → Prop
  | nil : Rel2 R [] []
  | cons {a : α} {v : Value} {as : List α} {vs : List Value} : R a v → Rel2 R as vs → Rel2 R (a :: as) (v :: vs)
theorem Rel2.snoc {α : Type} {R : α → Value → Prop} {a : α} {v : Value} : ∀ {as : List α} {vs : List Value}, Rel2 R as vs → R a v → Rel2 R (as ++ [a]) (vs ++ [v])
  | _, _, .nil, h => .cons h .nil
  | _, _, .cons h t, h' => .cons h (t.snoc h')
variable {elt : Expr} {x : Str} {scope : Scope} {cl : List (Str × Addr)} {S : List (Addr × Obj) → Prop} {P : Nat → Value → Prop} {Fin : List Value → List (Addr × Obj) → Prop} {news : List (Addr × Obj)}
theorem bcf_any {α : Type} (src : List α) (val : α → Value → Prop) (res : α → Value → Prop) (hP : ∀ i v, P i v → ∃ a, src[i]? = some a ∧ val a v)
    (turn : ∀ a v I oI C oC D m₂ ys h tk (E' : Value → Shared → Prop), a ∈ src → val a v → LCg.NsObj oC m₂ → m₂ x = some v → Fr h₀ L h m → News h₀ L h ((I, oI) :: (C, oC) :: (D, LCg.lst ys) :: news) → LCg.Off3 I C D news → ((@Ne Nat I C) ∧ (@Ne Nat I D) ∧ (@Ne Nat C D)) →
      wpAny (model prog w) A (eval elt (compEnvC scope cl C env)) (LCg.CompEnd h₀ L m { s with heap := h, toks := tk } I oI C oC D (LCg.lst ys) S (fun y news' => news' = news ∧ res a y)) E' { s with heap := h, toks := tk })
    (fin : ∀ ys, Rel2 res src ys → Fin ys news) : LCg.CompRest prog w A h₀ L m env elt x scope cl s S P Fin src.length 0 [] news := by
  have key : ∀ (j i : Nat) (ys : List Value), i + j = src.length → Rel2 res (src.take i) ys → LCg.CompRest prog w A h₀ L m env elt x scope cl s S P Fin j i ys news := by
    intro j
    induction j with
    | zero =>
      intro i ys hi hy
      rw [List.take_of_length_le (by omega)] at hy
      exact LCg.CompRest.zero (fin ys hy)
    | succ j ih =>
      intro i ys hi hy
      refine LCg.CompRest.succ ?_
      intro v I oI C oC D m₂ h tk E' hv hC hx F N off ne
      obtain ⟨a, hk, hv'⟩ := hP i v hv
      refine wpAny_mono (turn a v I oI C oC D m₂ ys h tk E' (List.mem_of_getElem? hk) hv' hC hx F N off ne) (fun y s₂ hq => ?_) fun _ _ e => e
      obtain ⟨h', tk', nw, e, F', N', off', hS, hn, hy'⟩ := hq
      rw [hn] at N' off' hS
      refine ⟨h', tk', news, e, F', N', off', hS, ?_⟩
      refine ih (i + 1) _ (by omega) ?_
      rw [List.take_add_one, hk]
      exact hy.snoc hy'
  exact key src.length 0 [] (by omega) (by simp only [List.take_zero]; exact .nil)
end
end Mine
end
section
open PyProof.Rows.LCg
namespace Mine
namespace By
def hexd (k : Nat) : Nat := if k < 10 then 48 + k else 87 + k
def hexCodes (b : List UInt8) : List Nat := b.flatMap fun y => [hexd (y.toNat / 16), hexd (y.toNat % 16)]
def hexB (b : List UInt8) : List UInt8 := (hexCodes b).map fun k => k.toUInt8
theorem hexCodes_len (b : List UInt8) : (hexCodes b).length = 2 * b.length := by
  induction b with
  | nil => rfl
  | cons y t ih => 
    unfold hexCodes at ih ⊢
    rw [List.flatMap_cons, List.length_append, ih, List.length_cons, List.length_cons, List.length_cons, List.length_nil]
    omega
theorem hexd_lt {k : Nat} (h : k < 16) : hexd k < 128 := by
  unfold hexd
  split <;> omega
theorem hexCodes_lt {b : List UInt8} : ∀ k ∈ hexCodes b, k < 128 := by
  intro k hk
  unfold hexCodes at hk
  rw [List.mem_flatMap] at hk
  obtain ⟨y, _, hk⟩ := hk
  have := y.toNat_lt
  simp only [List.mem_cons, List.not_mem_nil, or_false] at hk
  rcases hk with rfl | rfl
  · exact hexd_lt (by omega)
  · exact hexd_lt (by omega)
theorem hexCodes_succ {b : List UInt8} {i : Nat} {y : UInt8} (h : b[i]? = some y) : hexCodes (b.take (i + 1)) = hexCodes (b.take i) ++ [hexd (y.toNat / 16)] ++ [hexd (y.toNat % 16)] := by
  unfold hexCodes
  rw [List.take_add_one, h]
  simp
theorem hex_tab : ∀ k : Nat, k < 16 → Txt.item (Str.ofString "0123456789abcdef") (k : Int) = ⟨#[hexd k]⟩ := by decide +kernel
theorem hex_item {i : Int} (h0 : 0 ≤ i) (h1 : i < 16) : Txt.item (Str.ofString "0123456789abcdef") i = ⟨#[hexd i.toNat]⟩ := by
  have := hex_tab i.toNat (by omega)
  rw [Int.toNat_of_nonneg h0] at this
  exact this
def HexAt (b : List UInt8) (i : Nat) (xs : List Value) : Prop := CarriedAll xs ((hexCodes (b.take i)).map fun k => PyData.str ⟨#[k]⟩)
theorem HexAt.start (b : List UInt8) : HexAt b 0 [] := .nil
theorem HexAt.len {b : List UInt8} {i : Nat} {xs : List Value} (h : HexAt b i xs) : xs.length ≤ 2 * b.length := by
  have := h.length_eq
  rw [List.length_map, hexCodes_len] at this
  have h2 := List.length_take_le' i b
  omega
theorem join_signs : ∀ l : List Nat, (Txt.join (Str.ofString "") (l.map fun k => (⟨#[k]⟩ : Str))) = ⟨l.toArray⟩ := by
  have e0 : Str.ofString "" = ⟨#[]⟩ := by decide +kernel
  have key : ∀ l : List Nat, (Str.join ⟨#[]⟩ (l.map fun k => (⟨#[k]⟩ : Str))).cps.toList = l := by
    intro l
    induction l with
    | nil => rfl
    | cons a r ih =>
      cases r with
      | nil => rfl
      | cons b r' =>
        simp only [List.map_cons] at ih ⊢
        rw [Str.join, PySem.Str.cps_append, PySem.Str.cps_append]
        · simp [ih]
        · intro h; cases h
  intro l
  show Builtin.Str.glued _ _ = _
  rw [StrLaws.glued_eq_join, e0]
  have := key l
  generalize Str.join ⟨#[]⟩ (l.map fun k => (⟨#[k]⟩ : Str)) = x at this ⊢
  obtain ⟨⟨c⟩⟩ := x
  simp only at this
  rw [this]
end By
def RStr (c : List Nat) (news : List (Addr × Obj)) (v : Value) (news' : List (Addr × Obj)) : Prop := (∃ t, v = .str ⟨c.toArray⟩ t) ∧ news = news'
section
variable {prog : Program} {w : World} {A : Around} {E : Value → Shared → Prop} {s : Shared} {t : Tok} {Q : Value → Shared → Prop}
theorem join_hex {h₀ : Heap} {L D : Addr} {news : List (Addr × Obj)} {xs : List Value} {n : Nat} {b : List UInt8} (N : News h₀ L s.heap news) (hm : (D, listOf xs.toArray n) ∈ news) (hc : By.HexAt b b.length xs) (hb : b.length ≤ 4096)
    (h : ∀ t' k, Q (.str ⟨(By.hexCodes b).toArray⟩ t') { s with toks := k }) : wpAny (model prog w) A (call (.builtin "str.join") [.str (Str.ofString "") t, .ref D]) Q E s := by
  unfold By.HexAt at hc
  rw [List.take_length] at hc
  refine KT.join_1 (News.isList N hm) hc (fun _ _ => rfl) (by rw [By.hexCodes_len]; omega) fun t' k _ => ?_
  rw [By.join_signs]
  exact h t' k
end
end Mine
end
section
open PyProof.Rows.LCg
namespace Mine
namespace By
theorem HexAt.next' {b : List UInt8} {i : Nat} {xs : List Value} {y : UInt8} {t1 t2 : Tok} (h : HexAt b i xs) (hi : b[i]? = some y) :
    HexAt b (i + 1) (xs ++ [.str ⟨#[hexd (y.toNat / 16)]⟩ t1] ++ [.str ⟨#[hexd (y.toNat % 16)]⟩ t2]) := by
  unfold HexAt
  rw [hexCodes_succ hi, List.map_append, List.map_append]
  refine CarriedAll.snoc (CarriedAll.snoc h ?_) ?_ <;> constructor
end By
section
variable {prog : Program} {w : World} {A : Around} {E : Value → Shared → Prop} {s : Shared} {t u : Tok} {Q : Value → Shared → Prop} {value slice : Expr} {y : UInt8}
theorem hex_hi (h : ∀ t' k, Q (.str ⟨#[By.hexd (y.toNat / 16)]⟩ t') { s with toks := k })
    (hs : ∀ k, subscripted slice false (.str (Str.ofString "0123456789abcdef") t) (.int k u) = operate [.str (Str.ofString "0123456789abcdef") t, .int k u] (getItem (.str (Str.ofString "0123456789abcdef") t) (.int k u)) := by intro _; with_unfolding_all rfl)
    (ht : ∀ r, letTemporaryGo value (.str (Str.ofString "0123456789abcdef") t) r = pure () := by intro _; with_unfolding_all rfl) :
    wpAny (model prog w) A (subscriptTail value slice (.str (Str.ofString "0123456789abcdef") t) (.int ((y.toNat : Int).fdiv (2 ^ Int.toNat 4)) u)) Q E s := by
  have hy := y.toNat_lt
  have e : (y.toNat : Int).fdiv (2 ^ Int.toNat 4) = ((y.toNat / 16 : Nat) : Int) := by
    rw [Int.fdiv_eq_ediv_of_nonneg _ (by decide)]
    rfl
  rw [e]
  refine KXi.item (n := 16) (by decide +kernel) (by omega) (by omega) (by decide) (fun _ => ?_) (hs _) ht
  rw [By.hex_item (by omega) (by omega), Int.toNat_natCast]
  exact h _ _
theorem hex_lo (h : ∀ t' k, Q (.str ⟨#[By.hexd (y.toNat % 16)]⟩ t') { s with toks := k })
    (hs : ∀ k, subscripted slice false (.str (Str.ofString "0123456789abcdef") t) (.int k u) = operate [.str (Str.ofString "0123456789abcdef") t, .int k u] (getItem (.str (Str.ofString "0123456789abcdef") t) (.int k u)) := by intro _; with_unfolding_all rfl)
    (ht : ∀ r, letTemporaryGo value (.str (Str.ofString "0123456789abcdef") t) r = pure () := by intro _; with_unfolding_all rfl) :
    wpAny (model prog w) A (subscriptTail value slice (.str (Str.ofString "0123456789abcdef") t) (.int (Builtin.bitAnd (y.toNat : Int) 15) u)) Q E s := by
  have hy := y.toNat_lt
  have e : Builtin.bitAnd (y.toNat : Int) 15 = ((y.toNat % 16 : Nat) : Int) := by
    rw [bitAnd_m4]
    rfl
  rw [e]
  refine KXi.item (n := 16) (by decide +kernel) (by omega) (by omega) (by decide) (fun _ => ?_) (hs _) ht
  rw [By.hex_item (by omega) (by omega), Int.toNat_natCast]
  exact h _ _
end
end Mine
end
section
open PyProof.Rows.LCg
namespace Mine
namespace Rel2
variable {α : Type} {R : α → Value → Prop}
theorem length : ∀ {as : List α} {vs : List Value}, Rel2 R as vs → vs.length = as.length
  | _, _, .nil => rfl
  | _, _, .cons _ t => by rw [List.length_cons, List.length_cons, t.length]
theorem get' : ∀ {as : List α} {vs : List Value}, Rel2 R as vs → ∀ {i : Nat} {v : Value}, vs[i]? = some v → ∃ a, as[i]? = some a ∧ R a v
  | _, _, .nil, i, v, h => by simp at h
  | a :: as, v :: vs, .cons h t, 0, w, hw => by
    simp only [List.getElem?_cons_zero, Option.some.injEq] at hw
    exact ⟨a, rfl, hw ▸ h⟩
  | a :: as, v :: vs, .cons h t, i + 1, w, hw => by
    rw [List.getElem?_cons_succ] at hw ⊢
    exact t.get' hw
theorem intsAre {cs : List Nat} : ∀ {vs : List Value}, Rel2 (fun (c : Nat) v => ∃ t, v = .int (c : Int) t) cs vs → IntsAre vs (cs.map fun c : Nat => (c : Int)) := by
  induction cs with
  | nil => intro vs h; cases h; exact .nil
  | cons c cs ih =>
    intro vs h
    cases h with
    | cons h t =>
      obtain ⟨u, rfl⟩ := h
      exact .cons _ _ (ih t)
end Rel2
section
variable {prog : Program} {w : World} {A : Around} {E : Value → Shared → Prop} {s : Shared} {env : Env} {h₀ : Heap} {x : Str} {body : List Stmt}
theorem forR {α : Type} {R : α → Value → Prop} {σ : Type} {Q : Flow → Shared → Prop} {l : Addr} {vs : List Value} {bs : List α} {nn : Nat} {m₀ : Str → Option Value} (Led : σ → List (Addr × Obj)) (ps : σ → List (Str × Value)) (stored : List Str) (P : Nat → σ → Prop) (c₀ : σ)
    (hh : A.handled = none) (hl : ∀ c : σ, (l, listOf vs.toArray nn) ∈ Led c) (hb : Rel2 R bs vs) (F : Fr h₀ env.locals s.heap m₀) (N : News h₀ env.locals s.heap (Led c₀)) (hk : ∀ p ∈ ps c₀, m₀ p.1 = some p.2) (hp : P 0 c₀)
    (turn : ∀ (c : σ) (i : Nat) (b : α) v (u : Str → Option Value) h tk own, bs[i]? = some b → R b v → OwnOff own ((Led c₀).map (·.1)) → P i c →
      Fr h₀ env.locals h (fun y => if y = x then some v else kstB (fun z => if stored.contains z then u z else m₀ z) (ps c) y) → News h₀ env.locals h (Led c ++ own) →
      wpAny (model prog w) A (execs body env) (InvPostN h₀ env.locals (ForS Led ps x stored m₀ (P (i + 1))) own ((Led c₀).map (·.1)) { s with heap := h, toks := tk } Q) E { s with heap := h, toks := tk })
    (done : ∀ (c : σ) (u : Str → Option Value) h tk, P bs.length c → Fr h₀ env.locals h (fun y => if y = x then u y else kstB (fun z => if stored.contains z then u z else m₀ z) (ps c) y) → News h₀ env.locals h (Led c) → Q .next { s with heap := h, toks := tk }) :
    wpAny (model prog w) A (pyIter (.ref l)) (fun it s₂ => LoopAtV prog w A h₀ env x body Q E it s₂) E s := by
  refine iter_valsNL (fun i m nx => ForS Led ps x stored m₀ (P i) m nx) hh (hl c₀) F N ⟨c₀, rfl, hk, fun _ _ _ _ => rfl, hp⟩ ?_ ?_
  · rintro i v m₁ nx h tk own hv hoff _ ⟨c, rfl, h1, h2, hp'⟩ F₁ N₁
    obtain ⟨b, hbi, hv'⟩ := hb.get' hv
    refine wpAny_mono (turn c i b v m₁ h tk own hbi hv' hoff hp' (kst_fr h1 h2 F₁) N₁) (fun f s₂ p => ?_) fun _ _ x => x
    have up : InvEndN h₀ env.locals (ForS Led ps x stored m₀ (P (i + 1))) own ((Led c₀).map (·.1)) { s with heap := h, toks := tk } s₂ →
        InvEndN h₀ env.locals (fun m' nx => (l, listOf vs.toArray nn) ∈ nx ∧ ForS Led ps x stored m₀ (P (i + 1)) m' nx) own ((Led c₀).map (·.1)) { s with heap := h, toks := tk } s₂ := by
      rintro ⟨h', tk', m', news', nx', e', F', N', hn', ho', ha, hS⟩
      refine ⟨h', tk', m', news', nx', e', F', N', hn', ho', ha, ?_, hS⟩
      obtain ⟨c', rfl, _⟩ := hS
      exact hl c'
    cases f with
    | ret v => exact p
    | brk => exact p
    | next => exact up p
    | cont => exact up p
  · rintro m₁ nx h tk ⟨c, rfl, h1, h2, hp'⟩ F₁ N₁
    rw [hb.length] at hp'
    exact done c m₁ h tk hp' (kst_frOut h1 h2 F₁) N₁
theorem ord_sign {c : Nat} {t : Tok} {Q : Value → Shared → Prop} (h : ∀ t' k, Q (.int (c : Int) t') { s with toks := k }) : wpAny (model prog w) A (call (.builtin "ord") [.str ⟨#[c]⟩ t]) Q E s :=
  ord_of_one rfl (h _ _)
theorem byteArr_nats (cs : List Nat) : byteArr (cs.map fun c : Nat => (c : Int)) = (cs.map fun k => k.toUInt8).toArray := by
  unfold byteArr
  rw [List.map_map]
  rfl
theorem bytes_nats {L D : Addr} {m : Str → Option Value} {news : List (Addr × Obj)} {vs : List Value} {n : Nat} {cs : List Nat} {Q : Value → Shared → Prop} (F : Fr h₀ L s.heap m) (N : News h₀ L s.heap news) (hh : A.handled = none) (hm : (D, listOf vs.toArray n) ∈ news)
    (hr : Rel2 (fun (c : Nat) v => ∃ t, v = .int (c : Int) t) cs vs) (hlt : ∀ k ∈ cs, k < 256) (hn : cs.length ≤ 4096)
    (h : ∀ h' t' k, Fr h₀ L h' m → News h₀ L h' news → Q (.bytes (cs.map fun k => k.toUInt8).toArray t') { s with heap := h', toks := k }) : wpAny (model prog w) A (call (.type "bytes") [.ref D]) Q E s := by
  refine KBa.make_K F N hh (News.isList N hm) hr.intsAre ?_ (by rw [List.length_map]; omega) fun h' t' k F' N' _ => ?_
  · intro n hn
    obtain ⟨k, hk, rfl⟩ := List.mem_map.mp hn
    have := hlt k hk
    omega
  · rw [byteArr_nats]
    exact h h' t' k F' N'
end
end Mine
end
section
open PyProof.Rows.LCg
namespace Mine
def IsCom (news : List (Addr × Obj)) (c : Addr) (a : List UInt8) : Prop :=
  ∃ dx es n t, (c, instObj 158 dx) ∈ news ∧ (dx, dictOf es n) ∈ news ∧ getL (Str.ofString "message") es = some (some (.bytes a.toArray t)) ∧ getL (Str.ofString "subject") es = some none
theorem IsCom.sub {news news' : List (Addr × Obj)} {c : Addr} {a : List UInt8} (h : IsCom news c a) (hs : ∀ p ∈ news, p ∈ news') : IsCom news' c a := by
  obtain ⟨dx, es, n, t, h1, h2, h3⟩ := h
  exact ⟨dx, es, n, t, hs _ h1, hs _ h2, h3⟩
theorem sub_tail {a r : List (Addr × Obj)} {q : Addr × Obj} (h : ∀ p ∈ a, p ∈ r) : ∀ p ∈ a, p ∈ q :: r := fun p hp => .tail _ (h p hp)
end Mine
end
local macro_rules | `(tactic| walk_at "my k_subs") => `(tactic| first | exact fun p hp => hp | (refine sub_tail ?_; walk_at "my k_subs"))
section
open PyProof.Rows.LCg
namespace Mine
set_option maxRecDepth 100000 in
theorem com_msg (w : World) : ∀ {A : Around} {E : Value → Shared → Prop} {s : Shared} {h₀ : Heap} {L c : Addr} {m : Str → Option Value} {news : List (Addr × Obj)} {a : List UInt8} {expr : Bool} {Q : Value → Shared → Prop}, Fr h₀ L s.heap m → (hd.heap_1 w.params).In h₀ → News h₀ L s.heap news → IsCom news c a → (∀ t k, Q (.bytes a.toArray t) { s with toks := k }) →
    wpAny (model PySem.Challenge.rw_pb0111_01.row.prog w) A (getAttr (.ref c) (Str.ofString "message") expr) Q E s := by
  k_fill
  intro A E s h₀ L c m news a expr Q F X N hc h
  obtain ⟨dx, es, n, t, h1, h2, h3, h4⟩ := hc
  exact get_own F X (InstAt.of_news N h1 h2) (by k_is) (by k_is) (by k_is) (by k_is) h3 rfl (h _ _)
set_option maxRecDepth 100000 in
theorem com_subj (w : World) : ∀ {A : Around} {E : Value → Shared → Prop} {s : Shared} {h₀ : Heap} {L c : Addr} {m : Str → Option Value} {news : List (Addr × Obj)} {a : List UInt8} {pl : Sem Bool} {Q : Value × List Value → Shared → Prop}, Fr h₀ L s.heap m → (hd.heap_1 w.params).In h₀ → News h₀ L s.heap news → IsCom news c a →
    Q (.ref 155, [.ref c]) s → wpAny (model PySem.Challenge.rw_pb0111_01.row.prog w) A (getMethod (.ref c) (Str.ofString "subject") pl) Q E s := by
  k_fill
  intro A E s h₀ L c m news a expr Q F X N hc h
  obtain ⟨dx, es, n, t, h1, h2, h3, h4⟩ := hc
  exact method_inst F X (InstAt.of_news N h1 h2) (by k_is) (by k_is) (by k_is) h4 h
end Mine
end
section
namespace Mine
namespace By
def wsB : List UInt8 := [32, 9, 13, 11, 12]
def bcut (rs : List (List UInt8)) : List (List UInt8) := rs.dropWhile fun r => rcut [32, 9, 13, 11, 12] r == []
theorem bcut_pop {bs : List (List UInt8)} (hne : bs ≠ []) (h : (rcut [32, 9, 13, 11, 12] (bs.getD 0 []) == []) = true) : bcut (bs.drop 1) = bcut bs := by
  cases bs with
  | nil => exact absurd rfl hne
  | cons b r =>
    unfold bcut
    rw [List.dropWhile_cons]
    simp only [List.getD_cons_zero] at h
    rw [h]; rfl
theorem bcut_done {bs : List (List UInt8)} (hne : bs ≠ []) (h : (rcut [32, 9, 13, 11, 12] (bs.getD 0 []) == []) = false) : bcut bs = bs := by
  cases bs with
  | nil => exact absurd rfl hne
  | cons b r =>
    unfold bcut
    rw [List.dropWhile_cons]
    simp only [List.getD_cons_zero] at h
    rw [h]; rfl
def bodyB (a : List UInt8) : List UInt8 := joinB [10] (bcut ((cuts 10 a).drop (subjE (rowsB a))))
theorem sum_sub {xs ys : List (List UInt8)} (h : xs.Sublist ys) : (xs.map List.length).sum ≤ (ys.map List.length).sum := by
  induction h with
  | slnil => exact Nat.le_refl _
  | cons a _ ih => rw [List.map_cons, List.sum_cons]; omega
  | cons_cons a _ ih => rw [List.map_cons, List.map_cons, List.sum_cons, List.sum_cons]; omega
theorem bcut_sub (rs : List (List UInt8)) : (bcut rs).Sublist rs := List.dropWhile_sublist _
theorem bodyB_len (a : List UInt8) : (bodyB a).length ≤ 2 * a.length + 1 := by
  have h1 := joinB_len [10] (bcut ((cuts 10 a).drop (subjE (rowsB a))))
  have h2 := (bcut_sub ((cuts 10 a).drop (subjE (rowsB a)))).trans (List.drop_sublist _ _)
  have h3 := sum_sub h2
  have h4 := cuts_sum 10 a
  have h5 := h2.length_le
  have h6 := cuts_count (x := 10) (b := a)
  unfold bodyB
  simp only [List.length_cons, List.length_nil] at h1
  omega
end By
end Mine
end
section
namespace Mine
namespace By
def mark1 : List UInt8 := [102, 105, 120, 117, 112, 33, 32]
def mark2 : List UInt8 := [115, 113, 117, 97, 115, 104, 33, 32]
def mark3 : List UInt8 := [97, 109, 101, 110, 100, 33, 32]
def marked (a : List UInt8) : Bool := (a.take 7 == mark1) || (a.take 8 == mark2) || (a.take 7 == mark3)
theorem pre_len {b m : List UInt8} (h : (b.take m.length == m) = true) : m.length ≤ b.length := by
  have := congrArg List.length (eq_of_beq h)
  rw [List.length_take] at this
  omega
end By
def RMark (a : List UInt8) (news : List (Addr × Obj)) (v : Value) (news' : List (Addr × Obj)) : Prop :=
  (By.marked a = false ∧ v = .none ∧ news = news') ∨ (By.marked a = true ∧ ∃ (q : Addr) (o : Obj), v = .ref q ∧ news' = (q, o) :: news ∧ LCg.Off1 q news)
abbrev MarkS := List UInt8 × Tok × Option (Addr × Value × Value) × Bool
def MarkS.val (c : MarkS) : Value := match c.2.2.1 with | none => .none | some x => .ref x.1
def MarkS.led (news : List (Addr × Obj)) (c : MarkS) : List (Addr × Obj) := match c.2.2.1 with | none => news | some x => (x.1, tupO [x.2.1, x.2.2]) :: news
def MarkS.ok (a : List UInt8) (news : List (Addr × Obj)) (c : MarkS) : Prop := c.1.length ≤ a.length ∧ match c.2.2.1 with
  | none => if c.2.2.2 then c.1 = a else By.marked a = false
  | some x => By.marked a = true ∧ LCg.Off1 x.1 news
end Mine
namespace Mine
section
variable {prog : Program} {w : World} {A : Around} {E : Value → Shared → Prop} {s : Shared} {b c : List UInt8} {t u : Tok} {Q : Value → Shared → Prop}
theorem lstrip_hid (hb : b.length ≤ 16777216) (hq : ∀ b' : List UInt8, b'.length ≤ b.length → ∀ t' k, Q (.bytes b'.toArray t') { s with toks := k }) :
    wpAny (model prog w) A (call (.builtin "bytes.lstrip") [.bytes b.toArray t, .bytes c.toArray u]) Q E s :=
  By.call_lstrip hb fun t' k => hq _ (By.lcut_len c b) t' k
end
theorem sl_from_len {b : List UInt8} {n : Nat} : (By.sl b (some (n : Int)) none).length = b.length - n := by
  rw [By.sl_from (by omega), List.length_drop, Int.toNat_natCast]
theorem off_one {i : Addr} {o : Obj} {news' : List (Addr × Obj)} (h : ∀ p ∈ news', p.1 ≠ i) : ∀ p ∈ news', ∀ q ∈ [((i, o) : Addr × Obj)], p.1 ≠ q.1 := by
  intro p hp q hq
  rw [List.mem_singleton.mp hq]
  exact h p hp
theorem UnrEndX {h₀ : Heap} {L i : Addr} {o : Obj} {rest : (Str → Option Value) → List (Addr × Obj) → Prop} {s₁ : Shared} {h' : Heap} {tk : Nat} {m' : Str → Option Value} {all : List (Addr × Obj)} (news' : List (Addr × Obj)) (F : Fr h₀ L h' m') (N : News h₀ L h' all)
    (sub : ∀ p ∈ (i, o) :: news', p ∈ all) (off : ∀ p ∈ news', p.1 ≠ i) (r : rest m' news') : UnrEndW h₀ L s₁ [(i, o)] rest { s₁ with heap := h', toks := tk } :=
  ⟨h', tk, m', news', rfl, F, fun p hp => N p (sub p hp), off_one off, r⟩
end Mine
namespace Mine
namespace By
theorem hit1 {b : List UInt8} (h : (b.take [102, 105, 120, 117, 112, 33, 32].length == [102, 105, 120, 117, 112, 33, 32]) = true) : marked b = true := by
  unfold marked mark1
  rw [show (b.take 7 == [102, 105, 120, 117, 112, 33, 32]) = true from h]
  rfl
theorem hit2 {b : List UInt8} (h : (b.take [115, 113, 117, 97, 115, 104, 33, 32].length == [115, 113, 117, 97, 115, 104, 33, 32]) = true) : marked b = true := by
  unfold marked mark2
  rw [show (b.take 8 == [115, 113, 117, 97, 115, 104, 33, 32]) = true from h, Bool.or_true]
  rfl
theorem hit3 {b : List UInt8} (h : (b.take [97, 109, 101, 110, 100, 33, 32].length == [97, 109, 101, 110, 100, 33, 32]) = true) : marked b = true := by
  unfold marked mark3
  rw [show (b.take 7 == [97, 109, 101, 110, 100, 33, 32]) = true from h, Bool.or_true]
theorem nohit {b : List UInt8} (h1 : (b.take [102, 105, 120, 117, 112, 33, 32].length == [102, 105, 120, 117, 112, 33, 32]) = false)
    (h2 : (b.take [115, 113, 117, 97, 115, 104, 33, 32].length == [115, 113, 117, 97, 115, 104, 33, 32]) = false) (h3 : (b.take [97, 109, 101, 110, 100, 33, 32].length == [97, 109, 101, 110, 100, 33, 32]) = false) : marked b = false := by
  unfold marked mark1 mark2 mark3
  rw [show (b.take 7 == [102, 105, 120, 117, 112, 33, 32]) = false from h1, show (b.take 8 == [115, 113, 117, 97, 115, 104, 33, 32]) = false from h2, show (b.take 7 == [97, 109, 101, 110, 100, 33, 32]) = false from h3]
  rfl
end By
end Mine
namespace Mine
end Mine
end
section
namespace Mine
namespace By
def bareB (a : List UInt8) : List UInt8 := ended (if marked (subjB (rowsB a)) then bodyB a else a)
theorem bare_yes {a : List UInt8} (h : marked (subjB (rowsB a)) = true) : ended (bodyB a) = bareB a := by unfold bareB; rw [if_pos h]
theorem bare_no {a : List UInt8} (h : marked (subjB (rowsB a)) = false) : ended a = bareB a := by unfold bareB; rw [if_neg (by rw [h]; exact Bool.false_ne_true)]
theorem bareB_len (a : List UInt8) : (bareB a).length ≤ 4 * a.length + 2 := by
  have h2 := bodyB_len a
  unfold bareB
  split
  · have h1 := ended_len (bodyB a)
    omega
  · have h1 := ended_len a
    omega
end By
end Mine
end
section
namespace Mine
namespace By
def revQ : List UInt8 := [82, 101, 118, 101, 114, 116, 32, 34]
def reapQ : List UInt8 := [82, 101, 97, 112, 112, 108, 121, 32, 34]
def thisR : List UInt8 := [84, 104, 105, 115, 32, 114, 101, 118, 101, 114, 116, 115, 32, 99, 111, 109, 109, 105, 116, 32]
def chgR : List UInt8 := [44, 32, 114, 101, 118, 101, 114, 115, 105, 110, 103, 10, 99, 104, 97, 110, 103, 101, 115, 32, 109, 97, 100, 101, 32, 116, 111, 32]
def isRev (s : List UInt8) : Bool := (s.take 8 == revQ) && ((s.drop (s.length - 1) == [34]) && !(s.take 16 == revQ ++ revQ))
def revH (s : List UInt8) : List UInt8 := if isRev s then reapQ ++ s.drop 8 else revQ ++ s ++ [34]
def revB (s oid : List UInt8) : Option (List UInt8) → List UInt8
  | none => revH s ++ [10, 10] ++ (thisR ++ hexB oid) ++ [46, 10]
  | some p => revH s ++ [10, 10] ++ (((thisR ++ hexB oid) ++ chgR) ++ hexB p) ++ [46, 10]
theorem rev_of {s : List UInt8} (h : isRev s = false) : [82, 101, 118, 101, 114, 116, 32, 34] ++ s ++ [34] = revH s := by unfold revH; rw [if_neg (by rw [h]; exact Bool.false_ne_true)]; rfl
theorem rev_n1 {s : List UInt8} (h : (s.take [82, 101, 118, 101, 114, 116, 32, 34].length == [82, 101, 118, 101, 114, 116, 32, 34]) = false) : [82, 101, 118, 101, 114, 116, 32, 34] ++ s ++ [34] = revH s :=
  rev_of (by unfold isRev revQ; rw [show (s.take 8 == [82, 101, 118, 101, 114, 116, 32, 34]) = false from h]; rfl)
theorem rev_n2 {s : List UInt8} (h : (s.drop (s.length - [34].length) == [34]) = false) : [82, 101, 118, 101, 114, 116, 32, 34] ++ s ++ [34] = revH s :=
  rev_of (by unfold isRev; rw [show (s.drop (s.length - 1) == [34]) = false from h, Bool.false_and, Bool.and_false])
theorem rev_n3 {s : List UInt8} (h : (s.take [82, 101, 118, 101, 114, 116, 32, 34, 82, 101, 118, 101, 114, 116, 32, 34].length == [82, 101, 118, 101, 114, 116, 32, 34, 82, 101, 118, 101, 114, 116, 32, 34]) = true) : [82, 101, 118, 101, 114, 116, 32, 34] ++ s ++ [34] = revH s :=
  rev_of (by unfold isRev revQ; rw [show (s.take 16 == [82, 101, 118, 101, 114, 116, 32, 34] ++ [82, 101, 118, 101, 114, 116, 32, 34]) = true from h, Bool.not_true, Bool.and_false, Bool.and_false])
theorem rev_y {s : List UInt8} (h1 : (s.take [82, 101, 118, 101, 114, 116, 32, 34].length == [82, 101, 118, 101, 114, 116, 32, 34]) = true) (h2 : (s.drop (s.length - [34].length) == [34]) = true)
    (h3 : (s.take [82, 101, 118, 101, 114, 116, 32, 34, 82, 101, 118, 101, 114, 116, 32, 34].length == [82, 101, 118, 101, 114, 116, 32, 34, 82, 101, 118, 101, 114, 116, 32, 34]) = false) :
    [82, 101, 97, 112, 112, 108, 121, 32, 34] ++ sl s (some (#[82, 101, 118, 101, 114, 116, 32, 34] : Array UInt8).size) none = revH s := by
  have e : isRev s = true := by
    unfold isRev revQ
    rw [show (s.take 8 == [82, 101, 118, 101, 114, 116, 32, 34]) = true from h1, show (s.drop (s.length - 1) == [34]) = true from h2, show (s.take 16 == [82, 101, 118, 101, 114, 116, 32, 34] ++ [82, 101, 118, 101, 114, 116, 32, 34]) = false from h3]
    rfl
  unfold revH
  rw [if_pos e, sl_from (by omega)]
  rfl
end By
end Mine
end
section
namespace Mine
namespace By
def pickQ : List UInt8 := [40, 99, 104, 101, 114, 114, 121, 32, 112, 105, 99, 107, 101, 100, 32, 102, 114, 111, 109, 32, 99, 111, 109, 109, 105, 116, 32]
def pickRow (oid : List UInt8) : List UInt8 := pickQ ++ hexB oid ++ [41, 10]
def trailM (a : List UInt8) : Nat := trailN (lastPart (tcut (rowsB a)))
def joinedQ (a : List UInt8) : Bool := decide (0 < trailM a) || (((linesOf (ended a)).getLastD []).take 27 == pickQ)
def pickB (a oid : List UInt8) : List UInt8 := if linesOf (ended a) = [] then pickRow oid else ended a ++ (if joinedQ a then [] else [10]) ++ pickRow oid
theorem joined1 {a : List UInt8} (h : 0 < trailM a) : joinedQ a = true := by unfold joinedQ; rw [decide_eq_true h]; rfl
theorem joined2 {a : List UInt8} (h : (((linesOf (ended a)).getLastD []).take [40, 99, 104, 101, 114, 114, 121, 32, 112, 105, 99, 107, 101, 100, 32, 102, 114, 111, 109, 32, 99, 111, 109, 109, 105, 116, 32].length == [40, 99, 104, 101, 114, 114, 121, 32, 112, 105, 99, 107, 101, 100, 32, 102, 114, 111, 109, 32, 99, 111, 109, 109, 105, 116, 32]) = true) : joinedQ a = true := by
  unfold joinedQ pickQ
  rw [show (((linesOf (ended a)).getLastD []).take 27 == [40, 99, 104, 101, 114, 114, 121, 32, 112, 105, 99, 107, 101, 100, 32, 102, 114, 111, 109, 32, 99, 111, 109, 109, 105, 116, 32]) = true from h, Bool.or_true]
theorem joined0 {a : List UInt8} (h0 : ¬ 0 < trailM a) (h : (((linesOf (ended a)).getLastD []).take [40, 99, 104, 101, 114, 114, 121, 32, 112, 105, 99, 107, 101, 100, 32, 102, 114, 111, 109, 32, 99, 111, 109, 109, 105, 116, 32].length == [40, 99, 104, 101, 114, 114, 121, 32, 112, 105, 99, 107, 101, 100, 32, 102, 114, 111, 109, 32, 99, 111, 109, 109, 105, 116, 32]) = false) : joinedQ a = false := by
  unfold joinedQ pickQ
  rw [show (((linesOf (ended a)).getLastD []).take 27 == [40, 99, 104, 101, 114, 114, 121, 32, 112, 105, 99, 107, 101, 100, 32, 102, 114, 111, 109, 32, 99, 111, 109, 109, 105, 116, 32]) = false from h, decide_eq_false h0]
  rfl
end By
end Mine
namespace Mine
namespace By
theorem pick_none {a oid : List UInt8} {n : Nat} (hz : n = (linesOf (ended a)).length) (h : n = 0) : pickQ ++ hexB oid ++ [41, 10] = pickB a oid := by
  have e : linesOf (ended a) = [] := List.eq_nil_of_length_eq_zero (by omega)
  unfold pickB
  rw [if_pos e]
  rfl
theorem pick_yes {a oid : List UInt8} {n : Nat} (hz : n = (linesOf (ended a)).length) (h : ¬ n = 0) (hj : joinedQ a = true) : ended a ++ [] ++ (pickQ ++ hexB oid ++ [41, 10]) = pickB a oid := by
  have e : linesOf (ended a) ≠ [] := fun e => by rw [e, List.length_nil] at hz; exact h hz
  unfold pickB
  rw [if_neg e, if_pos hj]
  rfl
theorem pick_no {a oid : List UInt8} {n : Nat} (hz : n = (linesOf (ended a)).length) (h : ¬ n = 0) (hj : joinedQ a = false) : ended a ++ [10] ++ (pickQ ++ hexB oid ++ [41, 10]) = pickB a oid := by
  have e : linesOf (ended a) ≠ [] := fun e => by rw [e, List.length_nil] at hz; exact h hz
  unfold pickB
  rw [if_neg e, if_neg (by rw [hj]; exact Bool.false_ne_true)]
  rfl
end By
end Mine
end
section
namespace Mine
def IsStep (news : List (Addr × Obj)) (c : Addr) (word : Str) (sign : List UInt8) : Prop :=
  ∃ dx es n t t2, (c, instObj 205 dx) ∈ news ∧ (dx, dictOf es n) ∈ news ∧ getL (Str.ofString "word") es = some (some (.str word t)) ∧ getL (Str.ofString "sign") es = some (some (.bytes sign.toArray t2))
theorem IsStep.sub {news news' : List (Addr × Obj)} {c : Addr} {word : Str} {sign : List UInt8} (h : IsStep news c word sign) (hs : ∀ p ∈ news, p ∈ news') : IsStep news' c word sign := by
  obtain ⟨dx, es, n, t, t2, h1, h2, h3⟩ := h
  exact ⟨dx, es, n, t, t2, hs _ h1, hs _ h2, h3⟩
set_option maxRecDepth 100000 in
theorem stp_word (w : World) : ∀ {A : Around} {E : Value → Shared → Prop} {s : Shared} {h₀ : Heap} {L c : Addr} {m : Str → Option Value} {news : List (Addr × Obj)} {word : Str} {sign : List UInt8} {expr : Bool} {Q : Value → Shared → Prop}, Fr h₀ L s.heap m → (hd.heap_1 w.params).In h₀ → News h₀ L s.heap news → IsStep news c word sign → (∀ t k, Q (.str word t) { s with toks := k }) →
    wpAny (model PySem.Challenge.rw_pb0111_01.row.prog w) A (getAttr (.ref c) (Str.ofString "word") expr) Q E s := by
  k_fill
  intro A E s h₀ L c m news word sign expr Q F X N hc h
  obtain ⟨dx, es, n, t, t2, h1, h2, h3, h4⟩ := hc
  exact get_own F X (InstAt.of_news N h1 h2) (by k_is) (by k_is) (by k_is) (by k_is) h3 rfl (h _ _)
set_option maxRecDepth 100000 in
theorem stp_sign (w : World) : ∀ {A : Around} {E : Value → Shared → Prop} {s : Shared} {h₀ : Heap} {L c : Addr} {m : Str → Option Value} {news : List (Addr × Obj)} {word : Str} {sign : List UInt8} {expr : Bool} {Q : Value → Shared → Prop}, Fr h₀ L s.heap m → (hd.heap_1 w.params).In h₀ → News h₀ L s.heap news → IsStep news c word sign → (∀ t k, Q (.bytes sign.toArray t) { s with toks := k }) →
    wpAny (model PySem.Challenge.rw_pb0111_01.row.prog w) A (getAttr (.ref c) (Str.ofString "sign") expr) Q E s := by
  k_fill
  intro A E s h₀ L c m news word sign expr Q F X N hc h
  obtain ⟨dx, es, n, t, t2, h1, h2, h3, h4⟩ := hc
  exact get_own F X (InstAt.of_news N h1 h2) (by k_is) (by k_is) (by k_is) (by k_is) h4 rfl (h _ _)
namespace By
def joinF (sign b a : List UInt8) : List UInt8 := if sign == [] then b else bareB a
def joinS (b a : List UInt8) : List UInt8 := if bareB a == [] then ended b else if ended b == [] then bareB a else ended b ++ [10] ++ bareB a
theorem joinF_no {sign b a : List UInt8} (h : (sign != []) = true) : bareB a = joinF sign b a := by
  unfold joinF
  rw [if_neg]
  intro h2
  rw [bne, h2] at h
  cases h
theorem joinF_yes {sign b a : List UInt8} (h : (sign != []) = false) : b = joinF sign b a := by
  unfold joinF
  rw [if_pos]
  cases e : sign == []
  · rw [bne, e] at h; cases h
  · rfl
theorem joinS1 {b a : List UInt8} (h : (bareB a == []) = true) : ended b = joinS b a := by unfold joinS; rw [if_pos h]
theorem joinS2 {b a : List UInt8} (h : (bareB a == []) = false) (h2 : (ended b == []) = true) : bareB a = joinS b a := by unfold joinS; rw [if_neg (by rw [h]; exact Bool.false_ne_true), if_pos h2]
theorem joinS3 {b a : List UInt8} (h : (bareB a == []) = false) (h2 : (ended b == []) = false) : ended b ++ [10] ++ bareB a = joinS b a := by unfold joinS; rw [if_neg (by rw [h]; exact Bool.false_ne_true), if_neg (by rw [h2]; exact Bool.false_ne_true)]
end By
end Mine
end
section
namespace Mine
def ComObj (a : List UInt8) (dx : Addr) (o p : Obj) : Prop := o = instObj 158 dx ∧ ∃ es n t, p = dictOf es n ∧ getL (Str.ofString "message") es = some (some (.bytes a.toArray t)) ∧ getL (Str.ofString "subject") es = some none
theorem IsCom.of {news : List (Addr × Obj)} {c dx : Addr} {o p : Obj} {a : List UInt8} (h : ComObj a dx o p) (h1 : (c, o) ∈ news) (h2 : (dx, p) ∈ news) : IsCom news c a := by
  obtain ⟨rfl, es, n, t, rfl, h3, h4⟩ := h
  exact ⟨dx, es, n, t, h1, h2, h3, h4⟩
end Mine
end
section
namespace Mine
theorem By.revH_len (s : List UInt8) : (By.revH s).length ≤ s.length + 18 := by
  unfold By.revH By.revQ By.reapQ
  split
  · simp only [List.length_append, List.length_cons, List.length_nil, List.length_drop]; omega
  · simp only [List.length_append, List.length_cons, List.length_nil]; omega
inductive ParV : Value → Option (List UInt8) → Prop
  | none : ParV .none none
  | some {pa : List UInt8} {t : Tok} (h : pa.length ≤ 64) : ParV (.bytes pa.toArray t) (some pa)
section
variable {prog : Program} {w : World} {A : Around} {E : Value → Shared → Prop} {s : Shared} {h₀ : Heap} {L : Addr} {m : Str → Option Value} {led : List (Addr × Obj)}
def JB (h₀ : Heap) (L : Addr) (m : Str → Option Value) (x : Str) (b : List UInt8) (led : List (Addr × Obj)) (s : Shared) (fl : Flow) (s' : Shared) : Prop :=
  fl = .next ∧ ∃ h tk t, s' = { s with heap := h, toks := tk } ∧ Fr h₀ L h (fun y => if y = x then some (.bytes b.toArray t) else m y) ∧ News h₀ L h led
theorem jb_join {Q : Flow → Shared → Prop} {x : Sem Flow} (y : Str) (b : List UInt8) (_F : Fr h₀ L s.heap m) (_N : News h₀ L s.heap led) (turn : wpAny (model prog w) A x (JB h₀ L m y b led s) E s)
    (fin : ∀ h tk t, Fr h₀ L h (fun z => if z = y then some (.bytes b.toArray t) else m z) → News h₀ L h led → Q .next { s with heap := h, toks := tk }) : wpAny (model prog w) A x Q E s :=
  wpAny_mono turn (fun fl s' hq => by
    obtain ⟨rfl, h, tk, t, rfl, F, N⟩ := hq
    exact fin h tk t F N) fun _ _ e => e
theorem JB.of {x : Str} {b b' : List UInt8} {h : Heap} {tk : Nat} {t : Tok} (e : b' = b) (F : Fr h₀ L h (fun y => if y = x then some (.bytes b'.toArray t) else m y)) (N : News h₀ L h led) : JB h₀ L m x b led s .next { s with heap := h, toks := tk } :=
  ⟨rfl, h, tk, t, rfl, e ▸ F, N⟩
def JV (h₀ : Heap) (L : Addr) (m : Str → Option Value) (b : List UInt8) (led : List (Addr × Obj)) (s : Shared) (v : Value) (s' : Shared) : Prop :=
  ∃ h tk t, v = .bytes b.toArray t ∧ s' = { s with heap := h, toks := tk } ∧ Fr h₀ L h m ∧ News h₀ L h led
theorem jv_join {Q : Value → Shared → Prop} {x : Sem Value} (b : List UInt8) (_F : Fr h₀ L s.heap m) (_N : News h₀ L s.heap led) (turn : wpAny (model prog w) A x (JV h₀ L m b led s) E s)
    (fin : ∀ h tk t, Fr h₀ L h m → News h₀ L h led → Q (.bytes b.toArray t) { s with heap := h, toks := tk }) : wpAny (model prog w) A x Q E s :=
  wpAny_mono turn (fun v s' hq => by
    obtain ⟨h, tk, t, rfl, rfl, F, N⟩ := hq
    exact fin h tk t F N) fun _ _ e => e
theorem JV.of {b b' : List UInt8} {h : Heap} {tk : Nat} {t : Tok} (e : b' = b) (F : Fr h₀ L h m) (N : News h₀ L h led) : JV h₀ L m b led s (.bytes b'.toArray t) { s with heap := h, toks := tk } :=
  ⟨h, tk, t, by rw [e], rfl, F, N⟩
def JVb (h₀ : Heap) (L : Addr) (m : Str → Option Value) (b : Bool) (led : List (Addr × Obj)) (s : Shared) (v : Value) (s' : Shared) : Prop :=
  ∃ h tk, v = .bool b ∧ s' = { s with heap := h, toks := tk } ∧ Fr h₀ L h m ∧ News h₀ L h led
theorem jvb_join {Q : Value → Shared → Prop} {x : Sem Value} (b : Bool) (_F : Fr h₀ L s.heap m) (_N : News h₀ L s.heap led) (turn : wpAny (model prog w) A x (JVb h₀ L m b led s) E s)
    (fin : ∀ h tk, Fr h₀ L h m → News h₀ L h led → Q (.bool b) { s with heap := h, toks := tk }) : wpAny (model prog w) A x Q E s :=
  wpAny_mono turn (fun v s' hq => by
    obtain ⟨h, tk, rfl, rfl, F, N⟩ := hq
    exact fin h tk F N) fun _ _ e => e
theorem JVb.of {b b' : Bool} {h : Heap} {tk : Nat} (e : b' = b) (F : Fr h₀ L h m) (N : News h₀ L h led) : JVb h₀ L m b led s (.bool b') { s with heap := h, toks := tk } :=
  ⟨h, tk, by rw [e], rfl, F, N⟩
end
end Mine
end
section
namespace Mine
inductive PassOk (a : List UInt8) (news : List (Addr × Obj)) (b : List UInt8) (tb : Tok) (fo : Option (Addr × Value × Value)) (ps : List (List UInt8)) : MarkS → Prop
  | no (h : ∀ m ∈ ps, (b.take m.length == m) = false) : PassOk a news b tb fo ps (b, tb, fo, false)
  | yes {b' : List UInt8} {t' : Tok} {q : Addr} {v1 v2 : Value} (hl : b'.length < b.length) (hm : By.marked a = true) (ho : LCg.Off1 q news) : PassOk a news b tb fo ps (b', t', some (q, v1, v2), true)
section
variable {a b : List UInt8} {news : List (Addr × Obj)} {tb : Tok} {fo : Option (Addr × Value × Value)} {ps : List (List UInt8)} {c : MarkS} {m : List UInt8}
theorem PassOk.start : PassOk a news b tb fo [] (b, tb, fo, false) := .no fun _ h => nomatch h
theorem PassOk.miss (h : PassOk a news b tb fo ps c) (hm : (c.1.take m.length == m) = false) : PassOk a news b tb fo (m :: ps) c := by
  cases h with
  | no h => exact .no (List.forall_mem_cons.mpr ⟨hm, h⟩)
  | yes h1 h2 h3 => exact .yes h1 h2 h3
theorem PassOk.len (h : PassOk a news b tb fo ps c) : c.1.length ≤ b.length := by
  cases h with
  | no h => exact Nat.le_refl _
  | yes h1 h2 h3 => exact Nat.le_of_lt h1
theorem PassOk.marked (h : PassOk a news b tb fo ps c) (hok : MarkS.ok a news (b, tb, fo, true)) (hh : (c.1.take m.length == m) = true) (hmk : ∀ x : List UInt8, (x.take m.length == m) = true → By.marked x = true) : By.marked a = true := by
  cases h with
  | no h =>
    obtain ⟨hl, hok⟩ := hok
    cases fo with
    | none =>
      have e : b = a := hok
      subst e
      exact hmk _ hh
    | some x => exact hok.1
  | yes h1 h2 h3 => exact h2
theorem PassOk.hit {b1 b' : List UInt8} {t1 t' : Tok} {fo1 : Option (Addr × Value × Value)} {mk1 : Bool} {q : Addr} {v1 v2 : Value} (h : PassOk a news b tb fo ps (b1, t1, fo1, mk1)) (hok : MarkS.ok a news (b, tb, fo, true)) (hh : (b1.take m.length == m) = true) (hmk : ∀ x : List UInt8, (x.take m.length == m) = true → By.marked x = true) (hm0 : 0 < m.length)
    (hb : b'.length ≤ b1.length - m.length) (ho : LCg.Off1 q news) : PassOk a news b tb fo (m :: ps) (b', t', some (q, v1, v2), true) := by
  have h1 : b1.length ≤ b.length := h.len
  have h2 := By.pre_len hh
  exact .yes (by omega) (h.marked hok hh hmk) ho
theorem PassOk.off {x : Addr × Value × Value} {b1 : List UInt8} {t1 : Tok} {mk1 : Bool} (h : PassOk a news b tb fo ps (b1, t1, some x, mk1)) (hok : MarkS.ok a news (b, tb, fo, true)) : LCg.Off1 x.1 news := by
  cases h with
  | no h => exact hok.2.2
  | yes h1 h2 h3 => exact h3
theorem PassOk.ok {m1 m2 m3 : List UInt8} (h : PassOk a news b tb fo [m3, m2, m1] c) (hok : MarkS.ok a news (b, tb, fo, true)) (hno : ∀ x : List UInt8, (x.take m1.length == m1) = false → (x.take m2.length == m2) = false → (x.take m3.length == m3) = false → By.marked x = false) : MarkS.ok a news c := by
  obtain ⟨hl, hok⟩ := hok
  cases h with
  | no h =>
    refine ⟨hl, ?_⟩
    cases fo with
    | none =>
      have e : b = a := hok
      subst e
      exact hno _ (h _ (.tail _ (.tail _ (.head _)))) (h _ (.tail _ (.head _))) (h _ (.head _))
    | some x => exact hok
  | yes h1 h2 h3 => exact ⟨Nat.le_trans (Nat.le_of_lt h1) hl, h2, h3⟩
theorem PassOk.mu (h : PassOk a news b tb fo ps c) : (fun c : MarkS => if c.2.2.2 then c.1.length + 1 else 0) c < (fun c : MarkS => if c.2.2.2 then c.1.length + 1 else 0) (b, tb, fo, true) := by
  cases h with
  | no h => exact Nat.succ_pos _
  | yes h1 h2 h3 => exact Nat.succ_lt_succ h1
end
section
variable {prog : Program} {w : World} {A : Around} {E : Value → Shared → Prop} {s : Shared} {h₀ : Heap} {L : Addr} {m : Str → Option Value} {news all : List (Addr × Obj)} {i : Addr} {o : Obj} {P : MarkS → Prop}
def JM (h₀ : Heap) (L : Addr) (m : Str → Option Value) (i : Addr) (o : Obj) (news : List (Addr × Obj)) (P : MarkS → Prop) (s : Shared) (fl : Flow) (s' : Shared) : Prop :=
  fl = .next ∧ ∃ h tk c, s' = { s with heap := h, toks := tk } ∧ Fr h₀ L h (fun y => if y = Str.ofString "is_marked" then some (.bool c.2.2.2) else if y = Str.ofString "found" then some (MarkS.val c) else if y = Str.ofString "subject" then some (.bytes c.1.toArray c.2.1) else m y) ∧ News h₀ L h ((i, o) :: MarkS.led news c) ∧ (∀ p ∈ MarkS.led news c, p.1 ≠ i) ∧ P c
theorem jm_join {Q : Flow → Shared → Prop} {x : Sem Flow} (P : MarkS → Prop) (_F : Fr h₀ L s.heap m) (_N : News h₀ L s.heap all) (c₀ : MarkS) (_sub : ∀ p ∈ (i, o) :: MarkS.led news c₀, p ∈ all) (turn : wpAny (model prog w) A x (JM h₀ L m i o news P s) E s)
    (fin : ∀ h tk b t fo mk, Fr h₀ L h (fun y => if y = Str.ofString "is_marked" then some (.bool mk) else if y = Str.ofString "found" then some (MarkS.val (b, t, fo, mk)) else if y = Str.ofString "subject" then some (.bytes b.toArray t) else m y) → News h₀ L h ((i, o) :: MarkS.led news (b, t, fo, mk)) → (∀ p ∈ MarkS.led news (b, t, fo, mk), p.1 ≠ i) → P (b, t, fo, mk) → Q .next { s with heap := h, toks := tk }) : wpAny (model prog w) A x Q E s :=
  wpAny_mono turn (fun fl s' hq => by
    obtain ⟨rfl, h, tk, ⟨b, t, fo, mk⟩, rfl, F, N, off, hp⟩ := hq
    exact fin h tk b t fo mk F N off hp) fun _ _ e => e
theorem JM.miss {h : Heap} {tk : Nat} {b : List UInt8} {t : Tok} {fo : Option (Addr × Value × Value)} {mk : Bool} (F : Fr h₀ L h m) (N : News h₀ L h all) (hk : ∀ p ∈ [(Str.ofString "is_marked", Value.bool mk), (Str.ofString "found", MarkS.val (b, t, fo, mk)), (Str.ofString "subject", Value.bytes b.toArray t)], m p.1 = some p.2)
    (sub : ∀ p ∈ (i, o) :: MarkS.led news (b, t, fo, mk), p ∈ all) (off : ∀ p ∈ MarkS.led news (b, t, fo, mk), p.1 ≠ i) (hp : P (b, t, fo, mk)) : JM h₀ L m i o news P s .next { s with heap := h, toks := tk } := by
  refine ⟨rfl, h, tk, (b, t, fo, mk), rfl, ?_, fun p hp => N p (sub p hp), off, hp⟩
  have e : (fun y => if y = Str.ofString "is_marked" then some (.bool mk) else if y = Str.ofString "found" then some (MarkS.val (b, t, fo, mk)) else if y = Str.ofString "subject" then some (.bytes b.toArray t) else m y) = m := by
    funext y
    split
    · rename_i e; rw [e]; exact (hk _ (.head _)).symm
    · split
      · rename_i e; rw [e]; exact (hk _ (.tail _ (.head _))).symm
      · split
        · rename_i e; rw [e]; exact (hk _ (.tail _ (.tail _ (.head _)))).symm
        · rfl
  exact (congrArg (Fr h₀ L h) e).mpr F
theorem JM.hit {h : Heap} {tk : Nat} {b : List UInt8} {t : Tok} {q : Addr} {v1 v2 : Value} (F : Fr h₀ L h (fun y => if y = Str.ofString "is_marked" then some (.bool true) else if y = Str.ofString "found" then some (.ref q) else if y = Str.ofString "subject" then some (.bytes b.toArray t) else m y)) (N : News h₀ L h all)
    (sub : ∀ p ∈ (i, o) :: (q, tupO [v1, v2]) :: news, p ∈ all) (off : ∀ p ∈ (q, tupO [v1, v2]) :: news, p.1 ≠ i) (hp : P (b, t, some (q, v1, v2), true)) : JM h₀ L m i o news P s .next { s with heap := h, toks := tk } :=
  ⟨rfl, h, tk, (b, t, some (q, v1, v2), true), rfl, F, fun p hp => N p (sub p hp), off, hp⟩
end
end Mine
end
section
namespace Mine
def IsDeck (w : World) (d l : Addr) (od ol : Obj) : Prop :=
  ∃ (vs : List Value) (k : Nat) (ns : List Int) (mx : Int) (t : Tok), od.IsDictOf (PySem.strKind PySem.Challenge.rw_pb0111_01.row.prog w) [(Str.ofString "left", .ref l), (Str.ofString "mixed", .int mx t)] ∧ ol = listOf vs.toArray k ∧ IntsAre vs ns ∧ vs.length ≤ 63 ∧ (d == sysModules) = false ∧ d ≠ l
def RDraw (w : World) (d l : Addr) (many : Int) (news : List (Addr × Obj)) (v : Value) (news' : List (Addr × Obj)) : Prop :=
  ∃ (r : Int) (t : Tok) (od ol : Obj), v = .int r t ∧ 0 ≤ r ∧ r < many ∧ news' = (d, od) :: (l, ol) :: news ∧ IsDeck w d l od ol
end Mine
namespace Mine
section
variable {prog : Program} {w : World} {A : Around} {E : Value → Shared → Prop} {s : Shared} {h₀ : Heap} {L l : Addr} {m : Str → Option Value} {news news' : List (Addr × Obj)} {n : Nat} {u : Tok}
theorem pop0K {vs : List Value} {ns : List Int} {Q : Value → Shared → Prop} (F : Fr h₀ L s.heap m) (N : News h₀ L s.heap news) (U : Upd l (listOf vs.toArray n) (listOf vs.tail.toArray (n + 1)) news news') (hi : IntsAre vs ns) (hne : 0 < vs.length) (hz : vs.length ≤ 16777216)
    (h : ∀ h' x t, Fr h₀ L h' m → News h₀ L h' news' → IntsAre vs.tail ns.tail → Q (.int x t) { s with heap := h' }) : wpAny (model prog w) A (call (.builtin "list.pop") [.ref l, .int 0 u]) Q E s := by
  cases hi with
  | nil => exact absurd hne (Nat.lt_irrefl 0)
  | cons k t r =>
    rename_i vs' ns'
    refine kl_popAt (k := 0) (p := []) (q := vs') (y := .int k t) F N rfl ?_ rfl U ?_ fun h' F' N' => h h' k t F' N' r
    · exact seqIndex_of (by decide) (by rw [List.size_toArray, List.length_cons]; omega)
    · rw [sizeLine_eq]; exact hz
theorem IsDeck.make {w : World} {d l : Addr} {od : Obj} {vs : List Value} {k : Nat} {ns : List Int} {mx : Int} {t : Tok} (h : od.IsDictOf (PySem.strKind PySem.Challenge.rw_pb0111_01.row.prog w) [(Str.ofString "left", .ref l), (Str.ofString "mixed", .int mx t)]) (hi : IntsAre vs ns) (hl : vs.length ≤ 63) (hs : (d == sysModules) = false) (hd : d ≠ l) : IsDeck w d l od (listOf vs.toArray k) :=
  ⟨vs, k, ns, mx, t, h, rfl, hi, hl, hs, hd⟩
end
end Mine
end
section
namespace Mine
end Mine
end
local macro_rules | `(tactic| walk_at "my cell_enterC") => `(tactic| (refine' code_defC ?k1 ?k2 ?k3 ?k4 ?k5 ?kA ?kF ?kK ?k6 ?k7 ?k8 ?k9 ?kB ?kD ?_ ?c2 ?c3 ?c4; (case kA => exact rfl); (case kF => exact rfl); (case kK => assumption); (case k1 => k_asm); (case k2 => k_asm); (case k3 => k_asm); (case k4 => k_asm); (case k5 => k_asm); (case k6 => k_is); (case k7 => k_is); (case k8 => ktr_room); (case k9 => exact BindsTo.of_eq rfl); (case kB => exact rfl); (case kD => decide +kernel); (case c2 => exact rfl); (case c3 => exact rfl); (case c4 => exact rfl); k_whole; intro g' L' h' tk' cells' FG' F' N' Y' B' X' T' l1; (try k_lt l1); k_cells Y'; (try simp only [List.cons_append, List.nil_append] at N'); (try dsimp only); (try k_lift B'); (try k_fold)))
section
namespace Mine
end Mine
namespace Mine
theorem ne_cell {news : List (Addr × Obj)} {L : Addr} (h : ∀ p ∈ news, p.1 < L) : ∀ p ∈ news, p.1 ≠ L + 1 := fun p hp => Nat.ne_of_lt (Nat.lt_succ_of_lt (h p hp))
end Mine
namespace Mine
theorem ListComp_WF {prog : Program} {w : World} {A : Around} {E : Value → Shared → Prop} {s : Shared} {h₀ : Heap} {L : Addr} {m : Str → Option Value} {env : Env} {elt iter : Expr} {x : Str} {px : Pos} {scope : Scope} {cl : List (Str × Addr)} {pos : Pos} {Q : Value → Shared → Prop} (_F₀ : Fr h₀ L s.heap m)
    (hclos : closureFor scope env = pure cl) (hcell : ∀ y ∈ scope.names, y.2 ≠ .cell) (hkind : scope.kind = .function)
    (hnames : ∀ y ∈ scope.names, y.2 = .local → scope.names.lookup y.1 = some .local) (hx : scope.names.lookup x = some .local)
    (h : wpAny (model prog w) A (eval iter env) (SrcW prog w A h₀ L m env elt x scope cl (fun s₂ => LCg.FinE h₀ L m s₂ Q)) E s)
    (hs : ∀ x, foldedSetIterable iter env x = pure x := by intro _; rfl) :
    wpAny (model prog w) A (eval (.ListComp elt [⟨.Name x px, iter, [], 0⟩] scope pos) env) Q E s := ListComp_W hclos hcell hkind hnames hx h hs
end Mine
namespace Mine
theorem Rel2.bs {α : Type} {f : α → List UInt8} : ∀ {as : List α} {vs : List Value}, Rel2 (fun c v => ∃ t, v = .bytes (f c).toArray t) as vs → BsAre vs (as.map f)
  | _, _, .nil => .nil
  | _, _, .cons h t => by
    obtain ⟨u, rfl⟩ := h
    exact .cons u t.bs
namespace By
def hex2 (c : UInt8) : List UInt8 := [(hexd (c.toNat / 16)).toUInt8, (hexd (c.toNat % 16)).toUInt8]
theorem join_hex2 (a : List UInt8) : joinB [] (a.map hex2) = hexB a := by
  rw [joinB_nil]
  induction a with
  | nil => rfl
  | cons c r ih =>
    unfold hexB hexCodes at ih ⊢
    rw [List.map_cons, List.flatten_cons, ih, List.flatMap_cons, List.map_append]
    rfl
theorem hexB_len (a : List UInt8) : (hexB a).length = 2 * a.length := by unfold hexB; rw [List.length_map, hexCodes_len]
def figB : List UInt8 := [48, 49, 50, 51, 52, 53, 54, 55, 56, 57, 97, 98, 99, 100, 101, 102]
theorem fig_at : ∀ k : Nat, k < 16 → (figB.getD k 0).toNat = hexd k := by decide
end By
section
variable {prog : Program} {w : World} {A : Around} {E : Value → Shared → Prop} {s : Shared} {t u : Tok} {Q : Value → Shared → Prop} {value slice : Expr} {y : UInt8}
theorem fig_hi (h : ∀ t' k, Q (.int (By.hexd (y.toNat / 16) : Nat) t') { s with toks := k })
    (hs : ∀ k, subscripted slice false (.bytes By.figB.toArray t) (.int k u) = operate [.bytes By.figB.toArray t, .int k u] (getItem (.bytes By.figB.toArray t) (.int k u)) := by with_unfolding_all (intro _; rfl))
    (ht : ∀ r, letTemporaryGo value (.bytes By.figB.toArray t) r = pure () := by intro _; with_unfolding_all rfl) :
    wpAny (model prog w) A (subscriptTail value slice (.bytes By.figB.toArray t) (.int ((y.toNat : Int).fdiv 16) u)) Q E s := by
  have hy := y.toNat_lt
  have e : (y.toNat : Int).fdiv 16 = ((y.toNat / 16 : Nat) : Int) := by
    rw [Int.fdiv_eq_ediv_of_nonneg _ (by decide)]
    rfl
  rw [e]
  refine By.item_B (by decide) (by omega) (by show _ < ((16 : Nat) : Int); omega) (fun t' k => ?_) (hs _) ht
  rw [Int.toNat_natCast, By.fig_at _ (by omega)]
  exact h t' k
theorem fig_lo (h : ∀ t' k, Q (.int (By.hexd (y.toNat % 16) : Nat) t') { s with toks := k })
    (hs : ∀ k, subscripted slice false (.bytes By.figB.toArray t) (.int k u) = operate [.bytes By.figB.toArray t, .int k u] (getItem (.bytes By.figB.toArray t) (.int k u)) := by with_unfolding_all (intro _; rfl))
    (ht : ∀ r, letTemporaryGo value (.bytes By.figB.toArray t) r = pure () := by intro _; with_unfolding_all rfl) :
    wpAny (model prog w) A (subscriptTail value slice (.bytes By.figB.toArray t) (.int ((y.toNat : Int).fmod 16) u)) Q E s := by
  have hy := y.toNat_lt
  have e : (y.toNat : Int).fmod 16 = ((y.toNat % 16 : Nat) : Int) := by
    rw [Int.fmod_eq_emod_of_nonneg _ (by decide)]
    rfl
  rw [e]
  refine By.item_B (by decide) (by omega) (by show _ < ((16 : Nat) : Int); omega) (fun t' k => ?_) (hs _) ht
  rw [Int.toNat_natCast, By.fig_at _ (by omega)]
  exact h t' k
theorem bytes_two {h₀ : Heap} {L D : Addr} {m : Str → Option Value} {news : List (Addr × Obj)} {n : Nat} {c1 c2 : Nat} {t1 t2 : Tok} (F : Fr h₀ L s.heap m) (N : News h₀ L s.heap news) (hh : A.handled = none) (hm : (D, listOf #[.int (c1 : Int) t1, .int (c2 : Int) t2] n) ∈ news) (h1 : c1 < 256) (h2 : c2 < 256)
    (h : ∀ h' t' k, Fr h₀ L h' m → News h₀ L h' news → Q (.bytes [c1.toUInt8, c2.toUInt8].toArray t') { s with heap := h', toks := k }) : wpAny (model prog w) A (call (.type "bytes") [.ref D]) Q E s :=
  bytes_nats (cs := [c1, c2]) (vs := [.int (c1 : Int) t1, .int (c2 : Int) t2]) F N hh hm (.cons ⟨_, rfl⟩ (.cons ⟨_, rfl⟩ .nil)) (by intro k hk; simp only [List.mem_cons, List.not_mem_nil, or_false] at hk; rcases hk with rfl | rfl <;> assumption) (by show 2 ≤ 4096; decide) h
end
end Mine
end
section
namespace Mine
namespace By
def lend (rs : List (List UInt8)) : List UInt8 := ((tcut (hcut (rs.map (rcut [32, 9, 13])))).map (· ++ [10])).flatten
theorem lend_len (rs : List (List UInt8)) : (lend rs).length ≤ (rs.map List.length).sum + rs.length := by
  unfold lend
  rw [feeds_len]
  have s1 : (tcut (hcut (rs.map (rcut [32, 9, 13])))).Sublist (rs.map (rcut [32, 9, 13])) := (tcut_pre _).sublist.trans (hcut_suf _).sublist
  have h1 := sum_le_of_sublist s1
  have h2 := rcut_sum [32, 9, 13] rs
  have h3 := s1.length_le
  rw [List.length_map] at h3
  omega
theorem sum_short {n : Nat} : ∀ {rs : List (List UInt8)}, Short n rs → (rs.map List.length).sum ≤ n * rs.length
  | [], _ => Nat.zero_le _
  | r :: t, h => by
    have ih := sum_short (fun c hc => h c (.tail _ hc) : Short n t)
    have h1 := h r (.head _)
    rw [List.map_cons, List.sum_cons, List.length_cons, Nat.mul_succ]
    omega
theorem dropLast_sl {α : Type} {b : List α} (h : 0 < b.length) : sl b none (some (-1)) = b.dropLast := by
  unfold sl
  rw [List.dropLast_eq_take]
  show ((b.take (clipAt b.length (-1))).drop 0) = _
  rw [clip_neg (by decide)]
  rfl
end By
end Mine
end
section
namespace Mine
def KTup (w : World) (q : Addr) (bs : List (List UInt8)) : Prop := ∃ ts : List Value, BsAre ts bs ∧ (hd.heap_1 w.params).lookup q = some { cls := .type "tuple", data := .seq ts.toArray }
namespace By
def subjects : List (List (List UInt8)) := [[[97, 100, 100, 32, 97, 32, 116, 104, 105, 110, 103]], [[102, 105, 114, 115, 116, 32, 114, 111, 119], [115, 101, 99, 111, 110, 100, 32, 114, 111, 119]], [[82, 101, 118, 101, 114, 116, 32, 34, 97, 100, 100, 32, 97, 34]], [[82, 101, 118, 101, 114, 116, 32, 34, 82, 101, 118, 101, 114, 116, 32, 34, 120, 34, 34]], [[82, 101, 97, 112, 112, 108, 121, 32, 34, 120, 34]], [[102, 105, 120, 117, 112, 33, 32, 97, 100, 100, 32, 97, 32, 116, 104, 105, 110, 103]], [[115, 113, 117, 97, 115, 104, 33, 32, 116, 119, 111], [114, 111, 119, 115]], [[97, 109, 101, 110, 100, 33, 32, 105, 116]], [[102, 105, 120, 117, 112, 33, 110, 111, 110, 101]], [[82, 101, 118, 101, 114, 116, 32, 34, 110, 111, 32, 101, 110, 100]]]
def parts : List (List (List UInt8)) := [[[109, 111, 114, 101, 32, 116, 101, 120, 116]], [[115, 111, 109, 101, 32, 114, 111, 119, 115], [111, 102, 32, 97, 32, 112, 97, 114, 116, 32, 32]], [[119, 105, 116, 104, 32, 97, 32, 116, 97, 98, 9], [], [97, 110, 100, 32, 111, 110, 101, 32, 102, 117, 114, 116, 104, 101, 114]]]
def ends : List (List (List UInt8)) := [[], [[83, 105, 103, 110, 101, 100, 45, 111, 102, 102, 45, 98, 121, 58, 32, 65, 32, 60, 97, 64, 98, 62]], [[65, 99, 107, 101, 100, 45, 98, 121, 58, 32, 66], [83, 105, 103, 110, 101, 100, 45, 111, 102, 102, 45, 98, 121, 58, 32, 65, 32, 60, 97, 64, 98, 62]], [[40, 99, 104, 101, 114, 114, 121, 32, 112, 105, 99, 107, 101, 100, 32, 102, 114, 111, 109, 32, 99, 111, 109, 109, 105, 116, 32, 48, 49, 48, 50, 41]]]
end By
set_option maxRecDepth 100000 in
theorem ktup_250 (w : World) : (∀ p : Program, p = PySem.Challenge.rw_pb0111_01.row.prog → KTup w 250 [[97, 100, 100, 32, 97, 32, 116, 104, 105, 110, 103]]) := by
  unfold KTup
  k_fill
  intro p _
  exact ⟨[.bytes (List.toArray [97, 100, 100, 32, 97, 32, 116, 104, 105, 110, 103]) 557], .cons _ (.nil), by k_is⟩
set_option maxRecDepth 100000 in
theorem ktup_251 (w : World) : (∀ p : Program, p = PySem.Challenge.rw_pb0111_01.row.prog → KTup w 251 [[102, 105, 114, 115, 116, 32, 114, 111, 119], [115, 101, 99, 111, 110, 100, 32, 114, 111, 119]]) := by
  unfold KTup
  k_fill
  intro p _
  exact ⟨[.bytes (List.toArray [102, 105, 114, 115, 116, 32, 114, 111, 119]) 558, .bytes (List.toArray [115, 101, 99, 111, 110, 100, 32, 114, 111, 119]) 559], .cons _ (.cons _ (.nil)), by k_is⟩
set_option maxRecDepth 100000 in
theorem ktup_252 (w : World) : (∀ p : Program, p = PySem.Challenge.rw_pb0111_01.row.prog → KTup w 252 [[82, 101, 118, 101, 114, 116, 32, 34, 97, 100, 100, 32, 97, 34]]) := by
  unfold KTup
  k_fill
  intro p _
  exact ⟨[.bytes (List.toArray [82, 101, 118, 101, 114, 116, 32, 34, 97, 100, 100, 32, 97, 34]) 560], .cons _ (.nil), by k_is⟩
set_option maxRecDepth 100000 in
theorem ktup_253 (w : World) : (∀ p : Program, p = PySem.Challenge.rw_pb0111_01.row.prog → KTup w 253 [[82, 101, 118, 101, 114, 116, 32, 34, 82, 101, 118, 101, 114, 116, 32, 34, 120, 34, 34]]) := by
  unfold KTup
  k_fill
  intro p _
  exact ⟨[.bytes (List.toArray [82, 101, 118, 101, 114, 116, 32, 34, 82, 101, 118, 101, 114, 116, 32, 34, 120, 34, 34]) 561], .cons _ (.nil), by k_is⟩
set_option maxRecDepth 100000 in
theorem ktup_254 (w : World) : (∀ p : Program, p = PySem.Challenge.rw_pb0111_01.row.prog → KTup w 254 [[82, 101, 97, 112, 112, 108, 121, 32, 34, 120, 34]]) := by
  unfold KTup
  k_fill
  intro p _
  exact ⟨[.bytes (List.toArray [82, 101, 97, 112, 112, 108, 121, 32, 34, 120, 34]) 562], .cons _ (.nil), by k_is⟩
set_option maxRecDepth 100000 in
theorem ktup_255 (w : World) : (∀ p : Program, p = PySem.Challenge.rw_pb0111_01.row.prog → KTup w 255 [[102, 105, 120, 117, 112, 33, 32, 97, 100, 100, 32, 97, 32, 116, 104, 105, 110, 103]]) := by
  unfold KTup
  k_fill
  intro p _
  exact ⟨[.bytes (List.toArray [102, 105, 120, 117, 112, 33, 32, 97, 100, 100, 32, 97, 32, 116, 104, 105, 110, 103]) 563], .cons _ (.nil), by k_is⟩
set_option maxRecDepth 100000 in
theorem ktup_256 (w : World) : (∀ p : Program, p = PySem.Challenge.rw_pb0111_01.row.prog → KTup w 256 [[115, 113, 117, 97, 115, 104, 33, 32, 116, 119, 111], [114, 111, 119, 115]]) := by
  unfold KTup
  k_fill
  intro p _
  exact ⟨[.bytes (List.toArray [115, 113, 117, 97, 115, 104, 33, 32, 116, 119, 111]) 564, .bytes (List.toArray [114, 111, 119, 115]) 565], .cons _ (.cons _ (.nil)), by k_is⟩
set_option maxRecDepth 100000 in
theorem ktup_257 (w : World) : (∀ p : Program, p = PySem.Challenge.rw_pb0111_01.row.prog → KTup w 257 [[97, 109, 101, 110, 100, 33, 32, 105, 116]]) := by
  unfold KTup
  k_fill
  intro p _
  exact ⟨[.bytes (List.toArray [97, 109, 101, 110, 100, 33, 32, 105, 116]) 566], .cons _ (.nil), by k_is⟩
set_option maxRecDepth 100000 in
theorem ktup_258 (w : World) : (∀ p : Program, p = PySem.Challenge.rw_pb0111_01.row.prog → KTup w 258 [[102, 105, 120, 117, 112, 33, 110, 111, 110, 101]]) := by
  unfold KTup
  k_fill
  intro p _
  exact ⟨[.bytes (List.toArray [102, 105, 120, 117, 112, 33, 110, 111, 110, 101]) 567], .cons _ (.nil), by k_is⟩
set_option maxRecDepth 100000 in
theorem ktup_259 (w : World) : (∀ p : Program, p = PySem.Challenge.rw_pb0111_01.row.prog → KTup w 259 [[82, 101, 118, 101, 114, 116, 32, 34, 110, 111, 32, 101, 110, 100]]) := by
  unfold KTup
  k_fill
  intro p _
  exact ⟨[.bytes (List.toArray [82, 101, 118, 101, 114, 116, 32, 34, 110, 111, 32, 101, 110, 100]) 568], .cons _ (.nil), by k_is⟩
set_option maxRecDepth 100000 in
theorem ktup_261 (w : World) : (∀ p : Program, p = PySem.Challenge.rw_pb0111_01.row.prog → KTup w 261 [[109, 111, 114, 101, 32, 116, 101, 120, 116]]) := by
  unfold KTup
  k_fill
  intro p _
  exact ⟨[.bytes (List.toArray [109, 111, 114, 101, 32, 116, 101, 120, 116]) 570], .cons _ (.nil), by k_is⟩
set_option maxRecDepth 100000 in
theorem ktup_262 (w : World) : (∀ p : Program, p = PySem.Challenge.rw_pb0111_01.row.prog → KTup w 262 [[115, 111, 109, 101, 32, 114, 111, 119, 115], [111, 102, 32, 97, 32, 112, 97, 114, 116, 32, 32]]) := by
  unfold KTup
  k_fill
  intro p _
  exact ⟨[.bytes (List.toArray [115, 111, 109, 101, 32, 114, 111, 119, 115]) 571, .bytes (List.toArray [111, 102, 32, 97, 32, 112, 97, 114, 116, 32, 32]) 572], .cons _ (.cons _ (.nil)), by k_is⟩
set_option maxRecDepth 100000 in
theorem ktup_263 (w : World) : (∀ p : Program, p = PySem.Challenge.rw_pb0111_01.row.prog → KTup w 263 [[119, 105, 116, 104, 32, 97, 32, 116, 97, 98, 9], [], [97, 110, 100, 32, 111, 110, 101, 32, 102, 117, 114, 116, 104, 101, 114]]) := by
  unfold KTup
  k_fill
  intro p _
  exact ⟨[.bytes (List.toArray [119, 105, 116, 104, 32, 97, 32, 116, 97, 98, 9]) 573, .bytes (List.toArray []) 574, .bytes (List.toArray [97, 110, 100, 32, 111, 110, 101, 32, 102, 117, 114, 116, 104, 101, 114]) 575], .cons _ (.cons _ (.cons _ (.nil))), by k_is⟩
set_option maxRecDepth 100000 in
theorem ktup_265 (w : World) : (∀ p : Program, p = PySem.Challenge.rw_pb0111_01.row.prog → KTup w 265 []) := by
  unfold KTup
  k_fill
  intro p _
  exact ⟨[], .nil, by k_is⟩
set_option maxRecDepth 100000 in
theorem ktup_266 (w : World) : (∀ p : Program, p = PySem.Challenge.rw_pb0111_01.row.prog → KTup w 266 [[83, 105, 103, 110, 101, 100, 45, 111, 102, 102, 45, 98, 121, 58, 32, 65, 32, 60, 97, 64, 98, 62]]) := by
  unfold KTup
  k_fill
  intro p _
  exact ⟨[.bytes (List.toArray [83, 105, 103, 110, 101, 100, 45, 111, 102, 102, 45, 98, 121, 58, 32, 65, 32, 60, 97, 64, 98, 62]) 577], .cons _ (.nil), by k_is⟩
set_option maxRecDepth 100000 in
theorem ktup_267 (w : World) : (∀ p : Program, p = PySem.Challenge.rw_pb0111_01.row.prog → KTup w 267 [[65, 99, 107, 101, 100, 45, 98, 121, 58, 32, 66], [83, 105, 103, 110, 101, 100, 45, 111, 102, 102, 45, 98, 121, 58, 32, 65, 32, 60, 97, 64, 98, 62]]) := by
  unfold KTup
  k_fill
  intro p _
  exact ⟨[.bytes (List.toArray [65, 99, 107, 101, 100, 45, 98, 121, 58, 32, 66]) 578, .bytes (List.toArray [83, 105, 103, 110, 101, 100, 45, 111, 102, 102, 45, 98, 121, 58, 32, 65, 32, 60, 97, 64, 98, 62]) 579], .cons _ (.cons _ (.nil)), by k_is⟩
set_option maxRecDepth 100000 in
theorem ktup_268 (w : World) : (∀ p : Program, p = PySem.Challenge.rw_pb0111_01.row.prog → KTup w 268 [[40, 99, 104, 101, 114, 114, 121, 32, 112, 105, 99, 107, 101, 100, 32, 102, 114, 111, 109, 32, 99, 111, 109, 109, 105, 116, 32, 48, 49, 48, 50, 41]]) := by
  unfold KTup
  k_fill
  intro p _
  exact ⟨[.bytes (List.toArray [40, 99, 104, 101, 114, 114, 121, 32, 112, 105, 99, 107, 101, 100, 32, 102, 114, 111, 109, 32, 99, 111, 109, 109, 105, 116, 32, 48, 49, 48, 50, 41]) 580], .cons _ (.nil), by k_is⟩
end Mine
end
section
namespace Mine
section
variable {prog : Program} {w : World} {A : Around} {E : Value → Shared → Prop} {s : Shared} {h₀ : Heap} {L a b q : Addr} {m : Str → Option Value} {news news' : List (Addr × Obj)} {vs ws : List Value} {bs cs : List (List UInt8)} {n n2 : Nat} {Q : Value → Shared → Prop}
theorem BsAre.rep {x : List UInt8} {t : Tok} : ∀ k : Nat, BsAre (List.replicate k [(.bytes x.toArray t : Value)]).flatten (List.replicate k x)
  | 0 => .nil
  | k + 1 => by
    rw [List.replicate_succ, List.replicate_succ, List.flatten_cons]
    exact .cons t (BsAre.rep k)
theorem add_L (F : Fr h₀ L s.heap m) (N : News h₀ L s.heap news) (ha : (a, listOf vs.toArray n) ∈ news) (hb : (b, listOf ws.toArray n2) ∈ news) (h1 : BsAre vs bs) (h2 : BsAre ws cs) (hz : bs.length + cs.length ≤ 16777216)
    (h : ∀ D us h', Fr h₀ L h' m → News h₀ L h' ((D, listOf us.toArray 0) :: news) → (∀ p ∈ news, p.1 < D) → BsAre us (bs ++ cs) → Q (.ref D) { s with heap := h' }) : wpAny (model prog w) A (binaryOp .Add (.ref a) (.ref b)) Q E s := by
  refine kmk_add_lit (zs := vs ++ ws) F N (N.isList ha) (N.isList hb) (by simp) (fun D h' F' N' l1 => h D _ h' F' N' l1 (h1.append h2)) ?_
  rw [sizeLine_eq]
  have := h1.length
  have := h2.length
  simp
  omega
theorem mul_L {x : Int} {u : Tok} (F : Fr h₀ L s.heap m) (N : News h₀ L s.heap news) (ha : (a, listOf #[.bytes #[] t] n) ∈ news) (h0 : 0 ≤ x) (h1 : x ≤ 100)
    (h : ∀ D us h', Fr h₀ L h' m → News h₀ L h' ((D, listOf us.toArray 0) :: news) → (∀ p ∈ news, p.1 < D) → BsAre us (List.replicate x.toNat []) → Q (.ref D) { s with heap := h' }) : wpAny (model prog w) A (binaryOp .Mult (.ref a) (.int x u)) Q E s :=
  KMa.mul (vs := [.bytes #[] t]) F N (N.isList ha) (by omega) (by omega) (by rw [List.length_singleton]; omega) rfl fun D h' F' N' l1 => h D _ h' F' N' l1 (BsAre.rep (x := []) _)
theorem ext_L (F : Fr h₀ L s.heap m) (N : News h₀ L s.heap news) (hb : (b, listOf ws.toArray n2) ∈ news) (h1 : BsAre vs bs) (h2 : BsAre ws cs) (hne : 0 < cs.length) (hz : bs.length + cs.length ≤ 10000)
    (U : Upd a (listOf vs.toArray n) (listOf (vs ++ ws).toArray (n + 1)) news news')
    (h : ∀ h', Fr h₀ L h' m → News h₀ L h' news' → BsAre (vs ++ ws) (bs ++ cs) → Q .none { s with heap := h' }) : wpAny (model prog w) A (call (.builtin "list.extend") [.ref a, .ref b]) Q E s := by
  have e1 := h1.length
  have e2 := h2.length
  refine kl_extend F N hb (by simp) (by show ws.length ≠ 0; omega) U ?_ ?_ ?_ fun h' F' N' => h h' F' N' (h1.append h2)
  · simp [Builtin.List.listTooLong, sizeLine]; omega
  · rw [sizeLine_eq]; show vs.length ≤ _; omega
  · rw [sizeLine_eq, List.size_toArray, List.size_toArray]; omega
theorem ext_T {news' : List Value → List (Addr × Obj)} (F : Fr h₀ L s.heap m) (N : News h₀ L s.heap news) (X : (hd.heap_1 w.params).In h₀) (hq : KTup w q cs) (h1 : BsAre vs bs) (hne : 0 < cs.length) (hz : bs.length + cs.length ≤ 10000)
    (U : ∀ ws, Upd a (listOf vs.toArray n) (listOf (vs ++ ws).toArray (n + 1)) news (news' ws))
    (h : ∀ ws h', Fr h₀ L h' m → News h₀ L h' (news' ws) → BsAre (vs ++ ws) (bs ++ cs) → Q .none { s with heap := h' }) : wpAny (model prog w) A (call (.builtin "list.extend") [.ref a, .ref q]) Q E s := by
  obtain ⟨ts, h2, e⟩ := hq
  have e1 := h1.length
  have e2 := h2.length
  have hg : s.heap.get? q = some { cls := .type "tuple", data := .seq ts.toArray } := F.keep _ _ (X _ _ e)
  obtain ⟨pre, post, rfl, e3, x, c⟩ := (U ts).split
  have z := N (a, listOf vs.toArray n) (List.mem_append.mpr (.inr (.head _)))
  refine call_meets PySem.F.slot_list_extend ⟨_, z.1, rfl⟩ PySem.F.entry_list_extend (PySem.F.args_list_extend_2 _ _) (PySem.AutoSeq1.list_extend_list_tuple_0 a vs.toArray n q ts.toArray 0 ?_ ?_ ?_) ⟨z.1, hg, h ts _ (F.change (Heap.SameBut.update ..) z.2.1 z.2.2) ?_ (h1.append h2)⟩
  · simp [Builtin.List.listTooLong, sizeLine]; omega
  · rw [sizeLine_eq, List.size_toArray]; omega
  · rw [sizeLine_eq, List.size_toArray, List.size_toArray]; omega
  · rw [e3]
    refine kl_turn _ N x c ?_ ?_
    · apply Array.toList_inj.mp
      simp
    · simp
      intro hh
      rw [hh] at e2
      simp at e2
      omega
theorem list_T (F : Fr h₀ L s.heap m) (N : News h₀ L s.heap news) (X : (hd.heap_1 w.params).In h₀) (hq : KTup w q cs) (hz : cs.length ≤ 10000)
    (h : ∀ D us k h', Fr h₀ L h' m → News h₀ L h' ((D, listOf us.toArray k) :: news) → (∀ p ∈ news, p.1 < D) → BsAre us cs → Q (.ref D) { s with heap := h' }) : wpAny (model prog w) A (call (.type "list") [.ref q]) Q E s := by
  obtain ⟨ts, h2, e⟩ := hq
  have e2 := h2.length
  exact list_copyKT F N ⟨_, F.keep _ _ (X _ _ e), rfl, _, rfl⟩ (fun D c h' F' N' l1 => h D ts c h' F' N' l1 h2) (by rw [sizeLine_eq, List.size_toArray]; omega)
theorem len_T (F : Fr h₀ L s.heap m) (X : (hd.heap_1 w.params).In h₀) (hq : KTup w q cs) (hz : cs.length ≤ 10000) (h : ∀ t' k, Q (.int (cs.length : Int) t') { s with toks := k }) : wpAny (model prog w) A (call (.builtin "len") [.ref q]) Q E s := by
  obtain ⟨ts, h2, e⟩ := hq
  have e2 := h2.length
  refine len_tuple ⟨_, F.keep _ _ (X _ _ e), rfl, _, rfl⟩ (by rw [List.size_toArray]; omega) ?_
  rw [List.size_toArray, e2]
  exact h _ _
theorem ne_T (F : Fr h₀ L s.heap m) (X : (hd.heap_1 w.params).In h₀) (hq : KTup w q cs) (hb : s.heap.IsTuple b ([] : List Value).toArray) (hu : A.units < cLine) (h : Q (.bool (decide (0 < cs.length))) s) :
    wpAny (model prog w) A (compareOp .NotEq (.ref q) (.ref b)) Q E s := by
  obtain ⟨ts, h2, e⟩ := hq
  have e2 := h2.length
  have h1 : s.heap.IsTuple q ts.toArray := ⟨_, F.keep _ _ (X _ _ e), rfl, _, rfl⟩
  refine SeqAt.RcNeAt.tuples (e := fun _ => true) h1 hb hu (fun j _ j1 => absurd j1 (Nat.not_lt_zero j)) prog w E Q ?_
  cases h2 with
  | nil => exact h
  | cons x r => simpa using h
end
end Mine
end
local macro_rules | `(tactic| k_all) => `(tactic| first | assumption | exact off1_ne (by assumption) | exact ne_of_lt' (by assumption))
section
namespace Mine
set_option maxRecDepth 100000 in
set_option maxHeartbeats 1000000 in
theorem says_draw (w : World) (d l : Addr) (od ol : Obj) (many : Int) (tm : Tok) (news : List (Addr × Obj)) (hd : IsDeck w d l od ol) (hm : 0 < many) (hm2 : many ≤ 256) (hod : LCg.Off1 d news) (hol : LCg.Off1 l news) : Says w 281 1 [.ref d, .int many tm] ((d, od) :: (l, ol) :: news) (RDraw w d l many news) := by
  obtain ⟨vs, kk, ns, mx, t, hD, rfl, hI, hlen, hsys, hdl⟩ := hd
  unfold Says
  k_fill
  w_top off
  k_with_none
  k_with "compareOp NotEq ref ref" => (k_here; (with_reducible show wpAny _ _ (compareOp CmpOp.NotEq (Value.ref _) (Value.ref _)) _ _ _); k_dflt (refine ne_nilK (by k_asm) (by k_mem) (by k_mem) (by ktr_units) ?_))
  k_with "call builtin:list.pop" => (k_here; (with_reducible show wpAny _ _ (call (Value.builtin _) [Value.ref _, Value.int 0 _]) _ _ _); k_dflt (refine' pop0K ?zqF ?zqN ?zqU ?zqi ?zql ?zqz ?_; (case zqF => k_asm); (case zqN => k_asm); (case zqU => k_upd); (case zqi => with_reducible assumption); (case zql => omega); (case zqz => omega)); intro h'q x'q t'q F'q N'q hI'q; (try dsimp only [List.nil_append, List.cons_append] at N'q); (try k_sweep))
  intro p loose mean mg mb dp un gd cn cs ad ccd cl outer A₀ base h₀ L m s Q E B F X N T hk hdp hu hret
  have hkn := hI.length
  have hdl2 : l ≠ d := Ne.symm hdl
  refine wpAny_call ?_
  k_dflt cell_enter
  k_steps
  · rename IntsAre _ ns.tail => hT
    exact hret _ _ _ _ (by k_asm) (cb_drop (by k_asm) (by kcf_all)) ⟨_, _, _, _, rfl, fmod_lo _ hm, fmod_hi _ hm, rfl, IsDeck.make hD hT (by rw [List.length_tail]; omega) hsys hdl⟩
  · rename Obj.IsDictOf _ _ _ => hD2
    exact hret _ _ _ _ (by k_asm) (cb_drop (by k_asm) (by kcf_all)) ⟨_, _, _, _, rfl, fmod_lo _ hm, fmod_hi _ hm, rfl, IsDeck.make hD2 hI hlen hsys hdl⟩
end Mine
end
section
namespace Mine
section
variable {prog : Program} {w : World} {A : Around} {E : Value → Shared → Prop} {s : Shared} {h₀ : Heap} {L B : Addr} {m : Str → Option Value} {Q : Value → Shared → Prop} {value slice : Expr}
theorem menu_at {refs : List Addr} (F : Fr h₀ L s.heap m) (X : (hd.heap_1 w.params).In h₀) (e : (hd.heap_1 w.params).lookup B = some { cls := .type "tuple", data := .seq (refs.map Value.ref).toArray }) {r : Int} {t : Tok} (h0 : 0 ≤ r) (h1 : r < (refs.length : Int)) (hz : refs.length ≤ 1000)
    (h : ∀ q, q ∈ refs → Q (.ref q) s) (hs : subscripted slice false (.ref B) (.int r t) = operate [.ref B, .int r t] (getItem (.ref B) (.int r t)) := by with_unfolding_all rfl) : wpAny (model prog w) A (subscriptTail value slice (.ref B) (.int r t)) Q E s := by
  have ht : IsTup s.heap B (refs.map Value.ref).toArray := ⟨_, F.keep _ _ (X _ _ e), rfl, _, rfl⟩
  have hlt : r.toNat < refs.length := by omega
  refine tail_any ht.typeIs slot_tuple_getitem.lookup (getItem_tuple ht (by omega) (by omega) (seqIndex_of h0 (by rw [List.size_toArray, List.length_map]; exact h1)) (x := .ref refs[r.toNat]) (by simp [hlt]) (h _ (List.getElem_mem hlt))) hs
end
set_option maxRecDepth 100000 in
theorem menu_260 (w : World) : ∀ p : Program, p = PySem.Challenge.rw_pb0111_01.row.prog → (hd.heap_1 w.params).lookup 260 = some { cls := .type "tuple", data := .seq (([250, 251, 252, 253, 254, 255, 256, 257, 258, 259] : List Addr).map Value.ref).toArray } := by
  k_fill
  intro p _
  k_is
set_option maxRecDepth 100000 in
theorem menu_264 (w : World) : ∀ p : Program, p = PySem.Challenge.rw_pb0111_01.row.prog → (hd.heap_1 w.params).lookup 264 = some { cls := .type "tuple", data := .seq (([261, 262, 263] : List Addr).map Value.ref).toArray } := by
  k_fill
  intro p _
  k_is
set_option maxRecDepth 100000 in
theorem menu_269 (w : World) : ∀ p : Program, p = PySem.Challenge.rw_pb0111_01.row.prog → (hd.heap_1 w.params).lookup 269 = some { cls := .type "tuple", data := .seq (([265, 266, 267, 268] : List Addr).map Value.ref).toArray } := by
  k_fill
  intro p _
  k_is
theorem subj_all (w : World) : ∀ q ∈ ([250, 251, 252, 253, 254, 255, 256, 257, 258, 259] : List Addr), ∃ sj, KTup w q sj ∧ sj ∈ By.subjects := by
  intro q hq
  simp only [List.mem_cons, List.not_mem_nil, or_false] at hq
  unfold By.subjects
  rcases hq with rfl | rfl | rfl | rfl | rfl | rfl | rfl | rfl | rfl | rfl
  · exact ⟨_, ktup_250 w _ rfl, .head _⟩
  · exact ⟨_, ktup_251 w _ rfl, .tail _ (.head _)⟩
  · exact ⟨_, ktup_252 w _ rfl, .tail _ (.tail _ (.head _))⟩
  · exact ⟨_, ktup_253 w _ rfl, .tail _ (.tail _ (.tail _ (.head _)))⟩
  · exact ⟨_, ktup_254 w _ rfl, .tail _ (.tail _ (.tail _ (.tail _ (.head _))))⟩
  · exact ⟨_, ktup_255 w _ rfl, .tail _ (.tail _ (.tail _ (.tail _ (.tail _ (.head _)))))⟩
  · exact ⟨_, ktup_256 w _ rfl, .tail _ (.tail _ (.tail _ (.tail _ (.tail _ (.tail _ (.head _))))))⟩
  · exact ⟨_, ktup_257 w _ rfl, .tail _ (.tail _ (.tail _ (.tail _ (.tail _ (.tail _ (.tail _ (.head _)))))))⟩
  · exact ⟨_, ktup_258 w _ rfl, .tail _ (.tail _ (.tail _ (.tail _ (.tail _ (.tail _ (.tail _ (.tail _ (.head _))))))))⟩
  · exact ⟨_, ktup_259 w _ rfl, .tail _ (.tail _ (.tail _ (.tail _ (.tail _ (.tail _ (.tail _ (.tail _ (.tail _ (.head _)))))))))⟩
theorem part_all (w : World) : ∀ q ∈ ([261, 262, 263] : List Addr), ∃ sj, KTup w q sj ∧ sj ∈ By.parts := by
  intro q hq
  simp only [List.mem_cons, List.not_mem_nil, or_false] at hq
  unfold By.parts
  rcases hq with rfl | rfl | rfl
  · exact ⟨_, ktup_261 w _ rfl, .head _⟩
  · exact ⟨_, ktup_262 w _ rfl, .tail _ (.head _)⟩
  · exact ⟨_, ktup_263 w _ rfl, .tail _ (.tail _ (.head _))⟩
theorem end_all (w : World) : ∀ q ∈ ([265, 266, 267, 268] : List Addr), ∃ sj, KTup w q sj ∧ sj ∈ By.ends := by
  intro q hq
  simp only [List.mem_cons, List.not_mem_nil, or_false] at hq
  unfold By.ends
  rcases hq with rfl | rfl | rfl | rfl
  · exact ⟨_, ktup_265 w _ rfl, .head _⟩
  · exact ⟨_, ktup_266 w _ rfl, .tail _ (.head _)⟩
  · exact ⟨_, ktup_267 w _ rfl, .tail _ (.tail _ (.head _))⟩
  · exact ⟨_, ktup_268 w _ rfl, .tail _ (.tail _ (.tail _ (.head _)))⟩
section
variable {w : World} {A : Around} {E : Value → Shared → Prop} {s : Shared} {h₀ : Heap} {L : Addr} {m : Str → Option Value} {Q : Value → Shared → Prop} {value slice : Expr} {prog : Program}
theorem subj_item (F : Fr h₀ L s.heap m) (X : (hd.heap_1 w.params).In h₀) {r : Int} {t : Tok} (h0 : 0 ≤ r) (h1 : r < 10) (h : ∀ q sj, KTup w q sj → sj ∈ By.subjects → Q (.ref q) s)
    (hs : subscripted slice false (.ref 260) (.int r t) = operate [.ref 260, .int r t] (getItem (.ref 260) (.int r t)) := by with_unfolding_all rfl) : wpAny (model prog w) A (subscriptTail value slice (.ref 260) (.int r t)) Q E s :=
  menu_at F X (menu_260 w _ rfl) h0 h1 (by decide) (fun q hq => by obtain ⟨sj, a, b⟩ := subj_all w q hq; exact h q sj a b) hs
theorem part_item (F : Fr h₀ L s.heap m) (X : (hd.heap_1 w.params).In h₀) {r : Int} {t : Tok} (h0 : 0 ≤ r) (h1 : r < 3) (h : ∀ q sj, KTup w q sj → sj ∈ By.parts → Q (.ref q) s)
    (hs : subscripted slice false (.ref 264) (.int r t) = operate [.ref 264, .int r t] (getItem (.ref 264) (.int r t)) := by with_unfolding_all rfl) : wpAny (model prog w) A (subscriptTail value slice (.ref 264) (.int r t)) Q E s :=
  menu_at F X (menu_264 w _ rfl) h0 h1 (by decide) (fun q hq => by obtain ⟨sj, a, b⟩ := part_all w q hq; exact h q sj a b) hs
theorem end_item (F : Fr h₀ L s.heap m) (X : (hd.heap_1 w.params).In h₀) {r : Int} {t : Tok} (h0 : 0 ≤ r) (h1 : r < 4) (h : ∀ q sj, KTup w q sj → sj ∈ By.ends → Q (.ref q) s)
    (hs : subscripted slice false (.ref 269) (.int r t) = operate [.ref 269, .int r t] (getItem (.ref 269) (.int r t)) := by with_unfolding_all rfl) : wpAny (model prog w) A (subscriptTail value slice (.ref 269) (.int r t)) Q E s :=
  menu_at F X (menu_269 w _ rfl) h0 h1 (by decide) (fun q hq => by obtain ⟨sj, a, b⟩ := end_all w q hq; exact h q sj a b) hs
end
theorem draw_use {w : World} {d l : Addr} {od ol : Obj} {many : Int} {tm : Tok} {led rest : List (Addr × Obj)} {p : Program} {loose : List Str} {mean : ExcName → Option Value} {mg mb : Str → Option Value} {dp un : Nat} {gd : Option (List Code)} {cn : Str} {cs : Scope} {a : Addr} {ccd : Value} {cl : List (Str × Addr)} {outer : List Env}
    {A₀ : Around} {base h₀ : Heap} {L : Addr} {m : Str → Option Value} {s : Shared} {Q E : Value → Shared → Prop} (hdk : IsDeck w d l od ol)
    (B : Below A₀ base outer h₀) (F : Fr h₀ L s.heap m) (X : (hd.heap_1 w.params).In h₀) (N : News h₀ L s.heap led) (T : Top p loose mean mg mb h₀) (hsub : ∀ p ∈ (d, od) :: (l, ol) :: rest, p ∈ led) (o1 : LCg.Off1 d rest) (o2 : LCg.Off1 l rest) (hm : 0 < many) (hm2 : many ≤ 256) (hk : cs.kind = .function)
    (hd : dp + 1 < recursionLimit) (hu : un + 8 * 1 < cLine)
    (h : ∀ (r : Int) (t : Tok) (od' ol' : Obj) (h' : Heap) (tk' : Nat), 0 ≤ r → r < many → IsDeck w d l od' ol' → Fr h₀ L h' m → News h₀ L h' ((d, od') :: (l, ol') :: rest) → Q (.int r t) { s with heap := h', toks := tk' }) :
    wpAny (model PySem.Challenge.rw_pb0111_01.row.prog w) (ktrTop dp un gd cn cs L a ccd cl outer) (call (.ref 281) [.ref d, .int many tm]) Q E s := by
  refine says_use (says_draw w d l od ol many tm rest hdk hm hm2 o1 o2) B F X (fun p hp => N p (hsub p hp)) T hk hd hu fun v n' h' tk' F' N' R => ?_
  obtain ⟨r, t, od', ol', rfl, h0, h1, rfl, hD⟩ := R
  exact h r t od' ol' h' tk' h0 h1 hD F' N'
inductive Rm (x : Addr × Obj) : List (Addr × Obj) → List (Addr × Obj) → Prop
  | here {t : List (Addr × Obj)} : Rm x (x :: t) t
  | skip {p : Addr × Obj} {t r : List (Addr × Obj)} (hrm0 : Rm x t r) : Rm x (p :: t) (p :: r)
theorem Rm.sub {x : Addr × Obj} {led rest : List (Addr × Obj)} (h : Rm x led rest) : ∀ p ∈ x :: rest, p ∈ led := by
  induction h with
  | here => exact fun p hp => hp
  | skip _ ih =>
    intro p hp
    rcases List.mem_cons.mp hp with rfl | hp
    · exact .tail _ (ih _ (.head _))
    · rcases List.mem_cons.mp hp with rfl | hp
      · exact .head _
      · exact .tail _ (ih _ (.tail _ hp))
theorem deck_out {x y : Addr × Obj} {led l1 rest : List (Addr × Obj)} (hrm1 : Rm x led l1) (hrm2 : Rm y l1 rest) : ∀ p ∈ x :: y :: rest, p ∈ led := by
  intro p hp
  refine hrm1.sub p ?_
  rcases List.mem_cons.mp hp with rfl | hp
  · exact .head _
  · exact .tail _ (hrm2.sub p hp)
end Mine
end
local macro_rules | `(tactic| walk_at "my k_rm") => `(tactic| first | with_reducible exact Rm.here | (apply Rm.skip; walk_at "my k_rm"))
section
namespace Mine
end Mine
end
local macro_rules | `(tactic| walk_at "my deck_sub") => `(tactic| (apply deck_out; walk_at "my k_rm"; walk_at "my k_rm"))
section
namespace Mine
end Mine
end
local macro_rules | `(tactic| walk_at "my k_off") => `(tactic| first | with_reducible assumption | exact trivial | (refine ⟨?a, ?b⟩; (case a => k_ne); (case b => walk_at "my k_off")))
section
namespace Mine
end Mine
end
section
namespace Mine
section
variable {prog : Program} {w : World} {A : Around} {E : Value → Shared → Prop} {s : Shared} {env : Env} {h₀ : Heap} {x : Str} {body : List Stmt}
theorem forRng {σ : Type} {Q : Flow → Shared → Prop} {r : Addr} {n : Int} {t1 t2 t3 : Tok} {m₀ : Str → Option Value} (Led : σ → List (Addr × Obj)) (ps : σ → List (Str × Value)) (stored : List Str) (P : Nat → σ → Prop) (c₀ : σ)
    (hr : IsRange s.heap r 0 n 1 t1 t2 t3) (h0 : 0 ≤ n) (h1 : n ≤ 1000) (hh : A.handled = none) (F : Fr h₀ env.locals s.heap m₀) (N : News h₀ env.locals s.heap (Led c₀)) (hk : ∀ p ∈ ps c₀, m₀ p.1 = some p.2) (hp : P 0 c₀)
    (turn : ∀ (c : σ) (i : Nat) t (u : Str → Option Value) h tk own, (i : Int) < n → OwnOff own ((Led c₀).map (·.1)) → P i c →
      Fr h₀ env.locals h (fun y => if y = x then some (.int (i : Int) t) else kstB (fun z => if stored.contains z then u z else m₀ z) (ps c) y) → News h₀ env.locals h (Led c ++ own) →
      wpAny (model prog w) A (execs body env) (InvPostN h₀ env.locals (ForS Led ps x stored m₀ (P (i + 1))) own ((Led c₀).map (·.1)) { s with heap := h, toks := tk } Q) E { s with heap := h, toks := tk })
    (done : ∀ (c : σ) (u : Str → Option Value) h tk, P n.toNat c → Fr h₀ env.locals h (fun y => if y = x then u y else kstB (fun z => if stored.contains z then u z else m₀ z) (ps c) y) → News h₀ env.locals h (Led c) → Q .next { s with heap := h, toks := tk }) :
    wpAny (model prog w) A (pyIter (.ref r)) (fun it s₂ => LoopAtV prog w A h₀ env x body Q E it s₂) E s := by
  have hn : Builtin.Range.rangeSize 0 n 1 = ((n.toNat : Nat) : Int) := by
    unfold Builtin.Range.rangeSize
    simp
    omega
  refine wpAny_pyIter_range hr (small_one (by omega) (by omega) (by omega) (by omega)) ?_
  have W := LCg.range_walks (prog := prog) (w := w) (A := A) (I := s.heap.objs.size) hh 0 n.toNat
  refine loop_invN (fun i m nx => ForS Led ps x stored m₀ (P i) m nx) W ?_ ?_ ?_ ?_ ?_ (F.push _) (fun p hp => ⟨Heap.get?_push_of_some _ (N p hp).1, (N p hp).2⟩) ⟨c₀, rfl, hk, fun _ _ _ _ => rfl, hp⟩ ?_ ?_
  · intro hm
    exact absurd F.ns.lt ((List.mem_singleton.mp hm) ▸ Nat.lt_irrefl _)
  · intro b' hb
    rw [List.mem_singleton.mp hb]
    exact next_is_new F
  · intro p hp hI
    exact absurd (Heap.lt_size (N p hp).1) ((List.mem_singleton.mp hI) ▸ Nat.lt_irrefl _)
  · intro p hp hI
    exact absurd (Heap.lt_size (N p hp).1) ((List.mem_singleton.mp hI) ▸ Nat.lt_irrefl _)
  · show IsRangeIter _ _ _ _ _
    rw [hn]
    simpa using Heap.get?_push_size _ rfl
  · rintro i v m₁ nx h tk own hi ⟨t, rfl⟩ _ hoff ⟨c, rfl, h1', h2, hp'⟩ F₁ N₁
    rw [Int.zero_add] at F₁
    exact turn c i t m₁ h tk own (by omega) hoff hp' (kst_fr h1' h2 F₁) N₁
  · rintro m₁ nx h tk ⟨c, rfl, h1', h2, hp'⟩ F₁ N₁
    exact done c m₁ h tk hp' (kst_frOut h1' h2 F₁) N₁
end
namespace By
inductive Parts : Nat → List (List UInt8) → Prop
  | nil : Parts 0 []
  | more {i : Nat} {rs pt : List (List UInt8)} (k : Nat) (h : Parts i rs) (hk : 1 ≤ k ∧ k ≤ 2) (hp : pt ∈ parts) : Parts (i + 1) (rs ++ List.replicate k [] ++ pt)
def MsgOk (sj rs : List (List UInt8)) (many : Nat) : Prop :=
  sj ∈ subjects ∧ ∃ n ps en k, Parts n ps ∧ n ≤ 2 ∧ en ∈ ends ∧ k ≤ 2 ∧ many = en.length ∧ rs = ps ++ (if en = [] then [] else [] :: en) ++ List.replicate k []
theorem part_len {pt : List (List UInt8)} (h : pt ∈ parts) : 0 < pt.length ∧ pt.length ≤ 3 := by
  unfold parts at h
  simp only [List.mem_cons, List.not_mem_nil, or_false] at h
  rcases h with rfl | rfl | rfl <;> exact ⟨by decide, by decide⟩
theorem end_len {en : List (List UInt8)} (h : en ∈ ends) : en.length ≤ 2 := by
  unfold ends at h
  simp only [List.mem_cons, List.not_mem_nil, or_false] at h
  rcases h with rfl | rfl | rfl | rfl <;> decide
theorem Parts.len {n : Nat} {rs : List (List UInt8)} (h : Parts n rs) : rs.length ≤ 5 * n := by
  induction h with
  | nil => exact Nat.le_refl _
  | more k h hk hp ih =>
    have := (part_len hp).2
    simp only [List.length_append, List.length_replicate]
    omega
end By
end Mine
namespace Mine
def RMsg (w : World) (d l : Addr) (news : List (Addr × Obj)) (v : Value) (news' : List (Addr × Obj)) : Prop :=
  ∃ (q sref rl : Addr) (vs : List Value) (k : Nat) (sj rs : List (List UInt8)) (many : Nat) (t : Tok) (od ol : Obj), v = .ref q ∧ news' = (q, tupO [.ref sref, .ref rl, .int (many : Int) t]) :: (rl, listOf vs.toArray k) :: (d, od) :: (l, ol) :: news ∧
    KTup w sref sj ∧ BsAre vs rs ∧ By.MsgOk sj rs many ∧ IsDeck w d l od ol ∧ ((@Ne Nat q d) ∧ (@Ne Nat q l) ∧ (@Ne Nat rl d) ∧ (@Ne Nat rl l))
theorem By.MsgOk.yes {sj ps en : List (List UInt8)} {n : Nat} {k : Int} (hs : sj ∈ By.subjects) (hp : By.Parts n ps) (hn : n ≤ 2) (he : en ∈ By.ends) (hne : 0 < en.length) (h0 : 0 ≤ k) (h1 : k < 3) : By.MsgOk sj (ps ++ [[]] ++ en ++ List.replicate k.toNat []) en.length :=
  ⟨hs, n, ps, en, k.toNat, hp, hn, he, by omega, rfl, by rw [if_neg (fun e => by rw [e] at hne; exact Nat.lt_irrefl 0 hne)]; simp⟩
theorem By.MsgOk.no {sj ps en : List (List UInt8)} {n : Nat} {k : Int} (hs : sj ∈ By.subjects) (hp : By.Parts n ps) (hn : n ≤ 2) (he : en ∈ By.ends) (hne : ¬ 0 < en.length) (h0 : 0 ≤ k) (h1 : k < 3) : By.MsgOk sj (ps ++ List.replicate k.toNat []) en.length :=
  ⟨hs, n, ps, en, k.toNat, hp, hn, he, by omega, rfl, by rw [if_pos (List.eq_nil_of_length_eq_zero (by omega)), List.append_nil]⟩
end Mine
namespace Mine
end Mine
end
local macro_rules | `(tactic| walk_at "my k_led") => `(tactic| first | exact fun p hp => List.mem_append_left _ hp | exact fun p hp => hp | (refine List.forall_mem_cons.mpr ⟨by k_mem, ?_⟩; walk_at "my k_led") | (refine sub_tail ?_; walk_at "my k_led"))
section
namespace Mine
end Mine
end
local macro_rules | `(tactic| walk_at "my k_ownR") => `(tactic| first | exact fun p hp => List.mem_append_right _ hp | (refine sub_tail ?_; walk_at "my k_ownR"))
section
namespace Mine
end Mine
namespace Mine
theorem RMsg.make {w : World} {d l q sref rl : Addr} {news : List (Addr × Obj)} {vs : List Value} {k : Nat} {sj rs : List (List UInt8)} {many : Nat} {t : Tok} {od ol : Obj} (hM : By.MsgOk sj rs many) (hk : KTup w sref sj) (hB : BsAre vs rs) (hD : IsDeck w d l od ol) (ho : ((@Ne Nat q d) ∧ (@Ne Nat q l) ∧ (@Ne Nat rl d) ∧ (@Ne Nat rl l))) :
    RMsg w d l news (.ref q) ((q, tupO [.ref sref, .ref rl, .int (many : Int) t]) :: (rl, listOf vs.toArray k) :: (d, od) :: (l, ol) :: news) := ⟨q, sref, rl, vs, k, sj, rs, many, t, od, ol, rfl, rfl, hk, hB, hM, hD, ho⟩
end Mine
end
section
namespace Mine
namespace By
inductive Sp : List (List UInt8) → List (List UInt8) → Prop
  | nil : Sp [] []
  | cons {r r' : List UInt8} {rs rs' : List (List UInt8)} (h : r' = r ∨ (r ≠ [] ∧ r' = r ++ [32])) (t : Sp rs rs') : Sp (r :: rs) (r' :: rs')
theorem Sp.snoc {rs rs' : List (List UInt8)} {r r' : List UInt8} (t : Sp rs rs') (h : r' = r ∨ (r ≠ [] ∧ r' = r ++ [32])) : Sp (rs ++ [r]) (rs' ++ [r']) := by
  induction t with
  | nil => exact .cons h .nil
  | cons h' _ ih => exact .cons h' ih
theorem Sp.length {rs rs' : List (List UInt8)} (t : Sp rs rs') : rs'.length = rs.length := by
  induction t with
  | nil => rfl
  | cons _ _ ih => rw [List.length_cons, List.length_cons, ih]
theorem Sp.sum {rs rs' : List (List UInt8)} (t : Sp rs rs') : (rs'.map List.length).sum ≤ (rs.map List.length).sum + rs.length := by
  induction t with
  | nil => exact Nat.le_refl _
  | cons h _ ih =>
    simp only [List.map_cons, List.sum_cons, List.length_cons]
    rcases h with rfl | ⟨_, rfl⟩
    · omega
    · simp only [List.length_append, List.length_cons, List.length_nil]
      omega
end By
section
variable {prog : Program} {w : World} {A : Around} {h₀ : Heap} {L : Addr} {m : Str → Option Value} {env : Env} {elt : Expr} {x : Str} {scope : Scope} {cl : List (Str × Addr)} {s : Shared} {S : List (Addr × Obj) → Prop} {Fin : List Value → List (Addr × Obj) → Prop}
def SpEl {σ : Type} (Led : σ → List (Addr × Obj)) (P : σ → Prop) (b : List UInt8) (y : Value) (news' : List (Addr × Obj)) : Prop :=
  ∃ (c : σ) (b' : List UInt8) (t : Tok), news' = Led c ∧ P c ∧ (b' = b ∨ (b ≠ [] ∧ b' = b ++ [32])) ∧ y = .bytes b'.toArray t
theorem bcf_sp {σ : Type} {vs : List Value} {bs : List (List UInt8)} (Led : σ → List (Addr × Obj)) (P : σ → Prop) (c₀ : σ) (hb : BsAre vs bs) (hp : P c₀)
    (turn : ∀ c b t I oI C oC D m₂ ys h tk (E' : Value → Shared → Prop), b ∈ bs → P c → LCg.NsObj oC m₂ → m₂ x = some (.bytes b.toArray t) → Fr h₀ L h m → News h₀ L h ((I, oI) :: (C, oC) :: (D, LCg.lst ys) :: Led c) → LCg.Off3 I C D (Led c) → ((@Ne Nat I C) ∧ (@Ne Nat I D) ∧ (@Ne Nat C D)) →
      wpAny (model prog w) A (eval elt (compEnvC scope cl C env)) (LCg.CompEnd h₀ L m { s with heap := h, toks := tk } I oI C oC D (LCg.lst ys) S (fun y news' => SpEl Led P b y news')) E' { s with heap := h, toks := tk })
    (fin : ∀ c ys bs', P c → BsAre ys bs' → By.Sp bs bs' → Fin ys (Led c)) : LCg.CompRest prog w A h₀ L m env elt x scope cl s S (fun i v => vs.toArray[i]? = some v) Fin vs.toArray.size 0 [] (Led c₀) := by
  have key : ∀ (j i : Nat) (c : σ) (ys : List Value) (bs' : List (List UInt8)), i + j = vs.toArray.size → P c → BsAre ys bs' → By.Sp (bs.take i) bs' → LCg.CompRest prog w A h₀ L m env elt x scope cl s S (fun i v => vs.toArray[i]? = some v) Fin j i ys (Led c) := by
    intro j
    induction j with
    | zero =>
      intro i c ys bs' hi hc hy hs
      rw [List.take_of_length_le (by rw [List.size_toArray, hb.length] at hi; omega)] at hs
      exact LCg.CompRest.zero (fin c ys bs' hc hy hs)
    | succ j ih =>
      intro i c ys bs' hi hc hy hs
      refine LCg.CompRest.succ ?_
      intro v I oI C oC D m₂ h tk E' hv hC hx F N off ne
      obtain ⟨b, t, hk, hv'⟩ := hb.get' (i := i) (v := v) (by simpa using hv)
      rw [hv'] at hx
      refine wpAny_mono (turn c b t I oI C oC D m₂ ys h tk E' (List.mem_of_getElem? hk) hc hC hx F N off ne) (fun y s₂ hq => ?_) fun _ _ e => e
      obtain ⟨h', tk', nw, e, F', N', off', hS, c', b', t', hn, hP', hr, hy'⟩ := hq
      rw [hn] at N' off' hS
      refine ⟨h', tk', Led c', e, F', N', off', hS, ?_⟩
      rw [hy']
      refine ih (i + 1) c' _ (bs' ++ [b']) (by omega) hP' (hy.append (BsAre.one b' t')) ?_
      rw [List.take_add_one, hk]
      exact hs.snoc hr
  exact key vs.toArray.size 0 c₀ [] [] (by omega) hp .nil (by simp only [List.take_zero]; exact .nil)
end
def ROct (w : World) (d l : Addr) (rows : List (List UInt8)) (news : List (Addr × Obj)) (v : Value) (news' : List (Addr × Obj)) : Prop :=
  ∃ (rs' : List (List UInt8)) (nl : List UInt8) (t : Tok) (od ol : Obj), v = .bytes (By.joinB [10] rs' ++ nl).toArray t ∧ news' = (d, od) :: (l, ol) :: news ∧ By.Sp rows rs' ∧ (nl = [] ∨ nl = [10]) ∧ IsDeck w d l od ol
end Mine
namespace Mine
namespace By
theorem len_le_sum {b : List UInt8} : ∀ {rs : List (List UInt8)}, b ∈ rs → b.length ≤ (rs.map List.length).sum
  | r :: rs, h => by
    rw [List.map_cons, List.sum_cons]
    rcases List.mem_cons.mp h with rfl | h
    · omega
    · have := len_le_sum h
      omega
theorem sp_join {rows rs' : List (List UInt8)} (h : Sp rows rs') : (joinB [10] rs').length ≤ (rows.map List.length).sum + 2 * rows.length := by
  have h1 := joinB_len [10] rs'
  have h2 := h.sum
  have h3 := h.length
  simp only [List.length_cons, List.length_nil] at h1
  omega
end By
theorem ROct.make {w : World} {d l : Addr} {rows rs' : List (List UInt8)} {nl : List UInt8} {t : Tok} {news : List (Addr × Obj)} {od ol : Obj} (h : By.Sp rows rs') (hn : nl = [] ∨ nl = [10]) (hD : IsDeck w d l od ol) : ROct w d l rows news (.bytes (By.joinB [10] rs' ++ nl).toArray t) ((d, od) :: (l, ol) :: news) := ⟨rs', nl, t, od, ol, rfl, rfl, h, hn, hD⟩
end Mine
end
section
namespace Mine
namespace By
def lpick (rows : List (List UInt8)) (many : Nat) (oid : List UInt8) : List UInt8 := lend rows ++ (if 0 < many then [] else [10]) ++ pickRow oid
theorem lpick_yes {rows : List (List UInt8)} {many : Nat} {oid : List UInt8} (h : (0 : Int) < (many : Int)) : lend rows ++ [] ++ (pickQ ++ hexB oid ++ [41, 10]) = lpick rows many oid := by
  unfold lpick
  rw [if_pos (by omega)]
  rfl
theorem lpick_no {rows : List (List UInt8)} {many : Nat} {oid : List UInt8} (h : ¬ (0 : Int) < (many : Int)) : lend rows ++ [10] ++ (pickQ ++ hexB oid ++ [41, 10]) = lpick rows many oid := by
  unfold lpick
  rw [if_neg (by omega)]
  rfl
end By
end Mine
end
section
namespace Mine
namespace By
open Builtin
set_option maxRecDepth 100000
section
variable {prog : Program} {w : World} {A : Around} {E : Value → Shared → Prop} {s : Shared} {b : List UInt8} {t u : Tok}
theorem call_joinT {l : Addr} {vs : List Value} {bs : List (List UInt8)} {Q : Value → Shared → Prop} (hl : s.heap.IsTuple l vs.toArray) (hb : BsAre vs bs) (hsz : (joinB b bs).length ≤ 16777216)
    (hq : ∀ t' k, Q (.bytes (joinB b bs).toArray t') { s with toks := k }) :
    wpAny (model prog w) A (call (.builtin "bytes.join") [.bytes b.toArray t, .ref l]) Q E s := by
  obtain ⟨o, ho, hc, n, hd⟩ := id hl
  have hT : s.TypeIs (.ref l) "tuple" := ⟨o, ho, hc⟩
  have items : ∀ (A' : Around) (R : Option (Array Value) → Shared → Prop) (E' : Value → Shared → Prop), R (some vs.toArray) s → wpAny (model prog w) A' (seqItems? (.ref l)) R E' s := by
    intro A' R E' h
    refine wpAny_bind (wpAny_load ho ?_)
    rw [hd]
    exact wpAny_pure h
  refine call_slot slot_join (typeIs_bytes s _ _) entry_join (args_join_2 _ _) ?_
  show wpAny _ _ (Bytes.joinM .bytes _) _ _ _
  unfold Bytes.joinM
  refine wpAny_bind (wpAny_of_eq (a := (.bytes b.toArray t, .ref l)) rfl ?_)
  refine wpAny_bind ?_
  show wpAny _ _ (Bytes.joinItems (.ref l)) _ _ _
  refine wpAny_bind (wpAny_typeOf hT (wpAny_pure ?_))
  refine wpAny_bind (items _ _ _ ?_)
  have one : ∀ v, vs = [v] → ∃ c u, bs = [c] ∧ v = .bytes c.toArray u := by
    rintro v rfl
    cases hb with
    | cons u h => cases h with
      | nil => exact ⟨_, u, rfl, rfl⟩
  refine wpAny_ite (KBc.ite_yes (show (Bytes.Kind.bytes == Bytes.Kind.bytes) = true from rfl) ?_)
  by_cases h1 : ∃ x, vs = [x]
  · obtain ⟨x, hv⟩ := h1
    obtain ⟨c, u, rfl, rfl⟩ := one x hv
    subst hv
    refine wpAny_bind (wpAny_typeOf (typeIs_bytes s _ _) ?_)
    refine wpAny_bind (wpAny_rule (wpAny_pure ⟨_, rfl, hq u s.toks⟩))
  · have go : ∀ (f : Value → Sem PySem.Fin) (g : Sem PySem.Fin) (R : PySem.Fin → Shared → Prop) (E' : Value → Shared → Prop), wpAny (model prog w) A.in1 g R E' s → wpAny (model prog w) A.in1 (match vs.toArray with | #[x] => f x | _ => g) R E' s := by
      have h2 : ∀ x, vs.toArray ≠ #[x] := fun x hx => h1 ⟨x, by have := congrArg Array.toList hx; simpa using this⟩
      intro f g R E' hg
      generalize vs.toArray = xs at h2
      obtain ⟨ys⟩ := xs
      cases ys with
      | nil => exact hg
      | cons y r => cases r with
        | nil => exact absurd rfl (h2 y)
        | cons z r => exact hg
    refine go _ _ _ _ ?_
    refine wpAny_bind ?_
    rw [Std.Legacy.Range.forIn_eq_forIn_range']
    have e0 : (([:vs.toArray.size] : Std.Legacy.Range).size) = vs.length := by simp [Std.Legacy.Range.size]
    rw [e0]
    refine join_loop hb _ ?_ vs.length 0 _ (by simp) ?_
    · intro i c v ps R hc hv hr
      refine wpAny_bind (items _ _ _ ?_)
      have eg : vs.toArray.getD i .none = .bytes c.toArray v := by
        simp [Array.getD_eq_getD_getElem?, hv]
      have et : ((took (vs.take i)).any fun x => x.1.onHeap) = false := by
        refine List.any_eq_false.mpr fun p hp => ?_
        obtain ⟨x, hx, rfl⟩ := List.mem_map.mp hp
        obtain ⟨j, hj⟩ := List.mem_iff_getElem?.mp (List.mem_of_mem_take hx)
        obtain ⟨b', t', _, rfl⟩ := hb.get' hj
        exact Bool.false_ne_true
      dsimp only
      rw [eg, et, if_neg (by decide)]
      refine wpAny_bind (wpAny_holding (wpAny_of_eq takeQuiet_eq ?_))
      refine wpAny_bind (items _ _ _ ?_)
      dsimp only
      rw [if_neg (by simp)]
      refine wpAny_pure ?_
      have e : took (vs.take i) ++ [(Value.bytes c.toArray v, none)] = took (vs.take (i + 1)) := by
        unfold took
        rw [List.take_add_one, hv]; simp
      rw [e]
      exact hr
    · refine wpAny_bind (wpAny_of_eq (a := b.toArray) rfl ?_)
      have ht : Bytes.tooLong (Array.foldl (fun x1 x2 => x1 + x2.size) (b.toArray.size * ((bs.map List.toArray).toArray.size - 1)) (bs.map List.toArray).toArray) = false := by
        rw [joinB_size]
        exact KBy.tooLong_not hsz
      dsimp only
      rw [ht, if_neg Bool.false_ne_true]
      rw [show Bytes.joined b.toArray (bs.map List.toArray).toArray.toList = (joinB b bs).toArray from joined_eq b bs]
      refine wpAny_bind (wpAny_mkBytes (wpAny_bind (wpAny_holding (wpAny_point (wpAny_bind (letgo_join _ _ _ (wpAny_pure ⟨_, rfl, hq _ _⟩)))))) (by rw [sizeLine_eq, List.size_toArray]; exact hsz))
end
end By
end Mine
namespace Mine
section
variable {prog : Program} {w : World} {A : Around} {E : Value → Shared → Prop} {s : Shared} {h₀ : Heap} {L q : Addr} {m : Str → Option Value} {Q : Value → Shared → Prop} {b : List UInt8} {t : Tok} {cs : List (List UInt8)}
theorem join_T (F : Fr h₀ L s.heap m) (X : (hd.heap_1 w.params).In h₀) (hq : KTup w q cs) (hsz : (By.joinB b cs).length ≤ 16777216) (h : ∀ t' k, Q (.bytes (By.joinB b cs).toArray t') { s with toks := k }) :
    wpAny (model prog w) A (call (.builtin "bytes.join") [.bytes b.toArray t, .ref q]) Q E s := by
  obtain ⟨ts, h2, e⟩ := hq
  exact By.call_joinT ⟨_, F.keep _ _ (X _ _ e), rfl, _, rfl⟩ h2 hsz h
end
end Mine
namespace Mine
namespace By
def reapP : List UInt8 := [82, 101, 97, 112, 112, 108, 121, 32]
def lisRev (s : List UInt8) : Bool := (sl s none (some 8) == revQ) && ((sl s (some (-1)) none == [34]) && (sl s none (some 16) != [82, 101, 118, 101, 114, 116, 32, 34, 82, 101, 118, 101, 114, 116, 32, 34]))
def lrevH (s : List UInt8) : List UInt8 := if lisRev s then reapP ++ sl s (some 7) none else revQ ++ s ++ [34]
def lrevB (s oid : List UInt8) : Option (List UInt8) → List UInt8
  | none => lrevH s ++ ([10, 10] ++ thisR) ++ hexB oid ++ [] ++ [46, 10]
  | some p => lrevH s ++ ([10, 10] ++ thisR) ++ hexB oid ++ (chgR ++ hexB p) ++ [46, 10]
end By
end Mine
end
section
namespace Mine
section
variable {prog : Program} {w : World} {A : Around} {E : Value → Shared → Prop} {s : Shared} {h₀ : Heap} {L q : Addr} {m : Str → Option Value} {Q : Value → Shared → Prop} {t : Tok} {cs : List (List UInt8)} {value slice : Expr}
theorem first_T (F : Fr h₀ L s.heap m) (X : (hd.heap_1 w.params).In h₀) (hq : KTup w q cs) (hn : 0 < cs.length) (h : ∀ t', Q (.bytes (cs.getD 0 []).toArray t') s)
    (hs : subscripted slice false (.ref q) (.int 0 t) = operate [.ref q, .int 0 t] (getItem (.ref q) (.int 0 t)) := by with_unfolding_all rfl) : wpAny (model prog w) A (subscriptTail value slice (.ref q) (.int 0 t)) Q E s := by
  obtain ⟨ts, h2, e⟩ := hq
  have e2 := h2.length
  have ht : IsTup s.heap q ts.toArray := ⟨_, F.keep _ _ (X _ _ e), rfl, _, rfl⟩
  obtain ⟨t', ex⟩ := h2.get (i := 0) (b := cs.getD 0 []) (by rw [List.getD_eq_getElem?_getD, List.getElem?_eq_getElem hn]; rfl)
  exact tail_any ht.typeIs slot_tuple_getitem.lookup (getItem_tuple ht (by decide) (by decide) (seqIndex_of (by decide) (by rw [List.size_toArray]; omega)) (x := .bytes (cs.getD 0 []).toArray t') (by simpa using ex) (h t')) hs
end
namespace By
def lmark (s : List UInt8) : Bool := (sl s none (some 7) == mark1) || ((sl s none (some 8) == mark2) || (sl s none (some 7) == mark3))
def lbare (sj rs : List (List UInt8)) : List UInt8 := if lmark (sj.getD 0 []) then lend rs else lend (sj ++ rs)
theorem lbare1 {sj rs : List (List UInt8)} (h : (sl (sj.getD 0 []) none (some 7) == [102, 105, 120, 117, 112, 33, 32]) = true) : lend rs = lbare sj rs := by
  unfold lbare; rw [if_pos]; unfold lmark mark1; rw [h]; rfl
theorem lbare2 {sj rs : List (List UInt8)} (h : (sl (sj.getD 0 []) none (some 8) == [115, 113, 117, 97, 115, 104, 33, 32]) = true) : lend rs = lbare sj rs := by
  unfold lbare; rw [if_pos]; unfold lmark mark2; rw [h, Bool.true_or, Bool.or_true]
theorem lbare3 {sj rs : List (List UInt8)} (h : (sl (sj.getD 0 []) none (some 7) == [97, 109, 101, 110, 100, 33, 32]) = true) : lend rs = lbare sj rs := by
  unfold lbare; rw [if_pos]; unfold lmark mark3; rw [h, Bool.or_true, Bool.or_true]
theorem lbare0 {sj rs : List (List UInt8)} (h1 : (sl (sj.getD 0 []) none (some 7) == [102, 105, 120, 117, 112, 33, 32]) = false) (h2 : (sl (sj.getD 0 []) none (some 8) == [115, 113, 117, 97, 115, 104, 33, 32]) = false) (h3 : (sl (sj.getD 0 []) none (some 7) == [97, 109, 101, 110, 100, 33, 32]) = false) : lend (sj ++ rs) = lbare sj rs := by
  unfold lbare; rw [if_neg]; unfold lmark mark1 mark2 mark3; rw [h1, h2, h3]; exact Bool.false_ne_true
end By
end Mine
namespace Mine
theorem first_T' {prog : Program} {w : World} {A : Around} {E : Value → Shared → Prop} {s : Shared} {h₀ : Heap} {L q : Addr} {m : Str → Option Value} {Q : Value → Shared → Prop} {t : Tok} {cs : List (List UInt8)} {value slice : Expr} {x0 : List UInt8} (F : Fr h₀ L s.heap m) (X : (hd.heap_1 w.params).In h₀) (hq : KTup w q cs) (hn : 0 < cs.length) (hx : cs.getD 0 [] = x0) (h : ∀ t', Q (.bytes x0.toArray t') s)
    (hs : subscripted slice false (.ref q) (.int 0 t) = operate [.ref q, .int 0 t] (getItem (.ref q) (.int 0 t)) := by with_unfolding_all rfl) : wpAny (model prog w) A (subscriptTail value slice (.ref q) (.int 0 t)) Q E s := by
  subst hx
  exact first_T F X hq hn h hs
end Mine
namespace Mine
theorem eq_known {prog : Program} {w : World} {A : Around} {E : Value → Shared → Prop} {s : Shared} {b c : List UInt8} {t u : Tok} {Q : Value → Shared → Prop} {v : Bool} (hv : (b == c) = v) (h : Q (.bool v) s) : wpAny (model prog w) A (compareOp .Eq (.bytes b.toArray t) (.bytes c.toArray u)) Q E s := By.eq_B (by rw [hv]; exact h)
end Mine
namespace Mine
inductive Hid (a b : Bool) : Prop
  | mk (h : a = b) : Hid a b
theorem Hid.eq {a b : Bool} (h : Hid a b) : a = b := by cases h; assumption
theorem eq_hid {prog : Program} {w : World} {A : Around} {E : Value → Shared → Prop} {s : Shared} {b c : List UInt8} {t u : Tok} {Q : Value → Shared → Prop} {v : Bool} (hv : Hid (b == c) v) (h : Q (.bool v) s) : wpAny (model prog w) A (compareOp .Eq (.bytes b.toArray t) (.bytes c.toArray u)) Q E s := eq_known hv.eq h
end Mine
end
section
namespace Mine
namespace By
def ljoinF (sign mine whole : List UInt8) : List UInt8 := if sign == [] then whole else mine
def ljoinS (elder mine : List UInt8) : List UInt8 := if (elder == []) || (mine == []) then elder ++ mine else elder ++ [10] ++ mine
theorem ljoinF1 {sign mine whole : List UInt8} (h : (sign == []) = true) : whole = ljoinF sign mine whole := by unfold ljoinF; rw [if_pos h]
theorem ljoinF2 {sign mine whole : List UInt8} (h : (sign == []) = false) : mine = ljoinF sign mine whole := by unfold ljoinF; rw [if_neg (by rw [h]; exact Bool.false_ne_true)]
theorem ljoinS1 {elder mine : List UInt8} (h : (elder == []) = true) : elder ++ mine = ljoinS elder mine := by unfold ljoinS; rw [if_pos (by rw [h]; rfl)]
theorem ljoinS2 {elder mine : List UInt8} (h : (mine == []) = true) : elder ++ mine = ljoinS elder mine := by unfold ljoinS; rw [if_pos (by rw [h, Bool.or_true])]
theorem ljoinS3 {elder mine : List UInt8} (h1 : (elder == []) = false) (h2 : (mine == []) = false) : elder ++ [10] ++ mine = ljoinS elder mine := by unfold ljoinS; rw [if_neg (by rw [h1, h2]; exact Bool.false_ne_true)]
end By
end Mine
end
section
namespace Mine
namespace By
theorem lrevq_n1 {s : List UInt8} (h : (sl s none (some 8) == [82, 101, 118, 101, 114, 116, 32, 34]) = false) : (sl s none (some 8) == [82, 101, 118, 101, 114, 116, 32, 34]) = lisRev s := h.trans (by unfold lisRev revQ; rw [h]; rfl)
theorem lrevq_n2 {s : List UInt8} (h : (sl s (some (-1)) none == [34]) = false) : (sl s (some (-1)) none == [34]) = lisRev s := h.trans (by unfold lisRev; rw [h, Bool.false_and, Bool.and_false])
theorem lrevq_y {s : List UInt8} (h1 : (sl s none (some 8) == [82, 101, 118, 101, 114, 116, 32, 34]) = true) (h2 : (sl s (some (-1)) none == [34]) = true) : (sl s none (some 16) != [82, 101, 118, 101, 114, 116, 32, 34, 82, 101, 118, 101, 114, 116, 32, 34]) = lisRev s := by
  unfold lisRev revQ; rw [h1, h2]; rfl
theorem lrevh_t {s : List UInt8} (h : lisRev s = true) : [82, 101, 97, 112, 112, 108, 121, 32] ++ sl s (some 7) none = lrevH s := by unfold lrevH; rw [if_pos h]; rfl
theorem lrevh_f {s : List UInt8} (h : lisRev s = false) : [82, 101, 118, 101, 114, 116, 32, 34] ++ s ++ [34] = lrevH s := by unfold lrevH; rw [if_neg (by rw [h]; exact Bool.false_ne_true)]; rfl
def lmerged : Option (List UInt8) → List UInt8
  | none => []
  | some p => chgR ++ hexB p
theorem lrevH_len (s : List UInt8) : (lrevH s).length ≤ s.length + 18 := by
  have := sl_len s (some 7) none
  unfold lrevH revQ reapP
  split
  · simp only [List.length_append, List.length_cons, List.length_nil]; omega
  · simp only [List.length_append, List.length_cons, List.length_nil]; omega
theorem lrevB_of {s oid : List UInt8} (pr : Option (List UInt8)) : lrevH s ++ ([10, 10] ++ thisR) ++ hexB oid ++ lmerged pr ++ [46, 10] = lrevB s oid pr := by cases pr <;> rfl
end By
theorem ParV.merged_len {v : Value} {pr : Option (List UInt8)} (h : ParV v pr) : (By.lmerged pr).length ≤ 400 := by
  cases h with
  | none => exact Nat.zero_le _
  | @some pa t hp =>
    have := By.hexB_len pa
    show (By.chgR ++ By.hexB pa).length ≤ 400
    unfold By.chgR
    simp only [List.length_append, List.length_cons, List.length_nil]
    omega
end Mine
end
section
namespace Mine
namespace By
def NoLf (r : List UInt8) : Prop := ∀ y ∈ r, (y == 10) = false
theorem joinB_two (sep b : List UInt8) {c : List UInt8} {r : List (List UInt8)} : joinB sep (b :: c :: r) = b ++ (sep ++ joinB sep (c :: r)) := rfl
theorem cuts_join : ∀ {rows : List (List UInt8)}, rows ≠ [] → (∀ r ∈ rows, NoLf r) → cuts 10 (joinB [10] rows) = rows
  | [], h, _ => absurd rfl h
  | [b], _, h => cuts_none (h b (.head _))
  | b :: c :: r, _, h => by
    rw [joinB_two, List.singleton_append, cuts_app (h b (.head _)), cuts_join (by simp) fun q hq => h q (.tail _ hq)]
theorem cuts_join_lf : ∀ {rows : List (List UInt8)}, rows ≠ [] → (∀ r ∈ rows, NoLf r) → cuts 10 (joinB [10] rows ++ [10]) = rows ++ [[]]
  | [], h, _ => absurd rfl h
  | [b], _, h => by
    show cuts 10 (b ++ 10 :: []) = _
    rw [cuts_app (h b (.head _))]
    rfl
  | b :: c :: r, _, h => by
    rw [joinB_two, List.singleton_append, List.append_assoc, List.cons_append, cuts_app (h b (.head _)), cuts_join_lf (by simp) fun q hq => h q (.tail _ hq)]
    rfl
theorem cuts_msg {rows : List (List UInt8)} {nl : List UInt8} (hne : rows ≠ []) (h : ∀ r ∈ rows, NoLf r) (hn : nl = [] ∨ nl = [10]) : cuts 10 (joinB [10] rows ++ nl) = rows ++ (if nl = [] then [] else [[]]) := by
  rcases hn with rfl | rfl
  · rw [List.append_nil, cuts_join hne h, if_pos rfl, List.append_nil]
  · rw [cuts_join_lf hne h, if_neg (by simp)]
end By
end Mine
namespace Mine
namespace By
theorem lines_none : ∀ {p : List UInt8}, NoLf p → p ≠ [] → linesOf p = [p]
  | [], _, h => absurd rfl h
  | [y], h, _ => by
    unfold linesOf
    rw [if_neg (by rw [h y (.head _)]; exact Bool.false_ne_true)]
    rfl
  | y :: z :: r, h, _ => by
    unfold linesOf
    rw [if_neg (by rw [h y (.head _)]; exact Bool.false_ne_true), lines_none (p := z :: r) (fun q hq => h q (.tail _ hq)) (by simp)]
theorem lines_app {q : List UInt8} : ∀ {p : List UInt8}, NoLf p → linesOf (p ++ 10 :: q) = (p ++ [10]) :: linesOf q
  | [], _ => by
    rw [List.nil_append]
    show (if (10 : UInt8) == 10 then _ else _) = _
    rfl
  | y :: r, h => by
    rw [List.cons_append]
    show (if y == 10 then [y] :: linesOf (r ++ 10 :: q) else match linesOf (r ++ 10 :: q) with | h :: t => (y :: h) :: t | [] => [[y]]) = _
    rw [if_neg (by rw [h y (.head _)]; exact Bool.false_ne_true), lines_app (p := r) fun z hz => h z (.tail _ hz)]
    rfl
def rc4 (r : List UInt8) : List UInt8 := rcut [32, 9, 13, 10] r
theorem rc4_lf (r : List UInt8) : rc4 (r ++ [10]) = rc4 r := rcut_snoc (by decide)
theorem lines_msg {nl : List UInt8} (hn : nl = [] ∨ nl = [10]) : ∀ {rows : List (List UInt8)}, rows ≠ [] → (∀ r ∈ rows, NoLf r) → ∃ tl, (tl = [] ∨ tl = [([] : List UInt8)]) ∧ rows.map rc4 = (linesOf (joinB [10] rows ++ nl)).map rc4 ++ tl
  | [], h, _ => absurd rfl h
  | [b], _, h => by
    rcases hn with rfl | rfl
    · show ∃ tl, _ ∧ [rc4 b] = (linesOf (b ++ [])).map rc4 ++ tl
      rw [List.append_nil]
      by_cases hb : b = []
      · subst hb
        exact ⟨[[]], .inr rfl, rfl⟩
      · rw [lines_none (h b (.head _)) hb]
        exact ⟨[], .inl rfl, rfl⟩
    · show ∃ tl, _ ∧ [rc4 b] = (linesOf (b ++ 10 :: [])).map rc4 ++ tl
      rw [lines_app (h b (.head _))]
      refine ⟨[], .inl rfl, ?_⟩
      show [rc4 b] = [rc4 (b ++ [10])] ++ []
      rw [rc4_lf, List.append_nil]
  | b :: c :: r, _, h => by
    obtain ⟨tl, ht, e⟩ := lines_msg hn (rows := c :: r) (by simp) fun q hq => h q (.tail _ hq)
    refine ⟨tl, ht, ?_⟩
    rw [joinB_two, List.singleton_append, List.append_assoc, List.cons_append, lines_app (h b (.head _))]
    show rc4 b :: (c :: r).map rc4 = (rc4 (b ++ [10]) :: _) ++ tl
    rw [rc4_lf, e]
    rfl
end By
end Mine
end
section
namespace Mine
namespace By
theorem sp_map {W : List UInt8} (h : W.contains 32 = true) {rows rs' : List (List UInt8)} (t : Sp rows rs') : rs'.map (rcut W) = rows.map (rcut W) := by
  induction t with
  | nil => rfl
  | cons h' _ ih =>
    rw [List.map_cons, List.map_cons, ih]
    rcases h' with rfl | ⟨_, rfl⟩
    · rfl
    · rw [rcut_snoc h]
theorem sp_nolf {rows rs' : List (List UInt8)} (t : Sp rows rs') (h : ∀ r ∈ rows, NoLf r) : ∀ r ∈ rs', NoLf r := by
  induction t with
  | nil => exact h
  | cons h' _ ih =>
    intro q hq
    rcases List.mem_cons.mp hq with rfl | hq
    · have h0 := h _ (.head _)
      rcases h' with rfl | ⟨_, rfl⟩
      · exact h0
      · intro y hy
        rcases List.mem_append.mp hy with hy | hy
        · exact h0 y hy
        · rw [List.mem_singleton.mp hy]; decide
    · exact ih (fun r hr => h r (.tail _ hr)) q hq
theorem sp_ne {rows rs' : List (List UInt8)} (t : Sp rows rs') (h : rows ≠ []) : rs' ≠ [] := by
  intro e
  have := t.length
  rw [e, List.length_nil] at this
  exact h (List.eq_nil_of_length_eq_zero this.symm)
theorem rc4_3 {r : List UInt8} (h : NoLf r) : rc4 r = rcut [32, 9, 13] r := by
  unfold rc4 rcut
  congr 1
  have key : ∀ l : List UInt8, (∀ y ∈ l, (y == 10) = false) → l.dropWhile (fun x => ([32, 9, 13, 10] : List UInt8).contains x) = l.dropWhile (fun x => ([32, 9, 13] : List UInt8).contains x) := by
    intro l
    induction l with
    | nil => intro _; rfl
    | cons y t ih =>
      intro hl
      have h0 := hl y (.head _)
      have e : ([32, 9, 13, 10] : List UInt8).contains y = ([32, 9, 13] : List UInt8).contains y := by
        simp only [List.contains_cons, List.contains_nil, h0, Bool.or_false]
      rw [List.dropWhile_cons, List.dropWhile_cons, e, ih fun z hz => hl z (.tail _ hz)]
  exact key _ fun y hy => h y (List.mem_reverse.mp hy)
theorem tcut_hcut (rs : List (List UInt8)) : hcut (tcut rs) = tcut (hcut rs) := by
  induction rs with
  | nil => rfl
  | cons b r ih =>
    by_cases hb : b = []
    · subst hb
      have e1 : hcut ([] :: r) = hcut r := by unfold hcut; rw [List.dropWhile_cons, if_pos (by decide)]
      rw [e1, ← ih]
      unfold tcut
      rw [List.reverse_cons, List.dropWhile_append]
      split
      · rename_i h0
        rw [List.isEmpty_iff] at h0
        rw [h0]
        rfl
      · rw [List.reverse_append, List.reverse_singleton, List.singleton_append]
        unfold hcut
        rw [List.dropWhile_cons, if_pos (by decide)]
    · have e1 : hcut (b :: r) = b :: r := by unfold hcut; rw [List.dropWhile_cons, if_neg (by simpa using hb)]
      rw [e1]
      have e2 : ∃ r', tcut (b :: r) = b :: r' := by
        unfold tcut
        rw [List.reverse_cons, List.dropWhile_append]
        split
        · rw [List.dropWhile_cons, if_neg (by simpa using hb)]
          exact ⟨[], rfl⟩
        · rw [List.reverse_append]
          exact ⟨_, rfl⟩
      obtain ⟨r', e⟩ := e2
      rw [e]
      unfold hcut
      rw [List.dropWhile_cons, if_neg (by simpa using hb)]
theorem ended_msg {rows rs' : List (List UInt8)} {nl : List UInt8} (hne : rows ≠ []) (h : ∀ r ∈ rows, NoLf r) (t : Sp rows rs') (hn : nl = [] ∨ nl = [10]) : ended (joinB [10] rs' ++ nl) = lend rows := by
  obtain ⟨tl, ht, e⟩ := lines_msg hn (sp_ne t hne) (sp_nolf t h)
  have e4 : rs'.map rc4 = rs'.map (rcut [32, 9, 13]) := List.map_congr_left fun r hr => rc4_3 (sp_nolf t h r hr)
  rw [e4, sp_map (by decide) t] at e
  unfold ended endRows lend
  have e5 : tcut ((linesOf (joinB [10] rs' ++ nl)).map (rcut [32, 9, 13, 10])) = tcut (rows.map (rcut [32, 9, 13])) := by
    rw [e]
    rcases ht with rfl | rfl
    · rw [List.append_nil]; rfl
    · rw [tcut_snoc]; rfl
  rw [e5, tcut_hcut]
end By
end Mine
end
section
namespace Mine
namespace By
theorem rowsB_msg {rows rs' : List (List UInt8)} {nl : List UInt8} (hne : rows ≠ []) (h : ∀ r ∈ rows, NoLf r) (t : Sp rows rs') (hn : nl = [] ∨ nl = [10]) : rowsB (joinB [10] rs' ++ nl) = rows.map (rcut [32, 9, 13, 11, 12]) ++ (if nl = [] then [] else [[]]) := by
  unfold rowsB
  rw [cuts_msg (sp_ne t hne) (sp_nolf t h) hn, List.map_append, sp_map (by decide) t]
  congr 1
  rcases hn with rfl | rfl
  · rfl
  · rfl
theorem tcut_rowsB {rows rs' : List (List UInt8)} {nl : List UInt8} (hne : rows ≠ []) (h : ∀ r ∈ rows, NoLf r) (t : Sp rows rs') (hn : nl = [] ∨ nl = [10]) : tcut (rowsB (joinB [10] rs' ++ nl)) = tcut (rows.map (rcut [32, 9, 13, 11, 12])) := by
  rw [rowsB_msg hne h t hn]
  rcases hn with rfl | rfl
  · rw [if_pos rfl, List.append_nil]
  · rw [if_neg (by simp), tcut_snoc]
theorem subj_rows {sj : List (List UInt8)} {tl : List (List UInt8)} (h1 : sj ≠ []) (h2 : ∀ r ∈ sj, r ≠ []) (h3 : tl = [] ∨ ∃ q, tl = [] :: q) : subjS (sj ++ tl) = 0 ∧ subjE (sj ++ tl) = sj.length := by
  have e0 : subjS (sj ++ tl) = 0 := by
    unfold subjS runN
    cases sj with
    | nil => exact absurd rfl h1
    | cons b r =>
      rw [List.cons_append, List.takeWhile_cons, if_neg (by unfold isE; simpa using h2 b (.head _))]
      rfl
  refine ⟨e0, ?_⟩
  unfold subjE
  rw [e0, List.drop_zero, Nat.zero_add]
  unfold runN
  rw [List.takeWhile_append_of_pos (fun x hx => by unfold notE; simpa using h2 x hx)]
  rcases h3 with rfl | ⟨q, rfl⟩
  · rw [List.takeWhile_nil, List.append_nil]
  · rw [List.takeWhile_cons, if_neg (by unfold notE; decide), List.append_nil]
theorem subj_text {sj : List (List UInt8)} {tl : List (List UInt8)} (h1 : sj ≠ []) (h2 : ∀ r ∈ sj, r ≠ []) (h3 : tl = [] ∨ ∃ q, tl = [] :: q) : subjB (sj ++ tl) = joinB [32] sj := by
  obtain ⟨a, b⟩ := subj_rows h1 h2 h3
  unfold subjB
  rw [a, b, List.drop_zero, List.take_left]
end By
end Mine
end
section
namespace Mine
namespace By
theorem subj_facts {sj : List (List UInt8)} (h : sj ∈ subjects) : sj ≠ [] ∧ (∀ r ∈ sj, r ≠ []) ∧ (∀ r ∈ sj, NoLf r) ∧ sj.map (rcut [32, 9, 13, 11, 12]) = sj ∧ (sj.map List.length).sum ≤ 20 ∧ sj.length ≤ 2 := by
  unfold subjects at h
  simp only [List.mem_cons, List.not_mem_nil, or_false] at h
  unfold NoLf
  rcases h with rfl | rfl | rfl | rfl | rfl | rfl | rfl | rfl | rfl | rfl <;> exact ⟨by decide, by decide, by decide, by decide, by decide, by decide⟩
theorem part_facts {pt : List (List UInt8)} (h : pt ∈ parts) : (∀ r ∈ pt, NoLf r) ∧ (pt.map List.length).sum ≤ 27 := by
  unfold parts at h
  simp only [List.mem_cons, List.not_mem_nil, or_false] at h
  unfold NoLf
  rcases h with rfl | rfl | rfl <;> exact ⟨by decide, by decide⟩
theorem end_facts {en : List (List UInt8)} (h : en ∈ ends) : (∀ r ∈ en, NoLf r) ∧ (en.map List.length).sum ≤ 33 := by
  unfold ends at h
  simp only [List.mem_cons, List.not_mem_nil, or_false] at h
  unfold NoLf
  rcases h with rfl | rfl | rfl | rfl <;> exact ⟨by decide, by decide⟩
theorem nolf_rep {k : Nat} : ∀ r ∈ List.replicate k ([] : List UInt8), NoLf r := by
  intro r hr
  rw [List.eq_of_mem_replicate hr]
  intro y hy
  cases hy
theorem parts_facts {n : Nat} {ps : List (List UInt8)} (h : Parts n ps) : (∀ r ∈ ps, NoLf r) ∧ (ps.map List.length).sum ≤ 27 * n := by
  induction h with
  | nil => exact ⟨(fun r hr => nomatch hr), Nat.le_refl _⟩
  | more k _ hk hp ih =>
    obtain ⟨a, b⟩ := part_facts hp
    refine ⟨fun r hr => ?_, ?_⟩
    · rcases List.mem_append.mp hr with hr | hr
      · rcases List.mem_append.mp hr with hr | hr
        · exact ih.1 r hr
        · exact nolf_rep r hr
      · exact a r hr
    · simp only [List.map_append, List.sum_append, List.map_replicate, List.length_nil, List.sum_replicate_nat]
      omega
end By
end Mine
namespace Mine
namespace By
theorem parts_head {n : Nat} {ps : List (List UInt8)} (h : Parts n ps) : ps = [] ∨ ∃ q, ps = [] :: q := by
  induction h with
  | nil => exact .inl rfl
  | more k _ hk _ ih =>
    right
    rcases ih with rfl | ⟨q, rfl⟩
    · obtain ⟨j, rfl⟩ : ∃ j, k = j + 1 := ⟨k - 1, by omega⟩
      rw [List.nil_append, List.replicate_succ, List.cons_append]
      exact ⟨_, rfl⟩
    · exact ⟨_, rfl⟩
theorem rest_head {sj rs : List (List UInt8)} {many : Nat} (h : MsgOk sj rs many) : rs = [] ∨ ∃ q, rs = [] :: q := by
  obtain ⟨_, n, ps, en, k, hp, _, _, _, _, rfl⟩ := h
  rcases parts_head hp with rfl | ⟨q, rfl⟩
  · split
    · cases k with
      | zero => exact .inl rfl
      | succ k => exact .inr ⟨_, rfl⟩
    · exact .inr ⟨_, rfl⟩
  · exact .inr ⟨_, rfl⟩
theorem msg_nolf {sj rs : List (List UInt8)} {many : Nat} (h : MsgOk sj rs many) : ∀ r ∈ sj ++ rs, NoLf r := by
  obtain ⟨hs, n, ps, en, k, hp, _, he, _, _, rfl⟩ := h
  intro r hr
  rcases List.mem_append.mp hr with hr | hr
  · exact (subj_facts hs).2.2.1 r hr
  · rcases List.mem_append.mp hr with hr | hr
    · rcases List.mem_append.mp hr with hr | hr
      · exact (parts_facts hp).1 r hr
      · split at hr
        · cases hr
        · rcases List.mem_cons.mp hr with rfl | hr
          · intro y hy; cases hy
          · exact (end_facts he).1 r hr
    · exact nolf_rep r hr
end By
end Mine
namespace Mine
namespace By
theorem msg_size {sj rs : List (List UInt8)} {many : Nat} (h : MsgOk sj rs many) : ((sj ++ rs).map List.length).sum ≤ 107 ∧ rs.length ≤ 15 ∧ sj.length ≤ 2 := by
  obtain ⟨hs, n, ps, en, k, hp, hn, he, hk, _, rfl⟩ := h
  have h1 := subj_facts hs
  have h2 := (parts_facts hp).2
  have h3 := (end_facts he).2
  have h4 := hp.len
  have h5 := end_len he
  refine ⟨?_, ?_, h1.2.2.2.2.2⟩
  · split
    · simp only [List.map_append, List.sum_append, List.map_replicate, List.length_nil, List.sum_replicate_nat, List.map_nil, List.sum_nil]
      omega
    · simp only [List.map_append, List.sum_append, List.map_replicate, List.length_nil, List.sum_replicate_nat, List.map_cons, List.sum_cons]
      omega
  · split
    · simp only [List.length_append, List.length_replicate, List.length_nil]
      omega
    · simp only [List.length_append, List.length_replicate, List.length_cons]
      omega
end By
end Mine
end
section
namespace Mine
namespace By
structure Msg (sj rs : List (List UInt8)) (many : Nat) (a : List UInt8) : Prop where
  ok : MsgOk sj rs many
  oct : ∃ rs' nl, Sp (sj ++ rs) rs' ∧ (nl = [] ∨ nl = [10]) ∧ a = joinB [10] rs' ++ nl
theorem Msg.len {sj rs : List (List UInt8)} {many : Nat} {a : List UInt8} (h : Msg sj rs many a) : a.length ≤ 400 := by
  obtain ⟨ok, rs', nl, t, hn, rfl⟩ := h
  obtain ⟨h1, h2, h3⟩ := msg_size ok
  have h4 := sp_join t
  rw [List.length_append] at h4
  rw [List.length_append]
  rcases hn with rfl | rfl
  · simp only [List.length_nil]; omega
  · simp only [List.length_cons, List.length_nil]; omega
theorem Msg.ne {sj rs : List (List UInt8)} {many : Nat} {a : List UInt8} (h : Msg sj rs many a) : sj ++ rs ≠ [] := by
  intro e
  exact (subj_facts h.ok.1).1 (List.append_eq_nil_iff.mp e).1
theorem Msg.ended {sj rs : List (List UInt8)} {many : Nat} {a : List UInt8} (h : Msg sj rs many a) : By.ended a = lend (sj ++ rs) := by
  have hne := h.ne
  obtain ⟨ok, rs', nl, t, hn, rfl⟩ := h
  exact ended_msg hne (msg_nolf ok) t hn
theorem Msg.rows {sj rs : List (List UInt8)} {many : Nat} {a : List UInt8} (h : Msg sj rs many a) : ∃ tl, (tl = [] ∨ tl = [[]]) ∧ rowsB a = sj ++ (rs.map (rcut [32, 9, 13, 11, 12]) ++ tl) := by
  have hne := h.ne
  obtain ⟨ok, rs', nl, t, hn, rfl⟩ := h
  refine ⟨if nl = [] then [] else [[]], ?_, ?_⟩
  · split
    · exact .inl rfl
    · exact .inr rfl
  · rw [rowsB_msg hne (msg_nolf ok) t hn, List.map_append, (subj_facts ok.1).2.2.2.1, List.append_assoc]
theorem Msg.subj {sj rs : List (List UInt8)} {many : Nat} {a : List UInt8} (h : Msg sj rs many a) : subjB (rowsB a) = joinB [32] sj ∧ subjE (rowsB a) = sj.length := by
  obtain ⟨tl, ht, e⟩ := h.rows
  have hf := subj_facts h.ok.1
  rw [e]
  have h3 : rs.map (rcut [32, 9, 13, 11, 12]) ++ tl = [] ∨ ∃ q, rs.map (rcut [32, 9, 13, 11, 12]) ++ tl = [] :: q := by
    rcases rest_head h.ok with rfl | ⟨q, rfl⟩
    · rcases ht with rfl | rfl
      · exact .inl rfl
      · exact .inr ⟨_, rfl⟩
    · exact .inr ⟨_, rfl⟩
  exact ⟨subj_text hf.1 hf.2.1 h3, (subj_rows hf.1 hf.2.1 h3).2⟩
end By
end Mine
end
section
namespace Mine
namespace By
theorem sl_last {s : List UInt8} : sl s (some (-1)) none = s.drop (s.length - 1) := by
  unfold sl
  simp only [Option.elim]
  rw [clip_neg (by decide)]
  show List.take (s.length - (s.length - 1)) (List.drop (s.length - 1) s) = _
  exact List.take_of_length_le (by rw [List.length_drop]; exact Nat.le_refl _)
theorem lisRev_eq (s : List UInt8) : lisRev s = isRev s := by
  unfold lisRev isRev
  rw [sl_to (by decide), sl_to (by decide), sl_last]
  rfl
theorem lrevH_eq (s : List UInt8) : lrevH s = revH s := by
  unfold lrevH revH
  rw [lisRev_eq]
  split
  · rename_i h
    have h8 : s.take 8 = revQ := by
      unfold isRev at h
      rw [Bool.and_eq_true] at h
      exact eq_of_beq h.1
    rw [sl_from (by decide)]
    show reapP ++ s.drop 7 = reapQ ++ s.drop 8
    have e : s.drop 7 = [34] ++ s.drop 8 := by
      have e1 : s = revQ ++ s.drop 8 := by
        have := List.take_append_drop 8 s
        rw [h8] at this
        exact this.symm
      have e2 : (revQ ++ s.drop 8).drop 7 = [34] ++ s.drop 8 := rfl
      exact (congrArg (List.drop 7) e1).trans e2
    rw [e]
    rfl
  · rfl
theorem rev_msg (s oid : List UInt8) (p : Option (List UInt8)) : revB s oid p = lrevB s oid p := by
  cases p with
  | none =>
    unfold revB lrevB
    rw [lrevH_eq]
    simp only [List.append_assoc, List.append_nil, List.nil_append]
  | some p =>
    unfold revB lrevB
    rw [lrevH_eq]
    simp only [List.append_assoc, List.append_nil, List.nil_append]
end By
end Mine
end
section
namespace Mine
namespace By
def NoVf (r : List UInt8) : Prop := ∀ y ∈ r, (y == 11) = false ∧ (y == 12) = false
theorem rc5_3 {r : List UInt8} (h : NoVf r) : rcut [32, 9, 13, 11, 12] r = rcut [32, 9, 13] r := by
  unfold rcut
  congr 1
  have key : ∀ l : List UInt8, (∀ y ∈ l, (y == 11) = false ∧ (y == 12) = false) → l.dropWhile (fun x => ([32, 9, 13, 11, 12] : List UInt8).contains x) = l.dropWhile (fun x => ([32, 9, 13] : List UInt8).contains x) := by
    intro l
    induction l with
    | nil => intro _; rfl
    | cons y t ih =>
      intro hl
      have h0 := hl y (.head _)
      have e : ([32, 9, 13, 11, 12] : List UInt8).contains y = ([32, 9, 13] : List UInt8).contains y := by
        simp only [List.contains_cons, List.contains_nil, h0.1, h0.2, Bool.or_false]
      rw [List.dropWhile_cons, List.dropWhile_cons, e, ih fun z hz => hl z (.tail _ hz)]
  exact key _ fun y hy => h y (List.mem_reverse.mp hy)
theorem novf_subj : ∀ sj ∈ subjects, ∀ r ∈ sj, ∀ y ∈ r, (y == 11) = false ∧ (y == 12) = false := by decide +kernel
theorem novf_part : ∀ pt ∈ parts, ∀ r ∈ pt, ∀ y ∈ r, (y == 11) = false ∧ (y == 12) = false := by decide +kernel
theorem novf_end : ∀ en ∈ ends, ∀ r ∈ en, ∀ y ∈ r, (y == 11) = false ∧ (y == 12) = false := by decide +kernel
theorem parts_novf {n : Nat} {ps : List (List UInt8)} (h : Parts n ps) : ∀ r ∈ ps, NoVf r := by
  induction h with
  | nil => exact (fun r hr => nomatch hr)
  | more k _ hk hp ih =>
    intro r hr
    rcases List.mem_append.mp hr with hr | hr
    · rcases List.mem_append.mp hr with hr | hr
      · exact ih r hr
      · rw [List.eq_of_mem_replicate hr]
        intro y hy; cases hy
    · exact novf_part _ hp r hr
theorem msg_novf {sj rs : List (List UInt8)} {many : Nat} (h : MsgOk sj rs many) : ∀ r ∈ sj ++ rs, NoVf r := by
  obtain ⟨hs, n, ps, en, k, hp, _, he, _, _, rfl⟩ := h
  intro r hr
  rcases List.mem_append.mp hr with hr | hr
  · exact novf_subj _ hs r hr
  · rcases List.mem_append.mp hr with hr | hr
    · rcases List.mem_append.mp hr with hr | hr
      · exact parts_novf hp r hr
      · split at hr
        · cases hr
        · rcases List.mem_cons.mp hr with rfl | hr
          · intro y hy; cases hy
          · exact novf_end _ he r hr
    · rw [List.eq_of_mem_replicate hr]
      intro y hy; cases hy
theorem msg_map5 {sj rs : List (List UInt8)} {many : Nat} (h : MsgOk sj rs many) : (sj ++ rs).map (rcut [32, 9, 13, 11, 12]) = (sj ++ rs).map (rcut [32, 9, 13]) :=
  List.map_congr_left fun r hr => rc5_3 (msg_novf h r hr)
def tails : List (List (List UInt8) × Nat) :=
  [([[109, 111, 114, 101, 32, 116, 101, 120, 116]], 0), ([[115, 111, 109, 101, 32, 114, 111, 119, 115], [111, 102, 32, 97, 32, 112, 97, 114, 116]], 0), ([[97, 110, 100, 32, 111, 110, 101, 32, 102, 117, 114, 116, 104, 101, 114]], 0),
   ([[83, 105, 103, 110, 101, 100, 45, 111, 102, 102, 45, 98, 121, 58, 32, 65, 32, 60, 97, 64, 98, 62]], 1), ([[65, 99, 107, 101, 100, 45, 98, 121, 58, 32, 66], [83, 105, 103, 110, 101, 100, 45, 111, 102, 102, 45, 98, 121, 58, 32, 65, 32, 60, 97, 64, 98, 62]], 2), ([[40, 99, 104, 101, 114, 114, 121, 32, 112, 105, 99, 107, 101, 100, 32, 102, 114, 111, 109, 32, 99, 111, 109, 109, 105, 116, 32, 48, 49, 48, 50, 41]], 1)]
theorem tails_facts : ∀ x ∈ tails, (x.1.all notE = true ∧ 0 < x.1.length) ∧ (∀ r ∈ x.1, lead r = false) ∧ (decide (0 < trailN x.1) || (x.1.getLastD [] ++ [10]).take 27 == pickQ) = decide (0 < x.2) := by decide +kernel
theorem subj_more : ∀ sj ∈ subjects, sj.map (rcut [32, 9, 13]) = sj ∧ (sj.all notE = true ∧ 0 < sj.length) ∧ ((sj.getLastD [] ++ [10]).take 27 == pickQ) = false ∧ marked (joinB [32] sj) = lmark (sj.getD 0 []) := by decide +kernel
theorem ends_more : ∀ en ∈ ends, en.map (rcut [32, 9, 13]) = en ∧ (en = [] ∨ (en, en.length) ∈ tails) := by decide +kernel
theorem parts_more : ∀ pt ∈ parts, (pt.map (rcut [32, 9, 13]), 0) ∈ tails ∨ ∃ z, pt.map (rcut [32, 9, 13]) = [z, []] ++ [[97, 110, 100, 32, 111, 110, 101, 32, 102, 117, 114, 116, 104, 101, 114]] := by
  intro pt h
  unfold parts at h
  simp only [List.mem_cons, List.not_mem_nil, or_false] at h
  rcases h with rfl | rfl | rfl
  · exact .inl (by decide +kernel)
  · exact .inl (by decide +kernel)
  · exact .inr ⟨[119, 105, 116, 104, 32, 97, 32, 116, 97, 98], by decide +kernel⟩
theorem tcut_rep (x : List (List UInt8)) : ∀ k : Nat, tcut (x ++ List.replicate k []) = tcut x
  | 0 => by rw [List.replicate_zero, List.append_nil]
  | k + 1 => by rw [List.replicate_succ', ← List.append_assoc, tcut_snoc, tcut_rep x k]
theorem tcut_end {x tl : List (List UInt8)} (h : tl.all notE = true ∧ 0 < tl.length) : tcut (x ++ tl) = x ++ tl := by
  have hne : tl ≠ [] := fun e => by rw [e] at h; exact Nat.lt_irrefl 0 h.2
  have e := last_split hne
  have hz : tl.getLastD [] ≠ [] := by
    have hm : tl.getLastD [] ∈ tl := by
      have := List.mem_append_right tl.dropLast (List.mem_singleton.mpr (rfl : tl.getLastD [] = tl.getLastD []))
      rwa [← e] at this
    have := List.all_eq_true.mp h.1 _ hm
    unfold notE at this
    simpa using this
  rw [e, ← List.append_assoc]
  exact tcut_keep hz
theorem msg_tail {sj rs : List (List UInt8)} {many : Nat} (h : MsgOk sj rs many) :
    (many = 0 ∧ tcut ((sj ++ rs).map (rcut [32, 9, 13])) = sj) ∨ ∃ pre tl, (tl, many) ∈ tails ∧ tcut ((sj ++ rs).map (rcut [32, 9, 13])) = (sj ++ pre ++ [[]]) ++ tl := by
  obtain ⟨hs, n, ps, en, k, hp, _, he, _, rfl, rfl⟩ := h
  have hsm := subj_more sj hs
  have hem := ends_more en he
  have e0 : ∀ j : Nat, (List.replicate j ([] : List UInt8)).map (rcut [32, 9, 13]) = List.replicate j [] := fun j => by rw [List.map_replicate]; rfl
  rw [← List.append_assoc, List.map_append, e0, tcut_rep, List.map_append, hsm.1, List.map_append]
  rcases hem.2 with rfl | ht
  · rw [if_pos rfl, List.map_nil, List.append_nil]
    cases hp with
    | nil =>
      left
      refine ⟨rfl, ?_⟩
      have := tcut_end (x := []) hsm.2.1
      rw [List.map_nil, List.append_nil]
      exact this
    | @more i rs pt j hp' hj hpt =>
      right
      rw [List.map_append, List.map_append, e0]
      obtain ⟨j', rfl⟩ : ∃ j', j = j' + 1 := ⟨j - 1, by omega⟩
      rcases parts_more pt hpt with ht | ⟨z, ez⟩
      · refine ⟨rs.map (rcut [32, 9, 13]) ++ List.replicate j' [], _, ht, ?_⟩
        rw [List.replicate_succ', ← tcut_end (x := sj ++ (List.map (rcut [32, 9, 13]) rs ++ List.replicate j' []) ++ [[]]) (tails_facts _ ht).1]
        simp only [List.append_assoc]
      · have ht : (([[97, 110, 100, 32, 111, 110, 101, 32, 102, 117, 114, 116, 104, 101, 114]] : List (List UInt8)), 0) ∈ tails := .tail _ (.tail _ (.head _))
        refine ⟨rs.map (rcut [32, 9, 13]) ++ List.replicate (j' + 1) [] ++ [z], _, ht, ?_⟩
        rw [ez, ← tcut_end (x := sj ++ (List.map (rcut [32, 9, 13]) rs ++ List.replicate (j' + 1) [] ++ [z]) ++ [[]]) (tails_facts _ ht).1]
        simp only [List.append_assoc, List.cons_append, List.nil_append]
  · right
    have hne : en ≠ [] := fun e => by rw [e] at ht; revert ht; decide +kernel
    refine ⟨ps.map (rcut [32, 9, 13]), en, ht, ?_⟩
    rw [if_neg hne, List.map_cons, hem.1, ← tcut_end (x := sj ++ List.map (rcut [32, 9, 13]) ps ++ [[]]) (tails_facts _ ht).1]
    simp only [List.append_assoc, List.cons_append, List.nil_append]
    rfl
end By
end Mine
end
section
namespace Mine
namespace By
theorem lastPart_app {x tl : List (List UInt8)} (hx : x.any notE = true) (ht : tl.all notE = true) : lastPart ((x ++ [[]]) ++ tl) = tl := by
  have e : lastS ((x ++ [[]]) ++ tl) = (x ++ [[]]).length := by
    refine lastS_of (by rw [List.length_append (as := x ++ [[]])]; exact Nat.le_add_right _ _) (by rw [List.drop_left]; exact ht) (.inr ?_)
    rw [List.length_append, List.length_singleton, Nat.add_sub_cancel, List.getD_eq_getElem?_getD, List.append_assoc, List.getElem?_append_right (Nat.le_refl _), Nat.sub_self]
    rfl
  unfold lastPart
  rw [e, List.take_left, List.drop_left, if_neg]
  intro h
  obtain ⟨r, hr, h1⟩ := List.any_eq_true.mp hx
  have h2 := List.all_eq_true.mp h r (List.mem_append_left _ hr)
  unfold isE at h2
  unfold notE at h1
  rw [bne, h2] at h1
  cases h1
theorem lastPart_one {x : List (List UInt8)} (h : x.all notE = true) : lastPart x = [] := by
  have e : lastS x = 0 := lastS_of (Nat.zero_le _) (by rw [List.drop_zero]; exact h) (.inl rfl)
  unfold lastPart
  rw [e, List.take_zero]
  rfl
theorem lines_feeds : ∀ {R : List (List UInt8)}, (∀ r ∈ R, NoLf r) → linesOf ((R.map (· ++ [10])).flatten) = R.map (· ++ [10])
  | [], _ => rfl
  | r :: t, h => by
    rw [List.map_cons, List.flatten_cons, List.append_assoc, List.singleton_append, lines_app (h r (.head _)), lines_feeds fun q hq => h q (.tail _ hq)]
theorem nolf_cut {r W : List UInt8} (h : NoLf r) : NoLf (rcut W r) := fun y hy => h y ((rcut_pre W r).sublist.subset hy)
theorem any_head {sj t : List (List UInt8)} (h : sj.all notE = true ∧ 0 < sj.length) : (sj ++ t).any notE = true := by
  cases sj with
  | nil => exact absurd h.2 (Nat.lt_irrefl 0)
  | cons b r =>
    have := h.1
    rw [List.all_cons, Bool.and_eq_true] at this
    rw [List.cons_append, List.any_cons, this.1]; rfl
theorem hcut_head {sj t : List (List UInt8)} (h : sj.all notE = true ∧ 0 < sj.length) : hcut (sj ++ t) = sj ++ t := by
  cases sj with
  | nil => exact absurd h.2 (Nat.lt_irrefl 0)
  | cons b r =>
    have := h.1
    rw [List.all_cons, Bool.and_eq_true] at this
    have hb : b ≠ [] := by have := this.1; unfold notE at this; simpa using this
    unfold hcut
    rw [List.cons_append, List.dropWhile_cons, if_neg (by simpa using hb)]
def lrows (rows : List (List UInt8)) : List (List UInt8) := tcut (hcut (rows.map (rcut [32, 9, 13])))
theorem lend_lrows (rows : List (List UInt8)) : lend rows = ((lrows rows).map (· ++ [10])).flatten := rfl
theorem lrows_nolf {rows : List (List UInt8)} (h : ∀ r ∈ rows, NoLf r) : ∀ r ∈ lrows rows, NoLf r := by
  intro r hr
  have h1 := (tcut_pre (hcut (rows.map (rcut [32, 9, 13])))).sublist.subset hr
  have h2 := (hcut_suf (rows.map (rcut [32, 9, 13]))).sublist.subset h1
  obtain ⟨q, hq, rfl⟩ := List.mem_map.mp h2
  exact nolf_cut (h q hq)
theorem last_of {R : List (List UInt8)} (h : R ≠ []) : (R.map (· ++ [10])).getLastD [] = R.getLastD [] ++ [10] := by
  rw [last_split h, List.map_append, List.map_singleton, List.getLastD_concat, List.getLastD_concat]
theorem last_app {x tl : List (List UInt8)} (h : tl ≠ []) : (x ++ tl).getLastD [] = tl.getLastD [] := by
  rw [last_split h, ← List.append_assoc, List.getLastD_concat, List.getLastD_concat]
theorem Msg.joined {sj rs : List (List UInt8)} {many : Nat} {a : List UInt8} (h : Msg sj rs many a) : joinedQ a = decide (0 < many) ∧ linesOf (By.ended a) ≠ [] ∧ ∀ r ∈ lastPart (tcut (rowsB a)), lead r = false := by
  have hE := h.ended
  have hne := h.ne
  obtain ⟨ok, rs', nl, t, hn, rfl⟩ := h
  have hR : tcut (rowsB (joinB [10] rs' ++ nl)) = tcut ((sj ++ rs).map (rcut [32, 9, 13])) := by
    rw [tcut_rowsB hne (msg_nolf ok) t hn, msg_map5 ok]
  have hL : linesOf (By.ended (joinB [10] rs' ++ nl)) = (lrows (sj ++ rs)).map (· ++ [10]) := by
    rw [hE, lend_lrows, lines_feeds (lrows_nolf (msg_nolf ok))]
  have hS := subj_more sj ok.1
  have hLr : lrows (sj ++ rs) = hcut (tcut ((sj ++ rs).map (rcut [32, 9, 13]))) := (tcut_hcut _).symm
  unfold joinedQ trailM
  rw [hL, hR, hLr]
  have hsne : sj ≠ [] := fun e => by rw [e] at hS; exact Nat.lt_irrefl 0 hS.2.1.2
  rcases msg_tail ok with ⟨rfl, e⟩ | ⟨pre, tl, ht, e⟩
  · rw [e]
    have e1 : hcut sj = sj := by have := hcut_head (t := []) hS.2.1; rwa [List.append_nil] at this
    rw [e1, lastPart_one hS.2.1.1, last_of hsne, hS.2.2.1]
    exact ⟨by decide, fun e => hsne (List.map_eq_nil_iff.mp e), (fun r hr => nomatch hr)⟩
  · rw [e]
    have hT := tails_facts _ ht
    have htne : tl ≠ [] := fun e => by rw [e] at hT; exact Nat.lt_irrefl 0 hT.1.2
    have e1 : hcut ((sj ++ pre ++ [[]]) ++ tl) = (sj ++ pre ++ [[]]) ++ tl := by
      rw [List.append_assoc, List.append_assoc]
      exact hcut_head hS.2.1
    rw [e1, lastPart_app (any_head hS.2.1) hT.1.1, last_of (by simp), last_app htne]
    exact ⟨hT.2.2, fun e => by have := List.map_eq_nil_iff.mp e; simp at this, hT.2.1⟩
theorem Msg.pick {sj rs : List (List UInt8)} {many : Nat} {a : List UInt8} (h : Msg sj rs many a) (oid : List UInt8) : pickB a oid = lpick (sj ++ rs) many oid := by
  obtain ⟨h1, h2, _⟩ := h.joined
  unfold pickB lpick
  rw [if_neg h2, h1, h.ended]
  by_cases hm : 0 < many
  · rw [decide_eq_true hm, if_pos rfl, if_pos hm]
  · rw [decide_eq_false hm, if_neg (by decide), if_neg hm]
theorem Msg.rev {sj rs : List (List UInt8)} {many : Nat} {a : List UInt8} (h : Msg sj rs many a) (oid : List UInt8) (p : Option (List UInt8)) : revB (subjB (rowsB a)) oid p = lrevB (joinB [32] sj) oid p := by
  rw [h.subj.1]; exact rev_msg _ _ _
end By
end Mine
end
section
namespace Mine
namespace By
theorem Sp.refl : ∀ rows : List (List UInt8), Sp rows rows
  | [] => .nil
  | _ :: t => .cons (.inl rfl) (Sp.refl t)
theorem Sp.drop {x y : List (List UInt8)} : ∀ {rs' : List (List UInt8)}, Sp (x ++ y) rs' → Sp y (rs'.drop x.length) := by
  induction x with
  | nil => intro rs' h; exact h
  | cons b r ih =>
    intro rs' h
    cases h with
    | cons _ t => exact ih t
theorem sp_novf {rows rs' : List (List UInt8)} (t : Sp rows rs') (h : ∀ r ∈ rows, NoVf r) : ∀ r ∈ rs', NoVf r := by
  induction t with
  | nil => exact h
  | cons h' _ ih =>
    intro q hq
    rcases List.mem_cons.mp hq with rfl | hq
    · have h0 := h _ (.head _)
      rcases h' with rfl | ⟨_, rfl⟩
      · exact h0
      · intro y hy
        rcases List.mem_append.mp hy with hy | hy
        · exact h0 y hy
        · rw [List.mem_singleton.mp hy]; decide
    · exact ih (fun r hr => h r (.tail _ hr)) q hq
theorem hcut_bcut {rows : List (List UInt8)} (h : ∀ r ∈ rows, NoVf r) : hcut ((bcut rows).map (rcut [32, 9, 13])) = hcut (rows.map (rcut [32, 9, 13])) := by
  induction rows with
  | nil => rfl
  | cons b r ih =>
    have ih' := ih fun q hq => h q (.tail _ hq)
    unfold bcut at ih' ⊢
    rw [List.dropWhile_cons]
    split
    · rename_i hb
      rw [ih', List.map_cons]
      rw [rc5_3 (h b (.head _))] at hb
      unfold hcut
      rw [List.dropWhile_cons (x := rcut [32, 9, 13] b), if_pos hb]
    · rfl
theorem lend_bcut {rows : List (List UInt8)} (h : ∀ r ∈ rows, NoVf r) : lend (bcut rows) = lend rows := by
  unfold lend
  rw [hcut_bcut h]
theorem lend_snoc (rows : List (List UInt8)) : lend (rows ++ [[]]) = lend rows := by
  unfold lend
  rw [List.map_append, ← tcut_hcut, ← tcut_hcut]
  congr 3
  exact tcut_snoc _
theorem lend_sp {rows rs' : List (List UInt8)} (t : Sp rows rs') : lend rs' = lend rows := by
  unfold lend
  rw [sp_map (by decide) t]
theorem ended_join {rows : List (List UInt8)} (h : ∀ r ∈ rows, NoLf r) : ended (joinB [10] rows) = lend rows := by
  by_cases hne : rows = []
  · subst hne; rfl
  · have := ended_msg hne h (Sp.refl rows) (nl := []) (.inl rfl)
    rwa [List.append_nil] at this
theorem Msg.body {sj rs : List (List UInt8)} {many : Nat} {a : List UInt8} (h : Msg sj rs many a) : By.ended (bodyB a) = lend rs := by
  have hE := h.subj.2
  have hne := h.ne
  obtain ⟨ok, rs', nl, t, hn, rfl⟩ := h
  unfold bodyB
  rw [hE, cuts_msg (sp_ne t hne) (sp_nolf t (msg_nolf ok)) hn]
  have hle : sj.length ≤ rs'.length := by rw [t.length, List.length_append]; omega
  rw [List.drop_append_of_le_length hle]
  have t2 : Sp rs (rs'.drop sj.length) := t.drop
  have hlf := sp_nolf t2 fun r hr => msg_nolf ok r (List.mem_append_right _ hr)
  have hvf := sp_novf t2 fun r hr => msg_novf ok r (List.mem_append_right _ hr)
  have hlf2 : ∀ r ∈ rs'.drop sj.length ++ (if nl = [] then [] else [[]]), NoLf r := by
    intro r hr
    rcases List.mem_append.mp hr with hr | hr
    · exact hlf r hr
    · split at hr
      · cases hr
      · rw [List.mem_singleton.mp hr]; intro y hy; cases hy
  have hvf2 : ∀ r ∈ rs'.drop sj.length ++ (if nl = [] then [] else [[]]), NoVf r := by
    intro r hr
    rcases List.mem_append.mp hr with hr | hr
    · exact hvf r hr
    · split at hr
      · cases hr
      · rw [List.mem_singleton.mp hr]; intro y hy; cases hy
  rw [ended_join fun r hr => hlf2 r ((bcut_sub _).subset hr), lend_bcut hvf2]
  split
  · rw [List.append_nil]; exact lend_sp t2
  · rw [lend_snoc]; exact lend_sp t2
theorem Msg.bare {sj rs : List (List UInt8)} {many : Nat} {a : List UInt8} (h : Msg sj rs many a) : bareB a = lbare sj rs := by
  have hm := (subj_more sj h.ok.1).2.2.2
  unfold bareB lbare
  rw [h.subj.1, hm]
  split
  · exact h.body
  · exact h.ended
theorem Msg.joinF {sj rs sj2 rs2 : List (List UInt8)} {many many2 : Nat} {a b : List UInt8} (_h : Msg sj rs many b) (h2 : Msg sj2 rs2 many2 a) (sign : List UInt8) : By.joinF sign b a = ljoinF sign (lbare sj2 rs2) b := by
  unfold By.joinF ljoinF
  rw [h2.bare]
theorem Msg.joinS {sj rs sj2 rs2 : List (List UInt8)} {many many2 : Nat} {a b : List UInt8} (h : Msg sj rs many b) (h2 : Msg sj2 rs2 many2 a) : By.joinS b a = ljoinS (lend (sj ++ rs)) (lbare sj2 rs2) := by
  unfold By.joinS ljoinS
  rw [h2.bare, h.ended]
  cases e1 : (lend (sj ++ rs) == []) with
  | true =>
    rw [Bool.true_or, if_pos rfl, eq_of_beq e1]
    split
    · rename_i e2; rw [eq_of_beq e2]; rfl
    · rfl
  | false =>
    rw [Bool.false_or]
    split
    · rename_i e2; rw [eq_of_beq e2, List.append_nil]
    · rw [if_neg (by decide)]
end By
end Mine
end
section
namespace Mine
set_option maxRecDepth 100000 in
set_option maxHeartbeats 8000000 in
theorem says_cut_end (w : World) (a sg : List UInt8) (t u : Tok) (news : List (Addr × Obj)) (ha : a.length ≤ 4096) : Says w 87 1 [.bytes a.toArray t, .bytes sg.toArray u] news (RB (By.rcut sg a) news) := by
  unfold Says
  k_fill
  w_top off
  k_with_none
  k_with "getMethod bytes" => (k_here; first | refine By.get_method By.slot_find By.type_find ?_ | refine By.get_method By.slot_split By.type_split ?_ | refine By.get_method By.slot_rstrip By.type_rstrip ?_ | refine By.get_method By.slot_lstrip By.type_lstrip ?_ | refine By.get_method By.slot_join By.type_join ?_ | refine By.get_method FB.slot_bytes_startswith FB.type_bytes_startswith ?_ | refine By.get_method FB.slot_bytes_endswith FB.type_bytes_endswith ?_)
  k_with "call builtin:len" => (k_here; (with_reducible show wpAny _ _ (call (Value.builtin "len") [Value.bytes (List.toArray _) _]) _ _ _); (refine By.len_B (by first | assumption | omega) ?_); intro _ _)
  k_with "subscriptTail" => (k_here; (with_reducible show wpAny _ _ (subscriptTail _ _ (Value.bytes (List.toArray _) _) (Value.int _ _)) _ _ _); (refine By.item_B (by first | assumption | omega) (by omega) (by omega) ?_); intro _ _)
  k_with "subscriptTail" => (k_here; (with_reducible show wpAny _ _ (subscriptTail _ (Expr.Slice _ _ none _) (Value.bytes (List.toArray _) _) (Value.ref _)) _ _ _); (with_reducible rename Fr _ _ _ _ => F'q); (with_reducible rename News _ _ _ _ => N'q); (refine By.slice_B (s := ⟨_, _, _, _, _⟩) F'q N'q (by constructor) (by constructor) (by first | assumption | omega) ?_); intro _ _ _ _ _)
  k_with "compareOp In int bytes" => (k_here; (with_reducible show wpAny _ _ (compareOp CmpOp.In (Value.int _ _) (Value.bytes (List.toArray _) _)) _ _ _); refine By.in_byte ?_)
  k_with "compareOp Eq bytes bytes" => (k_here; (with_reducible show wpAny _ _ (compareOp CmpOp.Eq (Value.bytes (List.toArray _) _) (Value.bytes (List.toArray _) _)) _ _ _); refine By.eq_B ?_)
  k_with "compareOp NotEq bytes bytes" => (k_here; (with_reducible show wpAny _ _ (compareOp CmpOp.NotEq (Value.bytes (List.toArray _) _) (Value.bytes (List.toArray _) _)) _ _ _); refine By.ne_B ?_)
  k_with "binaryOp Add bytes bytes" => (k_here; (with_reducible show wpAny _ _ (binaryOp Operator.Add (Value.bytes (List.toArray _) _) (Value.bytes (List.toArray _) _)) _ _ _); (refine By.add_B (by first | assumption | omega | (simp only [List.length_append, List.length_cons, List.length_nil] at *; omega)) ?_); intro _ _)
  k_with "call builtin:bytes.startswith" => (k_here; (with_reducible show wpAny _ _ (call (Value.builtin _) [Value.bytes (List.toArray _) _, Value.bytes (List.toArray _) _]) _ _ _); refine By.call_startswith ?_)
  k_with "call builtin:bytes.endswith" => (k_here; (with_reducible show wpAny _ _ (call (Value.builtin _) [Value.bytes (List.toArray _) _, Value.bytes (List.toArray _) _]) _ _ _); refine By.call_endswith ?_)
  k_with "call builtin:bytes.rstrip" => (k_here; (with_reducible show wpAny _ _ (call (Value.builtin _) [Value.bytes (List.toArray _) _, Value.bytes (List.toArray _) _]) _ _ _); (refine By.call_rstrip (by first | assumption | omega) ?_); intro _ _)
  k_with "call builtin:bytes.lstrip" => (k_here; (with_reducible show wpAny _ _ (call (Value.builtin _) [Value.bytes (List.toArray _) _, Value.bytes (List.toArray _) _]) _ _ _); (refine By.call_lstrip (by first | assumption | omega) ?_); intro _ _)
  k_with "call builtin:bytes.find" => (k_here; first | (refine By.call_find0 ?_; intro _ _) | (refine By.call_findI (by omega) (by omega) ?_; intro _ _))
  k_with "call builtin:bytes.split" => (k_here; k_dflt (refine' By.call_split ?zqk1 ?zqk2 ?zqk3 ?_; (case zqk1 => k_asm); (case zqk2 => k_asm); (case zqk3 => omega); k_whole); intro l'q vs'q h'q k'q hB'q hS'q hZ'q F'q N'q o1q; (try simp only [LCg.Off1, and_true] at o1q); (try k_sweep))
  k_with "call builtin:list.append" => (k_here; (with_reducible show wpAny _ _ (call (Value.builtin _) [Value.ref _, _]) _ _ _); k_dflt (refine' append_K ?zqk1 ?zqk2 ?zqk3 ?_ ?zqz; (case zqk1 => k_asm); (case zqk2 => k_asm); (case zqk3 => k_upd); (case zqz => (rw [PySem.sizeLine_eq]; simp only [List.size_toArray]; omega)); k_whole); intro h'q F'q N'q; (try k_sweep))
  k_with "call builtin:bytes.join" => (k_here; (with_reducible show wpAny _ _ (call (Value.builtin _) [Value.bytes (List.toArray _) _, Value.ref _]) _ _ _); k_dflt (refine By.call_join (News.isList (by k_asm) (by k_mem)) (by with_reducible assumption) (by first | assumption | omega) ?_); intro _ _)
  intro p loose mean mg mb dp un gd cn cs ad ccd cl outer A₀ base h₀ L m s Q E B F X N T hk hdp hu hret
  k_with "exec While BoolOp" => k_while (fun _ e => 0 ≤ e ∧ e ≤ (a.length : Int) ∧ By.rcut sg (a.take e.toNat) = By.rcut sg a) (fun _ e => e.toNat) "end"
  k_with "state" => first | exact By.rcut_start | exact By.rcut_step (by assumption) (by assumption) (by assumption) (by assumption)
  refine wpAny_call ?_
  k_dflt cell_enter
  k_steps
  · exact hret _ _ _ _ (by k_asm) (by k_asm) (RB.of (By.rcut_done (by assumption) (by assumption) (by assumption) (by assumption)))
  · exact hret _ _ _ _ (by k_asm) (by k_asm) (RB.of (By.rcut_none (by assumption) (by assumption) (by assumption)))
end Mine
end
section
namespace Mine
set_option maxRecDepth 100000 in
set_option maxHeartbeats 8000000 in
theorem says_rows (w : World) (a : List UInt8) (t : Tok) (news : List (Addr × Obj)) (ha : a.length ≤ 4096) : Says w 99 2 [.bytes a.toArray t] news (RL ((By.cuts 10 a).map (By.rcut [32, 9, 13, 11, 12])) news) := by
  unfold Says
  k_fill
  w_top off
  k_with_none
  k_with "getMethod bytes" => (k_here; first | refine By.get_method By.slot_find By.type_find ?_ | refine By.get_method By.slot_split By.type_split ?_ | refine By.get_method By.slot_rstrip By.type_rstrip ?_ | refine By.get_method By.slot_lstrip By.type_lstrip ?_ | refine By.get_method By.slot_join By.type_join ?_ | refine By.get_method FB.slot_bytes_startswith FB.type_bytes_startswith ?_ | refine By.get_method FB.slot_bytes_endswith FB.type_bytes_endswith ?_)
  k_with "call builtin:len" => (k_here; (with_reducible show wpAny _ _ (call (Value.builtin "len") [Value.bytes (List.toArray _) _]) _ _ _); (refine By.len_B (by first | assumption | omega) ?_); intro _ _)
  k_with "subscriptTail" => (k_here; (with_reducible show wpAny _ _ (subscriptTail _ _ (Value.bytes (List.toArray _) _) (Value.int _ _)) _ _ _); (refine By.item_B (by first | assumption | omega) (by omega) (by omega) ?_); intro _ _)
  k_with "subscriptTail" => (k_here; (with_reducible show wpAny _ _ (subscriptTail _ (Expr.Slice _ _ none _) (Value.bytes (List.toArray _) _) (Value.ref _)) _ _ _); (with_reducible rename Fr _ _ _ _ => F'q); (with_reducible rename News _ _ _ _ => N'q); (refine By.slice_B (s := ⟨_, _, _, _, _⟩) F'q N'q (by constructor) (by constructor) (by first | assumption | omega) ?_); intro _ _ _ _ _)
  k_with "compareOp In int bytes" => (k_here; (with_reducible show wpAny _ _ (compareOp CmpOp.In (Value.int _ _) (Value.bytes (List.toArray _) _)) _ _ _); refine By.in_byte ?_)
  k_with "compareOp Eq bytes bytes" => (k_here; (with_reducible show wpAny _ _ (compareOp CmpOp.Eq (Value.bytes (List.toArray _) _) (Value.bytes (List.toArray _) _)) _ _ _); refine By.eq_B ?_)
  k_with "compareOp NotEq bytes bytes" => (k_here; (with_reducible show wpAny _ _ (compareOp CmpOp.NotEq (Value.bytes (List.toArray _) _) (Value.bytes (List.toArray _) _)) _ _ _); refine By.ne_B ?_)
  k_with "binaryOp Add bytes bytes" => (k_here; (with_reducible show wpAny _ _ (binaryOp Operator.Add (Value.bytes (List.toArray _) _) (Value.bytes (List.toArray _) _)) _ _ _); (refine By.add_B (by first | assumption | omega | (simp only [List.length_append, List.length_cons, List.length_nil] at *; omega)) ?_); intro _ _)
  k_with "call builtin:bytes.startswith" => (k_here; (with_reducible show wpAny _ _ (call (Value.builtin _) [Value.bytes (List.toArray _) _, Value.bytes (List.toArray _) _]) _ _ _); refine By.call_startswith ?_)
  k_with "call builtin:bytes.endswith" => (k_here; (with_reducible show wpAny _ _ (call (Value.builtin _) [Value.bytes (List.toArray _) _, Value.bytes (List.toArray _) _]) _ _ _); refine By.call_endswith ?_)
  k_with "call builtin:bytes.rstrip" => (k_here; (with_reducible show wpAny _ _ (call (Value.builtin _) [Value.bytes (List.toArray _) _, Value.bytes (List.toArray _) _]) _ _ _); (refine By.call_rstrip (by first | assumption | omega) ?_); intro _ _)
  k_with "call builtin:bytes.lstrip" => (k_here; (with_reducible show wpAny _ _ (call (Value.builtin _) [Value.bytes (List.toArray _) _, Value.bytes (List.toArray _) _]) _ _ _); (refine By.call_lstrip (by first | assumption | omega) ?_); intro _ _)
  k_with "call builtin:bytes.find" => (k_here; first | (refine By.call_find0 ?_; intro _ _) | (refine By.call_findI (by omega) (by omega) ?_; intro _ _))
  k_with "call builtin:bytes.split" => (k_here; k_dflt (refine' By.call_split ?zqk1 ?zqk2 ?zqk3 ?_; (case zqk1 => k_asm); (case zqk2 => k_asm); (case zqk3 => omega); k_whole); intro l'q vs'q h'q k'q hB'q hS'q hZ'q F'q N'q o1q; (try simp only [LCg.Off1, and_true] at o1q); (try k_sweep))
  k_with "call builtin:list.append" => (k_here; (with_reducible show wpAny _ _ (call (Value.builtin _) [Value.ref _, _]) _ _ _); k_dflt (refine' append_K ?zqk1 ?zqk2 ?zqk3 ?_ ?zqz; (case zqk1 => k_asm); (case zqk2 => k_asm); (case zqk3 => k_upd); (case zqz => (rw [PySem.sizeLine_eq]; simp only [List.size_toArray]; omega)); k_whole); intro h'q F'q N'q; (try k_sweep))
  k_with "call builtin:bytes.join" => (k_here; (with_reducible show wpAny _ _ (call (Value.builtin _) [Value.bytes (List.toArray _) _, Value.ref _]) _ _ _); k_dflt (refine By.call_join (News.isList (by k_asm) (by k_mem)) (by with_reducible assumption) (by first | assumption | omega) ?_); intro _ _)
  k_with "eval ListComp" => (k_here; k_dflt (refine LCg.ListComp_U (F₀ := by k_asm) (by rfl) (by decide) (by rfl) (by decide) (by rfl) ?_))
  k_with "exec Assign cons ListComp" => (k_here; k_dflt (refine LCg.Assign_ListComp_U (F₀ := by k_asm) (by rfl) (by with_unfolding_all rfl) (by with_unfolding_all rfl) (by decide) (by rfl) (by decide) (by rfl) (by rfl) (by rfl) ?_))
  k_with "CompEnd" => refine Held.out ?_
  k_with "CompSrc" => refine Held.out ?_
  k_with "WEnd" => refine Held.out ?_
  k_with "my subs" => first | exact fun p hp => hp | (refine sub_tail ?_; walk_at "my subs")
  k_with "my df" => ((try dsimp only); (try k_fold))
  k_with "my back" => first | ((with_reducible rename RB _ _ _ _ => R9q); obtain ⟨⟨t9q, e9q⟩, e9'q⟩ := R9q; subst e9q e9'q; walk_at "my df") | ((with_reducible rename RL _ _ _ _ => R9q); obtain ⟨l9q, vs9q, k9q, e9q, hB9q, e9'q, hl9q⟩ := R9q; subst e9q e9'q; have hZ9q := hB9q.length; (try simp only [LCg.Off1, and_true] at hl9q); walk_at "my df") | ((with_reducible rename RSubj _ _ _ _ => R9q); obtain ⟨q9q, t9q, t9'q, e9q, e9'q, hl9q⟩ := R9q; subst e9q e9'q; (try simp only [LCg.Off1, and_true] at hl9q); walk_at "my df") | ((with_reducible rename RSome _ _ _ _ => R9q); obtain ⟨⟨x9q, t9q, e9q, hx9q⟩, e9'q⟩ := R9q; subst e9q e9'q; walk_at "my df") | ((with_reducible rename RTrail _ _ _ _ => R9q); rcases R9q with ⟨hT9q, e9q, e9'q⟩ | ⟨key9q, q9q, t9q, t9'q, x9q, hT9q, e9q, e9'q, hl9q⟩ <;> (subst e9q e9'q; (try simp only [LCg.Off1, and_true] at hl9q); walk_at "my df")) | ((with_reducible rename RLen _ _ _ _ => R9q); obtain ⟨l9q, xs9q, k9q, e9q, hx9q, e9'q, hl9q⟩ := R9q; subst e9q e9'q; (try simp only [LCg.Off1, and_true] at hl9q); walk_at "my df") | ((with_reducible rename RStr _ _ _ _ => R9q); obtain ⟨⟨t9q, e9q⟩, e9'q⟩ := R9q; subst e9q e9'q; walk_at "my df") | ((with_reducible rename RMark _ _ _ _ => R9q); rcases R9q with ⟨hM9q, e9q, e9'q⟩ | ⟨hM9q, q9q, o9q, e9q, e9'q, hl9q⟩ <;> (subst e9q e9'q; (try simp only [LCg.Off1, and_true] at hl9q); walk_at "my df")) | ((with_reducible rename RStp _ _ _ _ _ => R9q); obtain ⟨c9q, dx9q, o9q, p9q, e9q, e9'q, hst9q⟩ := R9q; subst e9q e9'q; walk_at "my df") | ((with_reducible rename RCom _ _ _ _ => R9q); obtain ⟨c9q, dx9q, o9q, p9q, e9q, e9'q, hC9q, hl9q, hcd9q⟩ := R9q; subst e9q e9'q; walk_at "my df")
  k_with "my side" => first | with_reducible assumption | omega | exact Nat.le_trans (By.sl_len _ _ _) (by omega) | exact IsCom.sub (by with_reducible assumption) (by walk_at "my subs") | exact fun k hk => Nat.lt_trans (By.hexCodes_lt k hk) (by decide) | exact Nat.le_trans (By.subjB_len _) (by omega)
  k_with "call ref" => (k_here; k_dflt (refine' says_use ?zqc ?zqk1 ?zqk2 ?zqk3 ?zqk4 ?zqk5 ?zqkK ?zqkd ?zqku ?_; (case zqk1 => k_asm); (case zqk2 => k_asm); (case zqk3 => k_asm); (case zqk4 => k_asm); (case zqk5 => k_asm); (case zqc => walk_at "my contract"); (case zqkK => first | exact rfl | assumption); (case zqkd => first | ktr_room | decide); (case zqku => first | ktr_units | decide); intro v9q n9q h9q tk9q F9q N9q R9q; walk_at "my back"))
  k_with "my contract" => (with_reducible apply says_cut_end) <;> walk_at "my side"
  intro p loose mean mg mb dp un gd cn cs ad ccd cl outer A₀ base h₀ L m s Q E B F X N T hk hdp hu hret
  refine wpAny_call ?_
  k_dflt cell_enter
  k_steps
  refine Held.on ?_
  k_dflt (refine LCg.CompSrc.ledger (by rfl) (by k_asm) (by k_asm) (by k_mem) (by (rw [PySem.sizeLine_eq, List.size_toArray]; omega)) ?_)
  intro g'
  refine bcf_list (By.rcut [32, 9, 13, 11, 12]) (by assumption) (fun b' t' I' oI' C' oC' D' m' ys' h' tk' E' hb' hC' hx' F' N' off' ne' => ?_) ?_
  · have hbl' := Short.at (by assumption) hb'
    k_steps
    refine Held.on ?_
    exact LCg.CompEnd.intro (by k_asm) (by k_asm) _ (fun p hp => hp) (by assumption) (.inr ⟨_, .head _, rfl, _, rfl⟩) (BEl.of rfl)
  · intro ys hys
    k_steps
    rename (_ ∧ LCg.Off1 _ _) => o1
    exact hret _ _ _ _ (by k_asm) (cb_drop (by k_asm) (by kcf_all)) (RL.of hys o1.2)
end Mine
end
section
namespace Mine
set_option maxRecDepth 100000 in
set_option maxHeartbeats 8000000 in
theorem says_lines (w : World) (a : List UInt8) (t : Tok) (news : List (Addr × Obj)) (ha : a.length ≤ 4096) : Says w 73 1 [.bytes a.toArray t] news (RL (By.linesOf a) news) := by
  unfold Says
  k_fill
  w_top off
  k_with_none
  k_with "getMethod bytes" => (k_here; first | refine By.get_method By.slot_find By.type_find ?_ | refine By.get_method By.slot_split By.type_split ?_ | refine By.get_method By.slot_rstrip By.type_rstrip ?_ | refine By.get_method By.slot_lstrip By.type_lstrip ?_ | refine By.get_method By.slot_join By.type_join ?_ | refine By.get_method FB.slot_bytes_startswith FB.type_bytes_startswith ?_ | refine By.get_method FB.slot_bytes_endswith FB.type_bytes_endswith ?_)
  k_with "call builtin:len" => (k_here; (with_reducible show wpAny _ _ (call (Value.builtin "len") [Value.bytes (List.toArray _) _]) _ _ _); (refine By.len_B (by first | assumption | omega) ?_); intro _ _)
  k_with "subscriptTail" => (k_here; (with_reducible show wpAny _ _ (subscriptTail _ _ (Value.bytes (List.toArray _) _) (Value.int _ _)) _ _ _); (refine By.item_B (by first | assumption | omega) (by omega) (by omega) ?_); intro _ _)
  k_with "subscriptTail" => (k_here; (with_reducible show wpAny _ _ (subscriptTail _ (Expr.Slice _ _ none _) (Value.bytes (List.toArray _) _) (Value.ref _)) _ _ _); (with_reducible rename Fr _ _ _ _ => F'q); (with_reducible rename News _ _ _ _ => N'q); (refine By.slice_B (s := ⟨_, _, _, _, _⟩) F'q N'q (by constructor) (by constructor) (by first | assumption | omega) ?_); intro _ _ _ _ _)
  k_with "compareOp In int bytes" => (k_here; (with_reducible show wpAny _ _ (compareOp CmpOp.In (Value.int _ _) (Value.bytes (List.toArray _) _)) _ _ _); refine By.in_byte ?_)
  k_with "compareOp Eq bytes bytes" => (k_here; (with_reducible show wpAny _ _ (compareOp CmpOp.Eq (Value.bytes (List.toArray _) _) (Value.bytes (List.toArray _) _)) _ _ _); refine By.eq_B ?_)
  k_with "compareOp NotEq bytes bytes" => (k_here; (with_reducible show wpAny _ _ (compareOp CmpOp.NotEq (Value.bytes (List.toArray _) _) (Value.bytes (List.toArray _) _)) _ _ _); refine By.ne_B ?_)
  k_with "binaryOp Add bytes bytes" => (k_here; (with_reducible show wpAny _ _ (binaryOp Operator.Add (Value.bytes (List.toArray _) _) (Value.bytes (List.toArray _) _)) _ _ _); (refine By.add_B (by first | assumption | omega | (simp only [List.length_append, List.length_cons, List.length_nil] at *; omega)) ?_); intro _ _)
  k_with "call builtin:bytes.startswith" => (k_here; (with_reducible show wpAny _ _ (call (Value.builtin _) [Value.bytes (List.toArray _) _, Value.bytes (List.toArray _) _]) _ _ _); refine By.call_startswith ?_)
  k_with "call builtin:bytes.endswith" => (k_here; (with_reducible show wpAny _ _ (call (Value.builtin _) [Value.bytes (List.toArray _) _, Value.bytes (List.toArray _) _]) _ _ _); refine By.call_endswith ?_)
  k_with "call builtin:bytes.rstrip" => (k_here; (with_reducible show wpAny _ _ (call (Value.builtin _) [Value.bytes (List.toArray _) _, Value.bytes (List.toArray _) _]) _ _ _); (refine By.call_rstrip (by first | assumption | omega) ?_); intro _ _)
  k_with "call builtin:bytes.lstrip" => (k_here; (with_reducible show wpAny _ _ (call (Value.builtin _) [Value.bytes (List.toArray _) _, Value.bytes (List.toArray _) _]) _ _ _); (refine By.call_lstrip (by first | assumption | omega) ?_); intro _ _)
  k_with "call builtin:bytes.find" => (k_here; first | (refine By.call_find0 ?_; intro _ _) | (refine By.call_findI (by omega) (by omega) ?_; intro _ _))
  k_with "call builtin:bytes.split" => (k_here; k_dflt (refine' By.call_split ?zqk1 ?zqk2 ?zqk3 ?_; (case zqk1 => k_asm); (case zqk2 => k_asm); (case zqk3 => omega); k_whole); intro l'q vs'q h'q k'q hB'q hS'q hZ'q F'q N'q o1q; (try simp only [LCg.Off1, and_true] at o1q); (try k_sweep))
  k_with "call builtin:list.append" => (k_here; (with_reducible show wpAny _ _ (call (Value.builtin _) [Value.ref _, _]) _ _ _); k_dflt (refine' append_K ?zqk1 ?zqk2 ?zqk3 ?_ ?zqz; (case zqk1 => k_asm); (case zqk2 => k_asm); (case zqk3 => k_upd); (case zqz => (rw [PySem.sizeLine_eq]; simp only [List.size_toArray]; omega)); k_whole); intro h'q F'q N'q; (try k_sweep))
  k_with "call builtin:bytes.join" => (k_here; (with_reducible show wpAny _ _ (call (Value.builtin _) [Value.bytes (List.toArray _) _, Value.ref _]) _ _ _); k_dflt (refine By.call_join (News.isList (by k_asm) (by k_mem)) (by with_reducible assumption) (by first | assumption | omega) ?_); intro _ _)
  k_with "exec While Compare cons nil" => refine Held.out ?_
  k_with "exec While BoolOp" => refine Held.out ?_
  k_with "KswEnd" => refine Held.out ?_
  k_with "my subs" => first | exact fun p hp => hp | (refine sub_tail ?_; walk_at "my subs")
  k_with "my df" => ((try dsimp only); (try k_fold))
  k_with "my back" => first | ((with_reducible rename RB _ _ _ _ => R9q); obtain ⟨⟨t9q, e9q⟩, e9'q⟩ := R9q; subst e9q e9'q; walk_at "my df") | ((with_reducible rename RL _ _ _ _ => R9q); obtain ⟨l9q, vs9q, k9q, e9q, hB9q, e9'q, hl9q⟩ := R9q; subst e9q e9'q; have hZ9q := hB9q.length; (try simp only [LCg.Off1, and_true] at hl9q); walk_at "my df") | ((with_reducible rename RSubj _ _ _ _ => R9q); obtain ⟨q9q, t9q, t9'q, e9q, e9'q, hl9q⟩ := R9q; subst e9q e9'q; (try simp only [LCg.Off1, and_true] at hl9q); walk_at "my df") | ((with_reducible rename RSome _ _ _ _ => R9q); obtain ⟨⟨x9q, t9q, e9q, hx9q⟩, e9'q⟩ := R9q; subst e9q e9'q; walk_at "my df") | ((with_reducible rename RTrail _ _ _ _ => R9q); rcases R9q with ⟨hT9q, e9q, e9'q⟩ | ⟨key9q, q9q, t9q, t9'q, x9q, hT9q, e9q, e9'q, hl9q⟩ <;> (subst e9q e9'q; (try simp only [LCg.Off1, and_true] at hl9q); walk_at "my df")) | ((with_reducible rename RLen _ _ _ _ => R9q); obtain ⟨l9q, xs9q, k9q, e9q, hx9q, e9'q, hl9q⟩ := R9q; subst e9q e9'q; (try simp only [LCg.Off1, and_true] at hl9q); walk_at "my df") | ((with_reducible rename RStr _ _ _ _ => R9q); obtain ⟨⟨t9q, e9q⟩, e9'q⟩ := R9q; subst e9q e9'q; walk_at "my df") | ((with_reducible rename RMark _ _ _ _ => R9q); rcases R9q with ⟨hM9q, e9q, e9'q⟩ | ⟨hM9q, q9q, o9q, e9q, e9'q, hl9q⟩ <;> (subst e9q e9'q; (try simp only [LCg.Off1, and_true] at hl9q); walk_at "my df")) | ((with_reducible rename RStp _ _ _ _ _ => R9q); obtain ⟨c9q, dx9q, o9q, p9q, e9q, e9'q, hst9q⟩ := R9q; subst e9q e9'q; walk_at "my df") | ((with_reducible rename RCom _ _ _ _ => R9q); obtain ⟨c9q, dx9q, o9q, p9q, e9q, e9'q, hC9q, hl9q, hcd9q⟩ := R9q; subst e9q e9'q; walk_at "my df")
  k_with "my side" => first | with_reducible assumption | omega | exact Nat.le_trans (By.sl_len _ _ _) (by omega) | exact IsCom.sub (by with_reducible assumption) (by walk_at "my subs") | exact fun k hk => Nat.lt_trans (By.hexCodes_lt k hk) (by decide) | exact Nat.le_trans (By.subjB_len _) (by omega)
  k_with "call ref" => (k_here; k_dflt (refine' says_use ?zqc ?zqk1 ?zqk2 ?zqk3 ?zqk4 ?zqk5 ?zqkK ?zqkd ?zqku ?_; (case zqk1 => k_asm); (case zqk2 => k_asm); (case zqk3 => k_asm); (case zqk4 => k_asm); (case zqk5 => k_asm); (case zqc => walk_at "my contract"); (case zqkK => first | exact rfl | assumption); (case zqkd => first | ktr_room | decide); (case zqku => first | ktr_units | decide); intro v9q n9q h9q tk9q F9q N9q R9q; walk_at "my back"))
  k_with "my contract" => (with_reducible apply says_cut_end) <;> walk_at "my side"
  k_with "my contract" => (with_reducible apply says_rows) <;> walk_at "my side"
  intro p loose mean mg mb dp un gd cn cs ad ccd cl outer A₀ base h₀ L m s Q E B F X N T hk hdp hu hret
  refine wpAny_call ?_
  k_dflt cell_enter
  k_steps
  refine Held.on ?_
  rename Fr _ _ _ _ => lF'
  rename News _ _ _ _ => lN'
  with_unfolding_all refine' while1 (σ := Int × Tok × List Value × Nat × List (List UInt8)) (fun c => listOf c.2.2.1.toArray c.2.2.2.1) (fun c => [(Str.ofString "begun", Value.int c.1 c.2.1)]) [Str.ofString "ended"] (fun c => By.LinesAt a c.1 c.2.2.1 c.2.2.2.2) (fun c => (a.length - c.1).toNat) (0, _, [], 0, []) lF' lN' ?kk ?kp ?_
  case kk => kst_all
  case kp => exact By.LinesAt.start a
  clear lF' lN'
  intro c u h tk hP F1 N1
  obtain ⟨i, ti, vs, n, bs⟩ := c
  dsimp only [kstB] at F1 N1 hP
  have h0 := hP.1
  have h1 := hP.2.1
  have h2 := hP.2.2.2.1
  (try k_fold)
  k_steps
  · refine Held.on ?_
    rename News _ _ _ _ => nE'
    simp only [List.push_toArray] at nE'
    rename (_ < (a.length : Int)) => hlt
    rename (By.findI _ _ _ < 0) => hf
    exact ksw_end ((a.length : Int), _, _, _, _) (by assumption) nE' (fun p hp => hp) trivial (by kst_all) (by ksw_same) (hP.last hlt hf _) (by dsimp only; omega)
  · refine Held.on ?_
    rename News _ _ _ _ => nE'
    simp only [List.push_toArray] at nE'
    rename (¬ By.findI _ _ _ < 0) => hf
    have hn := hP.next hf
    exact ksw_end (_, _, _, _, _) (by assumption) nE' (fun p hp => hp) trivial (by kst_all) (by ksw_same) (hn _).1 (by dsimp only; have := (hn 0).2; omega)
  · rename (¬ _ < (a.length : Int)) => hlt
    have e : By.linesOf a = bs := by
      have := hP.2.2.2.2
      rw [List.drop_of_length_le (by omega)] at this
      rw [← this]; exact (List.append_nil bs)
    rw [e] at hret
    exact hret _ _ _ _ (by k_asm) (by k_asm) (RL.of hP.2.2.1 (off1_lt (by assumption)))
end Mine
end
section
namespace Mine
set_option maxRecDepth 100000 in
set_option maxHeartbeats 600000 in
theorem says_ended (w : World) (a : List UInt8) (t : Tok) (news : List (Addr × Obj)) (ha : a.length ≤ 1000) : Says w 221 2 [.bytes a.toArray t] news (RB (By.ended a) news) := by
  unfold Says
  k_fill
  w_top off
  k_with_none
  k_with "getMethod bytes" => (k_here; first | refine By.get_method By.slot_find By.type_find ?_ | refine By.get_method By.slot_split By.type_split ?_ | refine By.get_method By.slot_rstrip By.type_rstrip ?_ | refine By.get_method By.slot_lstrip By.type_lstrip ?_ | refine By.get_method By.slot_join By.type_join ?_ | refine By.get_method FB.slot_bytes_startswith FB.type_bytes_startswith ?_ | refine By.get_method FB.slot_bytes_endswith FB.type_bytes_endswith ?_)
  k_with "call builtin:len" => (k_here; (with_reducible show wpAny _ _ (call (Value.builtin "len") [Value.bytes (List.toArray _) _]) _ _ _); (refine By.len_B (by first | assumption | omega) ?_); intro _ _)
  k_with "subscriptTail" => (k_here; (with_reducible show wpAny _ _ (subscriptTail _ _ (Value.bytes (List.toArray _) _) (Value.int _ _)) _ _ _); (refine By.item_B (by first | assumption | omega) (by omega) (by omega) ?_); intro _ _)
  k_with "subscriptTail" => (k_here; (with_reducible show wpAny _ _ (subscriptTail _ (Expr.Slice _ _ none _) (Value.bytes (List.toArray _) _) (Value.ref _)) _ _ _); (with_reducible rename Fr _ _ _ _ => F'q); (with_reducible rename News _ _ _ _ => N'q); (refine By.slice_B (s := ⟨_, _, _, _, _⟩) F'q N'q (by constructor) (by constructor) (by first | assumption | omega) ?_); intro _ _ _ _ _)
  k_with "compareOp In int bytes" => (k_here; (with_reducible show wpAny _ _ (compareOp CmpOp.In (Value.int _ _) (Value.bytes (List.toArray _) _)) _ _ _); refine By.in_byte ?_)
  k_with "compareOp Eq bytes bytes" => (k_here; (with_reducible show wpAny _ _ (compareOp CmpOp.Eq (Value.bytes (List.toArray _) _) (Value.bytes (List.toArray _) _)) _ _ _); refine By.eq_B ?_)
  k_with "compareOp NotEq bytes bytes" => (k_here; (with_reducible show wpAny _ _ (compareOp CmpOp.NotEq (Value.bytes (List.toArray _) _) (Value.bytes (List.toArray _) _)) _ _ _); refine By.ne_B ?_)
  k_with "binaryOp Add bytes bytes" => (k_here; (with_reducible show wpAny _ _ (binaryOp Operator.Add (Value.bytes (List.toArray _) _) (Value.bytes (List.toArray _) _)) _ _ _); (refine By.add_B (by first | assumption | omega | (simp only [List.length_append, List.length_cons, List.length_nil] at *; omega)) ?_); intro _ _)
  k_with "call builtin:bytes.startswith" => (k_here; (with_reducible show wpAny _ _ (call (Value.builtin _) [Value.bytes (List.toArray _) _, Value.bytes (List.toArray _) _]) _ _ _); refine By.call_startswith ?_)
  k_with "call builtin:bytes.endswith" => (k_here; (with_reducible show wpAny _ _ (call (Value.builtin _) [Value.bytes (List.toArray _) _, Value.bytes (List.toArray _) _]) _ _ _); refine By.call_endswith ?_)
  k_with "call builtin:bytes.rstrip" => (k_here; (with_reducible show wpAny _ _ (call (Value.builtin _) [Value.bytes (List.toArray _) _, Value.bytes (List.toArray _) _]) _ _ _); (refine By.call_rstrip (by first | assumption | omega) ?_); intro _ _)
  k_with "call builtin:bytes.lstrip" => (k_here; (with_reducible show wpAny _ _ (call (Value.builtin _) [Value.bytes (List.toArray _) _, Value.bytes (List.toArray _) _]) _ _ _); (refine By.call_lstrip (by first | assumption | omega) ?_); intro _ _)
  k_with "call builtin:bytes.find" => (k_here; first | (refine By.call_find0 ?_; intro _ _) | (refine By.call_findI (by omega) (by omega) ?_; intro _ _))
  k_with "call builtin:bytes.split" => (k_here; k_dflt (refine' By.call_split ?zqk1 ?zqk2 ?zqk3 ?_; (case zqk1 => k_asm); (case zqk2 => k_asm); (case zqk3 => omega); k_whole); intro l'q vs'q h'q k'q hB'q hS'q hZ'q F'q N'q o1q; (try simp only [LCg.Off1, and_true] at o1q); (try k_sweep))
  k_with "call builtin:list.append" => (k_here; (with_reducible show wpAny _ _ (call (Value.builtin _) [Value.ref _, _]) _ _ _); k_dflt (refine' append_K ?zqk1 ?zqk2 ?zqk3 ?_ ?zqz; (case zqk1 => k_asm); (case zqk2 => k_asm); (case zqk3 => k_upd); (case zqz => (rw [PySem.sizeLine_eq]; simp only [List.size_toArray]; omega)); k_whole); intro h'q F'q N'q; (try k_sweep))
  k_with "call builtin:bytes.join" => (k_here; (with_reducible show wpAny _ _ (call (Value.builtin _) [Value.bytes (List.toArray _) _, Value.ref _]) _ _ _); k_dflt (refine By.call_join (News.isList (by k_asm) (by k_mem)) (by with_reducible assumption) (by first | assumption | omega) ?_); intro _ _)
  k_with "eval ListComp" => (k_here; k_dflt (refine LCg.ListComp_U (F₀ := by k_asm) (by rfl) (by decide) (by rfl) (by decide) (by rfl) ?_))
  k_with "exec Assign cons ListComp" => (k_here; k_dflt (refine LCg.Assign_ListComp_U (F₀ := by k_asm) (by rfl) (by with_unfolding_all rfl) (by with_unfolding_all rfl) (by decide) (by rfl) (by decide) (by rfl) (by rfl) (by rfl) ?_))
  k_with "CompEnd" => refine Held.out ?_
  k_with "CompSrc" => refine Held.out ?_
  k_with "WEnd" => refine Held.out ?_
  k_with "compareOp NotEq ref ref" => (k_here; (with_reducible show wpAny _ _ (compareOp CmpOp.NotEq (Value.ref _) (Value.ref _)) _ _ _); k_dflt (refine ne_nilK (by k_asm) (by k_mem) (by k_mem) (by ktr_units) ?_))
  k_with "compareOp Eq ref ref" => (k_here; (with_reducible show wpAny _ _ (compareOp CmpOp.Eq (Value.ref _) (Value.ref _)) _ _ _); k_dflt (refine eq_nilK (by k_asm) (by k_mem) (by k_mem) (by ktr_units) ?_))
  k_with "subscriptTail" => (k_here; (with_reducible show wpAny _ _ (subscriptTail _ _ (Value.ref _) (Value.int _ _)) _ _ _); k_dflt first | ((with_reducible show wpAny _ _ (subscriptTail _ (Expr.UnaryOp _ _ _) _ _) _ _ _); refine item_lastK (by k_asm) (by k_mem) (by with_reducible assumption) (by omega) (by omega) ?_; intro _) | (refine item_K (by k_asm) (by k_mem) (by with_reducible assumption) (by omega) (by omega) (by omega) ?_; intro _))
  k_with "call builtin:list.pop" => (k_here; (with_reducible show wpAny _ _ (call (Value.builtin _) [Value.ref _]) _ _ _); k_dflt (refine' popK ?zqF ?zqN ?zqU ?zqi ?zql ?zqz ?_; (case zqF => k_asm); (case zqN => k_asm); (case zqU => k_upd); (case zqi => with_reducible assumption); (case zql => omega); (case zqz => omega)); intro h'q t'q F'q N'q; (try k_sweep))
  k_with "subscriptTail" => (k_here; (with_reducible show wpAny _ _ (subscriptTail _ (Expr.Slice _ _ none _) (Value.ref _) (Value.ref _)) _ _ _); (with_reducible rename Fr _ _ _ _ => F'q); (with_reducible rename News _ _ _ _ => N'q); k_dflt (refine slice_L (s := ⟨_, _, _, _, _⟩) F'q N'q (by k_mem) (by with_reducible assumption) (by constructor) (by constructor) (by omega) ?_); intro l'q vs'q h'q hB'q hZ'q F'q N'q o1q; (try simp only [LCg.Off1, and_true] at o1q))
  k_with "subscriptTail Name Slice ref ref" => (k_here; (with_reducible show wpAny _ _ (subscriptTail _ (Expr.Slice _ _ none _) (Value.ref _) (Value.ref _)) _ _ _); (with_reducible rename Fr _ _ _ _ => F'q); (with_reducible rename News _ _ _ _ => N'q); k_dflt (refine slice_L (s := ⟨_, _, _, _, _⟩) F'q N'q (by k_mem) (by with_reducible assumption) (by constructor) (by constructor) (by omega) ?_); intro l'q vs'q h'q hB'q hZ'q F'q N'q o1q; (try simp only [LCg.Off1, and_true] at o1q))
  k_with "subscriptTail Call Slice ref ref" => (k_here; (with_reducible show wpAny _ _ (subscriptTail _ (Expr.Slice _ _ none _) (Value.ref _) (Value.ref _)) _ _ _); (with_reducible rename Fr _ _ _ _ => F'q); (with_reducible rename News _ _ _ _ => N'q); k_dflt (refine slice_L (s := ⟨_, _, _, _, _⟩) F'q N'q (by k_mem) (by with_reducible assumption) (by constructor) (by constructor) (by omega) ?_); intro l'q vs'q h'q hB'q hZ'q F'q N'q o1q; (try simp only [LCg.Off1, and_true] at o1q))
  k_with "call builtin:len" => (k_here; (with_reducible show wpAny _ _ (call (Value.builtin "len") [Value.ref _]) _ _ _); k_dflt (refine len_LK (by k_asm) (by k_mem) (by omega) ?_); intro _ _)
  k_with "exec While Compare cons nil" => refine Held.out ?_
  k_with "exec While BoolOp" => refine Held.out ?_
  k_with "KswEnd" => refine Held.out ?_
  k_with "my subs" => first | exact fun p hp => hp | (refine sub_tail ?_; walk_at "my subs")
  k_with "my df" => ((try dsimp only); (try k_fold))
  k_with "my back" => first | ((with_reducible rename RB _ _ _ _ => R9q); obtain ⟨⟨t9q, e9q⟩, e9'q⟩ := R9q; subst e9q e9'q; walk_at "my df") | ((with_reducible rename RL _ _ _ _ => R9q); obtain ⟨l9q, vs9q, k9q, e9q, hB9q, e9'q, hl9q⟩ := R9q; subst e9q e9'q; have hZ9q := hB9q.length; (try simp only [LCg.Off1, and_true] at hl9q); walk_at "my df") | ((with_reducible rename RSubj _ _ _ _ => R9q); obtain ⟨q9q, t9q, t9'q, e9q, e9'q, hl9q⟩ := R9q; subst e9q e9'q; (try simp only [LCg.Off1, and_true] at hl9q); walk_at "my df") | ((with_reducible rename RSome _ _ _ _ => R9q); obtain ⟨⟨x9q, t9q, e9q, hx9q⟩, e9'q⟩ := R9q; subst e9q e9'q; walk_at "my df") | ((with_reducible rename RTrail _ _ _ _ => R9q); rcases R9q with ⟨hT9q, e9q, e9'q⟩ | ⟨key9q, q9q, t9q, t9'q, x9q, hT9q, e9q, e9'q, hl9q⟩ <;> (subst e9q e9'q; (try simp only [LCg.Off1, and_true] at hl9q); walk_at "my df")) | ((with_reducible rename RLen _ _ _ _ => R9q); obtain ⟨l9q, xs9q, k9q, e9q, hx9q, e9'q, hl9q⟩ := R9q; subst e9q e9'q; (try simp only [LCg.Off1, and_true] at hl9q); walk_at "my df") | ((with_reducible rename RStr _ _ _ _ => R9q); obtain ⟨⟨t9q, e9q⟩, e9'q⟩ := R9q; subst e9q e9'q; walk_at "my df") | ((with_reducible rename RMark _ _ _ _ => R9q); rcases R9q with ⟨hM9q, e9q, e9'q⟩ | ⟨hM9q, q9q, o9q, e9q, e9'q, hl9q⟩ <;> (subst e9q e9'q; (try simp only [LCg.Off1, and_true] at hl9q); walk_at "my df")) | ((with_reducible rename RStp _ _ _ _ _ => R9q); obtain ⟨c9q, dx9q, o9q, p9q, e9q, e9'q, hst9q⟩ := R9q; subst e9q e9'q; walk_at "my df") | ((with_reducible rename RCom _ _ _ _ => R9q); obtain ⟨c9q, dx9q, o9q, p9q, e9q, e9'q, hC9q, hl9q, hcd9q⟩ := R9q; subst e9q e9'q; walk_at "my df")
  k_with "my side" => first | with_reducible assumption | omega | exact Nat.le_trans (By.sl_len _ _ _) (by omega) | exact IsCom.sub (by with_reducible assumption) (by walk_at "my subs") | exact fun k hk => Nat.lt_trans (By.hexCodes_lt k hk) (by decide) | exact Nat.le_trans (By.subjB_len _) (by omega)
  k_with "call ref" => (k_here; k_dflt (refine' says_use ?zqc ?zqk1 ?zqk2 ?zqk3 ?zqk4 ?zqk5 ?zqkK ?zqkd ?zqku ?_; (case zqk1 => k_asm); (case zqk2 => k_asm); (case zqk3 => k_asm); (case zqk4 => k_asm); (case zqk5 => k_asm); (case zqc => walk_at "my contract"); (case zqkK => first | exact rfl | assumption); (case zqkd => first | ktr_room | decide); (case zqku => first | ktr_units | decide); intro v9q n9q h9q tk9q F9q N9q R9q; walk_at "my back"))
  k_with "my contract" => (with_reducible apply says_cut_end) <;> walk_at "my side"
  k_with "my contract" => (with_reducible apply says_rows) <;> walk_at "my side"
  k_with "my contract" => (with_reducible apply says_lines) <;> walk_at "my side"
  intro p loose mean mg mb dp un gd cn cs ad ccd cl outer A₀ base h₀ L m s Q E B F X N T hk hdp hu hret
  have hsh := By.linesOf_short (l := a)
  have hct := By.linesOf_count (l := a)
  refine wpAny_call ?_
  k_dflt cell_enter
  k_steps
  refine Held.on ?_
  rename BsAre _ _ => hB1
  have hZ1 := hB1.length
  k_dflt (refine LCg.CompSrc.ledger (by rfl) (by k_asm) (by k_asm) (by k_mem) (by (rw [PySem.sizeLine_eq, List.size_toArray]; omega)) ?_)
  intro g'
  refine bcf_list (By.rcut [32, 9, 13, 10]) (by assumption) (fun b' t' I' oI' C' oC' D' m' ys' h' tk' E' hb' hC' hx' F' N' off' ne' => ?_) ?_
  · have hbl' := Short.at (by assumption) hb'
    k_steps
    refine Held.on ?_
    exact LCg.CompEnd.intro (by k_asm) (by k_asm) _ (fun p hp => hp) (by assumption) (.inr ⟨_, .head _, rfl, _, rfl⟩) (BEl.of rfl)
  · intro ys hys
    k_steps
    refine Held.on ?_
    rename Fr _ _ _ _ => lF'
    rename News _ _ _ _ => lN'
    rename (_ ∧ LCg.Off1 _ _) => o1
    have hfr := o1.2
    have lN2 := cb_drop lN' (news := (_, LCg.lst ys) :: news) (by kcf_all)
    have hzy : ys.length ≤ 1000 := by rw [hys.length, List.length_map]; omega
    clear lN' o1
    with_unfolding_all refine' whileG (σ := Addr × List Value × Nat × List (List UInt8)) (fun c => c.1) (fun c => listOf c.2.1.toArray c.2.2.1) (fun c => [(Str.ofString "rows", Value.ref c.1)]) [] (fun c => LCg.Off1 c.1 news ∧ BsAre c.2.1 c.2.2.2 ∧ c.2.1.length ≤ 1000 ∧ By.tcut c.2.2.2 = By.tcut ((By.linesOf a).map (By.rcut [32, 9, 13, 10]))) (fun c => c.2.1.length) (fun c => LCg.Off1 c.1 news ∧ BsAre c.2.1 c.2.2.2 ∧ c.2.1.length ≤ 1000 ∧ c.2.2.2 = By.tcut ((By.linesOf a).map (By.rcut [32, 9, 13, 10]))) (_, ys, _, (By.linesOf a).map (By.rcut [32, 9, 13, 10])) lF' lN2 ?kk ?kp ?_ ?_
    case kk => kst_all
    case kp => exact ⟨hfr, hys, hzy, rfl⟩
    · clear lF' lN2
      intro c u h tk Q' hP F1 N1
      obtain ⟨l, vs, n, bs⟩ := c
      obtain ⟨hf, hb, hz, he⟩ := hP
      dsimp only [kstB] at F1
      dsimp only at N1 hf hb hz he
      k_fold
      k_steps
      · refine Held.on ?_
        have hne : bs ≠ [] := fun q => by have := hb.length; rw [q, List.length_nil] at this; omega
        exact ksw_end (l, vs.dropLast, n + 1, bs.dropLast) (by assumption) (by assumption) (by kcf_all) trivial (by kst_all) (by ksw_same) ⟨hf, hb.dropLast, by dsimp only; rw [List.length_dropLast]; omega, (By.tcut_pop hne (by assumption)).trans he⟩ (by dsimp only; rw [List.length_dropLast]; omega)
      · refine Held.on ?_
        have hne : bs ≠ [] := fun q => by have := hb.length; rw [q, List.length_nil] at this; omega
        exact WEnd.intro (l, vs, n, bs) (by assumption) (by assumption) (by kcf_all) (by kst_all) (by ksw_same) ⟨hf, hb, hz, (By.tcut_done hne (by assumption)).symm.trans he⟩
      · refine Held.on ?_
        have hne : bs = [] := List.eq_nil_of_length_eq_zero (by rw [← hb.length]; omega)
        exact WEnd.intro (l, vs, n, bs) (by assumption) (by assumption) (by kcf_all) (by kst_all) (by ksw_same) ⟨hf, hb, hz, by subst hne; exact he⟩
    · clear lF' lN2
      intro c u h tk hD F1 N1
      obtain ⟨l, vs, n, bs⟩ := c
      obtain ⟨hf, hb, hz, he⟩ := hD
      dsimp only [kstB] at F1
      dsimp only at N1 hf hb hz he
      k_steps
      refine Held.on ?_
      with_unfolding_all refine' whileG (σ := Addr × List Value × Nat × List (List UInt8)) (fun c => c.1) (fun c => listOf c.2.1.toArray c.2.2.1) (fun c => [(Str.ofString "rows", Value.ref c.1)]) [] (fun c => LCg.Off1 c.1 news ∧ BsAre c.2.1 c.2.2.2 ∧ c.2.1.length ≤ 1000 ∧ By.hcut c.2.2.2 = By.hcut bs) (fun c => c.2.1.length) (fun c => LCg.Off1 c.1 news ∧ BsAre c.2.1 c.2.2.2 ∧ c.2.1.length ≤ 1000 ∧ c.2.2.2 = By.hcut bs) (l, vs, n, bs) F1 N1 ?kk ?kp ?_ ?_
      case kk => kst_all
      case kp => exact ⟨hf, hb, hz, rfl⟩
      · clear F1 N1
        intro c u h tk Q' hP F1 N1
        obtain ⟨l2, vs2, n2, bs2⟩ := c
        obtain ⟨hf2, hb2, hz2, he2⟩ := hP
        dsimp only [kstB] at F1
        dsimp only at N1 hf2 hb2 hz2 he2
        clear hf hb hz hys
        k_fold
        k_steps
        · refine Held.on ?_
          have hne : bs2 ≠ [] := fun q => by have := hb2.length; rw [q, List.length_nil] at this; omega
          rename BsAre _ (By.sl _ _ _) => hB3
          rw [By.sl_from (by decide)] at hB3
          rename (_ ∧ _ ∧ LCg.Off1 _ _) => ho
          exact ksw_end (_, _, _, bs2.drop 1) (by assumption) (by assumption) (by kcf_all) trivial (by kst_all) (by ksw_same) ⟨ho.2.2, hB3, by dsimp only; omega, (By.hcut_pop hne (by assumption)).trans he2⟩ (by dsimp only; rw [hB3.length, List.length_drop, ← hb2.length]; omega)
        · refine Held.on ?_
          have hne : bs2 ≠ [] := fun q => by have := hb2.length; rw [q, List.length_nil] at this; omega
          exact WEnd.intro (l2, vs2, n2, bs2) (by assumption) (by assumption) (by kcf_all) (by kst_all) (by ksw_same) ⟨hf2, hb2, hz2, (By.hcut_done hne (by assumption)).symm.trans he2⟩
        · refine Held.on ?_
          have hne : bs2 = [] := List.eq_nil_of_length_eq_zero (by rw [← hb2.length]; omega)
          exact WEnd.intro (l2, vs2, n2, bs2) (by assumption) (by assumption) (by kcf_all) (by kst_all) (by ksw_same) ⟨hf2, hb2, hz2, by subst hne; exact he2⟩
      · clear F1 N1
        intro c u h tk hD F1 N1
        obtain ⟨l2, vs2, n2, bs2⟩ := c
        obtain ⟨hf2, hb2, hz2, he2⟩ := hD
        dsimp only [kstB] at F1
        dsimp only at N1 hf2 hb2 hz2 he2
        clear hf hb hz hys
        k_steps
        refine Held.on ?_
        have hsub : ∀ x ∈ bs2, x ∈ (By.linesOf a).map (By.rcut [32, 9, 13, 10]) := fun x hx => by
          rw [he2] at hx
          have := (By.hcut_suf _).subset hx
          rw [he] at this
          exact (By.tcut_pre _).subset this
        have hel := By.ended_len a
        have heq : By.joinB [] (bs2.map (· ++ [10])) = By.ended a := by
          rw [By.joinB_nil, he2, he]; rfl
        k_dflt (refine LCg.CompSrc.ledger (by rfl) (by k_asm) (by k_asm) (by k_mem) (by (rw [PySem.sizeLine_eq, List.size_toArray]; omega)) ?_)
        intro g'
        refine bcf_list (· ++ [10]) (by assumption) (fun b' t' I' oI' C' oC' D' m' ys' h' tk' E' hb' hC' hx' F' N' off' ne' => ?_) ?_
        · have hbl' : b'.length ≤ a.length := by
            obtain ⟨r, hr, rfl⟩ := List.mem_map.mp (hsub b' hb')
            exact Nat.le_trans (By.rcut_len _ _) (Short.at hsh hr)
          k_steps
          refine Held.on ?_
          exact LCg.CompEnd.intro (by k_asm) (by k_asm) _ (fun p hp => hp) (by assumption) (.inr ⟨_, .head _, rfl, _, rfl⟩) (BEl.of rfl)
        · intro ys2 hys2
          have hJ : (By.joinB [] (bs2.map (· ++ [10]))).length ≤ 16777216 := by rw [heq]; omega
          k_steps
          exact hret _ _ _ _ (by k_asm) (cb_drop (by k_asm) (by kcf_all)) (RB.of heq)
end Mine
end
section
namespace Mine
set_option maxRecDepth 100000 in
set_option maxHeartbeats 1000000 in
theorem says_subject (w : World) (a : List UInt8) (t : Tok) (news : List (Addr × Obj)) (ha : a.length ≤ 1000) : Says w 106 3 [.bytes a.toArray t] news (RSubj (By.rowsB a) news) := by
  unfold Says
  k_fill
  w_top off
  k_with_none
  k_with "getMethod bytes" => (k_here; first | refine By.get_method By.slot_find By.type_find ?_ | refine By.get_method By.slot_split By.type_split ?_ | refine By.get_method By.slot_rstrip By.type_rstrip ?_ | refine By.get_method By.slot_lstrip By.type_lstrip ?_ | refine By.get_method By.slot_join By.type_join ?_ | refine By.get_method FB.slot_bytes_startswith FB.type_bytes_startswith ?_ | refine By.get_method FB.slot_bytes_endswith FB.type_bytes_endswith ?_)
  k_with "call builtin:len" => (k_here; (with_reducible show wpAny _ _ (call (Value.builtin "len") [Value.bytes (List.toArray _) _]) _ _ _); (refine By.len_B (by first | assumption | omega) ?_); intro _ _)
  k_with "subscriptTail" => (k_here; (with_reducible show wpAny _ _ (subscriptTail _ _ (Value.bytes (List.toArray _) _) (Value.int _ _)) _ _ _); (refine By.item_B (by first | assumption | omega) (by omega) (by omega) ?_); intro _ _)
  k_with "subscriptTail" => (k_here; (with_reducible show wpAny _ _ (subscriptTail _ (Expr.Slice _ _ none _) (Value.bytes (List.toArray _) _) (Value.ref _)) _ _ _); (with_reducible rename Fr _ _ _ _ => F'q); (with_reducible rename News _ _ _ _ => N'q); (refine By.slice_B (s := ⟨_, _, _, _, _⟩) F'q N'q (by constructor) (by constructor) (by first | assumption | omega) ?_); intro _ _ _ _ _)
  k_with "compareOp In int bytes" => (k_here; (with_reducible show wpAny _ _ (compareOp CmpOp.In (Value.int _ _) (Value.bytes (List.toArray _) _)) _ _ _); refine By.in_byte ?_)
  k_with "compareOp Eq bytes bytes" => (k_here; (with_reducible show wpAny _ _ (compareOp CmpOp.Eq (Value.bytes (List.toArray _) _) (Value.bytes (List.toArray _) _)) _ _ _); refine By.eq_B ?_)
  k_with "compareOp NotEq bytes bytes" => (k_here; (with_reducible show wpAny _ _ (compareOp CmpOp.NotEq (Value.bytes (List.toArray _) _) (Value.bytes (List.toArray _) _)) _ _ _); refine By.ne_B ?_)
  k_with "binaryOp Add bytes bytes" => (k_here; (with_reducible show wpAny _ _ (binaryOp Operator.Add (Value.bytes (List.toArray _) _) (Value.bytes (List.toArray _) _)) _ _ _); (refine By.add_B (by first | assumption | omega | (simp only [List.length_append, List.length_cons, List.length_nil] at *; omega)) ?_); intro _ _)
  k_with "call builtin:bytes.startswith" => (k_here; (with_reducible show wpAny _ _ (call (Value.builtin _) [Value.bytes (List.toArray _) _, Value.bytes (List.toArray _) _]) _ _ _); refine By.call_startswith ?_)
  k_with "call builtin:bytes.endswith" => (k_here; (with_reducible show wpAny _ _ (call (Value.builtin _) [Value.bytes (List.toArray _) _, Value.bytes (List.toArray _) _]) _ _ _); refine By.call_endswith ?_)
  k_with "call builtin:bytes.rstrip" => (k_here; (with_reducible show wpAny _ _ (call (Value.builtin _) [Value.bytes (List.toArray _) _, Value.bytes (List.toArray _) _]) _ _ _); (refine By.call_rstrip (by first | assumption | omega) ?_); intro _ _)
  k_with "call builtin:bytes.lstrip" => (k_here; (with_reducible show wpAny _ _ (call (Value.builtin _) [Value.bytes (List.toArray _) _, Value.bytes (List.toArray _) _]) _ _ _); (refine By.call_lstrip (by first | assumption | omega) ?_); intro _ _)
  k_with "call builtin:bytes.find" => (k_here; first | (refine By.call_find0 ?_; intro _ _) | (refine By.call_findI (by omega) (by omega) ?_; intro _ _))
  k_with "call builtin:bytes.split" => (k_here; k_dflt (refine' By.call_split ?zqk1 ?zqk2 ?zqk3 ?_; (case zqk1 => k_asm); (case zqk2 => k_asm); (case zqk3 => omega); k_whole); intro l'q vs'q h'q k'q hB'q hS'q hZ'q F'q N'q o1q; (try simp only [LCg.Off1, and_true] at o1q); (try k_sweep))
  k_with "call builtin:list.append" => (k_here; (with_reducible show wpAny _ _ (call (Value.builtin _) [Value.ref _, _]) _ _ _); k_dflt (refine' append_K ?zqk1 ?zqk2 ?zqk3 ?_ ?zqz; (case zqk1 => k_asm); (case zqk2 => k_asm); (case zqk3 => k_upd); (case zqz => (rw [PySem.sizeLine_eq]; simp only [List.size_toArray]; omega)); k_whole); intro h'q F'q N'q; (try k_sweep))
  k_with "call builtin:bytes.join" => (k_here; (with_reducible show wpAny _ _ (call (Value.builtin _) [Value.bytes (List.toArray _) _, Value.ref _]) _ _ _); k_dflt (refine By.call_join (News.isList (by k_asm) (by k_mem)) (by with_reducible assumption) (by first | assumption | omega) ?_); intro _ _)
  k_with "eval ListComp" => (k_here; k_dflt (refine LCg.ListComp_U (F₀ := by k_asm) (by rfl) (by decide) (by rfl) (by decide) (by rfl) ?_))
  k_with "exec Assign cons ListComp" => (k_here; k_dflt (refine LCg.Assign_ListComp_U (F₀ := by k_asm) (by rfl) (by with_unfolding_all rfl) (by with_unfolding_all rfl) (by decide) (by rfl) (by decide) (by rfl) (by rfl) (by rfl) ?_))
  k_with "CompEnd" => refine Held.out ?_
  k_with "CompSrc" => refine Held.out ?_
  k_with "WEnd" => refine Held.out ?_
  k_with "compareOp NotEq ref ref" => (k_here; (with_reducible show wpAny _ _ (compareOp CmpOp.NotEq (Value.ref _) (Value.ref _)) _ _ _); k_dflt (refine ne_nilK (by k_asm) (by k_mem) (by k_mem) (by ktr_units) ?_))
  k_with "compareOp Eq ref ref" => (k_here; (with_reducible show wpAny _ _ (compareOp CmpOp.Eq (Value.ref _) (Value.ref _)) _ _ _); k_dflt (refine eq_nilK (by k_asm) (by k_mem) (by k_mem) (by ktr_units) ?_))
  k_with "subscriptTail" => (k_here; (with_reducible show wpAny _ _ (subscriptTail _ _ (Value.ref _) (Value.int _ _)) _ _ _); k_dflt first | ((with_reducible show wpAny _ _ (subscriptTail _ (Expr.UnaryOp _ _ _) _ _) _ _ _); refine item_lastK (by k_asm) (by k_mem) (by with_reducible assumption) (by omega) (by omega) ?_; intro _) | (refine item_K (by k_asm) (by k_mem) (by with_reducible assumption) (by omega) (by omega) (by omega) ?_; intro _))
  k_with "call builtin:list.pop" => (k_here; (with_reducible show wpAny _ _ (call (Value.builtin _) [Value.ref _]) _ _ _); k_dflt (refine' popK ?zqF ?zqN ?zqU ?zqi ?zql ?zqz ?_; (case zqF => k_asm); (case zqN => k_asm); (case zqU => k_upd); (case zqi => with_reducible assumption); (case zql => omega); (case zqz => omega)); intro h'q t'q F'q N'q; (try k_sweep))
  k_with "subscriptTail" => (k_here; (with_reducible show wpAny _ _ (subscriptTail _ (Expr.Slice _ _ none _) (Value.ref _) (Value.ref _)) _ _ _); (with_reducible rename Fr _ _ _ _ => F'q); (with_reducible rename News _ _ _ _ => N'q); k_dflt (refine slice_L (s := ⟨_, _, _, _, _⟩) F'q N'q (by k_mem) (by with_reducible assumption) (by constructor) (by constructor) (by omega) ?_); intro l'q vs'q h'q hB'q hZ'q F'q N'q o1q; (try simp only [LCg.Off1, and_true] at o1q))
  k_with "subscriptTail Name Slice ref ref" => (k_here; (with_reducible show wpAny _ _ (subscriptTail _ (Expr.Slice _ _ none _) (Value.ref _) (Value.ref _)) _ _ _); (with_reducible rename Fr _ _ _ _ => F'q); (with_reducible rename News _ _ _ _ => N'q); k_dflt (refine slice_L (s := ⟨_, _, _, _, _⟩) F'q N'q (by k_mem) (by with_reducible assumption) (by constructor) (by constructor) (by omega) ?_); intro l'q vs'q h'q hB'q hZ'q F'q N'q o1q; (try simp only [LCg.Off1, and_true] at o1q))
  k_with "subscriptTail Call Slice ref ref" => (k_here; (with_reducible show wpAny _ _ (subscriptTail _ (Expr.Slice _ _ none _) (Value.ref _) (Value.ref _)) _ _ _); (with_reducible rename Fr _ _ _ _ => F'q); (with_reducible rename News _ _ _ _ => N'q); k_dflt (refine slice_L (s := ⟨_, _, _, _, _⟩) F'q N'q (by k_mem) (by with_reducible assumption) (by constructor) (by constructor) (by omega) ?_); intro l'q vs'q h'q hB'q hZ'q F'q N'q o1q; (try simp only [LCg.Off1, and_true] at o1q))
  k_with "call builtin:len" => (k_here; (with_reducible show wpAny _ _ (call (Value.builtin "len") [Value.ref _]) _ _ _); k_dflt (refine len_LK (by k_asm) (by k_mem) (by omega) ?_); intro _ _)
  k_with "exec While Compare cons nil" => refine Held.out ?_
  k_with "exec While BoolOp" => refine Held.out ?_
  k_with "KswEnd" => refine Held.out ?_
  k_with "my subs" => first | exact fun p hp => hp | (refine sub_tail ?_; walk_at "my subs")
  k_with "my df" => ((try dsimp only); (try k_fold))
  k_with "my back" => first | ((with_reducible rename RB _ _ _ _ => R9q); obtain ⟨⟨t9q, e9q⟩, e9'q⟩ := R9q; subst e9q e9'q; walk_at "my df") | ((with_reducible rename RL _ _ _ _ => R9q); obtain ⟨l9q, vs9q, k9q, e9q, hB9q, e9'q, hl9q⟩ := R9q; subst e9q e9'q; have hZ9q := hB9q.length; (try simp only [LCg.Off1, and_true] at hl9q); walk_at "my df") | ((with_reducible rename RSubj _ _ _ _ => R9q); obtain ⟨q9q, t9q, t9'q, e9q, e9'q, hl9q⟩ := R9q; subst e9q e9'q; (try simp only [LCg.Off1, and_true] at hl9q); walk_at "my df") | ((with_reducible rename RSome _ _ _ _ => R9q); obtain ⟨⟨x9q, t9q, e9q, hx9q⟩, e9'q⟩ := R9q; subst e9q e9'q; walk_at "my df") | ((with_reducible rename RTrail _ _ _ _ => R9q); rcases R9q with ⟨hT9q, e9q, e9'q⟩ | ⟨key9q, q9q, t9q, t9'q, x9q, hT9q, e9q, e9'q, hl9q⟩ <;> (subst e9q e9'q; (try simp only [LCg.Off1, and_true] at hl9q); walk_at "my df")) | ((with_reducible rename RLen _ _ _ _ => R9q); obtain ⟨l9q, xs9q, k9q, e9q, hx9q, e9'q, hl9q⟩ := R9q; subst e9q e9'q; (try simp only [LCg.Off1, and_true] at hl9q); walk_at "my df") | ((with_reducible rename RStr _ _ _ _ => R9q); obtain ⟨⟨t9q, e9q⟩, e9'q⟩ := R9q; subst e9q e9'q; walk_at "my df") | ((with_reducible rename RMark _ _ _ _ => R9q); rcases R9q with ⟨hM9q, e9q, e9'q⟩ | ⟨hM9q, q9q, o9q, e9q, e9'q, hl9q⟩ <;> (subst e9q e9'q; (try simp only [LCg.Off1, and_true] at hl9q); walk_at "my df")) | ((with_reducible rename RStp _ _ _ _ _ => R9q); obtain ⟨c9q, dx9q, o9q, p9q, e9q, e9'q, hst9q⟩ := R9q; subst e9q e9'q; walk_at "my df") | ((with_reducible rename RCom _ _ _ _ => R9q); obtain ⟨c9q, dx9q, o9q, p9q, e9q, e9'q, hC9q, hl9q, hcd9q⟩ := R9q; subst e9q e9'q; walk_at "my df")
  k_with "my side" => first | with_reducible assumption | omega | exact Nat.le_trans (By.sl_len _ _ _) (by omega) | exact IsCom.sub (by with_reducible assumption) (by walk_at "my subs") | exact fun k hk => Nat.lt_trans (By.hexCodes_lt k hk) (by decide) | exact Nat.le_trans (By.subjB_len _) (by omega)
  k_with "call ref" => (k_here; k_dflt (refine' says_use ?zqc ?zqk1 ?zqk2 ?zqk3 ?zqk4 ?zqk5 ?zqkK ?zqkd ?zqku ?_; (case zqk1 => k_asm); (case zqk2 => k_asm); (case zqk3 => k_asm); (case zqk4 => k_asm); (case zqk5 => k_asm); (case zqc => walk_at "my contract"); (case zqkK => first | exact rfl | assumption); (case zqkd => first | ktr_room | decide); (case zqku => first | ktr_units | decide); intro v9q n9q h9q tk9q F9q N9q R9q; walk_at "my back"))
  k_with "my contract" => (with_reducible apply says_cut_end) <;> walk_at "my side"
  k_with "my contract" => (with_reducible apply says_rows) <;> walk_at "my side"
  k_with "my contract" => (with_reducible apply says_lines) <;> walk_at "my side"
  k_with "my contract" => (with_reducible apply says_ended) <;> walk_at "my side"
  intro p loose mean mg mb dp un gd cn cs ad ccd cl outer A₀ base h₀ L m s Q E B F X N T hk hdp hu hret
  have hct := By.rowsB_count a
  have hsl := By.subjB_len a
  have hs1 := By.subjS_le (By.rowsB a)
  have hs2 := By.subjE_le (By.rowsB a)
  refine wpAny_call ?_
  k_dflt cell_enter
  k_steps
  refine Held.on ?_
  rename BsAre _ _ => hB0
  have hB1 : BsAre _ (By.rowsB a) := hB0
  clear hB0
  have hZ1 : _ = (By.rowsB a).length := hB1.length
  rename Fr _ _ _ _ => lF'
  rename News _ _ _ _ => lN'
  have lN2 := cb_drop lN' (news := (_, listOf _ _) :: news) (by kcf_all)
  clear lN'
  generalize hbs : By.rowsB a = bs at *
  with_unfolding_all refine' whileN (σ := Int × Tok) (fun c => [(Str.ofString "at", Value.int c.1 c.2)]) [] (fun c => By.RunAt By.isE bs 0 c.1) (fun c => (bs.length - c.1).toNat) (fun c => c.1 = (By.subjS bs : Nat)) (0, _) lF' lN2 ?kk ?kp ?_ ?_
  case kk => kst_all
  case kp => exact By.RunAt.start rfl (Nat.zero_le _)
  · clear lF' lN2
    intro c u h tk Q' hP F1 N1
    obtain ⟨i, ti⟩ := c
    dsimp only [kstB] at F1 hP
    have h0 := hP.1
    have h1 := hP.2.1
    (try k_unmd)
    (try k_fold)
    k_steps
    · refine Held.on ?_
      exact ksw_end (i + 1, _) (by assumption) (by assumption) (by kcf_all) trivial (by kst_all) (by ksw_same) (hP.more (by omega) (by assumption)) (by dsimp only; omega)
    · refine Held.on ?_
      exact WEnd.intro (i, _) (by assumption) (by assumption) (by kcf_all) (by kst_all) (by ksw_same) ((hP.last (by omega) (by assumption)).trans (by rw [Nat.zero_add]; rfl))
    · refine Held.on ?_
      exact WEnd.intro (i, _) (by assumption) (by assumption) (by kcf_all) (by kst_all) (by ksw_same) ((hP.whole (by omega)).trans (by rw [Nat.zero_add]; rfl))
  · clear lF' lN2
    intro c u h tk hD F1 N1
    obtain ⟨i, ti⟩ := c
    dsimp only [kstB] at F1 hD
    subst hD
    k_steps
    refine Held.on ?_
    rename Fr _ _ _ _ => lF'
    rename News _ _ _ _ => lN'
    with_unfolding_all refine' whileN (σ := Int × Tok) (fun c => [(Str.ofString "at", Value.int c.1 c.2)]) [] (fun c => By.RunAt By.notE bs (By.subjS bs) c.1) (fun c => (bs.length - c.1).toNat) (fun c => c.1 = (By.subjE bs : Nat)) ((By.subjS bs : Nat), _) lF' lN' ?kk ?kp ?_ ?_
    case kk => kst_all
    case kp => exact By.RunAt.start rfl hs1
    · clear lF' lN'
      intro c u h tk Q' hP F1 N1
      obtain ⟨i, ti⟩ := c
      dsimp only [kstB] at F1 hP
      have h0 := hP.1
      have h1 := hP.2.1
      (try k_unmd)
      (try k_fold)
      k_steps
      · refine Held.on ?_
        exact ksw_end (i + 1, _) (by assumption) (by assumption) (by kcf_all) trivial (by kst_all) (by ksw_same) (hP.more (by omega) (by assumption)) (by dsimp only; omega)
      · refine Held.on ?_
        exact WEnd.intro (i, _) (by assumption) (by assumption) (by kcf_all) (by kst_all) (by ksw_same) (hP.last (by omega) (by assumption))
      · refine Held.on ?_
        exact WEnd.intro (i, _) (by assumption) (by assumption) (by kcf_all) (by kst_all) (by ksw_same) (hP.whole (by omega))
    · clear lF' lN'
      intro c u h tk hD F1 N1
      obtain ⟨i, ti⟩ := c
      dsimp only [kstB] at F1 hD
      subst hD
      have hse : By.joinB [32] (By.sl bs (some ((By.subjS bs : Nat) : Int)) (some ((By.subjE bs : Nat) : Int))) = By.subjB bs := by
        rw [By.sl_both (by omega) (by omega)]; rfl
      have hJ : (By.joinB [32] (By.sl bs (some ((By.subjS bs : Nat) : Int)) (some ((By.subjE bs : Nat) : Int)))).length ≤ 16777216 := by rw [hse]; omega
      k_steps
      rename News _ _ _ _ => nE
      rename (_ ∧ _ ∧ AllLt _ _) => hl
      rw [hse] at nE
      exact hret _ _ _ _ (by k_asm) (cb_drop nE (by kcf_all)) ⟨_, _, _, rfl, rfl, off1_all hl.2.2⟩
end Mine
end
section
namespace Mine
set_option maxRecDepth 100000 in
set_option maxHeartbeats 1000000 in
theorem says_trimmed (w : World) (a sg : List UInt8) (t u : Tok) (news : List (Addr × Obj)) (ha : a.length ≤ 4000) : Says w 80 1 [.bytes a.toArray t, .bytes sg.toArray u] news (RSome a.length news) := by
  unfold Says
  k_fill
  w_top off
  k_with_none
  k_with "getMethod bytes" => (k_here; first | refine By.get_method By.slot_find By.type_find ?_ | refine By.get_method By.slot_split By.type_split ?_ | refine By.get_method By.slot_rstrip By.type_rstrip ?_ | refine By.get_method By.slot_lstrip By.type_lstrip ?_ | refine By.get_method By.slot_join By.type_join ?_ | refine By.get_method FB.slot_bytes_startswith FB.type_bytes_startswith ?_ | refine By.get_method FB.slot_bytes_endswith FB.type_bytes_endswith ?_)
  k_with "call builtin:len" => (k_here; (with_reducible show wpAny _ _ (call (Value.builtin "len") [Value.bytes (List.toArray _) _]) _ _ _); (refine By.len_B (by first | assumption | omega) ?_); intro _ _)
  k_with "subscriptTail" => (k_here; (with_reducible show wpAny _ _ (subscriptTail _ _ (Value.bytes (List.toArray _) _) (Value.int _ _)) _ _ _); (refine By.item_B (by first | assumption | omega) (by omega) (by omega) ?_); intro _ _)
  k_with "subscriptTail" => (k_here; (with_reducible show wpAny _ _ (subscriptTail _ (Expr.Slice _ _ none _) (Value.bytes (List.toArray _) _) (Value.ref _)) _ _ _); (with_reducible rename Fr _ _ _ _ => F'q); (with_reducible rename News _ _ _ _ => N'q); (refine By.slice_B (s := ⟨_, _, _, _, _⟩) F'q N'q (by constructor) (by constructor) (by first | assumption | omega) ?_); intro _ _ _ _ _)
  k_with "compareOp In int bytes" => (k_here; (with_reducible show wpAny _ _ (compareOp CmpOp.In (Value.int _ _) (Value.bytes (List.toArray _) _)) _ _ _); refine By.in_byte ?_)
  k_with "compareOp Eq bytes bytes" => (k_here; (with_reducible show wpAny _ _ (compareOp CmpOp.Eq (Value.bytes (List.toArray _) _) (Value.bytes (List.toArray _) _)) _ _ _); refine By.eq_B ?_)
  k_with "compareOp NotEq bytes bytes" => (k_here; (with_reducible show wpAny _ _ (compareOp CmpOp.NotEq (Value.bytes (List.toArray _) _) (Value.bytes (List.toArray _) _)) _ _ _); refine By.ne_B ?_)
  k_with "binaryOp Add bytes bytes" => (k_here; (with_reducible show wpAny _ _ (binaryOp Operator.Add (Value.bytes (List.toArray _) _) (Value.bytes (List.toArray _) _)) _ _ _); (refine By.add_B (by first | assumption | omega | (simp only [List.length_append, List.length_cons, List.length_nil] at *; omega)) ?_); intro _ _)
  k_with "call builtin:bytes.startswith" => (k_here; (with_reducible show wpAny _ _ (call (Value.builtin _) [Value.bytes (List.toArray _) _, Value.bytes (List.toArray _) _]) _ _ _); refine By.call_startswith ?_)
  k_with "call builtin:bytes.endswith" => (k_here; (with_reducible show wpAny _ _ (call (Value.builtin _) [Value.bytes (List.toArray _) _, Value.bytes (List.toArray _) _]) _ _ _); refine By.call_endswith ?_)
  k_with "call builtin:bytes.rstrip" => (k_here; (with_reducible show wpAny _ _ (call (Value.builtin _) [Value.bytes (List.toArray _) _, Value.bytes (List.toArray _) _]) _ _ _); (refine By.call_rstrip (by first | assumption | omega) ?_); intro _ _)
  k_with "call builtin:bytes.lstrip" => (k_here; (with_reducible show wpAny _ _ (call (Value.builtin _) [Value.bytes (List.toArray _) _, Value.bytes (List.toArray _) _]) _ _ _); (refine By.call_lstrip (by first | assumption | omega) ?_); intro _ _)
  k_with "call builtin:bytes.find" => (k_here; first | (refine By.call_find0 ?_; intro _ _) | (refine By.call_findI (by omega) (by omega) ?_; intro _ _))
  k_with "call builtin:bytes.split" => (k_here; k_dflt (refine' By.call_split ?zqk1 ?zqk2 ?zqk3 ?_; (case zqk1 => k_asm); (case zqk2 => k_asm); (case zqk3 => omega); k_whole); intro l'q vs'q h'q k'q hB'q hS'q hZ'q F'q N'q o1q; (try simp only [LCg.Off1, and_true] at o1q); (try k_sweep))
  k_with "call builtin:list.append" => (k_here; (with_reducible show wpAny _ _ (call (Value.builtin _) [Value.ref _, _]) _ _ _); k_dflt (refine' append_K ?zqk1 ?zqk2 ?zqk3 ?_ ?zqz; (case zqk1 => k_asm); (case zqk2 => k_asm); (case zqk3 => k_upd); (case zqz => (rw [PySem.sizeLine_eq]; simp only [List.size_toArray]; omega)); k_whole); intro h'q F'q N'q; (try k_sweep))
  k_with "call builtin:bytes.join" => (k_here; (with_reducible show wpAny _ _ (call (Value.builtin _) [Value.bytes (List.toArray _) _, Value.ref _]) _ _ _); k_dflt (refine By.call_join (News.isList (by k_asm) (by k_mem)) (by with_reducible assumption) (by first | assumption | omega) ?_); intro _ _)
  k_with "eval ListComp" => (k_here; k_dflt (refine LCg.ListComp_U (F₀ := by k_asm) (by rfl) (by decide) (by rfl) (by decide) (by rfl) ?_))
  k_with "exec Assign cons ListComp" => (k_here; k_dflt (refine LCg.Assign_ListComp_U (F₀ := by k_asm) (by rfl) (by with_unfolding_all rfl) (by with_unfolding_all rfl) (by decide) (by rfl) (by decide) (by rfl) (by rfl) (by rfl) ?_))
  k_with "CompEnd" => refine Held.out ?_
  k_with "CompSrc" => refine Held.out ?_
  k_with "WEnd" => refine Held.out ?_
  k_with "compareOp NotEq ref ref" => (k_here; (with_reducible show wpAny _ _ (compareOp CmpOp.NotEq (Value.ref _) (Value.ref _)) _ _ _); k_dflt (refine ne_nilK (by k_asm) (by k_mem) (by k_mem) (by ktr_units) ?_))
  k_with "compareOp Eq ref ref" => (k_here; (with_reducible show wpAny _ _ (compareOp CmpOp.Eq (Value.ref _) (Value.ref _)) _ _ _); k_dflt (refine eq_nilK (by k_asm) (by k_mem) (by k_mem) (by ktr_units) ?_))
  k_with "subscriptTail" => (k_here; (with_reducible show wpAny _ _ (subscriptTail _ _ (Value.ref _) (Value.int _ _)) _ _ _); k_dflt first | ((with_reducible show wpAny _ _ (subscriptTail _ (Expr.UnaryOp _ _ _) _ _) _ _ _); refine item_lastK (by k_asm) (by k_mem) (by with_reducible assumption) (by omega) (by omega) ?_; intro _) | (refine item_K (by k_asm) (by k_mem) (by with_reducible assumption) (by omega) (by omega) (by omega) ?_; intro _))
  k_with "call builtin:list.pop" => (k_here; (with_reducible show wpAny _ _ (call (Value.builtin _) [Value.ref _]) _ _ _); k_dflt (refine' popK ?zqF ?zqN ?zqU ?zqi ?zql ?zqz ?_; (case zqF => k_asm); (case zqN => k_asm); (case zqU => k_upd); (case zqi => with_reducible assumption); (case zql => omega); (case zqz => omega)); intro h'q t'q F'q N'q; (try k_sweep))
  k_with "subscriptTail" => (k_here; (with_reducible show wpAny _ _ (subscriptTail _ (Expr.Slice _ _ none _) (Value.ref _) (Value.ref _)) _ _ _); (with_reducible rename Fr _ _ _ _ => F'q); (with_reducible rename News _ _ _ _ => N'q); k_dflt (refine slice_L (s := ⟨_, _, _, _, _⟩) F'q N'q (by k_mem) (by with_reducible assumption) (by constructor) (by constructor) (by omega) ?_); intro l'q vs'q h'q hB'q hZ'q F'q N'q o1q; (try simp only [LCg.Off1, and_true] at o1q))
  k_with "subscriptTail Name Slice ref ref" => (k_here; (with_reducible show wpAny _ _ (subscriptTail _ (Expr.Slice _ _ none _) (Value.ref _) (Value.ref _)) _ _ _); (with_reducible rename Fr _ _ _ _ => F'q); (with_reducible rename News _ _ _ _ => N'q); k_dflt (refine slice_L (s := ⟨_, _, _, _, _⟩) F'q N'q (by k_mem) (by with_reducible assumption) (by constructor) (by constructor) (by omega) ?_); intro l'q vs'q h'q hB'q hZ'q F'q N'q o1q; (try simp only [LCg.Off1, and_true] at o1q))
  k_with "subscriptTail Call Slice ref ref" => (k_here; (with_reducible show wpAny _ _ (subscriptTail _ (Expr.Slice _ _ none _) (Value.ref _) (Value.ref _)) _ _ _); (with_reducible rename Fr _ _ _ _ => F'q); (with_reducible rename News _ _ _ _ => N'q); k_dflt (refine slice_L (s := ⟨_, _, _, _, _⟩) F'q N'q (by k_mem) (by with_reducible assumption) (by constructor) (by constructor) (by omega) ?_); intro l'q vs'q h'q hB'q hZ'q F'q N'q o1q; (try simp only [LCg.Off1, and_true] at o1q))
  k_with "call builtin:len" => (k_here; (with_reducible show wpAny _ _ (call (Value.builtin "len") [Value.ref _]) _ _ _); k_dflt (refine len_LK (by k_asm) (by k_mem) (by omega) ?_); intro _ _)
  k_with "exec While Compare cons nil" => refine Held.out ?_
  k_with "exec While BoolOp" => refine Held.out ?_
  k_with "KswEnd" => refine Held.out ?_
  k_with "my subs" => first | exact fun p hp => hp | (refine sub_tail ?_; walk_at "my subs")
  k_with "my df" => ((try dsimp only); (try k_fold))
  k_with "my back" => first | ((with_reducible rename RB _ _ _ _ => R9q); obtain ⟨⟨t9q, e9q⟩, e9'q⟩ := R9q; subst e9q e9'q; walk_at "my df") | ((with_reducible rename RL _ _ _ _ => R9q); obtain ⟨l9q, vs9q, k9q, e9q, hB9q, e9'q, hl9q⟩ := R9q; subst e9q e9'q; have hZ9q := hB9q.length; (try simp only [LCg.Off1, and_true] at hl9q); walk_at "my df") | ((with_reducible rename RSubj _ _ _ _ => R9q); obtain ⟨q9q, t9q, t9'q, e9q, e9'q, hl9q⟩ := R9q; subst e9q e9'q; (try simp only [LCg.Off1, and_true] at hl9q); walk_at "my df") | ((with_reducible rename RSome _ _ _ _ => R9q); obtain ⟨⟨x9q, t9q, e9q, hx9q⟩, e9'q⟩ := R9q; subst e9q e9'q; walk_at "my df") | ((with_reducible rename RTrail _ _ _ _ => R9q); rcases R9q with ⟨hT9q, e9q, e9'q⟩ | ⟨key9q, q9q, t9q, t9'q, x9q, hT9q, e9q, e9'q, hl9q⟩ <;> (subst e9q e9'q; (try simp only [LCg.Off1, and_true] at hl9q); walk_at "my df")) | ((with_reducible rename RLen _ _ _ _ => R9q); obtain ⟨l9q, xs9q, k9q, e9q, hx9q, e9'q, hl9q⟩ := R9q; subst e9q e9'q; (try simp only [LCg.Off1, and_true] at hl9q); walk_at "my df") | ((with_reducible rename RStr _ _ _ _ => R9q); obtain ⟨⟨t9q, e9q⟩, e9'q⟩ := R9q; subst e9q e9'q; walk_at "my df") | ((with_reducible rename RMark _ _ _ _ => R9q); rcases R9q with ⟨hM9q, e9q, e9'q⟩ | ⟨hM9q, q9q, o9q, e9q, e9'q, hl9q⟩ <;> (subst e9q e9'q; (try simp only [LCg.Off1, and_true] at hl9q); walk_at "my df")) | ((with_reducible rename RStp _ _ _ _ _ => R9q); obtain ⟨c9q, dx9q, o9q, p9q, e9q, e9'q, hst9q⟩ := R9q; subst e9q e9'q; walk_at "my df") | ((with_reducible rename RCom _ _ _ _ => R9q); obtain ⟨c9q, dx9q, o9q, p9q, e9q, e9'q, hC9q, hl9q, hcd9q⟩ := R9q; subst e9q e9'q; walk_at "my df")
  k_with "my side" => first | with_reducible assumption | omega | exact Nat.le_trans (By.sl_len _ _ _) (by omega) | exact IsCom.sub (by with_reducible assumption) (by walk_at "my subs") | exact fun k hk => Nat.lt_trans (By.hexCodes_lt k hk) (by decide) | exact Nat.le_trans (By.subjB_len _) (by omega)
  k_with "call ref" => (k_here; k_dflt (refine' says_use ?zqc ?zqk1 ?zqk2 ?zqk3 ?zqk4 ?zqk5 ?zqkK ?zqkd ?zqku ?_; (case zqk1 => k_asm); (case zqk2 => k_asm); (case zqk3 => k_asm); (case zqk4 => k_asm); (case zqk5 => k_asm); (case zqc => walk_at "my contract"); (case zqkK => first | exact rfl | assumption); (case zqkd => first | ktr_room | decide); (case zqku => first | ktr_units | decide); intro v9q n9q h9q tk9q F9q N9q R9q; walk_at "my back"))
  k_with "my contract" => (with_reducible apply says_cut_end) <;> walk_at "my side"
  k_with "my contract" => (with_reducible apply says_rows) <;> walk_at "my side"
  k_with "my contract" => (with_reducible apply says_lines) <;> walk_at "my side"
  k_with "my contract" => (with_reducible apply says_ended) <;> walk_at "my side"
  k_with "my contract" => (with_reducible apply says_subject) <;> walk_at "my side"
  intro p loose mean mg mb dp un gd cn cs ad ccd cl outer A₀ base h₀ L m s Q E B F X N T hk hdp hu hret
  refine wpAny_call ?_
  k_dflt cell_enter
  k_steps
  refine Held.on ?_
  rename Fr _ _ _ _ => lF'
  rename News _ _ _ _ => lN'
  have lN2 := cb_drop lN' (news := news) (by kcf_all)
  clear lN'
  with_unfolding_all refine' whileN (σ := Int × Tok) (fun c => [(Str.ofString "start", Value.int c.1 c.2)]) [] (fun c => 0 ≤ c.1 ∧ c.1 ≤ (a.length : Int)) (fun c => (a.length - c.1).toNat) (fun c => 0 ≤ c.1 ∧ c.1 ≤ (a.length : Int)) (0, _) lF' lN2 ?kk ?kp ?_ ?_
  case kk => kst_all
  case kp => exact ⟨by dsimp only; omega, by dsimp only; omega⟩
  · clear lF' lN2
    intro c u h tk Q' hP F1 N1
    obtain ⟨i, ti⟩ := c
    dsimp only [kstB] at F1 hP
    obtain ⟨h0, h1⟩ := hP
    (try k_unmd)
    (try k_fold)
    k_steps
    · refine Held.on ?_
      exact ksw_end (i + 1, _) (by assumption) (by assumption) (by kcf_all) trivial (by kst_all) (by ksw_same) ⟨by dsimp only; omega, by dsimp only; omega⟩ (by dsimp only; omega)
    · refine Held.on ?_
      exact WEnd.intro (i, _) (by assumption) (by assumption) (by kcf_all) (by kst_all) (by ksw_same) ⟨h0, h1⟩
    · refine Held.on ?_
      exact WEnd.intro (i, _) (by assumption) (by assumption) (by kcf_all) (by kst_all) (by ksw_same) ⟨h0, h1⟩
  · clear lF' lN2
    intro c u h tk hD F1 N1
    obtain ⟨i, ti⟩ := c
    dsimp only [kstB] at F1 hD
    obtain ⟨h0, h1⟩ := hD
    k_steps
    refine Held.on ?_
    with_unfolding_all refine' whileN (σ := Int × Tok) (fun c => [(Str.ofString "end", Value.int c.1 c.2)]) [] (fun c => 0 ≤ c.1 ∧ c.1 ≤ (a.length : Int)) (fun c => c.1.toNat) (fun c => 0 ≤ c.1 ∧ c.1 ≤ (a.length : Int)) ((a.length : Int), _) F1 N1 ?kk ?kp ?_ ?_
    case kk => kst_all
    case kp => exact ⟨by dsimp only; omega, by dsimp only; omega⟩
    · clear F1 N1
      intro c u h tk Q' hP F1 N1
      obtain ⟨j, tj⟩ := c
      dsimp only [kstB] at F1 hP
      obtain ⟨h2, h3⟩ := hP
      (try k_unmd)
      (try k_fold)
      k_steps
      · refine Held.on ?_
        exact ksw_end (j - 1, _) (by assumption) (by assumption) (by kcf_all) trivial (by kst_all) (by ksw_same) ⟨by dsimp only; omega, by dsimp only; omega⟩ (by dsimp only; omega)
      · refine Held.on ?_
        exact WEnd.intro (j, _) (by assumption) (by assumption) (by kcf_all) (by kst_all) (by ksw_same) ⟨h2, h3⟩
      · refine Held.on ?_
        exact WEnd.intro (j, _) (by assumption) (by assumption) (by kcf_all) (by kst_all) (by ksw_same) ⟨h2, h3⟩
    · clear F1 N1
      intro c u h tk hD F1 N1
      obtain ⟨j, tj⟩ := c
      dsimp only [kstB] at F1 hD
      k_steps
      exact hret _ _ _ _ (by k_asm) (by k_asm) (RSome.of (By.sl_len _ _ _))
end Mine
end
section
namespace Mine
set_option maxRecDepth 100000 in
set_option maxHeartbeats 1000000 in
theorem says_trailer (w : World) (a : List UInt8) (t : Tok) (news : List (Addr × Obj)) (ha : a.length ≤ 1000) : Says w 113 2 [.bytes a.toArray t] news (RTrail a news) := by
  unfold Says
  k_fill
  w_top off
  k_with_none
  k_with "getMethod bytes" => (k_here; first | refine By.get_method By.slot_find By.type_find ?_ | refine By.get_method By.slot_split By.type_split ?_ | refine By.get_method By.slot_rstrip By.type_rstrip ?_ | refine By.get_method By.slot_lstrip By.type_lstrip ?_ | refine By.get_method By.slot_join By.type_join ?_ | refine By.get_method FB.slot_bytes_startswith FB.type_bytes_startswith ?_ | refine By.get_method FB.slot_bytes_endswith FB.type_bytes_endswith ?_)
  k_with "call builtin:len" => (k_here; (with_reducible show wpAny _ _ (call (Value.builtin "len") [Value.bytes (List.toArray _) _]) _ _ _); (refine By.len_B (by first | assumption | omega) ?_); intro _ _)
  k_with "subscriptTail" => (k_here; (with_reducible show wpAny _ _ (subscriptTail _ _ (Value.bytes (List.toArray _) _) (Value.int _ _)) _ _ _); (refine By.item_B (by first | assumption | omega) (by omega) (by omega) ?_); intro _ _)
  k_with "subscriptTail" => (k_here; (with_reducible show wpAny _ _ (subscriptTail _ (Expr.Slice _ _ none _) (Value.bytes (List.toArray _) _) (Value.ref _)) _ _ _); (with_reducible rename Fr _ _ _ _ => F'q); (with_reducible rename News _ _ _ _ => N'q); (refine By.slice_B (s := ⟨_, _, _, _, _⟩) F'q N'q (by constructor) (by constructor) (by first | assumption | omega) ?_); intro _ _ _ _ _)
  k_with "compareOp In int bytes" => (k_here; (with_reducible show wpAny _ _ (compareOp CmpOp.In (Value.int _ _) (Value.bytes (List.toArray _) _)) _ _ _); refine By.in_byte ?_)
  k_with "compareOp Eq bytes bytes" => (k_here; (with_reducible show wpAny _ _ (compareOp CmpOp.Eq (Value.bytes (List.toArray _) _) (Value.bytes (List.toArray _) _)) _ _ _); refine By.eq_B ?_)
  k_with "compareOp NotEq bytes bytes" => (k_here; (with_reducible show wpAny _ _ (compareOp CmpOp.NotEq (Value.bytes (List.toArray _) _) (Value.bytes (List.toArray _) _)) _ _ _); refine By.ne_B ?_)
  k_with "binaryOp Add bytes bytes" => (k_here; (with_reducible show wpAny _ _ (binaryOp Operator.Add (Value.bytes (List.toArray _) _) (Value.bytes (List.toArray _) _)) _ _ _); (refine By.add_B (by first | assumption | omega | (simp only [List.length_append, List.length_cons, List.length_nil] at *; omega)) ?_); intro _ _)
  k_with "call builtin:bytes.startswith" => (k_here; (with_reducible show wpAny _ _ (call (Value.builtin _) [Value.bytes (List.toArray _) _, Value.bytes (List.toArray _) _]) _ _ _); refine By.call_startswith ?_)
  k_with "call builtin:bytes.endswith" => (k_here; (with_reducible show wpAny _ _ (call (Value.builtin _) [Value.bytes (List.toArray _) _, Value.bytes (List.toArray _) _]) _ _ _); refine By.call_endswith ?_)
  k_with "call builtin:bytes.rstrip" => (k_here; (with_reducible show wpAny _ _ (call (Value.builtin _) [Value.bytes (List.toArray _) _, Value.bytes (List.toArray _) _]) _ _ _); (refine By.call_rstrip (by first | assumption | omega) ?_); intro _ _)
  k_with "call builtin:bytes.lstrip" => (k_here; (with_reducible show wpAny _ _ (call (Value.builtin _) [Value.bytes (List.toArray _) _, Value.bytes (List.toArray _) _]) _ _ _); (refine By.call_lstrip (by first | assumption | omega) ?_); intro _ _)
  k_with "call builtin:bytes.find" => (k_here; first | (refine By.call_find0 ?_; intro _ _) | (refine By.call_findI (by omega) (by omega) ?_; intro _ _))
  k_with "call builtin:bytes.split" => (k_here; k_dflt (refine' By.call_split ?zqk1 ?zqk2 ?zqk3 ?_; (case zqk1 => k_asm); (case zqk2 => k_asm); (case zqk3 => omega); k_whole); intro l'q vs'q h'q k'q hB'q hS'q hZ'q F'q N'q o1q; (try simp only [LCg.Off1, and_true] at o1q); (try k_sweep))
  k_with "call builtin:list.append" => (k_here; (with_reducible show wpAny _ _ (call (Value.builtin _) [Value.ref _, _]) _ _ _); k_dflt (refine' append_K ?zqk1 ?zqk2 ?zqk3 ?_ ?zqz; (case zqk1 => k_asm); (case zqk2 => k_asm); (case zqk3 => k_upd); (case zqz => (rw [PySem.sizeLine_eq]; simp only [List.size_toArray]; omega)); k_whole); intro h'q F'q N'q; (try k_sweep))
  k_with "call builtin:bytes.join" => (k_here; (with_reducible show wpAny _ _ (call (Value.builtin _) [Value.bytes (List.toArray _) _, Value.ref _]) _ _ _); k_dflt (refine By.call_join (News.isList (by k_asm) (by k_mem)) (by with_reducible assumption) (by first | assumption | omega) ?_); intro _ _)
  k_with "eval ListComp" => (k_here; k_dflt (refine LCg.ListComp_U (F₀ := by k_asm) (by rfl) (by decide) (by rfl) (by decide) (by rfl) ?_))
  k_with "exec Assign cons ListComp" => (k_here; k_dflt (refine LCg.Assign_ListComp_U (F₀ := by k_asm) (by rfl) (by with_unfolding_all rfl) (by with_unfolding_all rfl) (by decide) (by rfl) (by decide) (by rfl) (by rfl) (by rfl) ?_))
  k_with "CompEnd" => refine Held.out ?_
  k_with "CompSrc" => refine Held.out ?_
  k_with "WEnd" => refine Held.out ?_
  k_with "compareOp NotEq ref ref" => (k_here; (with_reducible show wpAny _ _ (compareOp CmpOp.NotEq (Value.ref _) (Value.ref _)) _ _ _); k_dflt (refine ne_nilK (by k_asm) (by k_mem) (by k_mem) (by ktr_units) ?_))
  k_with "compareOp Eq ref ref" => (k_here; (with_reducible show wpAny _ _ (compareOp CmpOp.Eq (Value.ref _) (Value.ref _)) _ _ _); k_dflt (refine eq_nilK (by k_asm) (by k_mem) (by k_mem) (by ktr_units) ?_))
  k_with "subscriptTail" => (k_here; (with_reducible show wpAny _ _ (subscriptTail _ _ (Value.ref _) (Value.int _ _)) _ _ _); k_dflt first | ((with_reducible show wpAny _ _ (subscriptTail _ (Expr.UnaryOp _ _ _) _ _) _ _ _); refine item_lastK (by k_asm) (by k_mem) (by with_reducible assumption) (by omega) (by omega) ?_; intro _) | (refine item_K (by k_asm) (by k_mem) (by with_reducible assumption) (by omega) (by omega) (by omega) ?_; intro _))
  k_with "call builtin:list.pop" => (k_here; (with_reducible show wpAny _ _ (call (Value.builtin _) [Value.ref _]) _ _ _); k_dflt (refine' popK ?zqF ?zqN ?zqU ?zqi ?zql ?zqz ?_; (case zqF => k_asm); (case zqN => k_asm); (case zqU => k_upd); (case zqi => with_reducible assumption); (case zql => omega); (case zqz => omega)); intro h'q t'q F'q N'q; (try k_sweep))
  k_with "subscriptTail" => (k_here; (with_reducible show wpAny _ _ (subscriptTail _ (Expr.Slice _ _ none _) (Value.ref _) (Value.ref _)) _ _ _); (with_reducible rename Fr _ _ _ _ => F'q); (with_reducible rename News _ _ _ _ => N'q); k_dflt (refine slice_L (s := ⟨_, _, _, _, _⟩) F'q N'q (by k_mem) (by with_reducible assumption) (by constructor) (by constructor) (by omega) ?_); intro l'q vs'q h'q hB'q hZ'q F'q N'q o1q; (try simp only [LCg.Off1, and_true] at o1q))
  k_with "subscriptTail Name Slice ref ref" => (k_here; (with_reducible show wpAny _ _ (subscriptTail _ (Expr.Slice _ _ none _) (Value.ref _) (Value.ref _)) _ _ _); (with_reducible rename Fr _ _ _ _ => F'q); (with_reducible rename News _ _ _ _ => N'q); k_dflt (refine slice_L (s := ⟨_, _, _, _, _⟩) F'q N'q (by k_mem) (by with_reducible assumption) (by constructor) (by constructor) (by omega) ?_); intro l'q vs'q h'q hB'q hZ'q F'q N'q o1q; (try simp only [LCg.Off1, and_true] at o1q))
  k_with "subscriptTail Call Slice ref ref" => (k_here; (with_reducible show wpAny _ _ (subscriptTail _ (Expr.Slice _ _ none _) (Value.ref _) (Value.ref _)) _ _ _); (with_reducible rename Fr _ _ _ _ => F'q); (with_reducible rename News _ _ _ _ => N'q); k_dflt (refine slice_L (s := ⟨_, _, _, _, _⟩) F'q N'q (by k_mem) (by with_reducible assumption) (by constructor) (by constructor) (by omega) ?_); intro l'q vs'q h'q hB'q hZ'q F'q N'q o1q; (try simp only [LCg.Off1, and_true] at o1q))
  k_with "call builtin:len" => (k_here; (with_reducible show wpAny _ _ (call (Value.builtin "len") [Value.ref _]) _ _ _); k_dflt (refine len_LK (by k_asm) (by k_mem) (by omega) ?_); intro _ _)
  k_with "exec While Compare cons nil" => refine Held.out ?_
  k_with "exec While BoolOp" => refine Held.out ?_
  k_with "KswEnd" => refine Held.out ?_
  k_with "pyIter bytes" => refine Held.out ?_
  k_with "pyIter ref" => refine Held.out ?_
  k_with "InvEndN" => refine Held.out ?_
  k_with "exec For Name Subscript cons nil" => (k_here; (rename Fr _ _ _ _ => lF'q); (with_unfolding_all refine' For_invVF lF'q ?zqk1 ?zqk2 ?_; (case zqk1 => exact rfl); (case zqk2 => exact rfl); k_whole))
  k_with "exec For Name Name cons nil" => (k_here; (rename Fr _ _ _ _ => lF'q); (with_unfolding_all refine' For_invVF lF'q ?zqk1 ?zqk2 ?_; (case zqk1 => exact rfl); (case zqk2 => exact rfl); k_whole))
  k_with "exec For Name Call cons nil" => (k_here; (rename Fr _ _ _ _ => lF'q); (with_unfolding_all refine' For_invVF lF'q ?zqk1 ?zqk2 ?_; (case zqk1 => exact rfl); (case zqk2 => exact rfl); k_whole))
  k_with "my subs" => first | exact fun p hp => hp | (refine sub_tail ?_; walk_at "my subs")
  k_with "my df" => ((try dsimp only); (try k_fold))
  k_with "my back" => first | ((with_reducible rename RB _ _ _ _ => R9q); obtain ⟨⟨t9q, e9q⟩, e9'q⟩ := R9q; subst e9q e9'q; walk_at "my df") | ((with_reducible rename RL _ _ _ _ => R9q); obtain ⟨l9q, vs9q, k9q, e9q, hB9q, e9'q, hl9q⟩ := R9q; subst e9q e9'q; have hZ9q := hB9q.length; (try simp only [LCg.Off1, and_true] at hl9q); walk_at "my df") | ((with_reducible rename RSubj _ _ _ _ => R9q); obtain ⟨q9q, t9q, t9'q, e9q, e9'q, hl9q⟩ := R9q; subst e9q e9'q; (try simp only [LCg.Off1, and_true] at hl9q); walk_at "my df") | ((with_reducible rename RSome _ _ _ _ => R9q); obtain ⟨⟨x9q, t9q, e9q, hx9q⟩, e9'q⟩ := R9q; subst e9q e9'q; walk_at "my df") | ((with_reducible rename RTrail _ _ _ _ => R9q); rcases R9q with ⟨hT9q, e9q, e9'q⟩ | ⟨key9q, q9q, t9q, t9'q, x9q, hT9q, e9q, e9'q, hl9q⟩ <;> (subst e9q e9'q; (try simp only [LCg.Off1, and_true] at hl9q); walk_at "my df")) | ((with_reducible rename RLen _ _ _ _ => R9q); obtain ⟨l9q, xs9q, k9q, e9q, hx9q, e9'q, hl9q⟩ := R9q; subst e9q e9'q; (try simp only [LCg.Off1, and_true] at hl9q); walk_at "my df") | ((with_reducible rename RStr _ _ _ _ => R9q); obtain ⟨⟨t9q, e9q⟩, e9'q⟩ := R9q; subst e9q e9'q; walk_at "my df") | ((with_reducible rename RMark _ _ _ _ => R9q); rcases R9q with ⟨hM9q, e9q, e9'q⟩ | ⟨hM9q, q9q, o9q, e9q, e9'q, hl9q⟩ <;> (subst e9q e9'q; (try simp only [LCg.Off1, and_true] at hl9q); walk_at "my df")) | ((with_reducible rename RStp _ _ _ _ _ => R9q); obtain ⟨c9q, dx9q, o9q, p9q, e9q, e9'q, hst9q⟩ := R9q; subst e9q e9'q; walk_at "my df") | ((with_reducible rename RCom _ _ _ _ => R9q); obtain ⟨c9q, dx9q, o9q, p9q, e9q, e9'q, hC9q, hl9q, hcd9q⟩ := R9q; subst e9q e9'q; walk_at "my df")
  k_with "my side" => first | with_reducible assumption | omega | exact Nat.le_trans (By.sl_len _ _ _) (by omega) | exact IsCom.sub (by with_reducible assumption) (by walk_at "my subs") | exact fun k hk => Nat.lt_trans (By.hexCodes_lt k hk) (by decide) | exact Nat.le_trans (By.subjB_len _) (by omega)
  k_with "call ref" => (k_here; k_dflt (refine' says_use ?zqc ?zqk1 ?zqk2 ?zqk3 ?zqk4 ?zqk5 ?zqkK ?zqkd ?zqku ?_; (case zqk1 => k_asm); (case zqk2 => k_asm); (case zqk3 => k_asm); (case zqk4 => k_asm); (case zqk5 => k_asm); (case zqc => walk_at "my contract"); (case zqkK => first | exact rfl | assumption); (case zqkd => first | ktr_room | decide); (case zqku => first | ktr_units | decide); intro v9q n9q h9q tk9q F9q N9q R9q; walk_at "my back"))
  k_with "my contract" => (with_reducible apply says_cut_end) <;> walk_at "my side"
  k_with "my contract" => (with_reducible apply says_rows) <;> walk_at "my side"
  k_with "my contract" => (with_reducible apply says_lines) <;> walk_at "my side"
  k_with "my contract" => (with_reducible apply says_ended) <;> walk_at "my side"
  k_with "my contract" => (with_reducible apply says_subject) <;> walk_at "my side"
  k_with "my contract" => (with_reducible apply says_trimmed) <;> walk_at "my side"
  intro p loose mean mg mb dp un gd cn cs ad ccd cl outer A₀ base h₀ L m s Q E B F X N T hk hdp hu hret
  have hkl := By.preKey_len a
  have hfl := By.findI_le a 58
  refine wpAny_call ?_
  k_dflt cell_enter
  k_steps
  · have hk0 : By.preKey a = [] := by rw [← By.key_yes (by assumption)]; simpa using (by assumption : (By.rcut _ _ == []) = true)
    exact hret _ _ _ _ (by k_asm) (by k_asm) (.inl ⟨by unfold By.trailerKey; rw [if_pos hk0], rfl, rfl⟩)
  · refine Held.on ?_
    rename (0 < By.findI a 58 0) => hpos
    rename ((By.rcut _ _ == []) = false) => hne
    rw [By.key_yes hpos] at *
    have hk1 : By.preKey a ≠ [] := by simpa using hne
    k_steps
    refine Held.on ?_
    rename Fr _ _ _ _ => lF'
    rename News _ _ _ _ => lN'
    with_unfolding_all refine' forB (σ := Unit) (fun _ => news) (fun _ => []) [] (fun i _ => ((By.preKey a).take i).all By.okSign = true) () (by rfl) lF' lN' ?kk ?kp ?_ ?_
    case kk => exact fun _ h => nomatch h
    case kp => rfl
    · clear lF' lN'
      intro c i y t u h tk own hi hlo hhi hoff hP F1 N1
      dsimp only [kstB] at F1 hP
      (try k_unmd)
      (try k_fold)
      k_steps
      all_goals first
        | (refine Held.on ?_; exact ForS.end () (by assumption) (by assumption) (by kcf_all) (by kcf_all) rfl (fun _ h => nomatch h) (by intro z h1 _ _; simp [h1]) (By.all_take_succ hi hP (By.ok_of (by omega))))
        | (exact hret _ _ _ _ (by k_asm) (cb_drop (by k_asm) (by kcf_all)) (.inl ⟨By.trailer_bad hk1 hi (By.ok_not (by omega)), rfl, rfl⟩))
    · clear lF' lN'
      intro c u h tk hD F1 N1
      dsimp only [kstB] at F1 hD
      rw [List.take_length] at hD
      k_steps
      exact hret _ _ _ _ (by k_asm) (by k_asm) (.inr ⟨_, _, _, _, _, By.trailer_good hk1 hD, rfl, rfl, (by first | exact off1_lt (by assumption) | exact off1_all (by assumption))⟩)
  · have hk0 : By.preKey a = [] := (By.key_no (by assumption)).symm
    exact hret _ _ _ _ (by k_asm) (by k_asm) (.inl ⟨by unfold By.trailerKey; rw [if_pos hk0], rfl, rfl⟩)
end Mine
end
section
namespace Mine
set_option maxRecDepth 100000 in
set_option maxHeartbeats 1000000 in
theorem says_last (w : World) (a : List UInt8) (t : Tok) (news : List (Addr × Obj)) (ha : a.length ≤ 1000) : Says w 120 3 [.bytes a.toArray t] news (RL (By.lastPart (By.tcut (By.rowsB a))) news) := by
  unfold Says
  k_fill
  w_top off
  k_with_none
  k_with "getMethod bytes" => (k_here; first | refine By.get_method By.slot_find By.type_find ?_ | refine By.get_method By.slot_split By.type_split ?_ | refine By.get_method By.slot_rstrip By.type_rstrip ?_ | refine By.get_method By.slot_lstrip By.type_lstrip ?_ | refine By.get_method By.slot_join By.type_join ?_ | refine By.get_method FB.slot_bytes_startswith FB.type_bytes_startswith ?_ | refine By.get_method FB.slot_bytes_endswith FB.type_bytes_endswith ?_)
  k_with "call builtin:len" => (k_here; (with_reducible show wpAny _ _ (call (Value.builtin "len") [Value.bytes (List.toArray _) _]) _ _ _); (refine By.len_B (by first | assumption | omega) ?_); intro _ _)
  k_with "subscriptTail" => (k_here; (with_reducible show wpAny _ _ (subscriptTail _ _ (Value.bytes (List.toArray _) _) (Value.int _ _)) _ _ _); (refine By.item_B (by first | assumption | omega) (by omega) (by omega) ?_); intro _ _)
  k_with "subscriptTail" => (k_here; (with_reducible show wpAny _ _ (subscriptTail _ (Expr.Slice _ _ none _) (Value.bytes (List.toArray _) _) (Value.ref _)) _ _ _); (with_reducible rename Fr _ _ _ _ => F'q); (with_reducible rename News _ _ _ _ => N'q); (refine By.slice_B (s := ⟨_, _, _, _, _⟩) F'q N'q (by constructor) (by constructor) (by first | assumption | omega) ?_); intro _ _ _ _ _)
  k_with "compareOp In int bytes" => (k_here; (with_reducible show wpAny _ _ (compareOp CmpOp.In (Value.int _ _) (Value.bytes (List.toArray _) _)) _ _ _); refine By.in_byte ?_)
  k_with "compareOp Eq bytes bytes" => (k_here; (with_reducible show wpAny _ _ (compareOp CmpOp.Eq (Value.bytes (List.toArray _) _) (Value.bytes (List.toArray _) _)) _ _ _); refine By.eq_B ?_)
  k_with "compareOp NotEq bytes bytes" => (k_here; (with_reducible show wpAny _ _ (compareOp CmpOp.NotEq (Value.bytes (List.toArray _) _) (Value.bytes (List.toArray _) _)) _ _ _); refine By.ne_B ?_)
  k_with "binaryOp Add bytes bytes" => (k_here; (with_reducible show wpAny _ _ (binaryOp Operator.Add (Value.bytes (List.toArray _) _) (Value.bytes (List.toArray _) _)) _ _ _); (refine By.add_B (by first | assumption | omega | (simp only [List.length_append, List.length_cons, List.length_nil] at *; omega)) ?_); intro _ _)
  k_with "call builtin:bytes.startswith" => (k_here; (with_reducible show wpAny _ _ (call (Value.builtin _) [Value.bytes (List.toArray _) _, Value.bytes (List.toArray _) _]) _ _ _); refine By.call_startswith ?_)
  k_with "call builtin:bytes.endswith" => (k_here; (with_reducible show wpAny _ _ (call (Value.builtin _) [Value.bytes (List.toArray _) _, Value.bytes (List.toArray _) _]) _ _ _); refine By.call_endswith ?_)
  k_with "call builtin:bytes.rstrip" => (k_here; (with_reducible show wpAny _ _ (call (Value.builtin _) [Value.bytes (List.toArray _) _, Value.bytes (List.toArray _) _]) _ _ _); (refine By.call_rstrip (by first | assumption | omega) ?_); intro _ _)
  k_with "call builtin:bytes.lstrip" => (k_here; (with_reducible show wpAny _ _ (call (Value.builtin _) [Value.bytes (List.toArray _) _, Value.bytes (List.toArray _) _]) _ _ _); (refine By.call_lstrip (by first | assumption | omega) ?_); intro _ _)
  k_with "call builtin:bytes.find" => (k_here; first | (refine By.call_find0 ?_; intro _ _) | (refine By.call_findI (by omega) (by omega) ?_; intro _ _))
  k_with "call builtin:bytes.split" => (k_here; k_dflt (refine' By.call_split ?zqk1 ?zqk2 ?zqk3 ?_; (case zqk1 => k_asm); (case zqk2 => k_asm); (case zqk3 => omega); k_whole); intro l'q vs'q h'q k'q hB'q hS'q hZ'q F'q N'q o1q; (try simp only [LCg.Off1, and_true] at o1q); (try k_sweep))
  k_with "call builtin:list.append" => (k_here; (with_reducible show wpAny _ _ (call (Value.builtin _) [Value.ref _, _]) _ _ _); k_dflt (refine' append_K ?zqk1 ?zqk2 ?zqk3 ?_ ?zqz; (case zqk1 => k_asm); (case zqk2 => k_asm); (case zqk3 => k_upd); (case zqz => (rw [PySem.sizeLine_eq]; simp only [List.size_toArray]; omega)); k_whole); intro h'q F'q N'q; (try k_sweep))
  k_with "call builtin:bytes.join" => (k_here; (with_reducible show wpAny _ _ (call (Value.builtin _) [Value.bytes (List.toArray _) _, Value.ref _]) _ _ _); k_dflt (refine By.call_join (News.isList (by k_asm) (by k_mem)) (by with_reducible assumption) (by first | assumption | omega) ?_); intro _ _)
  k_with "eval ListComp" => (k_here; k_dflt (refine LCg.ListComp_U (F₀ := by k_asm) (by rfl) (by decide) (by rfl) (by decide) (by rfl) ?_))
  k_with "exec Assign cons ListComp" => (k_here; k_dflt (refine LCg.Assign_ListComp_U (F₀ := by k_asm) (by rfl) (by with_unfolding_all rfl) (by with_unfolding_all rfl) (by decide) (by rfl) (by decide) (by rfl) (by rfl) (by rfl) ?_))
  k_with "CompEnd" => refine Held.out ?_
  k_with "CompSrc" => refine Held.out ?_
  k_with "WEnd" => refine Held.out ?_
  k_with "compareOp NotEq ref ref" => (k_here; (with_reducible show wpAny _ _ (compareOp CmpOp.NotEq (Value.ref _) (Value.ref _)) _ _ _); k_dflt (refine ne_nilK (by k_asm) (by k_mem) (by k_mem) (by ktr_units) ?_))
  k_with "compareOp Eq ref ref" => (k_here; (with_reducible show wpAny _ _ (compareOp CmpOp.Eq (Value.ref _) (Value.ref _)) _ _ _); k_dflt (refine eq_nilK (by k_asm) (by k_mem) (by k_mem) (by ktr_units) ?_))
  k_with "subscriptTail" => (k_here; (with_reducible show wpAny _ _ (subscriptTail _ _ (Value.ref _) (Value.int _ _)) _ _ _); k_dflt first | ((with_reducible show wpAny _ _ (subscriptTail _ (Expr.UnaryOp _ _ _) _ _) _ _ _); refine item_lastK (by k_asm) (by k_mem) (by with_reducible assumption) (by omega) (by omega) ?_; intro _) | (refine item_K (by k_asm) (by k_mem) (by with_reducible assumption) (by omega) (by omega) (by omega) ?_; intro _))
  k_with "call builtin:list.pop" => (k_here; (with_reducible show wpAny _ _ (call (Value.builtin _) [Value.ref _]) _ _ _); k_dflt (refine' popK ?zqF ?zqN ?zqU ?zqi ?zql ?zqz ?_; (case zqF => k_asm); (case zqN => k_asm); (case zqU => k_upd); (case zqi => with_reducible assumption); (case zql => omega); (case zqz => omega)); intro h'q t'q F'q N'q; (try k_sweep))
  k_with "subscriptTail" => (k_here; (with_reducible show wpAny _ _ (subscriptTail _ (Expr.Slice _ _ none _) (Value.ref _) (Value.ref _)) _ _ _); (with_reducible rename Fr _ _ _ _ => F'q); (with_reducible rename News _ _ _ _ => N'q); k_dflt (refine slice_L (s := ⟨_, _, _, _, _⟩) F'q N'q (by k_mem) (by with_reducible assumption) (by constructor) (by constructor) (by omega) ?_); intro l'q vs'q h'q hB'q hZ'q F'q N'q o1q; (try simp only [LCg.Off1, and_true] at o1q))
  k_with "subscriptTail Name Slice ref ref" => (k_here; (with_reducible show wpAny _ _ (subscriptTail _ (Expr.Slice _ _ none _) (Value.ref _) (Value.ref _)) _ _ _); (with_reducible rename Fr _ _ _ _ => F'q); (with_reducible rename News _ _ _ _ => N'q); k_dflt (refine slice_L (s := ⟨_, _, _, _, _⟩) F'q N'q (by k_mem) (by with_reducible assumption) (by constructor) (by constructor) (by omega) ?_); intro l'q vs'q h'q hB'q hZ'q F'q N'q o1q; (try simp only [LCg.Off1, and_true] at o1q))
  k_with "subscriptTail Call Slice ref ref" => (k_here; (with_reducible show wpAny _ _ (subscriptTail _ (Expr.Slice _ _ none _) (Value.ref _) (Value.ref _)) _ _ _); (with_reducible rename Fr _ _ _ _ => F'q); (with_reducible rename News _ _ _ _ => N'q); k_dflt (refine slice_L (s := ⟨_, _, _, _, _⟩) F'q N'q (by k_mem) (by with_reducible assumption) (by constructor) (by constructor) (by omega) ?_); intro l'q vs'q h'q hB'q hZ'q F'q N'q o1q; (try simp only [LCg.Off1, and_true] at o1q))
  k_with "call builtin:len" => (k_here; (with_reducible show wpAny _ _ (call (Value.builtin "len") [Value.ref _]) _ _ _); k_dflt (refine len_LK (by k_asm) (by k_mem) (by omega) ?_); intro _ _)
  k_with "exec While Compare cons nil" => refine Held.out ?_
  k_with "exec While BoolOp" => refine Held.out ?_
  k_with "KswEnd" => refine Held.out ?_
  k_with "pyIter bytes" => refine Held.out ?_
  k_with "pyIter ref" => refine Held.out ?_
  k_with "InvEndN" => refine Held.out ?_
  k_with "exec For Name Subscript cons nil" => (k_here; (rename Fr _ _ _ _ => lF'q); (with_unfolding_all refine' For_invVF lF'q ?zqk1 ?zqk2 ?_; (case zqk1 => exact rfl); (case zqk2 => exact rfl); k_whole))
  k_with "exec For Name Name cons nil" => (k_here; (rename Fr _ _ _ _ => lF'q); (with_unfolding_all refine' For_invVF lF'q ?zqk1 ?zqk2 ?_; (case zqk1 => exact rfl); (case zqk2 => exact rfl); k_whole))
  k_with "exec For Name Call cons nil" => (k_here; (rename Fr _ _ _ _ => lF'q); (with_unfolding_all refine' For_invVF lF'q ?zqk1 ?zqk2 ?_; (case zqk1 => exact rfl); (case zqk2 => exact rfl); k_whole))
  k_with "my subs" => first | exact fun p hp => hp | (refine sub_tail ?_; walk_at "my subs")
  k_with "my df" => ((try dsimp only); (try k_fold))
  k_with "my back" => first | ((with_reducible rename RB _ _ _ _ => R9q); obtain ⟨⟨t9q, e9q⟩, e9'q⟩ := R9q; subst e9q e9'q; walk_at "my df") | ((with_reducible rename RL _ _ _ _ => R9q); obtain ⟨l9q, vs9q, k9q, e9q, hB9q, e9'q, hl9q⟩ := R9q; subst e9q e9'q; have hZ9q := hB9q.length; (try simp only [LCg.Off1, and_true] at hl9q); walk_at "my df") | ((with_reducible rename RSubj _ _ _ _ => R9q); obtain ⟨q9q, t9q, t9'q, e9q, e9'q, hl9q⟩ := R9q; subst e9q e9'q; (try simp only [LCg.Off1, and_true] at hl9q); walk_at "my df") | ((with_reducible rename RSome _ _ _ _ => R9q); obtain ⟨⟨x9q, t9q, e9q, hx9q⟩, e9'q⟩ := R9q; subst e9q e9'q; walk_at "my df") | ((with_reducible rename RTrail _ _ _ _ => R9q); rcases R9q with ⟨hT9q, e9q, e9'q⟩ | ⟨key9q, q9q, t9q, t9'q, x9q, hT9q, e9q, e9'q, hl9q⟩ <;> (subst e9q e9'q; (try simp only [LCg.Off1, and_true] at hl9q); walk_at "my df")) | ((with_reducible rename RLen _ _ _ _ => R9q); obtain ⟨l9q, xs9q, k9q, e9q, hx9q, e9'q, hl9q⟩ := R9q; subst e9q e9'q; (try simp only [LCg.Off1, and_true] at hl9q); walk_at "my df") | ((with_reducible rename RStr _ _ _ _ => R9q); obtain ⟨⟨t9q, e9q⟩, e9'q⟩ := R9q; subst e9q e9'q; walk_at "my df") | ((with_reducible rename RMark _ _ _ _ => R9q); rcases R9q with ⟨hM9q, e9q, e9'q⟩ | ⟨hM9q, q9q, o9q, e9q, e9'q, hl9q⟩ <;> (subst e9q e9'q; (try simp only [LCg.Off1, and_true] at hl9q); walk_at "my df")) | ((with_reducible rename RStp _ _ _ _ _ => R9q); obtain ⟨c9q, dx9q, o9q, p9q, e9q, e9'q, hst9q⟩ := R9q; subst e9q e9'q; walk_at "my df") | ((with_reducible rename RCom _ _ _ _ => R9q); obtain ⟨c9q, dx9q, o9q, p9q, e9q, e9'q, hC9q, hl9q, hcd9q⟩ := R9q; subst e9q e9'q; walk_at "my df")
  k_with "my side" => first | with_reducible assumption | omega | exact Nat.le_trans (By.sl_len _ _ _) (by omega) | exact IsCom.sub (by with_reducible assumption) (by walk_at "my subs") | exact fun k hk => Nat.lt_trans (By.hexCodes_lt k hk) (by decide) | exact Nat.le_trans (By.subjB_len _) (by omega)
  k_with "call ref" => (k_here; k_dflt (refine' says_use ?zqc ?zqk1 ?zqk2 ?zqk3 ?zqk4 ?zqk5 ?zqkK ?zqkd ?zqku ?_; (case zqk1 => k_asm); (case zqk2 => k_asm); (case zqk3 => k_asm); (case zqk4 => k_asm); (case zqk5 => k_asm); (case zqc => walk_at "my contract"); (case zqkK => first | exact rfl | assumption); (case zqkd => first | ktr_room | decide); (case zqku => first | ktr_units | decide); intro v9q n9q h9q tk9q F9q N9q R9q; walk_at "my back"))
  k_with "my contract" => (with_reducible apply says_cut_end) <;> walk_at "my side"
  k_with "my contract" => (with_reducible apply says_rows) <;> walk_at "my side"
  k_with "my contract" => (with_reducible apply says_lines) <;> walk_at "my side"
  k_with "my contract" => (with_reducible apply says_ended) <;> walk_at "my side"
  k_with "my contract" => (with_reducible apply says_subject) <;> walk_at "my side"
  k_with "my contract" => (with_reducible apply says_trimmed) <;> walk_at "my side"
  k_with "my contract" => (with_reducible apply says_trailer) <;> walk_at "my side"
  intro p loose mean mg mb dp un gd cn cs ad ccd cl outer A₀ base h₀ L m s Q E B F X N T hk hdp hu hret
  have hct := By.rowsB_count a
  refine wpAny_call ?_
  k_dflt cell_enter
  k_steps
  refine Held.on ?_
  rename BsAre _ _ => hB0
  have hB1 : BsAre _ (By.rowsB a) := hB0
  clear hB0
  have hZ1 : _ = (By.rowsB a).length := hB1.length
  rename LCg.Off1 _ news => hf0
  rename Fr _ _ _ _ => lF'
  rename News _ _ _ _ => lN'
  generalize hbs : By.rowsB a = bs0 at *
  with_unfolding_all refine' whileG (σ := Addr × List Value × Nat × List (List UInt8)) (fun c => c.1) (fun c => listOf c.2.1.toArray c.2.2.1) (fun c => [(Str.ofString "rows", Value.ref c.1)]) [] (fun c => LCg.Off1 c.1 news ∧ BsAre c.2.1 c.2.2.2 ∧ c.2.1.length ≤ 1001 ∧ By.tcut c.2.2.2 = By.tcut bs0) (fun c => c.2.1.length) (fun c => LCg.Off1 c.1 news ∧ BsAre c.2.1 c.2.2.2 ∧ c.2.1.length ≤ 1001 ∧ c.2.2.2 = By.tcut bs0) (_, _, _, bs0) lF' lN' ?kk ?kp ?_ ?_
  case kk => kst_all
  case kp => exact ⟨hf0, hB1, by dsimp only; omega, rfl⟩
  · clear lF' lN'
    intro c u h tk Q' hP F1 N1
    obtain ⟨l, vs, n, bs⟩ := c
    obtain ⟨hf, hb, hz, he⟩ := hP
    dsimp only [kstB] at F1
    dsimp only at N1 hf hb hz he
    clear hB1 hZ1
    (try k_unmd)
    (try k_fold)
    k_steps
    · refine Held.on ?_
      have hne : bs ≠ [] := fun q => by have := hb.length; rw [q, List.length_nil] at this; omega
      exact ksw_end (l, vs.dropLast, n + 1, bs.dropLast) (by assumption) (by assumption) (by kcf_all) trivial (by kst_all) (by ksw_same) ⟨hf, hb.dropLast, by dsimp only; rw [List.length_dropLast]; omega, (By.tcut_pop hne (by assumption)).trans he⟩ (by dsimp only; rw [List.length_dropLast]; omega)
    · refine Held.on ?_
      have hne : bs ≠ [] := fun q => by have := hb.length; rw [q, List.length_nil] at this; omega
      exact WEnd.intro (l, vs, n, bs) (by assumption) (by assumption) (by kcf_all) (by kst_all) (by ksw_same) ⟨hf, hb, hz, (By.tcut_done hne (by assumption)).symm.trans he⟩
    · refine Held.on ?_
      have hne : bs = [] := List.eq_nil_of_length_eq_zero (by rw [← hb.length]; omega)
      exact WEnd.intro (l, vs, n, bs) (by assumption) (by assumption) (by kcf_all) (by kst_all) (by ksw_same) ⟨hf, hb, hz, by subst hne; exact he⟩
  · clear lF' lN'
    intro c u h tk hD F1 N1
    obtain ⟨l, vs, n, bs⟩ := c
    obtain ⟨hf, hb, hz, he⟩ := hD
    dsimp only [kstB] at F1
    dsimp only at N1 hf hb hz he
    clear hB1 hZ1
    rw [← he] at hret
    have hlb := hb.length
    k_steps
    refine Held.on ?_
    rename Fr _ _ _ _ => lF'
    rename News _ _ _ _ => lN'
    with_unfolding_all refine' whileN (σ := Int × Tok) (fun c => [(Str.ofString "start", Value.int c.1 c.2)]) [] (fun c => By.LastAt bs c.1) (fun c => c.1.toNat) (fun c => c.1 = (By.lastS bs : Nat)) ((vs.length : Int), _) lF' lN' ?kk ?kp ?_ ?_
    case kk => kst_all
    case kp => dsimp only; rw [hlb]; exact By.LastAt.start bs
    · clear lF' lN'
      intro c u h tk Q' hP F1 N1
      obtain ⟨i, ti⟩ := c
      dsimp only [kstB] at F1 hP
      have h0 := hP.1
      have h1 := hP.2.1
      (try k_unmd)
      (try k_fold)
      k_steps
      · refine Held.on ?_
        exact ksw_end (i - 1, _) (by assumption) (by assumption) (by kcf_all) trivial (by kst_all) (by ksw_same) (hP.next (by assumption) (by assumption)) (by dsimp only; omega)
      · refine Held.on ?_
        exact WEnd.intro (i, _) (by assumption) (by assumption) (by kcf_all) (by kst_all) (by ksw_same) (hP.stop (by assumption) (by assumption))
      · refine Held.on ?_
        exact WEnd.intro (i, _) (by assumption) (by assumption) (by kcf_all) (by kst_all) (by ksw_same) (hP.whole (by assumption))
    · clear lF' lN'
      intro c u h tk hD F1 N1
      obtain ⟨i, ti⟩ := c
      dsimp only [kstB] at F1 hD
      subst hD
      k_steps
      refine Held.on ?_
      rename BsAre _ (By.sl _ _ _) => hB2
      rename (_ ∧ LCg.Off1 _ _) => ho2
      rw [By.sl_to (by omega), Int.toNat_natCast] at hB2
      rename Fr _ _ _ _ => lF'
      rename News _ _ _ _ => lN'
      with_unfolding_all refine' forL (σ := Unit) (fun _ => (_, listOf _ _) :: (l, listOf vs.toArray n) :: news) (fun _ => []) [] (fun i _ => (((bs.take (By.lastS bs)).take i).all By.isE) = true) () (by rfl) (fun _ => .head _) hB2 lF' lN' ?kk ?kp ?_ ?_
      case kk => exact fun _ h => nomatch h
      case kp => rfl
      · clear lF' lN'
        intro c i b t u h tk own hi hoff hP F1 N1
        dsimp only [kstB] at F1 hP
        (try k_unmd)
        (try k_fold)
        k_steps
        · rename BsAre _ (By.sl _ _ _) => hB3
          rename LCg.Off1 _ _ => ho3
          rw [By.sl_from (by omega), Int.toNat_natCast] at hB3
          have hp : By.lastPart bs = bs.drop (By.lastS bs) := By.lastPart_some hi (By.isE_ne (by assumption))
          rw [hp] at hret
          exact hret _ _ _ _ (by k_asm) (cb_drop (by k_asm) (by kcf_all)) (RL.of hB3 (off1_sub ho3 (by kcf_all)))
        · refine Held.on ?_
          exact ForS.end () (by assumption) (by assumption) (by kcf_all) (by kcf_all) rfl (fun _ h => nomatch h) (by intro z h1 _ _; simp [h1]) (By.allE_take hi hP (By.isE_eq (by assumption)))
      · clear lF' lN'
        intro c u h tk hD F1 N1
        dsimp only [kstB] at F1 hD
        rw [List.take_length] at hD
        k_steps
        rename (_ ∧ _ ∧ AllLt _ _) => hl
        rw [By.lastPart_none hD] at hret
        exact hret _ _ _ _ (by k_asm) (cb_drop (by k_asm) (by kcf_all)) (RL.of .nil (off1_all hl.2.2))
end Mine
end
section
namespace Mine
set_option maxRecDepth 100000 in
set_option maxHeartbeats 1000000 in
theorem says_trailers (w : World) (a : List UInt8) (t : Tok) (news : List (Addr × Obj)) (ha : a.length ≤ 1000) (hlead : ∀ r ∈ By.lastPart (By.tcut (By.rowsB a)), By.lead r = false) :
    Says w 127 4 [.bytes a.toArray t] news (RLen (By.trailN (By.lastPart (By.tcut (By.rowsB a)))) news) := by
  unfold Says
  k_fill
  w_top off
  k_with_none
  k_with "getMethod bytes" => (k_here; first | refine By.get_method By.slot_find By.type_find ?_ | refine By.get_method By.slot_split By.type_split ?_ | refine By.get_method By.slot_rstrip By.type_rstrip ?_ | refine By.get_method By.slot_lstrip By.type_lstrip ?_ | refine By.get_method By.slot_join By.type_join ?_ | refine By.get_method FB.slot_bytes_startswith FB.type_bytes_startswith ?_ | refine By.get_method FB.slot_bytes_endswith FB.type_bytes_endswith ?_)
  k_with "call builtin:len" => (k_here; (with_reducible show wpAny _ _ (call (Value.builtin "len") [Value.bytes (List.toArray _) _]) _ _ _); (refine By.len_B (by first | assumption | omega) ?_); intro _ _)
  k_with "subscriptTail" => (k_here; (with_reducible show wpAny _ _ (subscriptTail _ _ (Value.bytes (List.toArray _) _) (Value.int _ _)) _ _ _); (refine By.item_B (by first | assumption | omega) (by omega) (by omega) ?_); intro _ _)
  k_with "subscriptTail" => (k_here; (with_reducible show wpAny _ _ (subscriptTail _ (Expr.Slice _ _ none _) (Value.bytes (List.toArray _) _) (Value.ref _)) _ _ _); (with_reducible rename Fr _ _ _ _ => F'q); (with_reducible rename News _ _ _ _ => N'q); (refine By.slice_B (s := ⟨_, _, _, _, _⟩) F'q N'q (by constructor) (by constructor) (by first | assumption | omega) ?_); intro _ _ _ _ _)
  k_with "compareOp In int bytes" => (k_here; (with_reducible show wpAny _ _ (compareOp CmpOp.In (Value.int _ _) (Value.bytes (List.toArray _) _)) _ _ _); refine By.in_byte ?_)
  k_with "compareOp Eq bytes bytes" => (k_here; (with_reducible show wpAny _ _ (compareOp CmpOp.Eq (Value.bytes (List.toArray _) _) (Value.bytes (List.toArray _) _)) _ _ _); refine By.eq_B ?_)
  k_with "compareOp NotEq bytes bytes" => (k_here; (with_reducible show wpAny _ _ (compareOp CmpOp.NotEq (Value.bytes (List.toArray _) _) (Value.bytes (List.toArray _) _)) _ _ _); refine By.ne_B ?_)
  k_with "binaryOp Add bytes bytes" => (k_here; (with_reducible show wpAny _ _ (binaryOp Operator.Add (Value.bytes (List.toArray _) _) (Value.bytes (List.toArray _) _)) _ _ _); (refine By.add_B (by first | assumption | omega | (simp only [List.length_append, List.length_cons, List.length_nil] at *; omega)) ?_); intro _ _)
  k_with "call builtin:bytes.startswith" => (k_here; (with_reducible show wpAny _ _ (call (Value.builtin _) [Value.bytes (List.toArray _) _, Value.bytes (List.toArray _) _]) _ _ _); refine By.call_startswith ?_)
  k_with "call builtin:bytes.endswith" => (k_here; (with_reducible show wpAny _ _ (call (Value.builtin _) [Value.bytes (List.toArray _) _, Value.bytes (List.toArray _) _]) _ _ _); refine By.call_endswith ?_)
  k_with "call builtin:bytes.rstrip" => (k_here; (with_reducible show wpAny _ _ (call (Value.builtin _) [Value.bytes (List.toArray _) _, Value.bytes (List.toArray _) _]) _ _ _); (refine By.call_rstrip (by first | assumption | omega) ?_); intro _ _)
  k_with "call builtin:bytes.lstrip" => (k_here; (with_reducible show wpAny _ _ (call (Value.builtin _) [Value.bytes (List.toArray _) _, Value.bytes (List.toArray _) _]) _ _ _); (refine By.call_lstrip (by first | assumption | omega) ?_); intro _ _)
  k_with "call builtin:bytes.find" => (k_here; first | (refine By.call_find0 ?_; intro _ _) | (refine By.call_findI (by omega) (by omega) ?_; intro _ _))
  k_with "call builtin:bytes.split" => (k_here; k_dflt (refine' By.call_split ?zqk1 ?zqk2 ?zqk3 ?_; (case zqk1 => k_asm); (case zqk2 => k_asm); (case zqk3 => omega); k_whole); intro l'q vs'q h'q k'q hB'q hS'q hZ'q F'q N'q o1q; (try simp only [LCg.Off1, and_true] at o1q); (try k_sweep))
  k_with "call builtin:list.append" => (k_here; (with_reducible show wpAny _ _ (call (Value.builtin _) [Value.ref _, _]) _ _ _); k_dflt (refine' append_K ?zqk1 ?zqk2 ?zqk3 ?_ ?zqz; (case zqk1 => k_asm); (case zqk2 => k_asm); (case zqk3 => k_upd); (case zqz => (rw [PySem.sizeLine_eq]; simp only [List.size_toArray]; omega)); k_whole); intro h'q F'q N'q; (try k_sweep))
  k_with "call builtin:bytes.join" => (k_here; (with_reducible show wpAny _ _ (call (Value.builtin _) [Value.bytes (List.toArray _) _, Value.ref _]) _ _ _); k_dflt (refine By.call_join (News.isList (by k_asm) (by k_mem)) (by with_reducible assumption) (by first | assumption | omega) ?_); intro _ _)
  k_with "eval ListComp" => (k_here; k_dflt (refine LCg.ListComp_U (F₀ := by k_asm) (by rfl) (by decide) (by rfl) (by decide) (by rfl) ?_))
  k_with "exec Assign cons ListComp" => (k_here; k_dflt (refine LCg.Assign_ListComp_U (F₀ := by k_asm) (by rfl) (by with_unfolding_all rfl) (by with_unfolding_all rfl) (by decide) (by rfl) (by decide) (by rfl) (by rfl) (by rfl) ?_))
  k_with "CompEnd" => refine Held.out ?_
  k_with "CompSrc" => refine Held.out ?_
  k_with "WEnd" => refine Held.out ?_
  k_with "compareOp NotEq ref ref" => (k_here; (with_reducible show wpAny _ _ (compareOp CmpOp.NotEq (Value.ref _) (Value.ref _)) _ _ _); k_dflt (refine ne_nilK (by k_asm) (by k_mem) (by k_mem) (by ktr_units) ?_))
  k_with "compareOp Eq ref ref" => (k_here; (with_reducible show wpAny _ _ (compareOp CmpOp.Eq (Value.ref _) (Value.ref _)) _ _ _); k_dflt (refine eq_nilK (by k_asm) (by k_mem) (by k_mem) (by ktr_units) ?_))
  k_with "subscriptTail" => (k_here; (with_reducible show wpAny _ _ (subscriptTail _ _ (Value.ref _) (Value.int _ _)) _ _ _); k_dflt first | ((with_reducible show wpAny _ _ (subscriptTail _ (Expr.UnaryOp _ _ _) _ _) _ _ _); refine item_lastK (by k_asm) (by k_mem) (by with_reducible assumption) (by omega) (by omega) ?_; intro _) | (refine item_K (by k_asm) (by k_mem) (by with_reducible assumption) (by omega) (by omega) (by omega) ?_; intro _))
  k_with "call builtin:list.pop" => (k_here; (with_reducible show wpAny _ _ (call (Value.builtin _) [Value.ref _]) _ _ _); k_dflt (refine' popK ?zqF ?zqN ?zqU ?zqi ?zql ?zqz ?_; (case zqF => k_asm); (case zqN => k_asm); (case zqU => k_upd); (case zqi => with_reducible assumption); (case zql => omega); (case zqz => omega)); intro h'q t'q F'q N'q; (try k_sweep))
  k_with "subscriptTail" => (k_here; (with_reducible show wpAny _ _ (subscriptTail _ (Expr.Slice _ _ none _) (Value.ref _) (Value.ref _)) _ _ _); (with_reducible rename Fr _ _ _ _ => F'q); (with_reducible rename News _ _ _ _ => N'q); k_dflt (refine slice_L (s := ⟨_, _, _, _, _⟩) F'q N'q (by k_mem) (by with_reducible assumption) (by constructor) (by constructor) (by omega) ?_); intro l'q vs'q h'q hB'q hZ'q F'q N'q o1q; (try simp only [LCg.Off1, and_true] at o1q))
  k_with "subscriptTail Name Slice ref ref" => (k_here; (with_reducible show wpAny _ _ (subscriptTail _ (Expr.Slice _ _ none _) (Value.ref _) (Value.ref _)) _ _ _); (with_reducible rename Fr _ _ _ _ => F'q); (with_reducible rename News _ _ _ _ => N'q); k_dflt (refine slice_L (s := ⟨_, _, _, _, _⟩) F'q N'q (by k_mem) (by with_reducible assumption) (by constructor) (by constructor) (by omega) ?_); intro l'q vs'q h'q hB'q hZ'q F'q N'q o1q; (try simp only [LCg.Off1, and_true] at o1q))
  k_with "subscriptTail Call Slice ref ref" => (k_here; (with_reducible show wpAny _ _ (subscriptTail _ (Expr.Slice _ _ none _) (Value.ref _) (Value.ref _)) _ _ _); (with_reducible rename Fr _ _ _ _ => F'q); (with_reducible rename News _ _ _ _ => N'q); k_dflt (refine slice_L (s := ⟨_, _, _, _, _⟩) F'q N'q (by k_mem) (by with_reducible assumption) (by constructor) (by constructor) (by omega) ?_); intro l'q vs'q h'q hB'q hZ'q F'q N'q o1q; (try simp only [LCg.Off1, and_true] at o1q))
  k_with "call builtin:len" => (k_here; (with_reducible show wpAny _ _ (call (Value.builtin "len") [Value.ref _]) _ _ _); k_dflt (refine len_LK (by k_asm) (by k_mem) (by omega) ?_); intro _ _)
  k_with "exec While Compare cons nil" => refine Held.out ?_
  k_with "exec While BoolOp" => refine Held.out ?_
  k_with "KswEnd" => refine Held.out ?_
  k_with "pyIter bytes" => refine Held.out ?_
  k_with "pyIter ref" => refine Held.out ?_
  k_with "InvEndN" => refine Held.out ?_
  k_with "exec For Name Subscript cons nil" => (k_here; (rename Fr _ _ _ _ => lF'q); (with_unfolding_all refine' For_invVF lF'q ?zqk1 ?zqk2 ?_; (case zqk1 => exact rfl); (case zqk2 => exact rfl); k_whole))
  k_with "exec For Name Name cons nil" => (k_here; (rename Fr _ _ _ _ => lF'q); (with_unfolding_all refine' For_invVF lF'q ?zqk1 ?zqk2 ?_; (case zqk1 => exact rfl); (case zqk2 => exact rfl); k_whole))
  k_with "exec For Name Call cons nil" => (k_here; (rename Fr _ _ _ _ => lF'q); (with_unfolding_all refine' For_invVF lF'q ?zqk1 ?zqk2 ?_; (case zqk1 => exact rfl); (case zqk2 => exact rfl); k_whole))
  k_with "compareOp NotIn bytes ref" => (k_here; k_dflt (refine notIn_known (by k_asm) (by k_mem) (by assumption) ?_))
  k_with "compareOp In bytes ref" => (k_here; k_dflt (refine in_known (by k_asm) (by k_mem) (by assumption) ?_))
  k_with "my subs" => first | exact fun p hp => hp | (refine sub_tail ?_; walk_at "my subs")
  k_with "my df" => ((try dsimp only); (try k_fold))
  k_with "my back" => first | ((with_reducible rename RB _ _ _ _ => R9q); obtain ⟨⟨t9q, e9q⟩, e9'q⟩ := R9q; subst e9q e9'q; walk_at "my df") | ((with_reducible rename RL _ _ _ _ => R9q); obtain ⟨l9q, vs9q, k9q, e9q, hB9q, e9'q, hl9q⟩ := R9q; subst e9q e9'q; have hZ9q := hB9q.length; (try simp only [LCg.Off1, and_true] at hl9q); walk_at "my df") | ((with_reducible rename RSubj _ _ _ _ => R9q); obtain ⟨q9q, t9q, t9'q, e9q, e9'q, hl9q⟩ := R9q; subst e9q e9'q; (try simp only [LCg.Off1, and_true] at hl9q); walk_at "my df") | ((with_reducible rename RSome _ _ _ _ => R9q); obtain ⟨⟨x9q, t9q, e9q, hx9q⟩, e9'q⟩ := R9q; subst e9q e9'q; walk_at "my df") | ((with_reducible rename RTrail _ _ _ _ => R9q); rcases R9q with ⟨hT9q, e9q, e9'q⟩ | ⟨key9q, q9q, t9q, t9'q, x9q, hT9q, e9q, e9'q, hl9q⟩ <;> (subst e9q e9'q; (try simp only [LCg.Off1, and_true] at hl9q); walk_at "my df")) | ((with_reducible rename RLen _ _ _ _ => R9q); obtain ⟨l9q, xs9q, k9q, e9q, hx9q, e9'q, hl9q⟩ := R9q; subst e9q e9'q; (try simp only [LCg.Off1, and_true] at hl9q); walk_at "my df") | ((with_reducible rename RStr _ _ _ _ => R9q); obtain ⟨⟨t9q, e9q⟩, e9'q⟩ := R9q; subst e9q e9'q; walk_at "my df") | ((with_reducible rename RMark _ _ _ _ => R9q); rcases R9q with ⟨hM9q, e9q, e9'q⟩ | ⟨hM9q, q9q, o9q, e9q, e9'q, hl9q⟩ <;> (subst e9q e9'q; (try simp only [LCg.Off1, and_true] at hl9q); walk_at "my df")) | ((with_reducible rename RStp _ _ _ _ _ => R9q); obtain ⟨c9q, dx9q, o9q, p9q, e9q, e9'q, hst9q⟩ := R9q; subst e9q e9'q; walk_at "my df") | ((with_reducible rename RCom _ _ _ _ => R9q); obtain ⟨c9q, dx9q, o9q, p9q, e9q, e9'q, hC9q, hl9q, hcd9q⟩ := R9q; subst e9q e9'q; walk_at "my df")
  k_with "my side" => first | with_reducible assumption | omega | exact Nat.le_trans (By.sl_len _ _ _) (by omega) | exact IsCom.sub (by with_reducible assumption) (by walk_at "my subs") | exact fun k hk => Nat.lt_trans (By.hexCodes_lt k hk) (by decide) | exact Nat.le_trans (By.subjB_len _) (by omega)
  k_with "call ref" => (k_here; k_dflt (refine' says_use ?zqc ?zqk1 ?zqk2 ?zqk3 ?zqk4 ?zqk5 ?zqkK ?zqkd ?zqku ?_; (case zqk1 => k_asm); (case zqk2 => k_asm); (case zqk3 => k_asm); (case zqk4 => k_asm); (case zqk5 => k_asm); (case zqc => walk_at "my contract"); (case zqkK => first | exact rfl | assumption); (case zqkd => first | ktr_room | decide); (case zqku => first | ktr_units | decide); intro v9q n9q h9q tk9q F9q N9q R9q; walk_at "my back"))
  k_with "my contract" => (with_reducible apply says_cut_end) <;> walk_at "my side"
  k_with "my contract" => (with_reducible apply says_rows) <;> walk_at "my side"
  k_with "my contract" => (with_reducible apply says_lines) <;> walk_at "my side"
  k_with "my contract" => (with_reducible apply says_ended) <;> walk_at "my side"
  k_with "my contract" => (with_reducible apply says_subject) <;> walk_at "my side"
  k_with "my contract" => (with_reducible apply says_trimmed) <;> walk_at "my side"
  k_with "my contract" => (with_reducible apply says_trailer) <;> walk_at "my side"
  k_with "my contract" => (with_reducible apply says_last) <;> walk_at "my side"
  intro p loose mean mg mb dp un gd cn cs ad ccd cl outer A₀ base h₀ L m s Q E B F X N T hk hdp hu hret
  have hct := By.rowsB_count a
  have hsub := (By.lastPart_sub (By.tcut (By.rowsB a))).trans (By.tcut_pre (By.rowsB a)).sublist
  have hshort : Short 1000 (By.lastPart (By.tcut (By.rowsB a))) := fun c hc => Nat.le_trans (By.rowsB_short a c (hsub.subset hc)) ha
  have hcount := hsub.length_le
  clear hsub
  refine wpAny_call ?_
  k_dflt cell_enter
  k_steps
  refine Held.on ?_
  rename BsAre _ _ => hB1
  have hZ1 := hB1.length
  rename (_ ∧ _ ∧ LCg.Off1 _ _) => ho1
  rename Fr _ _ _ _ => lF'
  rename News _ _ _ _ => lN'
  generalize hbs : By.lastPart (By.tcut (By.rowsB a)) = bs at *
  have hfo : LCg.Off1 _ news := off1_lt (by assumption)
  have lN2 := cb_drop lN' (news := (_, listOf _ _) :: (_, listOf ([] : List Value).toArray 0) :: news) (by kcf_all)
  clear lN'
  with_unfolding_all refine' forL2 (σ := List Value × Nat × (Int × Tok) × (Int × Tok) × (Int × Tok) × Bool) (fun c => listOf c.1.toArray c.2.1) (fun c => [(Str.ofString "others", Value.int c.2.2.1.1 c.2.2.1.2), (Str.ofString "picked", Value.int c.2.2.2.1.1 c.2.2.2.1.2), (Str.ofString "made", Value.int c.2.2.2.2.1.1 c.2.2.2.2.1.2), (Str.ofString "is_open", Value.bool c.2.2.2.2.2)]) [Str.ofString "told"] (fun i c => By.TrAt bs i c.1 c.2.2.1.1 c.2.2.2.1.1 c.2.2.2.2.1.1) ([], 0, (0, _), (0, _), (0, _), false) (by rfl) hB1 lF' lN2 ?kk ?kp ?_ ?_
  case kk => kst_all
  case kp => exact By.TrAt.start bs
  · clear lF' lN2
    intro c i b t u h tk own hi hoff hP F1 N1
    obtain ⟨xs, n, ⟨o, to⟩, ⟨p1, tp⟩, ⟨m1, tm⟩, op⟩ := c
    dsimp only [kstB] at F1
    dsimp only [List.cons_append] at N1 hP
    have hbm : b ∈ bs := List.mem_of_getElem? hi
    have hbl : b.length ≤ 1000 := Short.at hshort hbm
    have hld : ([32] == By.sl b none (some 1) || [9] == By.sl b none (some 1)) = false := by
      have := hlead b hbm
      unfold By.lead at this
      rw [By.sl_to (by decide)]; exact this
    have hxs : xs.length ≤ 1001 := by
      have := (By.tr_count (bs.take i)).1
      rw [hP.1]
      have := List.length_take_le' i bs
      omega
    have hall := app_ne hfo hoff (.tail _ (.head _))
    (try k_unmd)
    (try k_fold)
    k_steps
    all_goals (refine Held.on ?_; rename News _ _ _ _ => nE; (try simp only [List.push_toArray] at nE))
    all_goals first
      | exact ForS.end (xs, n, (o, _), (p1 + 1, _), (m1 + 1, _), false) (by assumption) nE (by (intro p hp; have hq := List.mem_append_left own hp; first | exact hq | exact .tail _ hq | exact .tail _ (.tail _ hq) | exact .tail _ (.tail _ (.tail _ hq)) | exact .tail _ (.tail _ (.tail _ (.tail _ hq))))) (by (intro p hp; first | exact .tail _ (.tail _ (List.mem_append_right _ hp)) | exact .tail _ (.tail _ (.tail _ (List.mem_append_right _ hp))) | exact .tail _ (.tail _ (.tail _ (.tail _ (List.mem_append_right _ hp)))) | exact .tail _ (.tail _ (.tail _ (.tail _ (.tail _ (List.mem_append_right _ hp))))))) rfl (by kst_all) (by intro z h1 h2 h3; simp only [List.forall_mem_cons, List.not_mem_nil, false_implies, implies_true, and_true, ne_eq] at h2; simp only [List.contains_cons, List.contains_nil, Bool.or_false, Bool.or_eq_false_iff, beq_eq_false_iff_ne, ne_eq] at h3; simp [h1, h2, h3]) (hP.picked hi (by assumption))
      | exact ForS.end (xs, n, (o + 1, _), (p1, _), (m1, _), false) (by assumption) nE (by (intro p hp; have hq := List.mem_append_left own hp; first | exact hq | exact .tail _ hq | exact .tail _ (.tail _ hq) | exact .tail _ (.tail _ (.tail _ hq)) | exact .tail _ (.tail _ (.tail _ (.tail _ hq))))) (by (intro p hp; first | exact .tail _ (.tail _ (List.mem_append_right _ hp)) | exact .tail _ (.tail _ (.tail _ (List.mem_append_right _ hp))) | exact .tail _ (.tail _ (.tail _ (.tail _ (List.mem_append_right _ hp)))) | exact .tail _ (.tail _ (.tail _ (.tail _ (.tail _ (List.mem_append_right _ hp))))))) rfl (by kst_all) (by intro z h1 h2 h3; simp only [List.forall_mem_cons, List.not_mem_nil, false_implies, implies_true, and_true, ne_eq] at h2; simp only [List.contains_cons, List.contains_nil, Bool.or_false, Bool.or_eq_false_iff, beq_eq_false_iff_ne, ne_eq] at h3; simp [h1, h2, h3]) (hP.other hi (by assumption) (by assumption))
      | exact ForS.end (xs ++ [_], n + 1, (o, _), (p1, _), (m1 + _, _), true) (by assumption) nE (by (intro p hp; have hq := List.mem_append_left own hp; first | exact hq | exact .tail _ hq | exact .tail _ (.tail _ hq) | exact .tail _ (.tail _ (.tail _ hq)) | exact .tail _ (.tail _ (.tail _ (.tail _ hq))))) (by (intro p hp; first | exact .tail _ (.tail _ (List.mem_append_right _ hp)) | exact .tail _ (.tail _ (.tail _ (List.mem_append_right _ hp))) | exact .tail _ (.tail _ (.tail _ (.tail _ (List.mem_append_right _ hp)))) | exact .tail _ (.tail _ (.tail _ (.tail _ (.tail _ (List.mem_append_right _ hp))))))) rfl (by kst_all) (by intro z h1 h2 h3; simp only [List.forall_mem_cons, List.not_mem_nil, false_implies, implies_true, and_true, ne_eq] at h2; simp only [List.contains_cons, List.contains_nil, Bool.or_false, Bool.or_eq_false_iff, beq_eq_false_iff_ne, ne_eq] at h3; simp [h1, h2, h3]) (hP.found hi (by assumption) (by assumption) _)
  · clear lF' lN2
    intro c u h tk hD F1 N1
    obtain ⟨xs, n, ⟨o, to⟩, ⟨p1, tp⟩, ⟨m1, tm⟩, op⟩ := c
    dsimp only [kstB] at F1
    dsimp only at N1 hD
    have hxs : xs.length ≤ 1001 := by
      have := (By.tr_count bs).1
      have h2 := hD.1
      rw [List.take_length] at h2
      omega
    k_steps
    all_goals first
      | (rename (_ ∧ _ ∧ AllLt _ _) => hlt; exact hret _ _ _ _ (by k_asm) (cb_drop (by k_asm) (by kcf_all)) (RLen.no hD (off1_all hlt.2.2) (by omega)))
      | exact hret _ _ _ _ (by k_asm) (cb_drop (by k_asm) (by kcf_all)) (RLen.yes hD hfo (by omega))
end Mine
end
section
namespace Mine
set_option maxRecDepth 100000 in
set_option maxHeartbeats 1000000 in
theorem says_hex (w : World) (a : List UInt8) (t : Tok) (news : List (Addr × Obj)) (ha : a.length ≤ 1000) : Says w 66 1 [.bytes a.toArray t] news (RStr (By.hexCodes a) news) := by
  unfold Says
  k_fill
  w_top off
  k_with_none
  k_with "getMethod bytes" => (k_here; first | refine By.get_method By.slot_find By.type_find ?_ | refine By.get_method By.slot_split By.type_split ?_ | refine By.get_method By.slot_rstrip By.type_rstrip ?_ | refine By.get_method By.slot_lstrip By.type_lstrip ?_ | refine By.get_method By.slot_join By.type_join ?_ | refine By.get_method FB.slot_bytes_startswith FB.type_bytes_startswith ?_ | refine By.get_method FB.slot_bytes_endswith FB.type_bytes_endswith ?_)
  k_with "call builtin:len" => (k_here; (with_reducible show wpAny _ _ (call (Value.builtin "len") [Value.bytes (List.toArray _) _]) _ _ _); (refine By.len_B (by first | assumption | omega) ?_); intro _ _)
  k_with "subscriptTail" => (k_here; (with_reducible show wpAny _ _ (subscriptTail _ _ (Value.bytes (List.toArray _) _) (Value.int _ _)) _ _ _); (refine By.item_B (by first | assumption | omega) (by omega) (by omega) ?_); intro _ _)
  k_with "subscriptTail" => (k_here; (with_reducible show wpAny _ _ (subscriptTail _ (Expr.Slice _ _ none _) (Value.bytes (List.toArray _) _) (Value.ref _)) _ _ _); (with_reducible rename Fr _ _ _ _ => F'q); (with_reducible rename News _ _ _ _ => N'q); (refine By.slice_B (s := ⟨_, _, _, _, _⟩) F'q N'q (by constructor) (by constructor) (by first | assumption | omega) ?_); intro _ _ _ _ _)
  k_with "compareOp In int bytes" => (k_here; (with_reducible show wpAny _ _ (compareOp CmpOp.In (Value.int _ _) (Value.bytes (List.toArray _) _)) _ _ _); refine By.in_byte ?_)
  k_with "compareOp Eq bytes bytes" => (k_here; (with_reducible show wpAny _ _ (compareOp CmpOp.Eq (Value.bytes (List.toArray _) _) (Value.bytes (List.toArray _) _)) _ _ _); refine By.eq_B ?_)
  k_with "compareOp NotEq bytes bytes" => (k_here; (with_reducible show wpAny _ _ (compareOp CmpOp.NotEq (Value.bytes (List.toArray _) _) (Value.bytes (List.toArray _) _)) _ _ _); refine By.ne_B ?_)
  k_with "binaryOp Add bytes bytes" => (k_here; (with_reducible show wpAny _ _ (binaryOp Operator.Add (Value.bytes (List.toArray _) _) (Value.bytes (List.toArray _) _)) _ _ _); (refine By.add_B (by first | assumption | omega | (simp only [List.length_append, List.length_cons, List.length_nil] at *; omega)) ?_); intro _ _)
  k_with "call builtin:bytes.startswith" => (k_here; (with_reducible show wpAny _ _ (call (Value.builtin _) [Value.bytes (List.toArray _) _, Value.bytes (List.toArray _) _]) _ _ _); refine By.call_startswith ?_)
  k_with "call builtin:bytes.endswith" => (k_here; (with_reducible show wpAny _ _ (call (Value.builtin _) [Value.bytes (List.toArray _) _, Value.bytes (List.toArray _) _]) _ _ _); refine By.call_endswith ?_)
  k_with "call builtin:bytes.rstrip" => (k_here; (with_reducible show wpAny _ _ (call (Value.builtin _) [Value.bytes (List.toArray _) _, Value.bytes (List.toArray _) _]) _ _ _); (refine By.call_rstrip (by first | assumption | omega) ?_); intro _ _)
  k_with "call builtin:bytes.lstrip" => (k_here; (with_reducible show wpAny _ _ (call (Value.builtin _) [Value.bytes (List.toArray _) _, Value.bytes (List.toArray _) _]) _ _ _); (refine By.call_lstrip (by first | assumption | omega) ?_); intro _ _)
  k_with "call builtin:bytes.find" => (k_here; first | (refine By.call_find0 ?_; intro _ _) | (refine By.call_findI (by omega) (by omega) ?_; intro _ _))
  k_with "call builtin:bytes.split" => (k_here; k_dflt (refine' By.call_split ?zqk1 ?zqk2 ?zqk3 ?_; (case zqk1 => k_asm); (case zqk2 => k_asm); (case zqk3 => omega); k_whole); intro l'q vs'q h'q k'q hB'q hS'q hZ'q F'q N'q o1q; (try simp only [LCg.Off1, and_true] at o1q); (try k_sweep))
  k_with "call builtin:list.append" => (k_here; (with_reducible show wpAny _ _ (call (Value.builtin _) [Value.ref _, _]) _ _ _); k_dflt (refine' append_K ?zqk1 ?zqk2 ?zqk3 ?_ ?zqz; (case zqk1 => k_asm); (case zqk2 => k_asm); (case zqk3 => k_upd); (case zqz => (rw [PySem.sizeLine_eq]; simp only [List.size_toArray]; omega)); k_whole); intro h'q F'q N'q; (try k_sweep))
  k_with "call builtin:bytes.join" => (k_here; (with_reducible show wpAny _ _ (call (Value.builtin _) [Value.bytes (List.toArray _) _, Value.ref _]) _ _ _); k_dflt (refine By.call_join (News.isList (by k_asm) (by k_mem)) (by with_reducible assumption) (by first | assumption | omega) ?_); intro _ _)
  k_with "compareOp NotEq ref ref" => (k_here; (with_reducible show wpAny _ _ (compareOp CmpOp.NotEq (Value.ref _) (Value.ref _)) _ _ _); k_dflt (refine ne_nilK (by k_asm) (by k_mem) (by k_mem) (by ktr_units) ?_))
  k_with "compareOp Eq ref ref" => (k_here; (with_reducible show wpAny _ _ (compareOp CmpOp.Eq (Value.ref _) (Value.ref _)) _ _ _); k_dflt (refine eq_nilK (by k_asm) (by k_mem) (by k_mem) (by ktr_units) ?_))
  k_with "subscriptTail" => (k_here; (with_reducible show wpAny _ _ (subscriptTail _ _ (Value.ref _) (Value.int _ _)) _ _ _); k_dflt first | ((with_reducible show wpAny _ _ (subscriptTail _ (Expr.UnaryOp _ _ _) _ _) _ _ _); refine item_lastK (by k_asm) (by k_mem) (by with_reducible assumption) (by omega) (by omega) ?_; intro _) | (refine item_K (by k_asm) (by k_mem) (by with_reducible assumption) (by omega) (by omega) (by omega) ?_; intro _))
  k_with "call builtin:list.pop" => (k_here; (with_reducible show wpAny _ _ (call (Value.builtin _) [Value.ref _]) _ _ _); k_dflt (refine' popK ?zqF ?zqN ?zqU ?zqi ?zql ?zqz ?_; (case zqF => k_asm); (case zqN => k_asm); (case zqU => k_upd); (case zqi => with_reducible assumption); (case zql => omega); (case zqz => omega)); intro h'q t'q F'q N'q; (try k_sweep))
  k_with "subscriptTail" => (k_here; (with_reducible show wpAny _ _ (subscriptTail _ (Expr.Slice _ _ none _) (Value.ref _) (Value.ref _)) _ _ _); (with_reducible rename Fr _ _ _ _ => F'q); (with_reducible rename News _ _ _ _ => N'q); k_dflt (refine slice_L (s := ⟨_, _, _, _, _⟩) F'q N'q (by k_mem) (by with_reducible assumption) (by constructor) (by constructor) (by omega) ?_); intro l'q vs'q h'q hB'q hZ'q F'q N'q o1q; (try simp only [LCg.Off1, and_true] at o1q))
  k_with "subscriptTail Name Slice ref ref" => (k_here; (with_reducible show wpAny _ _ (subscriptTail _ (Expr.Slice _ _ none _) (Value.ref _) (Value.ref _)) _ _ _); (with_reducible rename Fr _ _ _ _ => F'q); (with_reducible rename News _ _ _ _ => N'q); k_dflt (refine slice_L (s := ⟨_, _, _, _, _⟩) F'q N'q (by k_mem) (by with_reducible assumption) (by constructor) (by constructor) (by omega) ?_); intro l'q vs'q h'q hB'q hZ'q F'q N'q o1q; (try simp only [LCg.Off1, and_true] at o1q))
  k_with "subscriptTail Call Slice ref ref" => (k_here; (with_reducible show wpAny _ _ (subscriptTail _ (Expr.Slice _ _ none _) (Value.ref _) (Value.ref _)) _ _ _); (with_reducible rename Fr _ _ _ _ => F'q); (with_reducible rename News _ _ _ _ => N'q); k_dflt (refine slice_L (s := ⟨_, _, _, _, _⟩) F'q N'q (by k_mem) (by with_reducible assumption) (by constructor) (by constructor) (by omega) ?_); intro l'q vs'q h'q hB'q hZ'q F'q N'q o1q; (try simp only [LCg.Off1, and_true] at o1q))
  k_with "call builtin:len" => (k_here; (with_reducible show wpAny _ _ (call (Value.builtin "len") [Value.ref _]) _ _ _); k_dflt (refine len_LK (by k_asm) (by k_mem) (by omega) ?_); intro _ _)
  k_with "exec While Compare cons nil" => refine Held.out ?_
  k_with "exec While BoolOp" => refine Held.out ?_
  k_with "KswEnd" => refine Held.out ?_
  k_with "pyIter bytes" => refine Held.out ?_
  k_with "pyIter ref" => refine Held.out ?_
  k_with "InvEndN" => refine Held.out ?_
  k_with "exec For Name Subscript cons nil" => (k_here; (rename Fr _ _ _ _ => lF'q); (with_unfolding_all refine' For_invVF lF'q ?zqk1 ?zqk2 ?_; (case zqk1 => exact rfl); (case zqk2 => exact rfl); k_whole))
  k_with "exec For Name Name cons nil" => (k_here; (rename Fr _ _ _ _ => lF'q); (with_unfolding_all refine' For_invVF lF'q ?zqk1 ?zqk2 ?_; (case zqk1 => exact rfl); (case zqk2 => exact rfl); k_whole))
  k_with "exec For Name Call cons nil" => (k_here; (rename Fr _ _ _ _ => lF'q); (with_unfolding_all refine' For_invVF lF'q ?zqk1 ?zqk2 ?_; (case zqk1 => exact rfl); (case zqk2 => exact rfl); k_whole))
  k_with "call builtin:str.join" => (k_here; (with_reducible show wpAny _ _ (call (Value.builtin "str.join") [Value.str _ _, Value.ref _]) _ _ _); k_dflt (refine join_hex (by k_asm) (by k_mem) (by assumption) (by omega) ?_); intro _ _)
  k_with "subscriptTail Name BinOp str int" => (k_here; first | ((with_reducible show wpAny _ _ (subscriptTail _ _ (Value.str _ _) (Value.int (Int.fdiv _ _) _)) _ _ _); with_reducible refine hex_hi ?_; intro _ _) | ((with_reducible show wpAny _ _ (subscriptTail _ _ (Value.str _ _) (Value.int (Builtin.bitAnd _ _) _)) _ _ _); with_reducible refine hex_lo ?_; intro _ _))
  k_with "my subs" => first | exact fun p hp => hp | (refine sub_tail ?_; walk_at "my subs")
  k_with "my df" => ((try dsimp only); (try k_fold))
  k_with "my back" => first | ((with_reducible rename RB _ _ _ _ => R9q); obtain ⟨⟨t9q, e9q⟩, e9'q⟩ := R9q; subst e9q e9'q; walk_at "my df") | ((with_reducible rename RL _ _ _ _ => R9q); obtain ⟨l9q, vs9q, k9q, e9q, hB9q, e9'q, hl9q⟩ := R9q; subst e9q e9'q; have hZ9q := hB9q.length; (try simp only [LCg.Off1, and_true] at hl9q); walk_at "my df") | ((with_reducible rename RSubj _ _ _ _ => R9q); obtain ⟨q9q, t9q, t9'q, e9q, e9'q, hl9q⟩ := R9q; subst e9q e9'q; (try simp only [LCg.Off1, and_true] at hl9q); walk_at "my df") | ((with_reducible rename RSome _ _ _ _ => R9q); obtain ⟨⟨x9q, t9q, e9q, hx9q⟩, e9'q⟩ := R9q; subst e9q e9'q; walk_at "my df") | ((with_reducible rename RTrail _ _ _ _ => R9q); rcases R9q with ⟨hT9q, e9q, e9'q⟩ | ⟨key9q, q9q, t9q, t9'q, x9q, hT9q, e9q, e9'q, hl9q⟩ <;> (subst e9q e9'q; (try simp only [LCg.Off1, and_true] at hl9q); walk_at "my df")) | ((with_reducible rename RLen _ _ _ _ => R9q); obtain ⟨l9q, xs9q, k9q, e9q, hx9q, e9'q, hl9q⟩ := R9q; subst e9q e9'q; (try simp only [LCg.Off1, and_true] at hl9q); walk_at "my df") | ((with_reducible rename RStr _ _ _ _ => R9q); obtain ⟨⟨t9q, e9q⟩, e9'q⟩ := R9q; subst e9q e9'q; walk_at "my df") | ((with_reducible rename RMark _ _ _ _ => R9q); rcases R9q with ⟨hM9q, e9q, e9'q⟩ | ⟨hM9q, q9q, o9q, e9q, e9'q, hl9q⟩ <;> (subst e9q e9'q; (try simp only [LCg.Off1, and_true] at hl9q); walk_at "my df")) | ((with_reducible rename RStp _ _ _ _ _ => R9q); obtain ⟨c9q, dx9q, o9q, p9q, e9q, e9'q, hst9q⟩ := R9q; subst e9q e9'q; walk_at "my df") | ((with_reducible rename RCom _ _ _ _ => R9q); obtain ⟨c9q, dx9q, o9q, p9q, e9q, e9'q, hC9q, hl9q, hcd9q⟩ := R9q; subst e9q e9'q; walk_at "my df")
  k_with "my side" => first | with_reducible assumption | omega | exact Nat.le_trans (By.sl_len _ _ _) (by omega) | exact IsCom.sub (by with_reducible assumption) (by walk_at "my subs") | exact fun k hk => Nat.lt_trans (By.hexCodes_lt k hk) (by decide) | exact Nat.le_trans (By.subjB_len _) (by omega)
  k_with "call ref" => (k_here; k_dflt (refine' says_use ?zqc ?zqk1 ?zqk2 ?zqk3 ?zqk4 ?zqk5 ?zqkK ?zqkd ?zqku ?_; (case zqk1 => k_asm); (case zqk2 => k_asm); (case zqk3 => k_asm); (case zqk4 => k_asm); (case zqk5 => k_asm); (case zqc => walk_at "my contract"); (case zqkK => first | exact rfl | assumption); (case zqkd => first | ktr_room | decide); (case zqku => first | ktr_units | decide); intro v9q n9q h9q tk9q F9q N9q R9q; walk_at "my back"))
  k_with "my contract" => (with_reducible apply says_cut_end) <;> walk_at "my side"
  k_with "my contract" => (with_reducible apply says_rows) <;> walk_at "my side"
  k_with "my contract" => (with_reducible apply says_lines) <;> walk_at "my side"
  k_with "my contract" => (with_reducible apply says_ended) <;> walk_at "my side"
  k_with "my contract" => (with_reducible apply says_subject) <;> walk_at "my side"
  k_with "my contract" => (with_reducible apply says_trimmed) <;> walk_at "my side"
  k_with "my contract" => (with_reducible apply says_trailer) <;> walk_at "my side"
  k_with "my contract" => (with_reducible apply says_last) <;> walk_at "my side"
  k_with "my contract" => (with_reducible apply says_trailers) <;> walk_at "my side"
  intro p loose mean mg mb dp un gd cn cs ad ccd cl outer A₀ base h₀ L m s Q E B F X N T hk hdp hu hret
  refine wpAny_call ?_
  k_dflt cell_enter
  k_steps
  refine Held.on ?_
  rename Fr _ _ _ _ => lF'
  rename News _ _ _ _ => lN'
  rename (∀ p ∈ news, p.1 < _) => hlt
  have hfo := off1_lt hlt
  with_unfolding_all refine' forB (σ := List Value × Nat) (fun c => (_, listOf c.1.toArray c.2) :: news) (fun c => []) [] (fun i c => By.HexAt a i c.1) ([], 0) (by rfl) lF' lN' ?kk ?kp ?_ ?_
  case kk => (intro p hp; cases hp)
  case kp => exact By.HexAt.start a
  · clear lF' lN'
    intro c i y t u h tk own hi hlo hhi hoff hP F1 N1
    obtain ⟨xs, n⟩ := c
    dsimp only [kstB] at F1
    dsimp only [List.cons_append] at N1 hP
    have hall := app_ne hfo hoff (.head _)
    have hxs := hP.len
    (try k_unmd)
    (try k_fold)
    k_steps
    refine Held.on ?_
    rename News _ _ _ _ => nE
    simp only [List.push_toArray] at nE
    exact ForS.end (xs ++ [_] ++ [_], n + 1 + 1) (by assumption) nE (by kcf_all) (by kcf_all) rfl (by intro p hp; cases hp) (by intro z h1 h2 h3; simp [h1]) (hP.next' hi)
  · clear lF' lN'
    intro c u h tk hD F1 N1
    obtain ⟨xs, n⟩ := c
    dsimp only [kstB] at F1
    dsimp only at N1 hD
    k_steps
    exact hret _ _ _ _ (by k_asm) (cb_drop (by k_asm) (by kcf_all)) ⟨⟨_, rfl⟩, rfl⟩
end Mine
end
section
namespace Mine
set_option maxRecDepth 100000 in
set_option maxHeartbeats 1000000 in
theorem says_oct (w : World) (a : List Nat) (t : Tok) (news : List (Addr × Obj)) (ha : a.length ≤ 4096) (hlt : ∀ k ∈ a, k < 256) : Says w 59 1 [.str ⟨a.toArray⟩ t] news (RB (a.map fun k => k.toUInt8) news) := by
  unfold Says
  k_fill
  w_top off
  k_with_none
  k_with "getMethod bytes" => (k_here; first | refine By.get_method By.slot_find By.type_find ?_ | refine By.get_method By.slot_split By.type_split ?_ | refine By.get_method By.slot_rstrip By.type_rstrip ?_ | refine By.get_method By.slot_lstrip By.type_lstrip ?_ | refine By.get_method By.slot_join By.type_join ?_ | refine By.get_method FB.slot_bytes_startswith FB.type_bytes_startswith ?_ | refine By.get_method FB.slot_bytes_endswith FB.type_bytes_endswith ?_)
  k_with "call builtin:len" => (k_here; (with_reducible show wpAny _ _ (call (Value.builtin "len") [Value.bytes (List.toArray _) _]) _ _ _); (refine By.len_B (by first | assumption | omega) ?_); intro _ _)
  k_with "subscriptTail" => (k_here; (with_reducible show wpAny _ _ (subscriptTail _ _ (Value.bytes (List.toArray _) _) (Value.int _ _)) _ _ _); (refine By.item_B (by first | assumption | omega) (by omega) (by omega) ?_); intro _ _)
  k_with "subscriptTail" => (k_here; (with_reducible show wpAny _ _ (subscriptTail _ (Expr.Slice _ _ none _) (Value.bytes (List.toArray _) _) (Value.ref _)) _ _ _); (with_reducible rename Fr _ _ _ _ => F'q); (with_reducible rename News _ _ _ _ => N'q); (refine By.slice_B (s := ⟨_, _, _, _, _⟩) F'q N'q (by constructor) (by constructor) (by first | assumption | omega) ?_); intro _ _ _ _ _)
  k_with "compareOp In int bytes" => (k_here; (with_reducible show wpAny _ _ (compareOp CmpOp.In (Value.int _ _) (Value.bytes (List.toArray _) _)) _ _ _); refine By.in_byte ?_)
  k_with "compareOp Eq bytes bytes" => (k_here; (with_reducible show wpAny _ _ (compareOp CmpOp.Eq (Value.bytes (List.toArray _) _) (Value.bytes (List.toArray _) _)) _ _ _); refine By.eq_B ?_)
  k_with "compareOp NotEq bytes bytes" => (k_here; (with_reducible show wpAny _ _ (compareOp CmpOp.NotEq (Value.bytes (List.toArray _) _) (Value.bytes (List.toArray _) _)) _ _ _); refine By.ne_B ?_)
  k_with "binaryOp Add bytes bytes" => (k_here; (with_reducible show wpAny _ _ (binaryOp Operator.Add (Value.bytes (List.toArray _) _) (Value.bytes (List.toArray _) _)) _ _ _); (refine By.add_B (by first | assumption | omega | (simp only [List.length_append, List.length_cons, List.length_nil] at *; omega)) ?_); intro _ _)
  k_with "call builtin:bytes.startswith" => (k_here; (with_reducible show wpAny _ _ (call (Value.builtin _) [Value.bytes (List.toArray _) _, Value.bytes (List.toArray _) _]) _ _ _); refine By.call_startswith ?_)
  k_with "call builtin:bytes.endswith" => (k_here; (with_reducible show wpAny _ _ (call (Value.builtin _) [Value.bytes (List.toArray _) _, Value.bytes (List.toArray _) _]) _ _ _); refine By.call_endswith ?_)
  k_with "call builtin:bytes.rstrip" => (k_here; (with_reducible show wpAny _ _ (call (Value.builtin _) [Value.bytes (List.toArray _) _, Value.bytes (List.toArray _) _]) _ _ _); (refine By.call_rstrip (by first | assumption | omega) ?_); intro _ _)
  k_with "call builtin:bytes.lstrip" => (k_here; (with_reducible show wpAny _ _ (call (Value.builtin _) [Value.bytes (List.toArray _) _, Value.bytes (List.toArray _) _]) _ _ _); (refine By.call_lstrip (by first | assumption | omega) ?_); intro _ _)
  k_with "call builtin:bytes.find" => (k_here; first | (refine By.call_find0 ?_; intro _ _) | (refine By.call_findI (by omega) (by omega) ?_; intro _ _))
  k_with "call builtin:bytes.split" => (k_here; k_dflt (refine' By.call_split ?zqk1 ?zqk2 ?zqk3 ?_; (case zqk1 => k_asm); (case zqk2 => k_asm); (case zqk3 => omega); k_whole); intro l'q vs'q h'q k'q hB'q hS'q hZ'q F'q N'q o1q; (try simp only [LCg.Off1, and_true] at o1q); (try k_sweep))
  k_with "call builtin:list.append" => (k_here; (with_reducible show wpAny _ _ (call (Value.builtin _) [Value.ref _, _]) _ _ _); k_dflt (refine' append_K ?zqk1 ?zqk2 ?zqk3 ?_ ?zqz; (case zqk1 => k_asm); (case zqk2 => k_asm); (case zqk3 => k_upd); (case zqz => (rw [PySem.sizeLine_eq]; simp only [List.size_toArray]; omega)); k_whole); intro h'q F'q N'q; (try k_sweep))
  k_with "call builtin:bytes.join" => (k_here; (with_reducible show wpAny _ _ (call (Value.builtin _) [Value.bytes (List.toArray _) _, Value.ref _]) _ _ _); k_dflt (refine By.call_join (News.isList (by k_asm) (by k_mem)) (by with_reducible assumption) (by first | assumption | omega) ?_); intro _ _)
  k_with "compareOp NotEq ref ref" => (k_here; (with_reducible show wpAny _ _ (compareOp CmpOp.NotEq (Value.ref _) (Value.ref _)) _ _ _); k_dflt (refine ne_nilK (by k_asm) (by k_mem) (by k_mem) (by ktr_units) ?_))
  k_with "compareOp Eq ref ref" => (k_here; (with_reducible show wpAny _ _ (compareOp CmpOp.Eq (Value.ref _) (Value.ref _)) _ _ _); k_dflt (refine eq_nilK (by k_asm) (by k_mem) (by k_mem) (by ktr_units) ?_))
  k_with "subscriptTail" => (k_here; (with_reducible show wpAny _ _ (subscriptTail _ _ (Value.ref _) (Value.int _ _)) _ _ _); k_dflt first | ((with_reducible show wpAny _ _ (subscriptTail _ (Expr.UnaryOp _ _ _) _ _) _ _ _); refine item_lastK (by k_asm) (by k_mem) (by with_reducible assumption) (by omega) (by omega) ?_; intro _) | (refine item_K (by k_asm) (by k_mem) (by with_reducible assumption) (by omega) (by omega) (by omega) ?_; intro _))
  k_with "call builtin:list.pop" => (k_here; (with_reducible show wpAny _ _ (call (Value.builtin _) [Value.ref _]) _ _ _); k_dflt (refine' popK ?zqF ?zqN ?zqU ?zqi ?zql ?zqz ?_; (case zqF => k_asm); (case zqN => k_asm); (case zqU => k_upd); (case zqi => with_reducible assumption); (case zql => omega); (case zqz => omega)); intro h'q t'q F'q N'q; (try k_sweep))
  k_with "subscriptTail" => (k_here; (with_reducible show wpAny _ _ (subscriptTail _ (Expr.Slice _ _ none _) (Value.ref _) (Value.ref _)) _ _ _); (with_reducible rename Fr _ _ _ _ => F'q); (with_reducible rename News _ _ _ _ => N'q); k_dflt (refine slice_L (s := ⟨_, _, _, _, _⟩) F'q N'q (by k_mem) (by with_reducible assumption) (by constructor) (by constructor) (by omega) ?_); intro l'q vs'q h'q hB'q hZ'q F'q N'q o1q; (try simp only [LCg.Off1, and_true] at o1q))
  k_with "subscriptTail Name Slice ref ref" => (k_here; (with_reducible show wpAny _ _ (subscriptTail _ (Expr.Slice _ _ none _) (Value.ref _) (Value.ref _)) _ _ _); (with_reducible rename Fr _ _ _ _ => F'q); (with_reducible rename News _ _ _ _ => N'q); k_dflt (refine slice_L (s := ⟨_, _, _, _, _⟩) F'q N'q (by k_mem) (by with_reducible assumption) (by constructor) (by constructor) (by omega) ?_); intro l'q vs'q h'q hB'q hZ'q F'q N'q o1q; (try simp only [LCg.Off1, and_true] at o1q))
  k_with "subscriptTail Call Slice ref ref" => (k_here; (with_reducible show wpAny _ _ (subscriptTail _ (Expr.Slice _ _ none _) (Value.ref _) (Value.ref _)) _ _ _); (with_reducible rename Fr _ _ _ _ => F'q); (with_reducible rename News _ _ _ _ => N'q); k_dflt (refine slice_L (s := ⟨_, _, _, _, _⟩) F'q N'q (by k_mem) (by with_reducible assumption) (by constructor) (by constructor) (by omega) ?_); intro l'q vs'q h'q hB'q hZ'q F'q N'q o1q; (try simp only [LCg.Off1, and_true] at o1q))
  k_with "call builtin:len" => (k_here; (with_reducible show wpAny _ _ (call (Value.builtin "len") [Value.ref _]) _ _ _); k_dflt (refine len_LK (by k_asm) (by k_mem) (by omega) ?_); intro _ _)
  k_with "exec While Compare cons nil" => refine Held.out ?_
  k_with "exec While BoolOp" => refine Held.out ?_
  k_with "KswEnd" => refine Held.out ?_
  k_with "pyIter bytes" => refine Held.out ?_
  k_with "pyIter ref" => refine Held.out ?_
  k_with "InvEndN" => refine Held.out ?_
  k_with "exec For Name Subscript cons nil" => (k_here; (rename Fr _ _ _ _ => lF'q); (with_unfolding_all refine' For_invVF lF'q ?zqk1 ?zqk2 ?_; (case zqk1 => exact rfl); (case zqk2 => exact rfl); k_whole))
  k_with "exec For Name Name cons nil" => (k_here; (rename Fr _ _ _ _ => lF'q); (with_unfolding_all refine' For_invVF lF'q ?zqk1 ?zqk2 ?_; (case zqk1 => exact rfl); (case zqk2 => exact rfl); k_whole))
  k_with "exec For Name Call cons nil" => (k_here; (rename Fr _ _ _ _ => lF'q); (with_unfolding_all refine' For_invVF lF'q ?zqk1 ?zqk2 ?_; (case zqk1 => exact rfl); (case zqk2 => exact rfl); k_whole))
  k_with "exec Assign cons ListComp" => (k_here; k_dflt (refine Assign_ListComp_W (F₀ := by k_asm) (by rfl) (by with_unfolding_all rfl) (by with_unfolding_all rfl) (by decide) (by rfl) (by decide) (by rfl) (by rfl) (by rfl) ?_))
  k_with "SrcW" => refine Held.out ?_
  k_with "CompEnd" => refine Held.out ?_
  k_with "call builtin:ord" => (k_here; (with_reducible show wpAny _ _ (call (Value.builtin "ord") [Value.str _ _]) _ _ _); k_dflt (refine ord_sign ?_); intro _ _)
  k_with "call type:bytes" => (k_here; (with_reducible show wpAny _ _ (call (Value.type "bytes") [Value.ref _]) _ _ _); k_dflt (refine bytes_nats (by k_asm) (by k_asm) (by rfl) (by k_mem) (by assumption) (by assumption) (by assumption) ?_); intro h'q t'q k'q F'q N'q; (try k_sweep))
  k_with "my subs" => first | exact fun p hp => hp | (refine sub_tail ?_; walk_at "my subs")
  k_with "my df" => ((try dsimp only); (try k_fold))
  k_with "my back" => first | ((with_reducible rename RB _ _ _ _ => R9q); obtain ⟨⟨t9q, e9q⟩, e9'q⟩ := R9q; subst e9q e9'q; walk_at "my df") | ((with_reducible rename RL _ _ _ _ => R9q); obtain ⟨l9q, vs9q, k9q, e9q, hB9q, e9'q, hl9q⟩ := R9q; subst e9q e9'q; have hZ9q := hB9q.length; (try simp only [LCg.Off1, and_true] at hl9q); walk_at "my df") | ((with_reducible rename RSubj _ _ _ _ => R9q); obtain ⟨q9q, t9q, t9'q, e9q, e9'q, hl9q⟩ := R9q; subst e9q e9'q; (try simp only [LCg.Off1, and_true] at hl9q); walk_at "my df") | ((with_reducible rename RSome _ _ _ _ => R9q); obtain ⟨⟨x9q, t9q, e9q, hx9q⟩, e9'q⟩ := R9q; subst e9q e9'q; walk_at "my df") | ((with_reducible rename RTrail _ _ _ _ => R9q); rcases R9q with ⟨hT9q, e9q, e9'q⟩ | ⟨key9q, q9q, t9q, t9'q, x9q, hT9q, e9q, e9'q, hl9q⟩ <;> (subst e9q e9'q; (try simp only [LCg.Off1, and_true] at hl9q); walk_at "my df")) | ((with_reducible rename RLen _ _ _ _ => R9q); obtain ⟨l9q, xs9q, k9q, e9q, hx9q, e9'q, hl9q⟩ := R9q; subst e9q e9'q; (try simp only [LCg.Off1, and_true] at hl9q); walk_at "my df") | ((with_reducible rename RStr _ _ _ _ => R9q); obtain ⟨⟨t9q, e9q⟩, e9'q⟩ := R9q; subst e9q e9'q; walk_at "my df") | ((with_reducible rename RMark _ _ _ _ => R9q); rcases R9q with ⟨hM9q, e9q, e9'q⟩ | ⟨hM9q, q9q, o9q, e9q, e9'q, hl9q⟩ <;> (subst e9q e9'q; (try simp only [LCg.Off1, and_true] at hl9q); walk_at "my df")) | ((with_reducible rename RStp _ _ _ _ _ => R9q); obtain ⟨c9q, dx9q, o9q, p9q, e9q, e9'q, hst9q⟩ := R9q; subst e9q e9'q; walk_at "my df") | ((with_reducible rename RCom _ _ _ _ => R9q); obtain ⟨c9q, dx9q, o9q, p9q, e9q, e9'q, hC9q, hl9q, hcd9q⟩ := R9q; subst e9q e9'q; walk_at "my df")
  k_with "my side" => first | with_reducible assumption | omega | exact Nat.le_trans (By.sl_len _ _ _) (by omega) | exact IsCom.sub (by with_reducible assumption) (by walk_at "my subs") | exact fun k hk => Nat.lt_trans (By.hexCodes_lt k hk) (by decide) | exact Nat.le_trans (By.subjB_len _) (by omega)
  k_with "call ref" => (k_here; k_dflt (refine' says_use ?zqc ?zqk1 ?zqk2 ?zqk3 ?zqk4 ?zqk5 ?zqkK ?zqkd ?zqku ?_; (case zqk1 => k_asm); (case zqk2 => k_asm); (case zqk3 => k_asm); (case zqk4 => k_asm); (case zqk5 => k_asm); (case zqc => walk_at "my contract"); (case zqkK => first | exact rfl | assumption); (case zqkd => first | ktr_room | decide); (case zqku => first | ktr_units | decide); intro v9q n9q h9q tk9q F9q N9q R9q; walk_at "my back"))
  k_with "my contract" => (with_reducible apply says_cut_end) <;> walk_at "my side"
  k_with "my contract" => (with_reducible apply says_rows) <;> walk_at "my side"
  k_with "my contract" => (with_reducible apply says_lines) <;> walk_at "my side"
  k_with "my contract" => (with_reducible apply says_ended) <;> walk_at "my side"
  k_with "my contract" => (with_reducible apply says_subject) <;> walk_at "my side"
  k_with "my contract" => (with_reducible apply says_trimmed) <;> walk_at "my side"
  k_with "my contract" => (with_reducible apply says_trailer) <;> walk_at "my side"
  k_with "my contract" => (with_reducible apply says_last) <;> walk_at "my side"
  k_with "my contract" => (with_reducible apply says_trailers) <;> walk_at "my side"
  k_with "my contract" => (with_reducible apply says_hex) <;> walk_at "my side"
  intro p loose mean mg mb dp un gd cn cs ad ccd cl outer A₀ base h₀ L m s Q E B F X N T hk hdp hu hret
  refine wpAny_call ?_
  k_dflt cell_enter
  k_steps
  refine Held.on ?_
  k_dflt (refine SrcW.str (by rfl) (by k_asm) (by k_asm) (by omega) ?_)
  intro g'
  refine bcf_any a (fun c v => ∃ u, v = .str ⟨#[c]⟩ u) (fun (c : Nat) v => ∃ t, v = .int (c : Int) t) (by rintro i v ⟨c, u, h1, h2⟩; exact ⟨c, by simpa using h1, u, h2⟩) (fun c' v' I' oI' C' oC' D' m' ys' h' tk' E' hc' hv' hC' hx' F' N' off' ne' => ?_) ?_
  · obtain ⟨u', rfl⟩ := hv'
    k_steps
    refine Held.on ?_
    exact LCg.CompEnd.intro (by k_asm) (by k_asm) _ (fun p hp => hp) (by assumption) trivial ⟨rfl, _, rfl⟩
  · intro ys hys
    k_steps
    refine Held.on ?_
    rename Fr _ _ _ _ => lF'
    rename News _ _ _ _ => lN'
    with_unfolding_all refine' forR (σ := Unit) (fun c => (_, listOf ys.toArray _) :: news) (fun c => []) [] (fun i c => True) () (by rfl) (fun _ => .head _) hys lF' lN' ?kk ?kp ?_ ?_
    case kk => (intro p hp; cases hp)
    case kp => trivial
    · clear lF' lN'
      intro c i y v u h tk own hi hv hoff hP F1 N1
      obtain ⟨tv, rfl⟩ := hv
      have hy := hlt y (List.mem_of_getElem? hi)
      dsimp only [kstB] at F1
      dsimp only [List.cons_append] at N1
      (try k_unmd)
      (try k_fold)
      k_steps
      refine Held.on ?_
      rename News _ _ _ _ => nE
      exact ForS.end () (by assumption) nE (by kcf_all) (by kcf_all) rfl (by intro p hp; cases hp) (by intro z h1 h2 h3; simp [h1]) trivial
    · clear lF' lN'
      intro c u h tk hD F1 N1
      dsimp only [kstB] at F1
      k_steps
      exact hret _ _ _ _ (by k_asm) (cb_drop (by k_asm) (by kcf_all)) ⟨⟨_, rfl⟩, rfl⟩
end Mine
end
section
namespace Mine
set_option maxRecDepth 100000 in
set_option maxHeartbeats 1000000 in
theorem says_csubj (w : World) (c : Addr) (a : List UInt8) (news : List (Addr × Obj)) (hcom : IsCom news c a) (ha : a.length ≤ 1000) : Says w 155 4 [.ref c] news (RB (By.subjB (By.rowsB a)) news) := by
  unfold Says
  k_fill
  w_top off
  k_with_none
  k_with "getMethod bytes" => (k_here; first | refine By.get_method By.slot_find By.type_find ?_ | refine By.get_method By.slot_split By.type_split ?_ | refine By.get_method By.slot_rstrip By.type_rstrip ?_ | refine By.get_method By.slot_lstrip By.type_lstrip ?_ | refine By.get_method By.slot_join By.type_join ?_ | refine By.get_method FB.slot_bytes_startswith FB.type_bytes_startswith ?_ | refine By.get_method FB.slot_bytes_endswith FB.type_bytes_endswith ?_)
  k_with "call builtin:len" => (k_here; (with_reducible show wpAny _ _ (call (Value.builtin "len") [Value.bytes (List.toArray _) _]) _ _ _); (refine By.len_B (by first | assumption | omega) ?_); intro _ _)
  k_with "subscriptTail" => (k_here; (with_reducible show wpAny _ _ (subscriptTail _ _ (Value.bytes (List.toArray _) _) (Value.int _ _)) _ _ _); (refine By.item_B (by first | assumption | omega) (by omega) (by omega) ?_); intro _ _)
  k_with "subscriptTail" => (k_here; (with_reducible show wpAny _ _ (subscriptTail _ (Expr.Slice _ _ none _) (Value.bytes (List.toArray _) _) (Value.ref _)) _ _ _); (with_reducible rename Fr _ _ _ _ => F'q); (with_reducible rename News _ _ _ _ => N'q); (refine By.slice_B (s := ⟨_, _, _, _, _⟩) F'q N'q (by constructor) (by constructor) (by first | assumption | omega) ?_); intro _ _ _ _ _)
  k_with "compareOp In int bytes" => (k_here; (with_reducible show wpAny _ _ (compareOp CmpOp.In (Value.int _ _) (Value.bytes (List.toArray _) _)) _ _ _); refine By.in_byte ?_)
  k_with "compareOp Eq bytes bytes" => (k_here; (with_reducible show wpAny _ _ (compareOp CmpOp.Eq (Value.bytes (List.toArray _) _) (Value.bytes (List.toArray _) _)) _ _ _); refine By.eq_B ?_)
  k_with "compareOp NotEq bytes bytes" => (k_here; (with_reducible show wpAny _ _ (compareOp CmpOp.NotEq (Value.bytes (List.toArray _) _) (Value.bytes (List.toArray _) _)) _ _ _); refine By.ne_B ?_)
  k_with "binaryOp Add bytes bytes" => (k_here; (with_reducible show wpAny _ _ (binaryOp Operator.Add (Value.bytes (List.toArray _) _) (Value.bytes (List.toArray _) _)) _ _ _); (refine By.add_B (by first | assumption | omega | (simp only [List.length_append, List.length_cons, List.length_nil] at *; omega)) ?_); intro _ _)
  k_with "call builtin:bytes.startswith" => (k_here; (with_reducible show wpAny _ _ (call (Value.builtin _) [Value.bytes (List.toArray _) _, Value.bytes (List.toArray _) _]) _ _ _); refine By.call_startswith ?_)
  k_with "call builtin:bytes.endswith" => (k_here; (with_reducible show wpAny _ _ (call (Value.builtin _) [Value.bytes (List.toArray _) _, Value.bytes (List.toArray _) _]) _ _ _); refine By.call_endswith ?_)
  k_with "call builtin:bytes.rstrip" => (k_here; (with_reducible show wpAny _ _ (call (Value.builtin _) [Value.bytes (List.toArray _) _, Value.bytes (List.toArray _) _]) _ _ _); (refine By.call_rstrip (by first | assumption | omega) ?_); intro _ _)
  k_with "call builtin:bytes.lstrip" => (k_here; (with_reducible show wpAny _ _ (call (Value.builtin _) [Value.bytes (List.toArray _) _, Value.bytes (List.toArray _) _]) _ _ _); (refine By.call_lstrip (by first | assumption | omega) ?_); intro _ _)
  k_with "call builtin:bytes.find" => (k_here; first | (refine By.call_find0 ?_; intro _ _) | (refine By.call_findI (by omega) (by omega) ?_; intro _ _))
  k_with "call builtin:bytes.split" => (k_here; k_dflt (refine' By.call_split ?zqk1 ?zqk2 ?zqk3 ?_; (case zqk1 => k_asm); (case zqk2 => k_asm); (case zqk3 => omega); k_whole); intro l'q vs'q h'q k'q hB'q hS'q hZ'q F'q N'q o1q; (try simp only [LCg.Off1, and_true] at o1q); (try k_sweep))
  k_with "call builtin:list.append" => (k_here; (with_reducible show wpAny _ _ (call (Value.builtin _) [Value.ref _, _]) _ _ _); k_dflt (refine' append_K ?zqk1 ?zqk2 ?zqk3 ?_ ?zqz; (case zqk1 => k_asm); (case zqk2 => k_asm); (case zqk3 => k_upd); (case zqz => (rw [PySem.sizeLine_eq]; simp only [List.size_toArray]; omega)); k_whole); intro h'q F'q N'q; (try k_sweep))
  k_with "call builtin:bytes.join" => (k_here; (with_reducible show wpAny _ _ (call (Value.builtin _) [Value.bytes (List.toArray _) _, Value.ref _]) _ _ _); k_dflt (refine By.call_join (News.isList (by k_asm) (by k_mem)) (by with_reducible assumption) (by first | assumption | omega) ?_); intro _ _)
  k_with "compareOp NotEq ref ref" => (k_here; (with_reducible show wpAny _ _ (compareOp CmpOp.NotEq (Value.ref _) (Value.ref _)) _ _ _); k_dflt (refine ne_nilK (by k_asm) (by k_mem) (by k_mem) (by ktr_units) ?_))
  k_with "compareOp Eq ref ref" => (k_here; (with_reducible show wpAny _ _ (compareOp CmpOp.Eq (Value.ref _) (Value.ref _)) _ _ _); k_dflt (refine eq_nilK (by k_asm) (by k_mem) (by k_mem) (by ktr_units) ?_))
  k_with "subscriptTail" => (k_here; (with_reducible show wpAny _ _ (subscriptTail _ _ (Value.ref _) (Value.int _ _)) _ _ _); k_dflt first | ((with_reducible show wpAny _ _ (subscriptTail _ (Expr.UnaryOp _ _ _) _ _) _ _ _); refine item_lastK (by k_asm) (by k_mem) (by with_reducible assumption) (by omega) (by omega) ?_; intro _) | (refine item_K (by k_asm) (by k_mem) (by with_reducible assumption) (by omega) (by omega) (by omega) ?_; intro _))
  k_with "call builtin:list.pop" => (k_here; (with_reducible show wpAny _ _ (call (Value.builtin _) [Value.ref _]) _ _ _); k_dflt (refine' popK ?zqF ?zqN ?zqU ?zqi ?zql ?zqz ?_; (case zqF => k_asm); (case zqN => k_asm); (case zqU => k_upd); (case zqi => with_reducible assumption); (case zql => omega); (case zqz => omega)); intro h'q t'q F'q N'q; (try k_sweep))
  k_with "subscriptTail" => (k_here; (with_reducible show wpAny _ _ (subscriptTail _ (Expr.Slice _ _ none _) (Value.ref _) (Value.ref _)) _ _ _); (with_reducible rename Fr _ _ _ _ => F'q); (with_reducible rename News _ _ _ _ => N'q); k_dflt (refine slice_L (s := ⟨_, _, _, _, _⟩) F'q N'q (by k_mem) (by with_reducible assumption) (by constructor) (by constructor) (by omega) ?_); intro l'q vs'q h'q hB'q hZ'q F'q N'q o1q; (try simp only [LCg.Off1, and_true] at o1q))
  k_with "subscriptTail Name Slice ref ref" => (k_here; (with_reducible show wpAny _ _ (subscriptTail _ (Expr.Slice _ _ none _) (Value.ref _) (Value.ref _)) _ _ _); (with_reducible rename Fr _ _ _ _ => F'q); (with_reducible rename News _ _ _ _ => N'q); k_dflt (refine slice_L (s := ⟨_, _, _, _, _⟩) F'q N'q (by k_mem) (by with_reducible assumption) (by constructor) (by constructor) (by omega) ?_); intro l'q vs'q h'q hB'q hZ'q F'q N'q o1q; (try simp only [LCg.Off1, and_true] at o1q))
  k_with "subscriptTail Call Slice ref ref" => (k_here; (with_reducible show wpAny _ _ (subscriptTail _ (Expr.Slice _ _ none _) (Value.ref _) (Value.ref _)) _ _ _); (with_reducible rename Fr _ _ _ _ => F'q); (with_reducible rename News _ _ _ _ => N'q); k_dflt (refine slice_L (s := ⟨_, _, _, _, _⟩) F'q N'q (by k_mem) (by with_reducible assumption) (by constructor) (by constructor) (by omega) ?_); intro l'q vs'q h'q hB'q hZ'q F'q N'q o1q; (try simp only [LCg.Off1, and_true] at o1q))
  k_with "call builtin:len" => (k_here; (with_reducible show wpAny _ _ (call (Value.builtin "len") [Value.ref _]) _ _ _); k_dflt (refine len_LK (by k_asm) (by k_mem) (by omega) ?_); intro _ _)
  k_with "exec While Compare cons nil" => refine Held.out ?_
  k_with "exec While BoolOp" => refine Held.out ?_
  k_with "KswEnd" => refine Held.out ?_
  k_with "getAttr ref" => (k_here; (with_reducible show wpAny _ _ (getAttr (Value.ref _) (Str.ofString "message") _) _ _ _); k_dflt (refine com_msg _ (by k_asm) (by k_in) (by k_asm) (IsCom.sub (by with_reducible assumption) (by walk_at "my k_subs")) ?_); intro _ _)
  k_with "getMethod ref" => (k_here; (with_reducible show wpAny _ _ (getMethod (Value.ref _) (Str.ofString "subject") _) _ _ _); k_dflt (refine' com_subj _ ?zqkF ?zqkX ?zqkN ?zqkC ?_; (case zqkF => k_asm); (case zqkN => k_asm); (case zqkX => k_in); (case zqkC => exact IsCom.sub (by with_reducible assumption) (by walk_at "my k_subs")); k_whole); (try dsimp only [List.nil_append, List.cons_append, List.append_nil]))
  k_with "call ref" => ((with_reducible show wpAny _ _ (call _ (_ ++ [])) _ _ _); dsimp only [List.nil_append, List.cons_append, List.append_nil])
  k_with "my subs" => first | exact fun p hp => hp | (refine sub_tail ?_; walk_at "my subs")
  k_with "my df" => ((try dsimp only); (try k_fold))
  k_with "my back" => first | ((with_reducible rename RB _ _ _ _ => R9q); obtain ⟨⟨t9q, e9q⟩, e9'q⟩ := R9q; subst e9q e9'q; walk_at "my df") | ((with_reducible rename RL _ _ _ _ => R9q); obtain ⟨l9q, vs9q, k9q, e9q, hB9q, e9'q, hl9q⟩ := R9q; subst e9q e9'q; have hZ9q := hB9q.length; (try simp only [LCg.Off1, and_true] at hl9q); walk_at "my df") | ((with_reducible rename RSubj _ _ _ _ => R9q); obtain ⟨q9q, t9q, t9'q, e9q, e9'q, hl9q⟩ := R9q; subst e9q e9'q; (try simp only [LCg.Off1, and_true] at hl9q); walk_at "my df") | ((with_reducible rename RSome _ _ _ _ => R9q); obtain ⟨⟨x9q, t9q, e9q, hx9q⟩, e9'q⟩ := R9q; subst e9q e9'q; walk_at "my df") | ((with_reducible rename RTrail _ _ _ _ => R9q); rcases R9q with ⟨hT9q, e9q, e9'q⟩ | ⟨key9q, q9q, t9q, t9'q, x9q, hT9q, e9q, e9'q, hl9q⟩ <;> (subst e9q e9'q; (try simp only [LCg.Off1, and_true] at hl9q); walk_at "my df")) | ((with_reducible rename RLen _ _ _ _ => R9q); obtain ⟨l9q, xs9q, k9q, e9q, hx9q, e9'q, hl9q⟩ := R9q; subst e9q e9'q; (try simp only [LCg.Off1, and_true] at hl9q); walk_at "my df") | ((with_reducible rename RStr _ _ _ _ => R9q); obtain ⟨⟨t9q, e9q⟩, e9'q⟩ := R9q; subst e9q e9'q; walk_at "my df") | ((with_reducible rename RMark _ _ _ _ => R9q); rcases R9q with ⟨hM9q, e9q, e9'q⟩ | ⟨hM9q, q9q, o9q, e9q, e9'q, hl9q⟩ <;> (subst e9q e9'q; (try simp only [LCg.Off1, and_true] at hl9q); walk_at "my df")) | ((with_reducible rename RStp _ _ _ _ _ => R9q); obtain ⟨c9q, dx9q, o9q, p9q, e9q, e9'q, hst9q⟩ := R9q; subst e9q e9'q; walk_at "my df") | ((with_reducible rename RCom _ _ _ _ => R9q); obtain ⟨c9q, dx9q, o9q, p9q, e9q, e9'q, hC9q, hl9q, hcd9q⟩ := R9q; subst e9q e9'q; walk_at "my df")
  k_with "my side" => first | with_reducible assumption | omega | exact Nat.le_trans (By.sl_len _ _ _) (by omega) | exact IsCom.sub (by with_reducible assumption) (by walk_at "my subs") | exact fun k hk => Nat.lt_trans (By.hexCodes_lt k hk) (by decide) | exact Nat.le_trans (By.subjB_len _) (by omega)
  k_with "call ref" => (k_here; k_dflt (refine' says_use ?zqc ?zqk1 ?zqk2 ?zqk3 ?zqk4 ?zqk5 ?zqkK ?zqkd ?zqku ?_; (case zqk1 => k_asm); (case zqk2 => k_asm); (case zqk3 => k_asm); (case zqk4 => k_asm); (case zqk5 => k_asm); (case zqc => walk_at "my contract"); (case zqkK => first | exact rfl | assumption); (case zqkd => first | ktr_room | decide); (case zqku => first | ktr_units | decide); intro v9q n9q h9q tk9q F9q N9q R9q; walk_at "my back"))
  k_with "my contract" => (with_reducible apply says_cut_end) <;> walk_at "my side"
  k_with "my contract" => (with_reducible apply says_rows) <;> walk_at "my side"
  k_with "my contract" => (with_reducible apply says_lines) <;> walk_at "my side"
  k_with "my contract" => (with_reducible apply says_ended) <;> walk_at "my side"
  k_with "my contract" => (with_reducible apply says_subject) <;> walk_at "my side"
  k_with "my contract" => (with_reducible apply says_trimmed) <;> walk_at "my side"
  k_with "my contract" => (with_reducible apply says_trailer) <;> walk_at "my side"
  k_with "my contract" => (with_reducible apply says_last) <;> walk_at "my side"
  k_with "my contract" => (with_reducible apply says_trailers) <;> walk_at "my side"
  k_with "my contract" => (with_reducible apply says_hex) <;> walk_at "my side"
  k_with "my contract" => (with_reducible apply says_oct) <;> walk_at "my side"
  intro p loose mean mg mb dp un gd cn cs ad ccd cl outer A₀ base h₀ L m s Q E B F X N T hk hdp hu hret
  refine wpAny_call ?_
  k_dflt cell_enter
  k_steps
  all_goals exact hret _ _ _ _ (by k_asm) (cb_drop (by k_asm) (by kcf_all)) ⟨⟨_, rfl⟩, rfl⟩
end Mine
end
section
namespace Mine
set_option maxRecDepth 100000 in
set_option maxHeartbeats 1000000 in
theorem says_body (w : World) (c : Addr) (a : List UInt8) (news : List (Addr × Obj)) (hcom : IsCom news c a) (ha : a.length ≤ 1000) : Says w 169 4 [.ref c] news (RB (By.bodyB a) news) := by
  unfold Says
  k_fill
  w_top off
  k_with_none
  k_with "getMethod bytes" => (k_here; first | refine By.get_method By.slot_find By.type_find ?_ | refine By.get_method By.slot_split By.type_split ?_ | refine By.get_method By.slot_rstrip By.type_rstrip ?_ | refine By.get_method By.slot_lstrip By.type_lstrip ?_ | refine By.get_method By.slot_join By.type_join ?_ | refine By.get_method FB.slot_bytes_startswith FB.type_bytes_startswith ?_ | refine By.get_method FB.slot_bytes_endswith FB.type_bytes_endswith ?_)
  k_with "call builtin:len" => (k_here; (with_reducible show wpAny _ _ (call (Value.builtin "len") [Value.bytes (List.toArray _) _]) _ _ _); (refine By.len_B (by first | assumption | omega) ?_); intro _ _)
  k_with "subscriptTail" => (k_here; (with_reducible show wpAny _ _ (subscriptTail _ _ (Value.bytes (List.toArray _) _) (Value.int _ _)) _ _ _); (refine By.item_B (by first | assumption | omega) (by omega) (by omega) ?_); intro _ _)
  k_with "subscriptTail" => (k_here; (with_reducible show wpAny _ _ (subscriptTail _ (Expr.Slice _ _ none _) (Value.bytes (List.toArray _) _) (Value.ref _)) _ _ _); (with_reducible rename Fr _ _ _ _ => F'q); (with_reducible rename News _ _ _ _ => N'q); (refine By.slice_B (s := ⟨_, _, _, _, _⟩) F'q N'q (by constructor) (by constructor) (by first | assumption | omega) ?_); intro _ _ _ _ _)
  k_with "compareOp In int bytes" => (k_here; (with_reducible show wpAny _ _ (compareOp CmpOp.In (Value.int _ _) (Value.bytes (List.toArray _) _)) _ _ _); refine By.in_byte ?_)
  k_with "compareOp Eq bytes bytes" => (k_here; (with_reducible show wpAny _ _ (compareOp CmpOp.Eq (Value.bytes (List.toArray _) _) (Value.bytes (List.toArray _) _)) _ _ _); refine By.eq_B ?_)
  k_with "compareOp NotEq bytes bytes" => (k_here; (with_reducible show wpAny _ _ (compareOp CmpOp.NotEq (Value.bytes (List.toArray _) _) (Value.bytes (List.toArray _) _)) _ _ _); refine By.ne_B ?_)
  k_with "binaryOp Add bytes bytes" => (k_here; (with_reducible show wpAny _ _ (binaryOp Operator.Add (Value.bytes (List.toArray _) _) (Value.bytes (List.toArray _) _)) _ _ _); (refine By.add_B (by first | assumption | omega | (simp only [List.length_append, List.length_cons, List.length_nil] at *; omega)) ?_); intro _ _)
  k_with "call builtin:bytes.startswith" => (k_here; (with_reducible show wpAny _ _ (call (Value.builtin _) [Value.bytes (List.toArray _) _, Value.bytes (List.toArray _) _]) _ _ _); refine By.call_startswith ?_)
  k_with "call builtin:bytes.endswith" => (k_here; (with_reducible show wpAny _ _ (call (Value.builtin _) [Value.bytes (List.toArray _) _, Value.bytes (List.toArray _) _]) _ _ _); refine By.call_endswith ?_)
  k_with "call builtin:bytes.rstrip" => (k_here; (with_reducible show wpAny _ _ (call (Value.builtin _) [Value.bytes (List.toArray _) _, Value.bytes (List.toArray _) _]) _ _ _); (refine By.call_rstrip (by first | assumption | omega) ?_); intro _ _)
  k_with "call builtin:bytes.lstrip" => (k_here; (with_reducible show wpAny _ _ (call (Value.builtin _) [Value.bytes (List.toArray _) _, Value.bytes (List.toArray _) _]) _ _ _); (refine By.call_lstrip (by first | assumption | omega) ?_); intro _ _)
  k_with "call builtin:bytes.find" => (k_here; first | (refine By.call_find0 ?_; intro _ _) | (refine By.call_findI (by omega) (by omega) ?_; intro _ _))
  k_with "call builtin:bytes.split" => (k_here; k_dflt (refine' By.call_split ?zqk1 ?zqk2 ?zqk3 ?_; (case zqk1 => k_asm); (case zqk2 => k_asm); (case zqk3 => omega); k_whole); intro l'q vs'q h'q k'q hB'q hS'q hZ'q F'q N'q o1q; (try simp only [LCg.Off1, and_true] at o1q); (try k_sweep))
  k_with "call builtin:list.append" => (k_here; (with_reducible show wpAny _ _ (call (Value.builtin _) [Value.ref _, _]) _ _ _); k_dflt (refine' append_K ?zqk1 ?zqk2 ?zqk3 ?_ ?zqz; (case zqk1 => k_asm); (case zqk2 => k_asm); (case zqk3 => k_upd); (case zqz => (rw [PySem.sizeLine_eq]; simp only [List.size_toArray]; omega)); k_whole); intro h'q F'q N'q; (try k_sweep))
  k_with "call builtin:bytes.join" => (k_here; (with_reducible show wpAny _ _ (call (Value.builtin _) [Value.bytes (List.toArray _) _, Value.ref _]) _ _ _); k_dflt (refine By.call_join (News.isList (by k_asm) (by k_mem)) (by with_reducible assumption) (by first | assumption | omega) ?_); intro _ _)
  k_with "compareOp NotEq ref ref" => (k_here; (with_reducible show wpAny _ _ (compareOp CmpOp.NotEq (Value.ref _) (Value.ref _)) _ _ _); k_dflt (refine ne_nilK (by k_asm) (by k_mem) (by k_mem) (by ktr_units) ?_))
  k_with "compareOp Eq ref ref" => (k_here; (with_reducible show wpAny _ _ (compareOp CmpOp.Eq (Value.ref _) (Value.ref _)) _ _ _); k_dflt (refine eq_nilK (by k_asm) (by k_mem) (by k_mem) (by ktr_units) ?_))
  k_with "subscriptTail" => (k_here; (with_reducible show wpAny _ _ (subscriptTail _ _ (Value.ref _) (Value.int _ _)) _ _ _); k_dflt first | ((with_reducible show wpAny _ _ (subscriptTail _ (Expr.UnaryOp _ _ _) _ _) _ _ _); refine item_lastK (by k_asm) (by k_mem) (by with_reducible assumption) (by omega) (by omega) ?_; intro _) | (refine item_K (by k_asm) (by k_mem) (by with_reducible assumption) (by omega) (by omega) (by omega) ?_; intro _))
  k_with "call builtin:list.pop" => (k_here; (with_reducible show wpAny _ _ (call (Value.builtin _) [Value.ref _]) _ _ _); k_dflt (refine' popK ?zqF ?zqN ?zqU ?zqi ?zql ?zqz ?_; (case zqF => k_asm); (case zqN => k_asm); (case zqU => k_upd); (case zqi => with_reducible assumption); (case zql => omega); (case zqz => omega)); intro h'q t'q F'q N'q; (try k_sweep))
  k_with "subscriptTail" => (k_here; (with_reducible show wpAny _ _ (subscriptTail _ (Expr.Slice _ _ none _) (Value.ref _) (Value.ref _)) _ _ _); (with_reducible rename Fr _ _ _ _ => F'q); (with_reducible rename News _ _ _ _ => N'q); k_dflt (refine slice_L (s := ⟨_, _, _, _, _⟩) F'q N'q (by k_mem) (by with_reducible assumption) (by constructor) (by constructor) (by omega) ?_); intro l'q vs'q h'q hB'q hZ'q F'q N'q o1q; (try simp only [LCg.Off1, and_true] at o1q))
  k_with "subscriptTail Name Slice ref ref" => (k_here; (with_reducible show wpAny _ _ (subscriptTail _ (Expr.Slice _ _ none _) (Value.ref _) (Value.ref _)) _ _ _); (with_reducible rename Fr _ _ _ _ => F'q); (with_reducible rename News _ _ _ _ => N'q); k_dflt (refine slice_L (s := ⟨_, _, _, _, _⟩) F'q N'q (by k_mem) (by with_reducible assumption) (by constructor) (by constructor) (by omega) ?_); intro l'q vs'q h'q hB'q hZ'q F'q N'q o1q; (try simp only [LCg.Off1, and_true] at o1q))
  k_with "subscriptTail Call Slice ref ref" => (k_here; (with_reducible show wpAny _ _ (subscriptTail _ (Expr.Slice _ _ none _) (Value.ref _) (Value.ref _)) _ _ _); (with_reducible rename Fr _ _ _ _ => F'q); (with_reducible rename News _ _ _ _ => N'q); k_dflt (refine slice_L (s := ⟨_, _, _, _, _⟩) F'q N'q (by k_mem) (by with_reducible assumption) (by constructor) (by constructor) (by omega) ?_); intro l'q vs'q h'q hB'q hZ'q F'q N'q o1q; (try simp only [LCg.Off1, and_true] at o1q))
  k_with "call builtin:len" => (k_here; (with_reducible show wpAny _ _ (call (Value.builtin "len") [Value.ref _]) _ _ _); k_dflt (refine len_LK (by k_asm) (by k_mem) (by omega) ?_); intro _ _)
  k_with "exec While Compare cons nil" => refine Held.out ?_
  k_with "exec While BoolOp" => refine Held.out ?_
  k_with "KswEnd" => refine Held.out ?_
  k_with "getAttr ref" => (k_here; (with_reducible show wpAny _ _ (getAttr (Value.ref _) (Str.ofString "message") _) _ _ _); k_dflt (refine com_msg _ (by k_asm) (by k_in) (by k_asm) (IsCom.sub (by with_reducible assumption) (by walk_at "my k_subs")) ?_); intro _ _)
  k_with "getMethod ref" => (k_here; (with_reducible show wpAny _ _ (getMethod (Value.ref _) (Str.ofString "subject") _) _ _ _); k_dflt (refine' com_subj _ ?zqkF ?zqkX ?zqkN ?zqkC ?_; (case zqkF => k_asm); (case zqkN => k_asm); (case zqkX => k_in); (case zqkC => exact IsCom.sub (by with_reducible assumption) (by walk_at "my k_subs")); k_whole); (try dsimp only [List.nil_append, List.cons_append, List.append_nil]))
  k_with "call ref" => ((with_reducible show wpAny _ _ (call _ (_ ++ [])) _ _ _); dsimp only [List.nil_append, List.cons_append, List.append_nil])
  k_with "my subs" => first | exact fun p hp => hp | (refine sub_tail ?_; walk_at "my subs")
  k_with "my df" => ((try dsimp only); (try k_fold))
  k_with "my back" => first | ((with_reducible rename RB _ _ _ _ => R9q); obtain ⟨⟨t9q, e9q⟩, e9'q⟩ := R9q; subst e9q e9'q; walk_at "my df") | ((with_reducible rename RL _ _ _ _ => R9q); obtain ⟨l9q, vs9q, k9q, e9q, hB9q, e9'q, hl9q⟩ := R9q; subst e9q e9'q; have hZ9q := hB9q.length; (try simp only [LCg.Off1, and_true] at hl9q); walk_at "my df") | ((with_reducible rename RSubj _ _ _ _ => R9q); obtain ⟨q9q, t9q, t9'q, e9q, e9'q, hl9q⟩ := R9q; subst e9q e9'q; (try simp only [LCg.Off1, and_true] at hl9q); walk_at "my df") | ((with_reducible rename RSome _ _ _ _ => R9q); obtain ⟨⟨x9q, t9q, e9q, hx9q⟩, e9'q⟩ := R9q; subst e9q e9'q; walk_at "my df") | ((with_reducible rename RTrail _ _ _ _ => R9q); rcases R9q with ⟨hT9q, e9q, e9'q⟩ | ⟨key9q, q9q, t9q, t9'q, x9q, hT9q, e9q, e9'q, hl9q⟩ <;> (subst e9q e9'q; (try simp only [LCg.Off1, and_true] at hl9q); walk_at "my df")) | ((with_reducible rename RLen _ _ _ _ => R9q); obtain ⟨l9q, xs9q, k9q, e9q, hx9q, e9'q, hl9q⟩ := R9q; subst e9q e9'q; (try simp only [LCg.Off1, and_true] at hl9q); walk_at "my df") | ((with_reducible rename RStr _ _ _ _ => R9q); obtain ⟨⟨t9q, e9q⟩, e9'q⟩ := R9q; subst e9q e9'q; walk_at "my df") | ((with_reducible rename RMark _ _ _ _ => R9q); rcases R9q with ⟨hM9q, e9q, e9'q⟩ | ⟨hM9q, q9q, o9q, e9q, e9'q, hl9q⟩ <;> (subst e9q e9'q; (try simp only [LCg.Off1, and_true] at hl9q); walk_at "my df")) | ((with_reducible rename RStp _ _ _ _ _ => R9q); obtain ⟨c9q, dx9q, o9q, p9q, e9q, e9'q, hst9q⟩ := R9q; subst e9q e9'q; walk_at "my df") | ((with_reducible rename RCom _ _ _ _ => R9q); obtain ⟨c9q, dx9q, o9q, p9q, e9q, e9'q, hC9q, hl9q, hcd9q⟩ := R9q; subst e9q e9'q; walk_at "my df")
  k_with "my side" => first | with_reducible assumption | omega | exact Nat.le_trans (By.sl_len _ _ _) (by omega) | exact IsCom.sub (by with_reducible assumption) (by walk_at "my subs") | exact fun k hk => Nat.lt_trans (By.hexCodes_lt k hk) (by decide) | exact Nat.le_trans (By.subjB_len _) (by omega)
  k_with "call ref" => (k_here; k_dflt (refine' says_use ?zqc ?zqk1 ?zqk2 ?zqk3 ?zqk4 ?zqk5 ?zqkK ?zqkd ?zqku ?_; (case zqk1 => k_asm); (case zqk2 => k_asm); (case zqk3 => k_asm); (case zqk4 => k_asm); (case zqk5 => k_asm); (case zqc => walk_at "my contract"); (case zqkK => first | exact rfl | assumption); (case zqkd => first | ktr_room | decide); (case zqku => first | ktr_units | decide); intro v9q n9q h9q tk9q F9q N9q R9q; walk_at "my back"))
  k_with "my contract" => (with_reducible apply says_cut_end) <;> walk_at "my side"
  k_with "my contract" => (with_reducible apply says_rows) <;> walk_at "my side"
  k_with "my contract" => (with_reducible apply says_lines) <;> walk_at "my side"
  k_with "my contract" => (with_reducible apply says_ended) <;> walk_at "my side"
  k_with "my contract" => (with_reducible apply says_subject) <;> walk_at "my side"
  k_with "my contract" => (with_reducible apply says_trimmed) <;> walk_at "my side"
  k_with "my contract" => (with_reducible apply says_trailer) <;> walk_at "my side"
  k_with "my contract" => (with_reducible apply says_last) <;> walk_at "my side"
  k_with "my contract" => (with_reducible apply says_trailers) <;> walk_at "my side"
  k_with "my contract" => (with_reducible apply says_hex) <;> walk_at "my side"
  k_with "my contract" => (with_reducible apply says_oct) <;> walk_at "my side"
  k_with "my contract" => (with_reducible apply says_csubj) <;> walk_at "my side"
  intro p loose mean mg mb dp un gd cn cs ad ccd cl outer A₀ base h₀ L m s Q E B F X N T hk hdp hu hret
  refine wpAny_call ?_
  k_dflt cell_enter
  k_steps
  refine Held.on ?_
  rename Fr _ _ _ _ => lF'
  rename News _ _ _ _ => lN'
  rename (_ ∧ _ ∧ LCg.Off1 _ _) => o1
  have hfr := o1.2.2
  rename BsAre _ (By.sl _ _ _) => hB3
  rw [By.sl_from (by omega)] at hB3
  rename Short _ _ => hsh
  rename (_ ≤ a.length + 1) => hz1
  rename (_ ≤ List.length _) => hz2
  have hz3 := Nat.le_trans hz2 (Nat.le_trans hz1 (Nat.succ_le_succ ha))
  clear hz1 hz2 o1
  rename List Value => vsX
  have lN2 := cb_drop lN' (news := (_, listOf vsX.toArray 0) :: news) (by kcf_all)
  clear lN'
  have hsh3 : Short 1000 ((By.cuts 10 a).drop (By.subjE (By.rowsB a) : Int).toNat) := fun r hr => Nat.le_trans (hsh r (List.mem_of_mem_drop hr)) ha
  have hJ := By.bodyB_len a
  have heq : By.joinB [10] (By.bcut ((By.cuts 10 a).drop (By.subjE (By.rowsB a) : Int).toNat)) = By.bodyB a := by rw [Int.toNat_natCast]; rfl
  with_unfolding_all refine' whileG (σ := Addr × List Value × Nat × List (List UInt8)) (fun c => c.1) (fun c => listOf c.2.1.toArray c.2.2.1) (fun c => [(Str.ofString "rows", Value.ref c.1)]) [] (fun c => LCg.Off1 c.1 news ∧ BsAre c.2.1 c.2.2.2 ∧ c.2.1.length ≤ 1001 ∧ Short 1000 c.2.2.2 ∧ By.bcut c.2.2.2 = By.bcut ((By.cuts 10 a).drop (By.subjE (By.rowsB a) : Int).toNat)) (fun c => c.2.1.length) (fun c => LCg.Off1 c.1 news ∧ BsAre c.2.1 c.2.2.2 ∧ c.2.1.length ≤ 1001 ∧ c.2.2.2 = By.bcut ((By.cuts 10 a).drop (By.subjE (By.rowsB a) : Int).toNat)) (_, vsX, _, (By.cuts 10 a).drop (By.subjE (By.rowsB a) : Int).toNat) lF' lN2 ?kk ?kp ?_ ?_
  case kk => kst_all
  case kp => exact ⟨hfr, hB3, hz3, hsh3, rfl⟩
  · clear lF' lN2 hB3 hz3 hsh3
    intro c u h tk Q' hP F1 N1
    obtain ⟨l2, vs2, n2, bs2⟩ := c
    obtain ⟨hf2, hb2, hz2, hs2, he2⟩ := hP
    dsimp only [kstB] at F1
    dsimp only at N1 hf2 hb2 hz2 he2 hs2
    have hr0 : (bs2.getD (Int.toNat 0) []).length ≤ 4096 := by
      cases bs2 with
      | nil => exact Nat.zero_le _
      | cons b r => exact Nat.le_trans (hs2 b (.head _)) (by decide)
    (try k_unmd)
    (try k_fold)
    k_steps
    · refine Held.on ?_
      have hne : bs2 ≠ [] := fun q => by have := hb2.length; rw [q, List.length_nil] at this; omega
      rename BsAre _ (By.sl bs2 _ _) => hB3
      rw [By.sl_from (by decide)] at hB3
      rename (_ ∧ LCg.Off1 _ news) => ho
      exact ksw_end (_, _, _, bs2.drop 1) (by assumption) (by assumption) (by kcf_all) trivial (by kst_all) (by ksw_same) ⟨ho.2, hB3, by dsimp only; omega, fun r hr => hs2 r (List.mem_of_mem_drop hr), (By.bcut_pop hne (by assumption)).trans he2⟩ (by dsimp only; rw [hB3.length, List.length_drop, ← hb2.length]; omega)
    · have hne : bs2 ≠ [] := fun q => by have := hb2.length; rw [q, List.length_nil] at this; omega
      exact WEnd.intro (l2, vs2, n2, bs2) (by assumption) (by assumption) (by kcf_all) (by kst_all) (by ksw_same) ⟨hf2, hb2, hz2, (By.bcut_done hne (by assumption)).symm.trans he2⟩
    · have hne : bs2 = [] := List.eq_nil_of_length_eq_zero (by rw [← hb2.length]; omega)
      exact WEnd.intro (l2, vs2, n2, bs2) (by assumption) (by assumption) (by kcf_all) (by kst_all) (by ksw_same) ⟨hf2, hb2, hz2, by subst hne; exact he2⟩
  · clear lF' lN2
    intro c u h tk hD F1 N1
    obtain ⟨l2, vs2, n2, bs2⟩ := c
    obtain ⟨hf2, hb2, hz2, he2⟩ := hD
    dsimp only [kstB] at F1
    dsimp only at N1 hf2 hb2 hz2 he2
    have hJ2 : (By.joinB [10] bs2).length ≤ 16777216 := by rw [he2, heq]; omega
    clear hB3 hz3
    k_steps
    exact hret _ _ _ _ (by k_asm) (cb_drop (by k_asm) (by kcf_all)) (RB.of (by rw [he2, heq]))
end Mine
end
section
namespace Mine
set_option maxRecDepth 100000 in
set_option maxHeartbeats 1000000 in
theorem says_mark (w : World) (a : List UInt8) (t : Tok) (news : List (Addr × Obj)) (ha : a.length ≤ 4000) : Says w 216 1 [.bytes a.toArray t] news (RMark a news) := by
  unfold Says
  k_fill
  w_top off
  k_with_none
  k_with "getMethod bytes" => (k_here; first | refine By.get_method By.slot_find By.type_find ?_ | refine By.get_method By.slot_split By.type_split ?_ | refine By.get_method By.slot_rstrip By.type_rstrip ?_ | refine By.get_method By.slot_lstrip By.type_lstrip ?_ | refine By.get_method By.slot_join By.type_join ?_ | refine By.get_method FB.slot_bytes_startswith FB.type_bytes_startswith ?_ | refine By.get_method FB.slot_bytes_endswith FB.type_bytes_endswith ?_)
  k_with "call builtin:len" => (k_here; (with_reducible show wpAny _ _ (call (Value.builtin "len") [Value.bytes (List.toArray _) _]) _ _ _); (refine By.len_B (by first | assumption | omega) ?_); intro _ _)
  k_with "subscriptTail" => (k_here; (with_reducible show wpAny _ _ (subscriptTail _ _ (Value.bytes (List.toArray _) _) (Value.int _ _)) _ _ _); (refine By.item_B (by first | assumption | omega) (by omega) (by omega) ?_); intro _ _)
  k_with "subscriptTail" => (k_here; (with_reducible show wpAny _ _ (subscriptTail _ (Expr.Slice _ _ none _) (Value.bytes (List.toArray _) _) (Value.ref _)) _ _ _); (with_reducible rename Fr _ _ _ _ => F'q); (with_reducible rename News _ _ _ _ => N'q); (refine By.slice_B (s := ⟨_, _, _, _, _⟩) F'q N'q (by constructor) (by constructor) (by first | assumption | omega) ?_); intro _ _ _ _ _)
  k_with "compareOp In int bytes" => (k_here; (with_reducible show wpAny _ _ (compareOp CmpOp.In (Value.int _ _) (Value.bytes (List.toArray _) _)) _ _ _); refine By.in_byte ?_)
  k_with "compareOp Eq bytes bytes" => (k_here; (with_reducible show wpAny _ _ (compareOp CmpOp.Eq (Value.bytes (List.toArray _) _) (Value.bytes (List.toArray _) _)) _ _ _); refine By.eq_B ?_)
  k_with "compareOp NotEq bytes bytes" => (k_here; (with_reducible show wpAny _ _ (compareOp CmpOp.NotEq (Value.bytes (List.toArray _) _) (Value.bytes (List.toArray _) _)) _ _ _); refine By.ne_B ?_)
  k_with "binaryOp Add bytes bytes" => (k_here; (with_reducible show wpAny _ _ (binaryOp Operator.Add (Value.bytes (List.toArray _) _) (Value.bytes (List.toArray _) _)) _ _ _); (refine By.add_B (by first | assumption | omega | (simp only [List.length_append, List.length_cons, List.length_nil] at *; omega)) ?_); intro _ _)
  k_with "call builtin:bytes.startswith" => (k_here; (with_reducible show wpAny _ _ (call (Value.builtin _) [Value.bytes (List.toArray _) _, Value.bytes (List.toArray _) _]) _ _ _); refine By.call_startswith ?_)
  k_with "call builtin:bytes.endswith" => (k_here; (with_reducible show wpAny _ _ (call (Value.builtin _) [Value.bytes (List.toArray _) _, Value.bytes (List.toArray _) _]) _ _ _); refine By.call_endswith ?_)
  k_with "call builtin:bytes.rstrip" => (k_here; (with_reducible show wpAny _ _ (call (Value.builtin _) [Value.bytes (List.toArray _) _, Value.bytes (List.toArray _) _]) _ _ _); (refine By.call_rstrip (by first | assumption | omega) ?_); intro _ _)
  k_with "call builtin:bytes.lstrip" => (k_here; (with_reducible show wpAny _ _ (call (Value.builtin _) [Value.bytes (List.toArray _) _, Value.bytes (List.toArray _) _]) _ _ _); (refine By.call_lstrip (by first | assumption | omega) ?_); intro _ _)
  k_with "call builtin:bytes.find" => (k_here; first | (refine By.call_find0 ?_; intro _ _) | (refine By.call_findI (by omega) (by omega) ?_; intro _ _))
  k_with "call builtin:bytes.split" => (k_here; k_dflt (refine' By.call_split ?zqk1 ?zqk2 ?zqk3 ?_; (case zqk1 => k_asm); (case zqk2 => k_asm); (case zqk3 => omega); k_whole); intro l'q vs'q h'q k'q hB'q hS'q hZ'q F'q N'q o1q; (try simp only [LCg.Off1, and_true] at o1q); (try k_sweep))
  k_with "call builtin:list.append" => (k_here; (with_reducible show wpAny _ _ (call (Value.builtin _) [Value.ref _, _]) _ _ _); k_dflt (refine' append_K ?zqk1 ?zqk2 ?zqk3 ?_ ?zqz; (case zqk1 => k_asm); (case zqk2 => k_asm); (case zqk3 => k_upd); (case zqz => (rw [PySem.sizeLine_eq]; simp only [List.size_toArray]; omega)); k_whole); intro h'q F'q N'q; (try k_sweep))
  k_with "call builtin:bytes.join" => (k_here; (with_reducible show wpAny _ _ (call (Value.builtin _) [Value.bytes (List.toArray _) _, Value.ref _]) _ _ _); k_dflt (refine By.call_join (News.isList (by k_asm) (by k_mem)) (by with_reducible assumption) (by first | assumption | omega) ?_); intro _ _)
  k_with "compareOp NotEq ref ref" => (k_here; (with_reducible show wpAny _ _ (compareOp CmpOp.NotEq (Value.ref _) (Value.ref _)) _ _ _); k_dflt (refine ne_nilK (by k_asm) (by k_mem) (by k_mem) (by ktr_units) ?_))
  k_with "compareOp Eq ref ref" => (k_here; (with_reducible show wpAny _ _ (compareOp CmpOp.Eq (Value.ref _) (Value.ref _)) _ _ _); k_dflt (refine eq_nilK (by k_asm) (by k_mem) (by k_mem) (by ktr_units) ?_))
  k_with "subscriptTail" => (k_here; (with_reducible show wpAny _ _ (subscriptTail _ _ (Value.ref _) (Value.int _ _)) _ _ _); k_dflt first | ((with_reducible show wpAny _ _ (subscriptTail _ (Expr.UnaryOp _ _ _) _ _) _ _ _); refine item_lastK (by k_asm) (by k_mem) (by with_reducible assumption) (by omega) (by omega) ?_; intro _) | (refine item_K (by k_asm) (by k_mem) (by with_reducible assumption) (by omega) (by omega) (by omega) ?_; intro _))
  k_with "call builtin:list.pop" => (k_here; (with_reducible show wpAny _ _ (call (Value.builtin _) [Value.ref _]) _ _ _); k_dflt (refine' popK ?zqF ?zqN ?zqU ?zqi ?zql ?zqz ?_; (case zqF => k_asm); (case zqN => k_asm); (case zqU => k_upd); (case zqi => with_reducible assumption); (case zql => omega); (case zqz => omega)); intro h'q t'q F'q N'q; (try k_sweep))
  k_with "subscriptTail" => (k_here; (with_reducible show wpAny _ _ (subscriptTail _ (Expr.Slice _ _ none _) (Value.ref _) (Value.ref _)) _ _ _); (with_reducible rename Fr _ _ _ _ => F'q); (with_reducible rename News _ _ _ _ => N'q); k_dflt (refine slice_L (s := ⟨_, _, _, _, _⟩) F'q N'q (by k_mem) (by with_reducible assumption) (by constructor) (by constructor) (by omega) ?_); intro l'q vs'q h'q hB'q hZ'q F'q N'q o1q; (try simp only [LCg.Off1, and_true] at o1q))
  k_with "subscriptTail Name Slice ref ref" => (k_here; (with_reducible show wpAny _ _ (subscriptTail _ (Expr.Slice _ _ none _) (Value.ref _) (Value.ref _)) _ _ _); (with_reducible rename Fr _ _ _ _ => F'q); (with_reducible rename News _ _ _ _ => N'q); k_dflt (refine slice_L (s := ⟨_, _, _, _, _⟩) F'q N'q (by k_mem) (by with_reducible assumption) (by constructor) (by constructor) (by omega) ?_); intro l'q vs'q h'q hB'q hZ'q F'q N'q o1q; (try simp only [LCg.Off1, and_true] at o1q))
  k_with "subscriptTail Call Slice ref ref" => (k_here; (with_reducible show wpAny _ _ (subscriptTail _ (Expr.Slice _ _ none _) (Value.ref _) (Value.ref _)) _ _ _); (with_reducible rename Fr _ _ _ _ => F'q); (with_reducible rename News _ _ _ _ => N'q); k_dflt (refine slice_L (s := ⟨_, _, _, _, _⟩) F'q N'q (by k_mem) (by with_reducible assumption) (by constructor) (by constructor) (by omega) ?_); intro l'q vs'q h'q hB'q hZ'q F'q N'q o1q; (try simp only [LCg.Off1, and_true] at o1q))
  k_with "call builtin:len" => (k_here; (with_reducible show wpAny _ _ (call (Value.builtin "len") [Value.ref _]) _ _ _); k_dflt (refine len_LK (by k_asm) (by k_mem) (by omega) ?_); intro _ _)
  k_with "exec While Compare cons nil" => refine Held.out ?_
  k_with "exec While BoolOp" => refine Held.out ?_
  k_with "KswEnd" => refine Held.out ?_
  k_with "exec While Name cons nil" => refine Held.out ?_
  k_with "exec While Name" => refine Held.out ?_
  k_with "WEnd" => refine Held.out ?_
  k_with "UnrEndW" => refine Held.out ?_
  k_with "call builtin:bytes.lstrip" => (k_here; (with_reducible show wpAny _ _ (call (Value.builtin _) [Value.bytes (List.toArray _) _, Value.bytes (List.toArray _) _]) _ _ _); (refine lstrip_hid (by exact Nat.le_trans (By.sl_len _ _ _) (by omega)) ?_); intro b9q hb9q _ _; (rw [sl_from_len] at hb9q); (try simp only [List.size_toArray, List.length_cons, List.length_nil, Nat.zero_add] at hb9q))
  k_with "exec If" => (k_here; refine Held.out ?_)
  k_with "JM" => refine Held.out ?_
  k_with "eval IfExp" => (k_here; refine Held.out ?_)
  k_with "my led" => first | exact fun p hp => hp | (refine List.forall_mem_cons.mpr ⟨by k_mem, ?_⟩; walk_at "my led") | (refine sub_tail ?_; walk_at "my led")
  k_with "my subs" => first | exact fun p hp => hp | (refine sub_tail ?_; walk_at "my subs")
  k_with "my df" => ((try dsimp only); (try k_fold))
  k_with "my back" => first | ((with_reducible rename RB _ _ _ _ => R9q); obtain ⟨⟨t9q, e9q⟩, e9'q⟩ := R9q; subst e9q e9'q; walk_at "my df") | ((with_reducible rename RL _ _ _ _ => R9q); obtain ⟨l9q, vs9q, k9q, e9q, hB9q, e9'q, hl9q⟩ := R9q; subst e9q e9'q; have hZ9q := hB9q.length; (try simp only [LCg.Off1, and_true] at hl9q); walk_at "my df") | ((with_reducible rename RSubj _ _ _ _ => R9q); obtain ⟨q9q, t9q, t9'q, e9q, e9'q, hl9q⟩ := R9q; subst e9q e9'q; (try simp only [LCg.Off1, and_true] at hl9q); walk_at "my df") | ((with_reducible rename RSome _ _ _ _ => R9q); obtain ⟨⟨x9q, t9q, e9q, hx9q⟩, e9'q⟩ := R9q; subst e9q e9'q; walk_at "my df") | ((with_reducible rename RTrail _ _ _ _ => R9q); rcases R9q with ⟨hT9q, e9q, e9'q⟩ | ⟨key9q, q9q, t9q, t9'q, x9q, hT9q, e9q, e9'q, hl9q⟩ <;> (subst e9q e9'q; (try simp only [LCg.Off1, and_true] at hl9q); walk_at "my df")) | ((with_reducible rename RLen _ _ _ _ => R9q); obtain ⟨l9q, xs9q, k9q, e9q, hx9q, e9'q, hl9q⟩ := R9q; subst e9q e9'q; (try simp only [LCg.Off1, and_true] at hl9q); walk_at "my df") | ((with_reducible rename RStr _ _ _ _ => R9q); obtain ⟨⟨t9q, e9q⟩, e9'q⟩ := R9q; subst e9q e9'q; walk_at "my df") | ((with_reducible rename RMark _ _ _ _ => R9q); rcases R9q with ⟨hM9q, e9q, e9'q⟩ | ⟨hM9q, q9q, o9q, e9q, e9'q, hl9q⟩ <;> (subst e9q e9'q; (try simp only [LCg.Off1, and_true] at hl9q); walk_at "my df")) | ((with_reducible rename RStp _ _ _ _ _ => R9q); obtain ⟨c9q, dx9q, o9q, p9q, e9q, e9'q, hst9q⟩ := R9q; subst e9q e9'q; walk_at "my df") | ((with_reducible rename RCom _ _ _ _ => R9q); obtain ⟨c9q, dx9q, o9q, p9q, e9q, e9'q, hC9q, hl9q, hcd9q⟩ := R9q; subst e9q e9'q; walk_at "my df")
  k_with "my side" => first | with_reducible assumption | omega | exact Nat.le_trans (By.sl_len _ _ _) (by omega) | exact IsCom.sub (by with_reducible assumption) (by walk_at "my subs") | exact fun k hk => Nat.lt_trans (By.hexCodes_lt k hk) (by decide) | exact Nat.le_trans (By.subjB_len _) (by omega)
  k_with "call ref" => (k_here; k_dflt (refine' says_use ?zqc ?zqk1 ?zqk2 ?zqk3 ?zqk4 ?zqk5 ?zqkK ?zqkd ?zqku ?_; (case zqk1 => k_asm); (case zqk2 => k_asm); (case zqk3 => k_asm); (case zqk4 => k_asm); (case zqk5 => k_asm); (case zqc => walk_at "my contract"); (case zqkK => first | exact rfl | assumption); (case zqkd => first | ktr_room | decide); (case zqku => first | ktr_units | decide); intro v9q n9q h9q tk9q F9q N9q R9q; walk_at "my back"))
  k_with "my contract" => (with_reducible apply says_cut_end) <;> walk_at "my side"
  k_with "my contract" => (with_reducible apply says_rows) <;> walk_at "my side"
  k_with "my contract" => (with_reducible apply says_lines) <;> walk_at "my side"
  k_with "my contract" => (with_reducible apply says_ended) <;> walk_at "my side"
  k_with "my contract" => (with_reducible apply says_subject) <;> walk_at "my side"
  k_with "my contract" => (with_reducible apply says_trimmed) <;> walk_at "my side"
  k_with "my contract" => (with_reducible apply says_trailer) <;> walk_at "my side"
  k_with "my contract" => (with_reducible apply says_last) <;> walk_at "my side"
  k_with "my contract" => (with_reducible apply says_trailers) <;> walk_at "my side"
  k_with "my contract" => (with_reducible apply says_hex) <;> walk_at "my side"
  k_with "my contract" => (with_reducible apply says_oct) <;> walk_at "my side"
  k_with "my contract" => (with_reducible apply says_csubj) <;> walk_at "my side"
  k_with "my contract" => (with_reducible apply says_body) <;> walk_at "my side"
  intro p loose mean mg mb dp un gd cn cs ad ccd cl outer A₀ base h₀ L m s Q E B F X N T hk hdp hu hret
  refine wpAny_call ?_
  k_dflt cell_enter
  k_steps
  refine Held.on ?_
  rename Fr _ _ _ _ => lF'
  rename News _ _ _ _ => lN'
  with_unfolding_all refine' whileD (σ := MarkS) (MarkS.led news) (fun c => [(Str.ofString "subject", Value.bytes c.1.toArray c.2.1), (Str.ofString "found", c.val), (Str.ofString "is_marked", Value.bool c.2.2.2)]) [Str.ofString "mark", Str.ofString "word", Str.ofString "sign"] (MarkS.ok a news) (fun c => if c.2.2.2 then c.1.length + 1 else 0) (fun c => MarkS.ok a news c ∧ c.2.2.2 = false) (a, t, none, true) lF' lN' ?kk ?kp ?_ ?_
  case kk => kst_all
  case kp => exact ⟨Nat.le_refl _, rfl⟩
  · clear lF' lN'
    intro c u h tk Q' hP F1 N1
    obtain ⟨b, tb, fo, mk⟩ := c
    cases mk with
    | false =>
      dsimp only [kstB] at F1
      (try k_unmd)
      (try k_fold)
      k_steps
      refine Held.on ?_
      exact WEnd.intro (b, tb, fo, false) (by assumption) (by assumption) (fun p hp => hp) (by kst_all) (by ksw_same) ⟨hP, rfl⟩
    | true =>
      have hp0 : PassOk a news b tb fo [] (b, tb, fo, false) := .start
      have hbl : b.length ≤ a.length := hP.1
      dsimp only [kstB] at F1
      (try k_unmd)
      (try k_fold)
      k_steps
      refine Held.on ?_
      rename News _ _ _ _ => N8
      rename (∀ p ∈ MarkS.led news (b, tb, fo, true), p.1 < _) => hlt8
      have hoff0 : ∀ p ∈ MarkS.led news (b, tb, fo, false), p.1 ≠ _ := fun p hp => Nat.ne_of_lt (hlt8 p hp)
      refine' jm_join (PassOk a news b tb fo [[102, 105, 120, 117, 112, 33, 32]]) (by k_asm) N8 (b, tb, fo, false) (fun p hp => hp) ?turn ?fin
      case turn =>
        have hbz : b.length ≤ 4000 := Nat.le_trans (Nat.le_trans (PassOk.len hp0) hbl) ha
        refine wpAny_If ?_
        k_steps
        all_goals refine Held.on ?_
        · with_reducible refine IfExp_ ?_
          rename Fr _ _ _ _ => F8
          rename News _ _ _ _ => N8
          cases fo with
          | none =>
            have hoffn : ∀ p ∈ news, p.1 ≠ _ := hoff0
            dsimp only [MarkS.val] at F8
            dsimp only [MarkS.led] at N8
            k_steps
            refine Held.on ?_
            rename (_ ∧ AllLt _ _) => hlt
            exact JM.hit (by k_asm) (by k_asm) (by walk_at "my led") (List.forall_mem_cons.mpr ⟨Nat.ne_of_gt hlt.1, hoffn⟩) (PassOk.hit hp0 hP (by assumption) (fun x hx => By.hit1 hx) (by decide) (by first | assumption | omega) (off1_all hlt.2))
          | some x =>
            dsimp only [MarkS.val] at F8
            dsimp only [MarkS.led] at N8
            k_steps
            refine Held.on ?_
            exact JM.hit (v1 := x.2.1) (v2 := x.2.2) (by k_asm) (by k_asm) (by walk_at "my led") hoff0 (PassOk.hit hp0 hP (by assumption) (fun x hx => By.hit1 hx) (by decide) (by first | assumption | omega) (PassOk.off hp0 hP))
        · exact JM.miss (by k_asm) (by k_asm) (by kst_all) (fun p hp => hp) hoff0 (PassOk.miss hp0 (by assumption))
      case fin =>
        intro h1 tk1 b1 t1 fo1 mk1 F1x N1x hoff1 hp1
        k_steps
        refine Held.on ?_
        refine UnrEndX (MarkS.led news (b1, t1, fo1, mk1)) (by k_asm) (by k_asm) (fun p hp => hp) hoff1 ⟨trivial, ?_⟩
        k_steps
        refine Held.on ?_
        refine' jm_join (PassOk a news b tb fo [[115, 113, 117, 97, 115, 104, 33, 32], [102, 105, 120, 117, 112, 33, 32]]) (by k_asm) (by k_asm) (b1, t1, fo1, mk1) (fun p hp => hp) ?turn ?fin
        case turn =>
          have hbz : b1.length ≤ 4000 := Nat.le_trans (Nat.le_trans (PassOk.len hp1) hbl) ha
          refine wpAny_If ?_
          k_steps
          all_goals refine Held.on ?_
          · with_reducible refine IfExp_ ?_
            rename Fr _ _ _ _ => F8
            rename News _ _ _ _ => N8
            cases fo1 with
            | none =>
              have hoffn : ∀ p ∈ news, p.1 ≠ _ := hoff1
              dsimp only [MarkS.val] at F8
              dsimp only [MarkS.led] at N8
              k_steps
              refine Held.on ?_
              rename (_ ∧ AllLt _ _) => hlt
              exact JM.hit (by k_asm) (by k_asm) (by walk_at "my led") (List.forall_mem_cons.mpr ⟨Nat.ne_of_gt hlt.1, hoffn⟩) (PassOk.hit hp1 hP (by assumption) (fun x hx => By.hit2 hx) (by decide) (by first | assumption | omega) (off1_all hlt.2))
            | some x =>
              dsimp only [MarkS.val] at F8
              dsimp only [MarkS.led] at N8
              k_steps
              refine Held.on ?_
              exact JM.hit (v1 := x.2.1) (v2 := x.2.2) (by k_asm) (by k_asm) (by walk_at "my led") hoff1 (PassOk.hit hp1 hP (by assumption) (fun x hx => By.hit2 hx) (by decide) (by first | assumption | omega) (PassOk.off hp1 hP))
          · exact JM.miss (by k_asm) (by k_asm) (by kst_all) (fun p hp => hp) hoff1 (PassOk.miss hp1 (by assumption))
        case fin =>
          intro h2 tk2 b2 t2 fo2 mk2 F2x N2x hoff2 hp2
          k_steps
          refine Held.on ?_
          refine UnrEndX (MarkS.led news (b2, t2, fo2, mk2)) (by k_asm) (by k_asm) (fun p hp => hp) hoff2 ⟨trivial, ?_⟩
          k_steps
          refine Held.on ?_
          refine' jm_join (PassOk a news b tb fo [[97, 109, 101, 110, 100, 33, 32], [115, 113, 117, 97, 115, 104, 33, 32], [102, 105, 120, 117, 112, 33, 32]]) (by k_asm) (by k_asm) (b2, t2, fo2, mk2) (fun p hp => hp) ?turn ?fin
          case turn =>
            have hbz : b2.length ≤ 4000 := Nat.le_trans (Nat.le_trans (PassOk.len hp2) hbl) ha
            refine wpAny_If ?_
            k_steps
            all_goals refine Held.on ?_
            · with_reducible refine IfExp_ ?_
              rename Fr _ _ _ _ => F8
              rename News _ _ _ _ => N8
              cases fo2 with
              | none =>
                have hoffn : ∀ p ∈ news, p.1 ≠ _ := hoff2
                dsimp only [MarkS.val] at F8
                dsimp only [MarkS.led] at N8
                k_steps
                refine Held.on ?_
                rename (_ ∧ AllLt _ _) => hlt
                exact JM.hit (by k_asm) (by k_asm) (by walk_at "my led") (List.forall_mem_cons.mpr ⟨Nat.ne_of_gt hlt.1, hoffn⟩) (PassOk.hit hp2 hP (by assumption) (fun x hx => By.hit3 hx) (by decide) (by first | assumption | omega) (off1_all hlt.2))
              | some x =>
                dsimp only [MarkS.val] at F8
                dsimp only [MarkS.led] at N8
                k_steps
                refine Held.on ?_
                exact JM.hit (v1 := x.2.1) (v2 := x.2.2) (by k_asm) (by k_asm) (by walk_at "my led") hoff2 (PassOk.hit hp2 hP (by assumption) (fun x hx => By.hit3 hx) (by decide) (by first | assumption | omega) (PassOk.off hp2 hP))
            · exact JM.miss (by k_asm) (by k_asm) (by kst_all) (fun p hp => hp) hoff2 (PassOk.miss hp2 (by assumption))
          case fin =>
            intro h3 tk3 b3 t3 fo3 mk3 F3x N3x hoff3 hp3
            k_steps
            refine Held.on ?_
            refine UnrEndX (MarkS.led news (b3, t3, fo3, mk3)) (by k_asm) (by k_asm) (fun p hp => hp) hoff3 ⟨trivial, ?_⟩
            k_steps
            refine Held.on ?_
            exact ksw_end (b3, t3, fo3, mk3) (by assumption) (by assumption) (fun p hp => hp) trivial (by kst_all) (by ksw_same) (PassOk.ok hp3 hP fun x h1 h2 h3 => By.nohit h1 h2 h3) hp3.mu
  · clear lF' lN'
    intro c u h tk hD F1 N1
    obtain ⟨b, tb, fo, mk⟩ := c
    obtain ⟨hok, hmk⟩ := hD
    dsimp only at hmk
    subst hmk
    cases fo with
    | none =>
      dsimp only [kstB, MarkS.val] at F1
      dsimp only [MarkS.led] at N1
      k_steps
      refine Held.on ?_
      with_reducible refine IfExp_ ?_
      k_steps
      exact hret _ _ _ _ (by k_asm) (cb_drop (by k_asm) (by kcf_all)) (.inl ⟨hok.2, rfl, rfl⟩)
    | some x =>
      dsimp only [kstB, MarkS.val] at F1
      dsimp only [MarkS.led] at N1
      k_steps
      refine Held.on ?_
      with_reducible refine IfExp_ ?_
      k_steps
      rename (_ ∧ AllLt _ _) => hlt
      exact hret _ _ _ _ (by k_asm) (cb_drop (by k_asm) (by kcf_all)) (.inr ⟨hok.2.1, _, _, rfl, rfl, off1_all hlt.2⟩)
end Mine
end
section
namespace Mine
set_option maxRecDepth 100000 in
set_option maxHeartbeats 1000000 in
theorem says_bare (w : World) (c : Addr) (a : List UInt8) (news : List (Addr × Obj)) (hcom : IsCom news c a) (ha : a.length ≤ 400) : Says w 242 5 [.ref c] news (RB (By.bareB a) news) := by
  unfold Says
  k_fill
  w_top off
  k_with_none
  k_with "getMethod bytes" => (k_here; first | refine By.get_method By.slot_find By.type_find ?_ | refine By.get_method By.slot_split By.type_split ?_ | refine By.get_method By.slot_rstrip By.type_rstrip ?_ | refine By.get_method By.slot_lstrip By.type_lstrip ?_ | refine By.get_method By.slot_join By.type_join ?_ | refine By.get_method FB.slot_bytes_startswith FB.type_bytes_startswith ?_ | refine By.get_method FB.slot_bytes_endswith FB.type_bytes_endswith ?_)
  k_with "call builtin:len" => (k_here; (with_reducible show wpAny _ _ (call (Value.builtin "len") [Value.bytes (List.toArray _) _]) _ _ _); (refine By.len_B (by first | assumption | omega) ?_); intro _ _)
  k_with "subscriptTail" => (k_here; (with_reducible show wpAny _ _ (subscriptTail _ _ (Value.bytes (List.toArray _) _) (Value.int _ _)) _ _ _); (refine By.item_B (by first | assumption | omega) (by omega) (by omega) ?_); intro _ _)
  k_with "subscriptTail" => (k_here; (with_reducible show wpAny _ _ (subscriptTail _ (Expr.Slice _ _ none _) (Value.bytes (List.toArray _) _) (Value.ref _)) _ _ _); (with_reducible rename Fr _ _ _ _ => F'q); (with_reducible rename News _ _ _ _ => N'q); (refine By.slice_B (s := ⟨_, _, _, _, _⟩) F'q N'q (by constructor) (by constructor) (by first | assumption | omega) ?_); intro _ _ _ _ _)
  k_with "compareOp In int bytes" => (k_here; (with_reducible show wpAny _ _ (compareOp CmpOp.In (Value.int _ _) (Value.bytes (List.toArray _) _)) _ _ _); refine By.in_byte ?_)
  k_with "compareOp Eq bytes bytes" => (k_here; (with_reducible show wpAny _ _ (compareOp CmpOp.Eq (Value.bytes (List.toArray _) _) (Value.bytes (List.toArray _) _)) _ _ _); refine By.eq_B ?_)
  k_with "compareOp NotEq bytes bytes" => (k_here; (with_reducible show wpAny _ _ (compareOp CmpOp.NotEq (Value.bytes (List.toArray _) _) (Value.bytes (List.toArray _) _)) _ _ _); refine By.ne_B ?_)
  k_with "binaryOp Add bytes bytes" => (k_here; (with_reducible show wpAny _ _ (binaryOp Operator.Add (Value.bytes (List.toArray _) _) (Value.bytes (List.toArray _) _)) _ _ _); (refine By.add_B (by first | assumption | omega | (simp only [List.length_append, List.length_cons, List.length_nil] at *; omega)) ?_); intro _ _)
  k_with "call builtin:bytes.startswith" => (k_here; (with_reducible show wpAny _ _ (call (Value.builtin _) [Value.bytes (List.toArray _) _, Value.bytes (List.toArray _) _]) _ _ _); refine By.call_startswith ?_)
  k_with "call builtin:bytes.endswith" => (k_here; (with_reducible show wpAny _ _ (call (Value.builtin _) [Value.bytes (List.toArray _) _, Value.bytes (List.toArray _) _]) _ _ _); refine By.call_endswith ?_)
  k_with "call builtin:bytes.rstrip" => (k_here; (with_reducible show wpAny _ _ (call (Value.builtin _) [Value.bytes (List.toArray _) _, Value.bytes (List.toArray _) _]) _ _ _); (refine By.call_rstrip (by first | assumption | omega) ?_); intro _ _)
  k_with "call builtin:bytes.lstrip" => (k_here; (with_reducible show wpAny _ _ (call (Value.builtin _) [Value.bytes (List.toArray _) _, Value.bytes (List.toArray _) _]) _ _ _); (refine By.call_lstrip (by first | assumption | omega) ?_); intro _ _)
  k_with "call builtin:bytes.find" => (k_here; first | (refine By.call_find0 ?_; intro _ _) | (refine By.call_findI (by omega) (by omega) ?_; intro _ _))
  k_with "call builtin:bytes.split" => (k_here; k_dflt (refine' By.call_split ?zqk1 ?zqk2 ?zqk3 ?_; (case zqk1 => k_asm); (case zqk2 => k_asm); (case zqk3 => omega); k_whole); intro l'q vs'q h'q k'q hB'q hS'q hZ'q F'q N'q o1q; (try simp only [LCg.Off1, and_true] at o1q); (try k_sweep))
  k_with "call builtin:list.append" => (k_here; (with_reducible show wpAny _ _ (call (Value.builtin _) [Value.ref _, _]) _ _ _); k_dflt (refine' append_K ?zqk1 ?zqk2 ?zqk3 ?_ ?zqz; (case zqk1 => k_asm); (case zqk2 => k_asm); (case zqk3 => k_upd); (case zqz => (rw [PySem.sizeLine_eq]; simp only [List.size_toArray]; omega)); k_whole); intro h'q F'q N'q; (try k_sweep))
  k_with "call builtin:bytes.join" => (k_here; (with_reducible show wpAny _ _ (call (Value.builtin _) [Value.bytes (List.toArray _) _, Value.ref _]) _ _ _); k_dflt (refine By.call_join (News.isList (by k_asm) (by k_mem)) (by with_reducible assumption) (by first | assumption | omega) ?_); intro _ _)
  k_with "compareOp NotEq ref ref" => (k_here; (with_reducible show wpAny _ _ (compareOp CmpOp.NotEq (Value.ref _) (Value.ref _)) _ _ _); k_dflt (refine ne_nilK (by k_asm) (by k_mem) (by k_mem) (by ktr_units) ?_))
  k_with "compareOp Eq ref ref" => (k_here; (with_reducible show wpAny _ _ (compareOp CmpOp.Eq (Value.ref _) (Value.ref _)) _ _ _); k_dflt (refine eq_nilK (by k_asm) (by k_mem) (by k_mem) (by ktr_units) ?_))
  k_with "subscriptTail" => (k_here; (with_reducible show wpAny _ _ (subscriptTail _ _ (Value.ref _) (Value.int _ _)) _ _ _); k_dflt first | ((with_reducible show wpAny _ _ (subscriptTail _ (Expr.UnaryOp _ _ _) _ _) _ _ _); refine item_lastK (by k_asm) (by k_mem) (by with_reducible assumption) (by omega) (by omega) ?_; intro _) | (refine item_K (by k_asm) (by k_mem) (by with_reducible assumption) (by omega) (by omega) (by omega) ?_; intro _))
  k_with "call builtin:list.pop" => (k_here; (with_reducible show wpAny _ _ (call (Value.builtin _) [Value.ref _]) _ _ _); k_dflt (refine' popK ?zqF ?zqN ?zqU ?zqi ?zql ?zqz ?_; (case zqF => k_asm); (case zqN => k_asm); (case zqU => k_upd); (case zqi => with_reducible assumption); (case zql => omega); (case zqz => omega)); intro h'q t'q F'q N'q; (try k_sweep))
  k_with "subscriptTail" => (k_here; (with_reducible show wpAny _ _ (subscriptTail _ (Expr.Slice _ _ none _) (Value.ref _) (Value.ref _)) _ _ _); (with_reducible rename Fr _ _ _ _ => F'q); (with_reducible rename News _ _ _ _ => N'q); k_dflt (refine slice_L (s := ⟨_, _, _, _, _⟩) F'q N'q (by k_mem) (by with_reducible assumption) (by constructor) (by constructor) (by omega) ?_); intro l'q vs'q h'q hB'q hZ'q F'q N'q o1q; (try simp only [LCg.Off1, and_true] at o1q))
  k_with "subscriptTail Name Slice ref ref" => (k_here; (with_reducible show wpAny _ _ (subscriptTail _ (Expr.Slice _ _ none _) (Value.ref _) (Value.ref _)) _ _ _); (with_reducible rename Fr _ _ _ _ => F'q); (with_reducible rename News _ _ _ _ => N'q); k_dflt (refine slice_L (s := ⟨_, _, _, _, _⟩) F'q N'q (by k_mem) (by with_reducible assumption) (by constructor) (by constructor) (by omega) ?_); intro l'q vs'q h'q hB'q hZ'q F'q N'q o1q; (try simp only [LCg.Off1, and_true] at o1q))
  k_with "subscriptTail Call Slice ref ref" => (k_here; (with_reducible show wpAny _ _ (subscriptTail _ (Expr.Slice _ _ none _) (Value.ref _) (Value.ref _)) _ _ _); (with_reducible rename Fr _ _ _ _ => F'q); (with_reducible rename News _ _ _ _ => N'q); k_dflt (refine slice_L (s := ⟨_, _, _, _, _⟩) F'q N'q (by k_mem) (by with_reducible assumption) (by constructor) (by constructor) (by omega) ?_); intro l'q vs'q h'q hB'q hZ'q F'q N'q o1q; (try simp only [LCg.Off1, and_true] at o1q))
  k_with "call builtin:len" => (k_here; (with_reducible show wpAny _ _ (call (Value.builtin "len") [Value.ref _]) _ _ _); k_dflt (refine len_LK (by k_asm) (by k_mem) (by omega) ?_); intro _ _)
  k_with "exec While Compare cons nil" => refine Held.out ?_
  k_with "exec While BoolOp" => refine Held.out ?_
  k_with "KswEnd" => refine Held.out ?_
  k_with "getAttr ref" => (k_here; (with_reducible show wpAny _ _ (getAttr (Value.ref _) (Str.ofString "message") _) _ _ _); k_dflt (refine com_msg _ (by k_asm) (by k_in) (by k_asm) (IsCom.sub (by with_reducible assumption) (by walk_at "my k_subs")) ?_); intro _ _)
  k_with "getMethod ref" => (k_here; (with_reducible show wpAny _ _ (getMethod (Value.ref _) (Str.ofString "subject") _) _ _ _); k_dflt (refine' com_subj _ ?zqkF ?zqkX ?zqkN ?zqkC ?_; (case zqkF => k_asm); (case zqkN => k_asm); (case zqkX => k_in); (case zqkC => exact IsCom.sub (by with_reducible assumption) (by walk_at "my k_subs")); k_whole); (try dsimp only [List.nil_append, List.cons_append, List.append_nil]))
  k_with "call ref" => ((with_reducible show wpAny _ _ (call _ (_ ++ [])) _ _ _); dsimp only [List.nil_append, List.cons_append, List.append_nil])
  k_with "my subs" => first | exact fun p hp => hp | (refine sub_tail ?_; walk_at "my subs")
  k_with "my df" => ((try dsimp only); (try k_fold))
  k_with "my back" => first | ((with_reducible rename RB _ _ _ _ => R9q); obtain ⟨⟨t9q, e9q⟩, e9'q⟩ := R9q; subst e9q e9'q; walk_at "my df") | ((with_reducible rename RL _ _ _ _ => R9q); obtain ⟨l9q, vs9q, k9q, e9q, hB9q, e9'q, hl9q⟩ := R9q; subst e9q e9'q; have hZ9q := hB9q.length; (try simp only [LCg.Off1, and_true] at hl9q); walk_at "my df") | ((with_reducible rename RSubj _ _ _ _ => R9q); obtain ⟨q9q, t9q, t9'q, e9q, e9'q, hl9q⟩ := R9q; subst e9q e9'q; (try simp only [LCg.Off1, and_true] at hl9q); walk_at "my df") | ((with_reducible rename RSome _ _ _ _ => R9q); obtain ⟨⟨x9q, t9q, e9q, hx9q⟩, e9'q⟩ := R9q; subst e9q e9'q; walk_at "my df") | ((with_reducible rename RTrail _ _ _ _ => R9q); rcases R9q with ⟨hT9q, e9q, e9'q⟩ | ⟨key9q, q9q, t9q, t9'q, x9q, hT9q, e9q, e9'q, hl9q⟩ <;> (subst e9q e9'q; (try simp only [LCg.Off1, and_true] at hl9q); walk_at "my df")) | ((with_reducible rename RLen _ _ _ _ => R9q); obtain ⟨l9q, xs9q, k9q, e9q, hx9q, e9'q, hl9q⟩ := R9q; subst e9q e9'q; (try simp only [LCg.Off1, and_true] at hl9q); walk_at "my df") | ((with_reducible rename RStr _ _ _ _ => R9q); obtain ⟨⟨t9q, e9q⟩, e9'q⟩ := R9q; subst e9q e9'q; walk_at "my df") | ((with_reducible rename RMark _ _ _ _ => R9q); rcases R9q with ⟨hM9q, e9q, e9'q⟩ | ⟨hM9q, q9q, o9q, e9q, e9'q, hl9q⟩ <;> (subst e9q e9'q; (try simp only [LCg.Off1, and_true] at hl9q); walk_at "my df")) | ((with_reducible rename RStp _ _ _ _ _ => R9q); obtain ⟨c9q, dx9q, o9q, p9q, e9q, e9'q, hst9q⟩ := R9q; subst e9q e9'q; walk_at "my df") | ((with_reducible rename RCom _ _ _ _ => R9q); obtain ⟨c9q, dx9q, o9q, p9q, e9q, e9'q, hC9q, hl9q, hcd9q⟩ := R9q; subst e9q e9'q; walk_at "my df")
  k_with "my side" => first | with_reducible assumption | omega | exact Nat.le_trans (By.sl_len _ _ _) (by omega) | exact IsCom.sub (by with_reducible assumption) (by walk_at "my subs") | exact fun k hk => Nat.lt_trans (By.hexCodes_lt k hk) (by decide) | exact Nat.le_trans (By.subjB_len _) (by omega)
  k_with "call ref" => (k_here; k_dflt (refine' says_use ?zqc ?zqk1 ?zqk2 ?zqk3 ?zqk4 ?zqk5 ?zqkK ?zqkd ?zqku ?_; (case zqk1 => k_asm); (case zqk2 => k_asm); (case zqk3 => k_asm); (case zqk4 => k_asm); (case zqk5 => k_asm); (case zqc => walk_at "my contract"); (case zqkK => first | exact rfl | assumption); (case zqkd => first | ktr_room | decide); (case zqku => first | ktr_units | decide); intro v9q n9q h9q tk9q F9q N9q R9q; walk_at "my back"))
  k_with "my contract" => (with_reducible apply says_cut_end) <;> walk_at "my side"
  k_with "my contract" => (with_reducible apply says_rows) <;> walk_at "my side"
  k_with "my contract" => (with_reducible apply says_lines) <;> walk_at "my side"
  k_with "my contract" => (with_reducible apply says_ended) <;> walk_at "my side"
  k_with "my contract" => (with_reducible apply says_subject) <;> walk_at "my side"
  k_with "my contract" => (with_reducible apply says_trimmed) <;> walk_at "my side"
  k_with "my contract" => (with_reducible apply says_trailer) <;> walk_at "my side"
  k_with "my contract" => (with_reducible apply says_last) <;> walk_at "my side"
  k_with "my contract" => (with_reducible apply says_trailers) <;> walk_at "my side"
  k_with "my contract" => (with_reducible apply says_hex) <;> walk_at "my side"
  k_with "my contract" => (with_reducible apply says_oct) <;> walk_at "my side"
  k_with "my contract" => (with_reducible apply says_csubj) <;> walk_at "my side"
  k_with "my contract" => (with_reducible apply says_body) <;> walk_at "my side"
  k_with "my contract" => (with_reducible apply says_mark) <;> walk_at "my side"
  intro p loose mean mg mb dp un gd cn cs ad ccd cl outer A₀ base h₀ L m s Q E B F X N T hk hdp hu hret
  have hbod := By.bodyB_len a
  refine wpAny_call ?_
  k_dflt cell_enter
  k_steps
  all_goals (rename By.marked _ = _ => hM)
  all_goals first
    | (have hE := By.bare_yes hM; exact hret _ _ _ _ (by k_asm) (cb_drop (by k_asm) (by kcf_all)) (RB.of hE))
    | (have hE := By.bare_no hM; exact hret _ _ _ _ (by k_asm) (cb_drop (by k_asm) (by kcf_all)) (RB.of hE))
end Mine
end
section
namespace Mine
set_option maxRecDepth 100000 in
set_option maxHeartbeats 1000000 in
theorem says_rev (w : World) (c : Addr) (a oid : List UInt8) (to : Tok) (v : Value) (pr : Option (List UInt8)) (news : List (Addr × Obj)) (hcom : IsCom news c a) (ha : a.length ≤ 400) (ho : oid.length ≤ 64) (hpv : ParV v pr) : Says w 235 5 [.ref c, .bytes oid.toArray to, v] news (RB (By.revB (By.subjB (By.rowsB a)) oid pr) news) := by
  unfold Says
  k_fill
  w_top off
  k_with_none
  k_with "getMethod bytes" => (k_here; first | refine By.get_method By.slot_find By.type_find ?_ | refine By.get_method By.slot_split By.type_split ?_ | refine By.get_method By.slot_rstrip By.type_rstrip ?_ | refine By.get_method By.slot_lstrip By.type_lstrip ?_ | refine By.get_method By.slot_join By.type_join ?_ | refine By.get_method FB.slot_bytes_startswith FB.type_bytes_startswith ?_ | refine By.get_method FB.slot_bytes_endswith FB.type_bytes_endswith ?_)
  k_with "call builtin:len" => (k_here; (with_reducible show wpAny _ _ (call (Value.builtin "len") [Value.bytes (List.toArray _) _]) _ _ _); (refine By.len_B (by first | assumption | omega) ?_); intro _ _)
  k_with "subscriptTail" => (k_here; (with_reducible show wpAny _ _ (subscriptTail _ _ (Value.bytes (List.toArray _) _) (Value.int _ _)) _ _ _); (refine By.item_B (by first | assumption | omega) (by omega) (by omega) ?_); intro _ _)
  k_with "subscriptTail" => (k_here; (with_reducible show wpAny _ _ (subscriptTail _ (Expr.Slice _ _ none _) (Value.bytes (List.toArray _) _) (Value.ref _)) _ _ _); (with_reducible rename Fr _ _ _ _ => F'q); (with_reducible rename News _ _ _ _ => N'q); (refine By.slice_B (s := ⟨_, _, _, _, _⟩) F'q N'q (by constructor) (by constructor) (by first | assumption | omega) ?_); intro _ _ _ _ _)
  k_with "compareOp In int bytes" => (k_here; (with_reducible show wpAny _ _ (compareOp CmpOp.In (Value.int _ _) (Value.bytes (List.toArray _) _)) _ _ _); refine By.in_byte ?_)
  k_with "compareOp Eq bytes bytes" => (k_here; (with_reducible show wpAny _ _ (compareOp CmpOp.Eq (Value.bytes (List.toArray _) _) (Value.bytes (List.toArray _) _)) _ _ _); refine By.eq_B ?_)
  k_with "compareOp NotEq bytes bytes" => (k_here; (with_reducible show wpAny _ _ (compareOp CmpOp.NotEq (Value.bytes (List.toArray _) _) (Value.bytes (List.toArray _) _)) _ _ _); refine By.ne_B ?_)
  k_with "binaryOp Add bytes bytes" => (k_here; (with_reducible show wpAny _ _ (binaryOp Operator.Add (Value.bytes (List.toArray _) _) (Value.bytes (List.toArray _) _)) _ _ _); (refine By.add_B (by first | assumption | omega | (simp only [List.length_append, List.length_cons, List.length_nil] at *; omega)) ?_); intro _ _)
  k_with "call builtin:bytes.startswith" => (k_here; (with_reducible show wpAny _ _ (call (Value.builtin _) [Value.bytes (List.toArray _) _, Value.bytes (List.toArray _) _]) _ _ _); refine By.call_startswith ?_)
  k_with "call builtin:bytes.endswith" => (k_here; (with_reducible show wpAny _ _ (call (Value.builtin _) [Value.bytes (List.toArray _) _, Value.bytes (List.toArray _) _]) _ _ _); refine By.call_endswith ?_)
  k_with "call builtin:bytes.rstrip" => (k_here; (with_reducible show wpAny _ _ (call (Value.builtin _) [Value.bytes (List.toArray _) _, Value.bytes (List.toArray _) _]) _ _ _); (refine By.call_rstrip (by first | assumption | omega) ?_); intro _ _)
  k_with "call builtin:bytes.lstrip" => (k_here; (with_reducible show wpAny _ _ (call (Value.builtin _) [Value.bytes (List.toArray _) _, Value.bytes (List.toArray _) _]) _ _ _); (refine By.call_lstrip (by first | assumption | omega) ?_); intro _ _)
  k_with "call builtin:bytes.find" => (k_here; first | (refine By.call_find0 ?_; intro _ _) | (refine By.call_findI (by omega) (by omega) ?_; intro _ _))
  k_with "call builtin:bytes.split" => (k_here; k_dflt (refine' By.call_split ?zqk1 ?zqk2 ?zqk3 ?_; (case zqk1 => k_asm); (case zqk2 => k_asm); (case zqk3 => omega); k_whole); intro l'q vs'q h'q k'q hB'q hS'q hZ'q F'q N'q o1q; (try simp only [LCg.Off1, and_true] at o1q); (try k_sweep))
  k_with "call builtin:list.append" => (k_here; (with_reducible show wpAny _ _ (call (Value.builtin _) [Value.ref _, _]) _ _ _); k_dflt (refine' append_K ?zqk1 ?zqk2 ?zqk3 ?_ ?zqz; (case zqk1 => k_asm); (case zqk2 => k_asm); (case zqk3 => k_upd); (case zqz => (rw [PySem.sizeLine_eq]; simp only [List.size_toArray]; omega)); k_whole); intro h'q F'q N'q; (try k_sweep))
  k_with "call builtin:bytes.join" => (k_here; (with_reducible show wpAny _ _ (call (Value.builtin _) [Value.bytes (List.toArray _) _, Value.ref _]) _ _ _); k_dflt (refine By.call_join (News.isList (by k_asm) (by k_mem)) (by with_reducible assumption) (by first | assumption | omega) ?_); intro _ _)
  k_with "compareOp NotEq ref ref" => (k_here; (with_reducible show wpAny _ _ (compareOp CmpOp.NotEq (Value.ref _) (Value.ref _)) _ _ _); k_dflt (refine ne_nilK (by k_asm) (by k_mem) (by k_mem) (by ktr_units) ?_))
  k_with "compareOp Eq ref ref" => (k_here; (with_reducible show wpAny _ _ (compareOp CmpOp.Eq (Value.ref _) (Value.ref _)) _ _ _); k_dflt (refine eq_nilK (by k_asm) (by k_mem) (by k_mem) (by ktr_units) ?_))
  k_with "subscriptTail" => (k_here; (with_reducible show wpAny _ _ (subscriptTail _ _ (Value.ref _) (Value.int _ _)) _ _ _); k_dflt first | ((with_reducible show wpAny _ _ (subscriptTail _ (Expr.UnaryOp _ _ _) _ _) _ _ _); refine item_lastK (by k_asm) (by k_mem) (by with_reducible assumption) (by omega) (by omega) ?_; intro _) | (refine item_K (by k_asm) (by k_mem) (by with_reducible assumption) (by omega) (by omega) (by omega) ?_; intro _))
  k_with "call builtin:list.pop" => (k_here; (with_reducible show wpAny _ _ (call (Value.builtin _) [Value.ref _]) _ _ _); k_dflt (refine' popK ?zqF ?zqN ?zqU ?zqi ?zql ?zqz ?_; (case zqF => k_asm); (case zqN => k_asm); (case zqU => k_upd); (case zqi => with_reducible assumption); (case zql => omega); (case zqz => omega)); intro h'q t'q F'q N'q; (try k_sweep))
  k_with "subscriptTail" => (k_here; (with_reducible show wpAny _ _ (subscriptTail _ (Expr.Slice _ _ none _) (Value.ref _) (Value.ref _)) _ _ _); (with_reducible rename Fr _ _ _ _ => F'q); (with_reducible rename News _ _ _ _ => N'q); k_dflt (refine slice_L (s := ⟨_, _, _, _, _⟩) F'q N'q (by k_mem) (by with_reducible assumption) (by constructor) (by constructor) (by omega) ?_); intro l'q vs'q h'q hB'q hZ'q F'q N'q o1q; (try simp only [LCg.Off1, and_true] at o1q))
  k_with "subscriptTail Name Slice ref ref" => (k_here; (with_reducible show wpAny _ _ (subscriptTail _ (Expr.Slice _ _ none _) (Value.ref _) (Value.ref _)) _ _ _); (with_reducible rename Fr _ _ _ _ => F'q); (with_reducible rename News _ _ _ _ => N'q); k_dflt (refine slice_L (s := ⟨_, _, _, _, _⟩) F'q N'q (by k_mem) (by with_reducible assumption) (by constructor) (by constructor) (by omega) ?_); intro l'q vs'q h'q hB'q hZ'q F'q N'q o1q; (try simp only [LCg.Off1, and_true] at o1q))
  k_with "subscriptTail Call Slice ref ref" => (k_here; (with_reducible show wpAny _ _ (subscriptTail _ (Expr.Slice _ _ none _) (Value.ref _) (Value.ref _)) _ _ _); (with_reducible rename Fr _ _ _ _ => F'q); (with_reducible rename News _ _ _ _ => N'q); k_dflt (refine slice_L (s := ⟨_, _, _, _, _⟩) F'q N'q (by k_mem) (by with_reducible assumption) (by constructor) (by constructor) (by omega) ?_); intro l'q vs'q h'q hB'q hZ'q F'q N'q o1q; (try simp only [LCg.Off1, and_true] at o1q))
  k_with "call builtin:len" => (k_here; (with_reducible show wpAny _ _ (call (Value.builtin "len") [Value.ref _]) _ _ _); k_dflt (refine len_LK (by k_asm) (by k_mem) (by omega) ?_); intro _ _)
  k_with "exec While Compare cons nil" => refine Held.out ?_
  k_with "exec While BoolOp" => refine Held.out ?_
  k_with "KswEnd" => refine Held.out ?_
  k_with "getAttr ref" => (k_here; (with_reducible show wpAny _ _ (getAttr (Value.ref _) (Str.ofString "message") _) _ _ _); k_dflt (refine com_msg _ (by k_asm) (by k_in) (by k_asm) (IsCom.sub (by with_reducible assumption) (by walk_at "my k_subs")) ?_); intro _ _)
  k_with "getMethod ref" => (k_here; (with_reducible show wpAny _ _ (getMethod (Value.ref _) (Str.ofString "subject") _) _ _ _); k_dflt (refine' com_subj _ ?zqkF ?zqkX ?zqkN ?zqkC ?_; (case zqkF => k_asm); (case zqkN => k_asm); (case zqkX => k_in); (case zqkC => exact IsCom.sub (by with_reducible assumption) (by walk_at "my k_subs")); k_whole); (try dsimp only [List.nil_append, List.cons_append, List.append_nil]))
  k_with "call ref" => ((with_reducible show wpAny _ _ (call _ (_ ++ [])) _ _ _); dsimp only [List.nil_append, List.cons_append, List.append_nil])
  k_with "my by_len" => first | omega | (simp only [List.length_append, List.length_cons, List.length_nil, List.length_map, By.hexCodes_len, sl_from_len]; omega)
  k_with "binaryOp Add bytes bytes" => (k_here; (with_reducible show wpAny _ _ (binaryOp Operator.Add (Value.bytes (List.toArray _) _) (Value.bytes (List.toArray _) _)) _ _ _); (refine By.add_B (by walk_at "my by_len") ?_); intro _ _)
  k_with "exec If" => (k_here; refine Held.out ?_)
  k_with "JB" => refine Held.out ?_
  k_with "JV" => refine Held.out ?_
  k_with "my subs" => first | exact fun p hp => hp | (refine sub_tail ?_; walk_at "my subs")
  k_with "my df" => ((try dsimp only); (try k_fold))
  k_with "my back" => first | ((with_reducible rename RB _ _ _ _ => R9q); obtain ⟨⟨t9q, e9q⟩, e9'q⟩ := R9q; subst e9q e9'q; walk_at "my df") | ((with_reducible rename RL _ _ _ _ => R9q); obtain ⟨l9q, vs9q, k9q, e9q, hB9q, e9'q, hl9q⟩ := R9q; subst e9q e9'q; have hZ9q := hB9q.length; (try simp only [LCg.Off1, and_true] at hl9q); walk_at "my df") | ((with_reducible rename RSubj _ _ _ _ => R9q); obtain ⟨q9q, t9q, t9'q, e9q, e9'q, hl9q⟩ := R9q; subst e9q e9'q; (try simp only [LCg.Off1, and_true] at hl9q); walk_at "my df") | ((with_reducible rename RSome _ _ _ _ => R9q); obtain ⟨⟨x9q, t9q, e9q, hx9q⟩, e9'q⟩ := R9q; subst e9q e9'q; walk_at "my df") | ((with_reducible rename RTrail _ _ _ _ => R9q); rcases R9q with ⟨hT9q, e9q, e9'q⟩ | ⟨key9q, q9q, t9q, t9'q, x9q, hT9q, e9q, e9'q, hl9q⟩ <;> (subst e9q e9'q; (try simp only [LCg.Off1, and_true] at hl9q); walk_at "my df")) | ((with_reducible rename RLen _ _ _ _ => R9q); obtain ⟨l9q, xs9q, k9q, e9q, hx9q, e9'q, hl9q⟩ := R9q; subst e9q e9'q; (try simp only [LCg.Off1, and_true] at hl9q); walk_at "my df") | ((with_reducible rename RStr _ _ _ _ => R9q); obtain ⟨⟨t9q, e9q⟩, e9'q⟩ := R9q; subst e9q e9'q; walk_at "my df") | ((with_reducible rename RMark _ _ _ _ => R9q); rcases R9q with ⟨hM9q, e9q, e9'q⟩ | ⟨hM9q, q9q, o9q, e9q, e9'q, hl9q⟩ <;> (subst e9q e9'q; (try simp only [LCg.Off1, and_true] at hl9q); walk_at "my df")) | ((with_reducible rename RStp _ _ _ _ _ => R9q); obtain ⟨c9q, dx9q, o9q, p9q, e9q, e9'q, hst9q⟩ := R9q; subst e9q e9'q; walk_at "my df") | ((with_reducible rename RCom _ _ _ _ => R9q); obtain ⟨c9q, dx9q, o9q, p9q, e9q, e9'q, hC9q, hl9q, hcd9q⟩ := R9q; subst e9q e9'q; walk_at "my df")
  k_with "my side" => first | with_reducible assumption | omega | exact Nat.le_trans (By.sl_len _ _ _) (by omega) | exact IsCom.sub (by with_reducible assumption) (by walk_at "my subs") | exact fun k hk => Nat.lt_trans (By.hexCodes_lt k hk) (by decide) | exact Nat.le_trans (By.subjB_len _) (by omega)
  k_with "call ref" => (k_here; k_dflt (refine' says_use ?zqc ?zqk1 ?zqk2 ?zqk3 ?zqk4 ?zqk5 ?zqkK ?zqkd ?zqku ?_; (case zqk1 => k_asm); (case zqk2 => k_asm); (case zqk3 => k_asm); (case zqk4 => k_asm); (case zqk5 => k_asm); (case zqc => walk_at "my contract"); (case zqkK => first | exact rfl | assumption); (case zqkd => first | ktr_room | decide); (case zqku => first | ktr_units | decide); intro v9q n9q h9q tk9q F9q N9q R9q; walk_at "my back"))
  k_with "my contract" => (with_reducible apply says_cut_end) <;> walk_at "my side"
  k_with "my contract" => (with_reducible apply says_rows) <;> walk_at "my side"
  k_with "my contract" => (with_reducible apply says_lines) <;> walk_at "my side"
  k_with "my contract" => (with_reducible apply says_ended) <;> walk_at "my side"
  k_with "my contract" => (with_reducible apply says_subject) <;> walk_at "my side"
  k_with "my contract" => (with_reducible apply says_trimmed) <;> walk_at "my side"
  k_with "my contract" => (with_reducible apply says_trailer) <;> walk_at "my side"
  k_with "my contract" => (with_reducible apply says_last) <;> walk_at "my side"
  k_with "my contract" => (with_reducible apply says_trailers) <;> walk_at "my side"
  k_with "my contract" => (with_reducible apply says_hex) <;> walk_at "my side"
  k_with "my contract" => (with_reducible apply says_oct) <;> walk_at "my side"
  k_with "my contract" => (with_reducible apply says_csubj) <;> walk_at "my side"
  k_with "my contract" => (with_reducible apply says_body) <;> walk_at "my side"
  k_with "my contract" => (with_reducible apply says_mark) <;> walk_at "my side"
  k_with "my contract" => (with_reducible apply says_bare) <;> walk_at "my side"
  intro p loose mean mg mb dp un gd cn cs ad ccd cl outer A₀ base h₀ L m s Q E B F X N T hk hdp hu hret
  have hsub := By.subjB_len a
  have hhex := By.hexCodes_len oid
  refine wpAny_call ?_
  k_dflt cell_enter
  k_steps
  refine Held.on ?_
  refine' jb_join (Str.ofString "head") (By.revH (By.subjB (By.rowsB a))) (by k_asm) (by k_asm) ?turn ?fin
  case turn =>
    refine wpAny_If ?_
    k_steps
    all_goals refine Held.on ?_
    all_goals first
      | exact JB.of (By.rev_n1 (by assumption)) (by k_asm) (by k_asm)
      | exact JB.of (By.rev_n2 (by assumption)) (by k_asm) (by k_asm)
      | exact JB.of (By.rev_n3 (by assumption)) (by k_asm) (by k_asm)
      | exact JB.of (By.rev_y (by assumption) (by assumption) (by assumption)) (by k_asm) (by k_asm)
  case fin =>
    intro h1 tk1 th1 F1 N1
    have hhd := By.revH_len (By.subjB (By.rowsB a))
    k_steps
    refine Held.on ?_
    refine wpAny_If ?_
    cases hpv with
    | none =>
      k_steps
      exact hret _ _ _ _ (by k_asm) (cb_drop (by k_asm) (by kcf_all)) (RB.of rfl)
    | @some pa tp hpa =>
      have hhex2 := By.hexCodes_len pa
      k_steps
      exact hret _ _ _ _ (by k_asm) (cb_drop (by k_asm) (by kcf_all)) (RB.of rfl)
end Mine
end
section
namespace Mine
set_option maxRecDepth 100000 in
set_option maxHeartbeats 1000000 in
theorem says_pick (w : World) (c : Addr) (a oid : List UInt8) (to : Tok) (news : List (Addr × Obj)) (hcom : IsCom news c a) (ha : a.length ≤ 400) (ho : oid.length ≤ 64) (hlead : ∀ r ∈ By.lastPart (By.tcut (By.rowsB a)), By.lead r = false) : Says w 228 5 [.ref c, .bytes oid.toArray to] news (RB (By.pickB a oid) news) := by
  unfold Says
  k_fill
  w_top off
  k_with_none
  k_with "getMethod bytes" => (k_here; first | refine By.get_method By.slot_find By.type_find ?_ | refine By.get_method By.slot_split By.type_split ?_ | refine By.get_method By.slot_rstrip By.type_rstrip ?_ | refine By.get_method By.slot_lstrip By.type_lstrip ?_ | refine By.get_method By.slot_join By.type_join ?_ | refine By.get_method FB.slot_bytes_startswith FB.type_bytes_startswith ?_ | refine By.get_method FB.slot_bytes_endswith FB.type_bytes_endswith ?_)
  k_with "call builtin:len" => (k_here; (with_reducible show wpAny _ _ (call (Value.builtin "len") [Value.bytes (List.toArray _) _]) _ _ _); (refine By.len_B (by first | assumption | omega) ?_); intro _ _)
  k_with "subscriptTail" => (k_here; (with_reducible show wpAny _ _ (subscriptTail _ _ (Value.bytes (List.toArray _) _) (Value.int _ _)) _ _ _); (refine By.item_B (by first | assumption | omega) (by omega) (by omega) ?_); intro _ _)
  k_with "subscriptTail" => (k_here; (with_reducible show wpAny _ _ (subscriptTail _ (Expr.Slice _ _ none _) (Value.bytes (List.toArray _) _) (Value.ref _)) _ _ _); (with_reducible rename Fr _ _ _ _ => F'q); (with_reducible rename News _ _ _ _ => N'q); (refine By.slice_B (s := ⟨_, _, _, _, _⟩) F'q N'q (by constructor) (by constructor) (by first | assumption | omega) ?_); intro _ _ _ _ _)
  k_with "compareOp In int bytes" => (k_here; (with_reducible show wpAny _ _ (compareOp CmpOp.In (Value.int _ _) (Value.bytes (List.toArray _) _)) _ _ _); refine By.in_byte ?_)
  k_with "compareOp Eq bytes bytes" => (k_here; (with_reducible show wpAny _ _ (compareOp CmpOp.Eq (Value.bytes (List.toArray _) _) (Value.bytes (List.toArray _) _)) _ _ _); refine By.eq_B ?_)
  k_with "compareOp NotEq bytes bytes" => (k_here; (with_reducible show wpAny _ _ (compareOp CmpOp.NotEq (Value.bytes (List.toArray _) _) (Value.bytes (List.toArray _) _)) _ _ _); refine By.ne_B ?_)
  k_with "binaryOp Add bytes bytes" => (k_here; (with_reducible show wpAny _ _ (binaryOp Operator.Add (Value.bytes (List.toArray _) _) (Value.bytes (List.toArray _) _)) _ _ _); (refine By.add_B (by first | assumption | omega | (simp only [List.length_append, List.length_cons, List.length_nil] at *; omega)) ?_); intro _ _)
  k_with "call builtin:bytes.startswith" => (k_here; (with_reducible show wpAny _ _ (call (Value.builtin _) [Value.bytes (List.toArray _) _, Value.bytes (List.toArray _) _]) _ _ _); refine By.call_startswith ?_)
  k_with "call builtin:bytes.endswith" => (k_here; (with_reducible show wpAny _ _ (call (Value.builtin _) [Value.bytes (List.toArray _) _, Value.bytes (List.toArray _) _]) _ _ _); refine By.call_endswith ?_)
  k_with "call builtin:bytes.rstrip" => (k_here; (with_reducible show wpAny _ _ (call (Value.builtin _) [Value.bytes (List.toArray _) _, Value.bytes (List.toArray _) _]) _ _ _); (refine By.call_rstrip (by first | assumption | omega) ?_); intro _ _)
  k_with "call builtin:bytes.lstrip" => (k_here; (with_reducible show wpAny _ _ (call (Value.builtin _) [Value.bytes (List.toArray _) _, Value.bytes (List.toArray _) _]) _ _ _); (refine By.call_lstrip (by first | assumption | omega) ?_); intro _ _)
  k_with "call builtin:bytes.find" => (k_here; first | (refine By.call_find0 ?_; intro _ _) | (refine By.call_findI (by omega) (by omega) ?_; intro _ _))
  k_with "call builtin:bytes.split" => (k_here; k_dflt (refine' By.call_split ?zqk1 ?zqk2 ?zqk3 ?_; (case zqk1 => k_asm); (case zqk2 => k_asm); (case zqk3 => omega); k_whole); intro l'q vs'q h'q k'q hB'q hS'q hZ'q F'q N'q o1q; (try simp only [LCg.Off1, and_true] at o1q); (try k_sweep))
  k_with "call builtin:list.append" => (k_here; (with_reducible show wpAny _ _ (call (Value.builtin _) [Value.ref _, _]) _ _ _); k_dflt (refine' append_K ?zqk1 ?zqk2 ?zqk3 ?_ ?zqz; (case zqk1 => k_asm); (case zqk2 => k_asm); (case zqk3 => k_upd); (case zqz => (rw [PySem.sizeLine_eq]; simp only [List.size_toArray]; omega)); k_whole); intro h'q F'q N'q; (try k_sweep))
  k_with "call builtin:bytes.join" => (k_here; (with_reducible show wpAny _ _ (call (Value.builtin _) [Value.bytes (List.toArray _) _, Value.ref _]) _ _ _); k_dflt (refine By.call_join (News.isList (by k_asm) (by k_mem)) (by with_reducible assumption) (by first | assumption | omega) ?_); intro _ _)
  k_with "compareOp NotEq ref ref" => (k_here; (with_reducible show wpAny _ _ (compareOp CmpOp.NotEq (Value.ref _) (Value.ref _)) _ _ _); k_dflt (refine ne_nilK (by k_asm) (by k_mem) (by k_mem) (by ktr_units) ?_))
  k_with "compareOp Eq ref ref" => (k_here; (with_reducible show wpAny _ _ (compareOp CmpOp.Eq (Value.ref _) (Value.ref _)) _ _ _); k_dflt (refine eq_nilK (by k_asm) (by k_mem) (by k_mem) (by ktr_units) ?_))
  k_with "subscriptTail" => (k_here; (with_reducible show wpAny _ _ (subscriptTail _ _ (Value.ref _) (Value.int _ _)) _ _ _); k_dflt first | ((with_reducible show wpAny _ _ (subscriptTail _ (Expr.UnaryOp _ _ _) _ _) _ _ _); refine item_lastK (by k_asm) (by k_mem) (by with_reducible assumption) (by omega) (by omega) ?_; intro _) | (refine item_K (by k_asm) (by k_mem) (by with_reducible assumption) (by omega) (by omega) (by omega) ?_; intro _))
  k_with "call builtin:list.pop" => (k_here; (with_reducible show wpAny _ _ (call (Value.builtin _) [Value.ref _]) _ _ _); k_dflt (refine' popK ?zqF ?zqN ?zqU ?zqi ?zql ?zqz ?_; (case zqF => k_asm); (case zqN => k_asm); (case zqU => k_upd); (case zqi => with_reducible assumption); (case zql => omega); (case zqz => omega)); intro h'q t'q F'q N'q; (try k_sweep))
  k_with "subscriptTail" => (k_here; (with_reducible show wpAny _ _ (subscriptTail _ (Expr.Slice _ _ none _) (Value.ref _) (Value.ref _)) _ _ _); (with_reducible rename Fr _ _ _ _ => F'q); (with_reducible rename News _ _ _ _ => N'q); k_dflt (refine slice_L (s := ⟨_, _, _, _, _⟩) F'q N'q (by k_mem) (by with_reducible assumption) (by constructor) (by constructor) (by omega) ?_); intro l'q vs'q h'q hB'q hZ'q F'q N'q o1q; (try simp only [LCg.Off1, and_true] at o1q))
  k_with "subscriptTail Name Slice ref ref" => (k_here; (with_reducible show wpAny _ _ (subscriptTail _ (Expr.Slice _ _ none _) (Value.ref _) (Value.ref _)) _ _ _); (with_reducible rename Fr _ _ _ _ => F'q); (with_reducible rename News _ _ _ _ => N'q); k_dflt (refine slice_L (s := ⟨_, _, _, _, _⟩) F'q N'q (by k_mem) (by with_reducible assumption) (by constructor) (by constructor) (by omega) ?_); intro l'q vs'q h'q hB'q hZ'q F'q N'q o1q; (try simp only [LCg.Off1, and_true] at o1q))
  k_with "subscriptTail Call Slice ref ref" => (k_here; (with_reducible show wpAny _ _ (subscriptTail _ (Expr.Slice _ _ none _) (Value.ref _) (Value.ref _)) _ _ _); (with_reducible rename Fr _ _ _ _ => F'q); (with_reducible rename News _ _ _ _ => N'q); k_dflt (refine slice_L (s := ⟨_, _, _, _, _⟩) F'q N'q (by k_mem) (by with_reducible assumption) (by constructor) (by constructor) (by omega) ?_); intro l'q vs'q h'q hB'q hZ'q F'q N'q o1q; (try simp only [LCg.Off1, and_true] at o1q))
  k_with "call builtin:len" => (k_here; (with_reducible show wpAny _ _ (call (Value.builtin "len") [Value.ref _]) _ _ _); k_dflt (refine len_LK (by k_asm) (by k_mem) (by omega) ?_); intro _ _)
  k_with "exec While Compare cons nil" => refine Held.out ?_
  k_with "exec While BoolOp" => refine Held.out ?_
  k_with "KswEnd" => refine Held.out ?_
  k_with "getAttr ref" => (k_here; (with_reducible show wpAny _ _ (getAttr (Value.ref _) (Str.ofString "message") _) _ _ _); k_dflt (refine com_msg _ (by k_asm) (by k_in) (by k_asm) (IsCom.sub (by with_reducible assumption) (by walk_at "my k_subs")) ?_); intro _ _)
  k_with "getMethod ref" => (k_here; (with_reducible show wpAny _ _ (getMethod (Value.ref _) (Str.ofString "subject") _) _ _ _); k_dflt (refine' com_subj _ ?zqkF ?zqkX ?zqkN ?zqkC ?_; (case zqkF => k_asm); (case zqkN => k_asm); (case zqkX => k_in); (case zqkC => exact IsCom.sub (by with_reducible assumption) (by walk_at "my k_subs")); k_whole); (try dsimp only [List.nil_append, List.cons_append, List.append_nil]))
  k_with "call ref" => ((with_reducible show wpAny _ _ (call _ (_ ++ [])) _ _ _); dsimp only [List.nil_append, List.cons_append, List.append_nil])
  k_with "my by_len" => first | omega | (simp only [List.length_append, List.length_cons, List.length_nil, List.length_map, By.hexCodes_len, sl_from_len]; omega)
  k_with "binaryOp Add bytes bytes" => (k_here; (with_reducible show wpAny _ _ (binaryOp Operator.Add (Value.bytes (List.toArray _) _) (Value.bytes (List.toArray _) _)) _ _ _); (refine By.add_B (by walk_at "my by_len") ?_); intro _ _)
  k_with "my subs" => first | exact fun p hp => hp | (refine sub_tail ?_; walk_at "my subs")
  k_with "my df" => ((try dsimp only); (try k_fold))
  k_with "my back" => first | ((with_reducible rename RB _ _ _ _ => R9q); obtain ⟨⟨t9q, e9q⟩, e9'q⟩ := R9q; subst e9q e9'q; walk_at "my df") | ((with_reducible rename RL _ _ _ _ => R9q); obtain ⟨l9q, vs9q, k9q, e9q, hB9q, e9'q, hl9q⟩ := R9q; subst e9q e9'q; have hZ9q := hB9q.length; (try simp only [LCg.Off1, and_true] at hl9q); walk_at "my df") | ((with_reducible rename RSubj _ _ _ _ => R9q); obtain ⟨q9q, t9q, t9'q, e9q, e9'q, hl9q⟩ := R9q; subst e9q e9'q; (try simp only [LCg.Off1, and_true] at hl9q); walk_at "my df") | ((with_reducible rename RSome _ _ _ _ => R9q); obtain ⟨⟨x9q, t9q, e9q, hx9q⟩, e9'q⟩ := R9q; subst e9q e9'q; walk_at "my df") | ((with_reducible rename RTrail _ _ _ _ => R9q); rcases R9q with ⟨hT9q, e9q, e9'q⟩ | ⟨key9q, q9q, t9q, t9'q, x9q, hT9q, e9q, e9'q, hl9q⟩ <;> (subst e9q e9'q; (try simp only [LCg.Off1, and_true] at hl9q); walk_at "my df")) | ((with_reducible rename RLen _ _ _ _ => R9q); obtain ⟨l9q, xs9q, k9q, e9q, hx9q, e9'q, hl9q⟩ := R9q; subst e9q e9'q; (try simp only [LCg.Off1, and_true] at hl9q); walk_at "my df") | ((with_reducible rename RStr _ _ _ _ => R9q); obtain ⟨⟨t9q, e9q⟩, e9'q⟩ := R9q; subst e9q e9'q; walk_at "my df") | ((with_reducible rename RMark _ _ _ _ => R9q); rcases R9q with ⟨hM9q, e9q, e9'q⟩ | ⟨hM9q, q9q, o9q, e9q, e9'q, hl9q⟩ <;> (subst e9q e9'q; (try simp only [LCg.Off1, and_true] at hl9q); walk_at "my df")) | ((with_reducible rename RStp _ _ _ _ _ => R9q); obtain ⟨c9q, dx9q, o9q, p9q, e9q, e9'q, hst9q⟩ := R9q; subst e9q e9'q; walk_at "my df") | ((with_reducible rename RCom _ _ _ _ => R9q); obtain ⟨c9q, dx9q, o9q, p9q, e9q, e9'q, hC9q, hl9q, hcd9q⟩ := R9q; subst e9q e9'q; walk_at "my df")
  k_with "my side" => first | with_reducible assumption | omega | exact Nat.le_trans (By.sl_len _ _ _) (by omega) | exact IsCom.sub (by with_reducible assumption) (by walk_at "my subs") | exact fun k hk => Nat.lt_trans (By.hexCodes_lt k hk) (by decide) | exact Nat.le_trans (By.subjB_len _) (by omega)
  k_with "call ref" => (k_here; k_dflt (refine' says_use ?zqc ?zqk1 ?zqk2 ?zqk3 ?zqk4 ?zqk5 ?zqkK ?zqkd ?zqku ?_; (case zqk1 => k_asm); (case zqk2 => k_asm); (case zqk3 => k_asm); (case zqk4 => k_asm); (case zqk5 => k_asm); (case zqc => walk_at "my contract"); (case zqkK => first | exact rfl | assumption); (case zqkd => first | ktr_room | decide); (case zqku => first | ktr_units | decide); intro v9q n9q h9q tk9q F9q N9q R9q; walk_at "my back"))
  k_with "my contract" => (with_reducible apply says_cut_end) <;> walk_at "my side"
  k_with "my contract" => (with_reducible apply says_rows) <;> walk_at "my side"
  k_with "my contract" => (with_reducible apply says_lines) <;> walk_at "my side"
  k_with "my contract" => (with_reducible apply says_ended) <;> walk_at "my side"
  k_with "my contract" => (with_reducible apply says_subject) <;> walk_at "my side"
  k_with "my contract" => (with_reducible apply says_trimmed) <;> walk_at "my side"
  k_with "my contract" => (with_reducible apply says_trailer) <;> walk_at "my side"
  k_with "my contract" => (with_reducible apply says_last) <;> walk_at "my side"
  k_with "my contract" => (with_reducible apply says_trailers) <;> walk_at "my side"
  k_with "my contract" => (with_reducible apply says_hex) <;> walk_at "my side"
  k_with "my contract" => (with_reducible apply says_oct) <;> walk_at "my side"
  k_with "my contract" => (with_reducible apply says_csubj) <;> walk_at "my side"
  k_with "my contract" => (with_reducible apply says_body) <;> walk_at "my side"
  k_with "my contract" => (with_reducible apply says_mark) <;> walk_at "my side"
  k_with "my contract" => (with_reducible apply says_bare) <;> walk_at "my side"
  intro p loose mean mg mb dp un gd cn cs ad ccd cl outer A₀ base h₀ L m s Q E B F X N T hk hdp hu hret
  have hend := By.ended_len a
  have hlin := By.linesOf_count (l := By.ended a)
  have hhex := By.hexCodes_len oid
  have ha2 : a.length ≤ 1000 := by omega
  refine wpAny_call ?_
  k_dflt cell_enter
  k_steps
  all_goals (rename List.length _ = (By.linesOf (By.ended a)).length => hZ)
  · have hE := By.pick_none (oid := oid) hZ (by assumption)
    exact hret _ _ _ _ (by k_asm) (cb_drop (by k_asm) (by kcf_all)) (RB.of hE)
  all_goals (rename List.length _ = By.trailN _ => hT; replace hT : _ = By.trailM a := hT; rename ¬ (List.length _ = 0) => hn)
  · have hE := By.pick_yes (oid := oid) hZ hn (By.joined1 (by omega))
    exact hret _ _ _ _ (by k_asm) (cb_drop (by k_asm) (by kcf_all)) (RB.of hE)
  · have hE := By.pick_yes (oid := oid) hZ hn (By.joined2 (by assumption))
    exact hret _ _ _ _ (by k_asm) (cb_drop (by k_asm) (by kcf_all)) (RB.of hE)
  · have hE := By.pick_no (oid := oid) hZ hn (By.joined0 (by omega) (by assumption))
    exact hret _ _ _ _ (by k_asm) (cb_drop (by k_asm) (by kcf_all)) (RB.of hE)
end Mine
end
section
namespace Mine
set_option maxRecDepth 100000 in
set_option maxHeartbeats 1000000 in
theorem says_joinF (w : World) (st e c : Addr) (b a sign : List UInt8) (news : List (Addr × Obj)) (hst : IsStep news st (Str.ofString "fixup") sign) (hel : IsCom news e b) (hcom : IsCom news c a) (hb : b.length ≤ 400) (ha : a.length ≤ 400) : Says w 249 6 [.ref st, .ref e, .ref c] news (RB (By.joinF sign b a) news) := by
  unfold Says
  k_fill
  w_top off
  k_with_none
  k_with "getMethod bytes" => (k_here; first | refine By.get_method By.slot_find By.type_find ?_ | refine By.get_method By.slot_split By.type_split ?_ | refine By.get_method By.slot_rstrip By.type_rstrip ?_ | refine By.get_method By.slot_lstrip By.type_lstrip ?_ | refine By.get_method By.slot_join By.type_join ?_ | refine By.get_method FB.slot_bytes_startswith FB.type_bytes_startswith ?_ | refine By.get_method FB.slot_bytes_endswith FB.type_bytes_endswith ?_)
  k_with "call builtin:len" => (k_here; (with_reducible show wpAny _ _ (call (Value.builtin "len") [Value.bytes (List.toArray _) _]) _ _ _); (refine By.len_B (by first | assumption | omega) ?_); intro _ _)
  k_with "subscriptTail" => (k_here; (with_reducible show wpAny _ _ (subscriptTail _ _ (Value.bytes (List.toArray _) _) (Value.int _ _)) _ _ _); (refine By.item_B (by first | assumption | omega) (by omega) (by omega) ?_); intro _ _)
  k_with "subscriptTail" => (k_here; (with_reducible show wpAny _ _ (subscriptTail _ (Expr.Slice _ _ none _) (Value.bytes (List.toArray _) _) (Value.ref _)) _ _ _); (with_reducible rename Fr _ _ _ _ => F'q); (with_reducible rename News _ _ _ _ => N'q); (refine By.slice_B (s := ⟨_, _, _, _, _⟩) F'q N'q (by constructor) (by constructor) (by first | assumption | omega) ?_); intro _ _ _ _ _)
  k_with "compareOp In int bytes" => (k_here; (with_reducible show wpAny _ _ (compareOp CmpOp.In (Value.int _ _) (Value.bytes (List.toArray _) _)) _ _ _); refine By.in_byte ?_)
  k_with "compareOp Eq bytes bytes" => (k_here; (with_reducible show wpAny _ _ (compareOp CmpOp.Eq (Value.bytes (List.toArray _) _) (Value.bytes (List.toArray _) _)) _ _ _); refine By.eq_B ?_)
  k_with "compareOp NotEq bytes bytes" => (k_here; (with_reducible show wpAny _ _ (compareOp CmpOp.NotEq (Value.bytes (List.toArray _) _) (Value.bytes (List.toArray _) _)) _ _ _); refine By.ne_B ?_)
  k_with "binaryOp Add bytes bytes" => (k_here; (with_reducible show wpAny _ _ (binaryOp Operator.Add (Value.bytes (List.toArray _) _) (Value.bytes (List.toArray _) _)) _ _ _); (refine By.add_B (by first | assumption | omega | (simp only [List.length_append, List.length_cons, List.length_nil] at *; omega)) ?_); intro _ _)
  k_with "call builtin:bytes.startswith" => (k_here; (with_reducible show wpAny _ _ (call (Value.builtin _) [Value.bytes (List.toArray _) _, Value.bytes (List.toArray _) _]) _ _ _); refine By.call_startswith ?_)
  k_with "call builtin:bytes.endswith" => (k_here; (with_reducible show wpAny _ _ (call (Value.builtin _) [Value.bytes (List.toArray _) _, Value.bytes (List.toArray _) _]) _ _ _); refine By.call_endswith ?_)
  k_with "call builtin:bytes.rstrip" => (k_here; (with_reducible show wpAny _ _ (call (Value.builtin _) [Value.bytes (List.toArray _) _, Value.bytes (List.toArray _) _]) _ _ _); (refine By.call_rstrip (by first | assumption | omega) ?_); intro _ _)
  k_with "call builtin:bytes.lstrip" => (k_here; (with_reducible show wpAny _ _ (call (Value.builtin _) [Value.bytes (List.toArray _) _, Value.bytes (List.toArray _) _]) _ _ _); (refine By.call_lstrip (by first | assumption | omega) ?_); intro _ _)
  k_with "call builtin:bytes.find" => (k_here; first | (refine By.call_find0 ?_; intro _ _) | (refine By.call_findI (by omega) (by omega) ?_; intro _ _))
  k_with "call builtin:bytes.split" => (k_here; k_dflt (refine' By.call_split ?zqk1 ?zqk2 ?zqk3 ?_; (case zqk1 => k_asm); (case zqk2 => k_asm); (case zqk3 => omega); k_whole); intro l'q vs'q h'q k'q hB'q hS'q hZ'q F'q N'q o1q; (try simp only [LCg.Off1, and_true] at o1q); (try k_sweep))
  k_with "call builtin:list.append" => (k_here; (with_reducible show wpAny _ _ (call (Value.builtin _) [Value.ref _, _]) _ _ _); k_dflt (refine' append_K ?zqk1 ?zqk2 ?zqk3 ?_ ?zqz; (case zqk1 => k_asm); (case zqk2 => k_asm); (case zqk3 => k_upd); (case zqz => (rw [PySem.sizeLine_eq]; simp only [List.size_toArray]; omega)); k_whole); intro h'q F'q N'q; (try k_sweep))
  k_with "call builtin:bytes.join" => (k_here; (with_reducible show wpAny _ _ (call (Value.builtin _) [Value.bytes (List.toArray _) _, Value.ref _]) _ _ _); k_dflt (refine By.call_join (News.isList (by k_asm) (by k_mem)) (by with_reducible assumption) (by first | assumption | omega) ?_); intro _ _)
  k_with "compareOp NotEq ref ref" => (k_here; (with_reducible show wpAny _ _ (compareOp CmpOp.NotEq (Value.ref _) (Value.ref _)) _ _ _); k_dflt (refine ne_nilK (by k_asm) (by k_mem) (by k_mem) (by ktr_units) ?_))
  k_with "compareOp Eq ref ref" => (k_here; (with_reducible show wpAny _ _ (compareOp CmpOp.Eq (Value.ref _) (Value.ref _)) _ _ _); k_dflt (refine eq_nilK (by k_asm) (by k_mem) (by k_mem) (by ktr_units) ?_))
  k_with "subscriptTail" => (k_here; (with_reducible show wpAny _ _ (subscriptTail _ _ (Value.ref _) (Value.int _ _)) _ _ _); k_dflt first | ((with_reducible show wpAny _ _ (subscriptTail _ (Expr.UnaryOp _ _ _) _ _) _ _ _); refine item_lastK (by k_asm) (by k_mem) (by with_reducible assumption) (by omega) (by omega) ?_; intro _) | (refine item_K (by k_asm) (by k_mem) (by with_reducible assumption) (by omega) (by omega) (by omega) ?_; intro _))
  k_with "call builtin:list.pop" => (k_here; (with_reducible show wpAny _ _ (call (Value.builtin _) [Value.ref _]) _ _ _); k_dflt (refine' popK ?zqF ?zqN ?zqU ?zqi ?zql ?zqz ?_; (case zqF => k_asm); (case zqN => k_asm); (case zqU => k_upd); (case zqi => with_reducible assumption); (case zql => omega); (case zqz => omega)); intro h'q t'q F'q N'q; (try k_sweep))
  k_with "subscriptTail" => (k_here; (with_reducible show wpAny _ _ (subscriptTail _ (Expr.Slice _ _ none _) (Value.ref _) (Value.ref _)) _ _ _); (with_reducible rename Fr _ _ _ _ => F'q); (with_reducible rename News _ _ _ _ => N'q); k_dflt (refine slice_L (s := ⟨_, _, _, _, _⟩) F'q N'q (by k_mem) (by with_reducible assumption) (by constructor) (by constructor) (by omega) ?_); intro l'q vs'q h'q hB'q hZ'q F'q N'q o1q; (try simp only [LCg.Off1, and_true] at o1q))
  k_with "subscriptTail Name Slice ref ref" => (k_here; (with_reducible show wpAny _ _ (subscriptTail _ (Expr.Slice _ _ none _) (Value.ref _) (Value.ref _)) _ _ _); (with_reducible rename Fr _ _ _ _ => F'q); (with_reducible rename News _ _ _ _ => N'q); k_dflt (refine slice_L (s := ⟨_, _, _, _, _⟩) F'q N'q (by k_mem) (by with_reducible assumption) (by constructor) (by constructor) (by omega) ?_); intro l'q vs'q h'q hB'q hZ'q F'q N'q o1q; (try simp only [LCg.Off1, and_true] at o1q))
  k_with "subscriptTail Call Slice ref ref" => (k_here; (with_reducible show wpAny _ _ (subscriptTail _ (Expr.Slice _ _ none _) (Value.ref _) (Value.ref _)) _ _ _); (with_reducible rename Fr _ _ _ _ => F'q); (with_reducible rename News _ _ _ _ => N'q); k_dflt (refine slice_L (s := ⟨_, _, _, _, _⟩) F'q N'q (by k_mem) (by with_reducible assumption) (by constructor) (by constructor) (by omega) ?_); intro l'q vs'q h'q hB'q hZ'q F'q N'q o1q; (try simp only [LCg.Off1, and_true] at o1q))
  k_with "call builtin:len" => (k_here; (with_reducible show wpAny _ _ (call (Value.builtin "len") [Value.ref _]) _ _ _); k_dflt (refine len_LK (by k_asm) (by k_mem) (by omega) ?_); intro _ _)
  k_with "exec While Compare cons nil" => refine Held.out ?_
  k_with "exec While BoolOp" => refine Held.out ?_
  k_with "KswEnd" => refine Held.out ?_
  k_with "getAttr ref" => (k_here; (with_reducible show wpAny _ _ (getAttr (Value.ref _) (Str.ofString "message") _) _ _ _); k_dflt (refine com_msg _ (by k_asm) (by k_in) (by k_asm) (IsCom.sub (by with_reducible assumption) (by walk_at "my k_subs")) ?_); intro _ _)
  k_with "getMethod ref" => (k_here; (with_reducible show wpAny _ _ (getMethod (Value.ref _) (Str.ofString "subject") _) _ _ _); k_dflt (refine' com_subj _ ?zqkF ?zqkX ?zqkN ?zqkC ?_; (case zqkF => k_asm); (case zqkN => k_asm); (case zqkX => k_in); (case zqkC => exact IsCom.sub (by with_reducible assumption) (by walk_at "my k_subs")); k_whole); (try dsimp only [List.nil_append, List.cons_append, List.append_nil]))
  k_with "call ref" => ((with_reducible show wpAny _ _ (call _ (_ ++ [])) _ _ _); dsimp only [List.nil_append, List.cons_append, List.append_nil])
  k_with "getAttr ref" => (k_here; (with_reducible show wpAny _ _ (getAttr (Value.ref _) (Str.ofString "word") _) _ _ _); k_dflt (refine stp_word _ (by k_asm) (by k_in) (by k_asm) (IsStep.sub (by with_reducible assumption) (by walk_at "my k_subs")) ?_); intro _ _)
  k_with "getAttr ref" => (k_here; (with_reducible show wpAny _ _ (getAttr (Value.ref _) (Str.ofString "sign") _) _ _ _); k_dflt (refine stp_sign _ (by k_asm) (by k_in) (by k_asm) (IsStep.sub (by with_reducible assumption) (by walk_at "my k_subs")) ?_); intro _ _)
  k_with "my by_len" => first | omega | (simp only [List.length_append, List.length_cons, List.length_nil, List.length_map, By.hexCodes_len, sl_from_len]; omega)
  k_with "binaryOp Add bytes bytes" => (k_here; (with_reducible show wpAny _ _ (binaryOp Operator.Add (Value.bytes (List.toArray _) _) (Value.bytes (List.toArray _) _)) _ _ _); (refine By.add_B (by walk_at "my by_len") ?_); intro _ _)
  k_with "my subs" => first | exact fun p hp => hp | (refine sub_tail ?_; walk_at "my subs")
  k_with "my df" => ((try dsimp only); (try k_fold))
  k_with "my back" => first | ((with_reducible rename RB _ _ _ _ => R9q); obtain ⟨⟨t9q, e9q⟩, e9'q⟩ := R9q; subst e9q e9'q; walk_at "my df") | ((with_reducible rename RL _ _ _ _ => R9q); obtain ⟨l9q, vs9q, k9q, e9q, hB9q, e9'q, hl9q⟩ := R9q; subst e9q e9'q; have hZ9q := hB9q.length; (try simp only [LCg.Off1, and_true] at hl9q); walk_at "my df") | ((with_reducible rename RSubj _ _ _ _ => R9q); obtain ⟨q9q, t9q, t9'q, e9q, e9'q, hl9q⟩ := R9q; subst e9q e9'q; (try simp only [LCg.Off1, and_true] at hl9q); walk_at "my df") | ((with_reducible rename RSome _ _ _ _ => R9q); obtain ⟨⟨x9q, t9q, e9q, hx9q⟩, e9'q⟩ := R9q; subst e9q e9'q; walk_at "my df") | ((with_reducible rename RTrail _ _ _ _ => R9q); rcases R9q with ⟨hT9q, e9q, e9'q⟩ | ⟨key9q, q9q, t9q, t9'q, x9q, hT9q, e9q, e9'q, hl9q⟩ <;> (subst e9q e9'q; (try simp only [LCg.Off1, and_true] at hl9q); walk_at "my df")) | ((with_reducible rename RLen _ _ _ _ => R9q); obtain ⟨l9q, xs9q, k9q, e9q, hx9q, e9'q, hl9q⟩ := R9q; subst e9q e9'q; (try simp only [LCg.Off1, and_true] at hl9q); walk_at "my df") | ((with_reducible rename RStr _ _ _ _ => R9q); obtain ⟨⟨t9q, e9q⟩, e9'q⟩ := R9q; subst e9q e9'q; walk_at "my df") | ((with_reducible rename RMark _ _ _ _ => R9q); rcases R9q with ⟨hM9q, e9q, e9'q⟩ | ⟨hM9q, q9q, o9q, e9q, e9'q, hl9q⟩ <;> (subst e9q e9'q; (try simp only [LCg.Off1, and_true] at hl9q); walk_at "my df")) | ((with_reducible rename RStp _ _ _ _ _ => R9q); obtain ⟨c9q, dx9q, o9q, p9q, e9q, e9'q, hst9q⟩ := R9q; subst e9q e9'q; walk_at "my df") | ((with_reducible rename RCom _ _ _ _ => R9q); obtain ⟨c9q, dx9q, o9q, p9q, e9q, e9'q, hC9q, hl9q, hcd9q⟩ := R9q; subst e9q e9'q; walk_at "my df")
  k_with "my side" => first | with_reducible assumption | omega | exact Nat.le_trans (By.sl_len _ _ _) (by omega) | exact IsCom.sub (by with_reducible assumption) (by walk_at "my subs") | exact fun k hk => Nat.lt_trans (By.hexCodes_lt k hk) (by decide) | exact Nat.le_trans (By.subjB_len _) (by omega)
  k_with "call ref" => (k_here; k_dflt (refine' says_use ?zqc ?zqk1 ?zqk2 ?zqk3 ?zqk4 ?zqk5 ?zqkK ?zqkd ?zqku ?_; (case zqk1 => k_asm); (case zqk2 => k_asm); (case zqk3 => k_asm); (case zqk4 => k_asm); (case zqk5 => k_asm); (case zqc => walk_at "my contract"); (case zqkK => first | exact rfl | assumption); (case zqkd => first | ktr_room | decide); (case zqku => first | ktr_units | decide); intro v9q n9q h9q tk9q F9q N9q R9q; walk_at "my back"))
  k_with "my contract" => (with_reducible apply says_cut_end) <;> walk_at "my side"
  k_with "my contract" => (with_reducible apply says_rows) <;> walk_at "my side"
  k_with "my contract" => (with_reducible apply says_lines) <;> walk_at "my side"
  k_with "my contract" => (with_reducible apply says_ended) <;> walk_at "my side"
  k_with "my contract" => (with_reducible apply says_subject) <;> walk_at "my side"
  k_with "my contract" => (with_reducible apply says_trimmed) <;> walk_at "my side"
  k_with "my contract" => (with_reducible apply says_trailer) <;> walk_at "my side"
  k_with "my contract" => (with_reducible apply says_last) <;> walk_at "my side"
  k_with "my contract" => (with_reducible apply says_trailers) <;> walk_at "my side"
  k_with "my contract" => (with_reducible apply says_hex) <;> walk_at "my side"
  k_with "my contract" => (with_reducible apply says_oct) <;> walk_at "my side"
  k_with "my contract" => (with_reducible apply says_csubj) <;> walk_at "my side"
  k_with "my contract" => (with_reducible apply says_body) <;> walk_at "my side"
  k_with "my contract" => (with_reducible apply says_mark) <;> walk_at "my side"
  k_with "my contract" => (with_reducible apply says_bare) <;> walk_at "my side"
  intro p loose mean mg mb dp un gd cn cs ad ccd cl outer A₀ base h₀ L m s Q E B F X N T hk hdp hu hret
  have hend := By.ended_len b
  have hbar := By.bareB_len a
  refine wpAny_call ?_
  k_dflt cell_enter
  k_steps
  all_goals first
    | (have hE := By.joinF_no (sign := sign) (b := b) (a := a) (by assumption); exact hret _ _ _ _ (by k_asm) (cb_drop (by k_asm) (by kcf_all)) (RB.of hE))
    | (have hE := By.joinF_yes (sign := sign) (b := b) (a := a) (by assumption); exact hret _ _ _ _ (by k_asm) (cb_drop (by k_asm) (by kcf_all)) (RB.of hE))
set_option maxRecDepth 100000 in
set_option maxHeartbeats 1000000 in
theorem says_joinS (w : World) (st e c : Addr) (b a : List UInt8) (news : List (Addr × Obj)) (hst : IsStep news st (Str.ofString "squash") []) (hel : IsCom news e b) (hcom : IsCom news c a) (hb : b.length ≤ 400) (ha : a.length ≤ 400) : Says w 249 6 [.ref st, .ref e, .ref c] news (RB (By.joinS b a) news) := by
  unfold Says
  k_fill
  w_top off
  k_with_none
  k_with "getMethod bytes" => (k_here; first | refine By.get_method By.slot_find By.type_find ?_ | refine By.get_method By.slot_split By.type_split ?_ | refine By.get_method By.slot_rstrip By.type_rstrip ?_ | refine By.get_method By.slot_lstrip By.type_lstrip ?_ | refine By.get_method By.slot_join By.type_join ?_ | refine By.get_method FB.slot_bytes_startswith FB.type_bytes_startswith ?_ | refine By.get_method FB.slot_bytes_endswith FB.type_bytes_endswith ?_)
  k_with "call builtin:len" => (k_here; (with_reducible show wpAny _ _ (call (Value.builtin "len") [Value.bytes (List.toArray _) _]) _ _ _); (refine By.len_B (by first | assumption | omega) ?_); intro _ _)
  k_with "subscriptTail" => (k_here; (with_reducible show wpAny _ _ (subscriptTail _ _ (Value.bytes (List.toArray _) _) (Value.int _ _)) _ _ _); (refine By.item_B (by first | assumption | omega) (by omega) (by omega) ?_); intro _ _)
  k_with "subscriptTail" => (k_here; (with_reducible show wpAny _ _ (subscriptTail _ (Expr.Slice _ _ none _) (Value.bytes (List.toArray _) _) (Value.ref _)) _ _ _); (with_reducible rename Fr _ _ _ _ => F'q); (with_reducible rename News _ _ _ _ => N'q); (refine By.slice_B (s := ⟨_, _, _, _, _⟩) F'q N'q (by constructor) (by constructor) (by first | assumption | omega) ?_); intro _ _ _ _ _)
  k_with "compareOp In int bytes" => (k_here; (with_reducible show wpAny _ _ (compareOp CmpOp.In (Value.int _ _) (Value.bytes (List.toArray _) _)) _ _ _); refine By.in_byte ?_)
  k_with "compareOp Eq bytes bytes" => (k_here; (with_reducible show wpAny _ _ (compareOp CmpOp.Eq (Value.bytes (List.toArray _) _) (Value.bytes (List.toArray _) _)) _ _ _); refine By.eq_B ?_)
  k_with "compareOp NotEq bytes bytes" => (k_here; (with_reducible show wpAny _ _ (compareOp CmpOp.NotEq (Value.bytes (List.toArray _) _) (Value.bytes (List.toArray _) _)) _ _ _); refine By.ne_B ?_)
  k_with "binaryOp Add bytes bytes" => (k_here; (with_reducible show wpAny _ _ (binaryOp Operator.Add (Value.bytes (List.toArray _) _) (Value.bytes (List.toArray _) _)) _ _ _); (refine By.add_B (by first | assumption | omega | (simp only [List.length_append, List.length_cons, List.length_nil] at *; omega)) ?_); intro _ _)
  k_with "call builtin:bytes.startswith" => (k_here; (with_reducible show wpAny _ _ (call (Value.builtin _) [Value.bytes (List.toArray _) _, Value.bytes (List.toArray _) _]) _ _ _); refine By.call_startswith ?_)
  k_with "call builtin:bytes.endswith" => (k_here; (with_reducible show wpAny _ _ (call (Value.builtin _) [Value.bytes (List.toArray _) _, Value.bytes (List.toArray _) _]) _ _ _); refine By.call_endswith ?_)
  k_with "call builtin:bytes.rstrip" => (k_here; (with_reducible show wpAny _ _ (call (Value.builtin _) [Value.bytes (List.toArray _) _, Value.bytes (List.toArray _) _]) _ _ _); (refine By.call_rstrip (by first | assumption | omega) ?_); intro _ _)
  k_with "call builtin:bytes.lstrip" => (k_here; (with_reducible show wpAny _ _ (call (Value.builtin _) [Value.bytes (List.toArray _) _, Value.bytes (List.toArray _) _]) _ _ _); (refine By.call_lstrip (by first | assumption | omega) ?_); intro _ _)
  k_with "call builtin:bytes.find" => (k_here; first | (refine By.call_find0 ?_; intro _ _) | (refine By.call_findI (by omega) (by omega) ?_; intro _ _))
  k_with "call builtin:bytes.split" => (k_here; k_dflt (refine' By.call_split ?zqk1 ?zqk2 ?zqk3 ?_; (case zqk1 => k_asm); (case zqk2 => k_asm); (case zqk3 => omega); k_whole); intro l'q vs'q h'q k'q hB'q hS'q hZ'q F'q N'q o1q; (try simp only [LCg.Off1, and_true] at o1q); (try k_sweep))
  k_with "call builtin:list.append" => (k_here; (with_reducible show wpAny _ _ (call (Value.builtin _) [Value.ref _, _]) _ _ _); k_dflt (refine' append_K ?zqk1 ?zqk2 ?zqk3 ?_ ?zqz; (case zqk1 => k_asm); (case zqk2 => k_asm); (case zqk3 => k_upd); (case zqz => (rw [PySem.sizeLine_eq]; simp only [List.size_toArray]; omega)); k_whole); intro h'q F'q N'q; (try k_sweep))
  k_with "call builtin:bytes.join" => (k_here; (with_reducible show wpAny _ _ (call (Value.builtin _) [Value.bytes (List.toArray _) _, Value.ref _]) _ _ _); k_dflt (refine By.call_join (News.isList (by k_asm) (by k_mem)) (by with_reducible assumption) (by first | assumption | omega) ?_); intro _ _)
  k_with "compareOp NotEq ref ref" => (k_here; (with_reducible show wpAny _ _ (compareOp CmpOp.NotEq (Value.ref _) (Value.ref _)) _ _ _); k_dflt (refine ne_nilK (by k_asm) (by k_mem) (by k_mem) (by ktr_units) ?_))
  k_with "compareOp Eq ref ref" => (k_here; (with_reducible show wpAny _ _ (compareOp CmpOp.Eq (Value.ref _) (Value.ref _)) _ _ _); k_dflt (refine eq_nilK (by k_asm) (by k_mem) (by k_mem) (by ktr_units) ?_))
  k_with "subscriptTail" => (k_here; (with_reducible show wpAny _ _ (subscriptTail _ _ (Value.ref _) (Value.int _ _)) _ _ _); k_dflt first | ((with_reducible show wpAny _ _ (subscriptTail _ (Expr.UnaryOp _ _ _) _ _) _ _ _); refine item_lastK (by k_asm) (by k_mem) (by with_reducible assumption) (by omega) (by omega) ?_; intro _) | (refine item_K (by k_asm) (by k_mem) (by with_reducible assumption) (by omega) (by omega) (by omega) ?_; intro _))
  k_with "call builtin:list.pop" => (k_here; (with_reducible show wpAny _ _ (call (Value.builtin _) [Value.ref _]) _ _ _); k_dflt (refine' popK ?zqF ?zqN ?zqU ?zqi ?zql ?zqz ?_; (case zqF => k_asm); (case zqN => k_asm); (case zqU => k_upd); (case zqi => with_reducible assumption); (case zql => omega); (case zqz => omega)); intro h'q t'q F'q N'q; (try k_sweep))
  k_with "subscriptTail" => (k_here; (with_reducible show wpAny _ _ (subscriptTail _ (Expr.Slice _ _ none _) (Value.ref _) (Value.ref _)) _ _ _); (with_reducible rename Fr _ _ _ _ => F'q); (with_reducible rename News _ _ _ _ => N'q); k_dflt (refine slice_L (s := ⟨_, _, _, _, _⟩) F'q N'q (by k_mem) (by with_reducible assumption) (by constructor) (by constructor) (by omega) ?_); intro l'q vs'q h'q hB'q hZ'q F'q N'q o1q; (try simp only [LCg.Off1, and_true] at o1q))
  k_with "subscriptTail Name Slice ref ref" => (k_here; (with_reducible show wpAny _ _ (subscriptTail _ (Expr.Slice _ _ none _) (Value.ref _) (Value.ref _)) _ _ _); (with_reducible rename Fr _ _ _ _ => F'q); (with_reducible rename News _ _ _ _ => N'q); k_dflt (refine slice_L (s := ⟨_, _, _, _, _⟩) F'q N'q (by k_mem) (by with_reducible assumption) (by constructor) (by constructor) (by omega) ?_); intro l'q vs'q h'q hB'q hZ'q F'q N'q o1q; (try simp only [LCg.Off1, and_true] at o1q))
  k_with "subscriptTail Call Slice ref ref" => (k_here; (with_reducible show wpAny _ _ (subscriptTail _ (Expr.Slice _ _ none _) (Value.ref _) (Value.ref _)) _ _ _); (with_reducible rename Fr _ _ _ _ => F'q); (with_reducible rename News _ _ _ _ => N'q); k_dflt (refine slice_L (s := ⟨_, _, _, _, _⟩) F'q N'q (by k_mem) (by with_reducible assumption) (by constructor) (by constructor) (by omega) ?_); intro l'q vs'q h'q hB'q hZ'q F'q N'q o1q; (try simp only [LCg.Off1, and_true] at o1q))
  k_with "call builtin:len" => (k_here; (with_reducible show wpAny _ _ (call (Value.builtin "len") [Value.ref _]) _ _ _); k_dflt (refine len_LK (by k_asm) (by k_mem) (by omega) ?_); intro _ _)
  k_with "exec While Compare cons nil" => refine Held.out ?_
  k_with "exec While BoolOp" => refine Held.out ?_
  k_with "KswEnd" => refine Held.out ?_
  k_with "getAttr ref" => (k_here; (with_reducible show wpAny _ _ (getAttr (Value.ref _) (Str.ofString "message") _) _ _ _); k_dflt (refine com_msg _ (by k_asm) (by k_in) (by k_asm) (IsCom.sub (by with_reducible assumption) (by walk_at "my k_subs")) ?_); intro _ _)
  k_with "getMethod ref" => (k_here; (with_reducible show wpAny _ _ (getMethod (Value.ref _) (Str.ofString "subject") _) _ _ _); k_dflt (refine' com_subj _ ?zqkF ?zqkX ?zqkN ?zqkC ?_; (case zqkF => k_asm); (case zqkN => k_asm); (case zqkX => k_in); (case zqkC => exact IsCom.sub (by with_reducible assumption) (by walk_at "my k_subs")); k_whole); (try dsimp only [List.nil_append, List.cons_append, List.append_nil]))
  k_with "call ref" => ((with_reducible show wpAny _ _ (call _ (_ ++ [])) _ _ _); dsimp only [List.nil_append, List.cons_append, List.append_nil])
  k_with "getAttr ref" => (k_here; (with_reducible show wpAny _ _ (getAttr (Value.ref _) (Str.ofString "word") _) _ _ _); k_dflt (refine stp_word _ (by k_asm) (by k_in) (by k_asm) (IsStep.sub (by with_reducible assumption) (by walk_at "my k_subs")) ?_); intro _ _)
  k_with "getAttr ref" => (k_here; (with_reducible show wpAny _ _ (getAttr (Value.ref _) (Str.ofString "sign") _) _ _ _); k_dflt (refine stp_sign _ (by k_asm) (by k_in) (by k_asm) (IsStep.sub (by with_reducible assumption) (by walk_at "my k_subs")) ?_); intro _ _)
  k_with "my by_len" => first | omega | (simp only [List.length_append, List.length_cons, List.length_nil, List.length_map, By.hexCodes_len, sl_from_len]; omega)
  k_with "binaryOp Add bytes bytes" => (k_here; (with_reducible show wpAny _ _ (binaryOp Operator.Add (Value.bytes (List.toArray _) _) (Value.bytes (List.toArray _) _)) _ _ _); (refine By.add_B (by walk_at "my by_len") ?_); intro _ _)
  k_with "my subs" => first | exact fun p hp => hp | (refine sub_tail ?_; walk_at "my subs")
  k_with "my df" => ((try dsimp only); (try k_fold))
  k_with "my back" => first | ((with_reducible rename RB _ _ _ _ => R9q); obtain ⟨⟨t9q, e9q⟩, e9'q⟩ := R9q; subst e9q e9'q; walk_at "my df") | ((with_reducible rename RL _ _ _ _ => R9q); obtain ⟨l9q, vs9q, k9q, e9q, hB9q, e9'q, hl9q⟩ := R9q; subst e9q e9'q; have hZ9q := hB9q.length; (try simp only [LCg.Off1, and_true] at hl9q); walk_at "my df") | ((with_reducible rename RSubj _ _ _ _ => R9q); obtain ⟨q9q, t9q, t9'q, e9q, e9'q, hl9q⟩ := R9q; subst e9q e9'q; (try simp only [LCg.Off1, and_true] at hl9q); walk_at "my df") | ((with_reducible rename RSome _ _ _ _ => R9q); obtain ⟨⟨x9q, t9q, e9q, hx9q⟩, e9'q⟩ := R9q; subst e9q e9'q; walk_at "my df") | ((with_reducible rename RTrail _ _ _ _ => R9q); rcases R9q with ⟨hT9q, e9q, e9'q⟩ | ⟨key9q, q9q, t9q, t9'q, x9q, hT9q, e9q, e9'q, hl9q⟩ <;> (subst e9q e9'q; (try simp only [LCg.Off1, and_true] at hl9q); walk_at "my df")) | ((with_reducible rename RLen _ _ _ _ => R9q); obtain ⟨l9q, xs9q, k9q, e9q, hx9q, e9'q, hl9q⟩ := R9q; subst e9q e9'q; (try simp only [LCg.Off1, and_true] at hl9q); walk_at "my df") | ((with_reducible rename RStr _ _ _ _ => R9q); obtain ⟨⟨t9q, e9q⟩, e9'q⟩ := R9q; subst e9q e9'q; walk_at "my df") | ((with_reducible rename RMark _ _ _ _ => R9q); rcases R9q with ⟨hM9q, e9q, e9'q⟩ | ⟨hM9q, q9q, o9q, e9q, e9'q, hl9q⟩ <;> (subst e9q e9'q; (try simp only [LCg.Off1, and_true] at hl9q); walk_at "my df")) | ((with_reducible rename RStp _ _ _ _ _ => R9q); obtain ⟨c9q, dx9q, o9q, p9q, e9q, e9'q, hst9q⟩ := R9q; subst e9q e9'q; walk_at "my df") | ((with_reducible rename RCom _ _ _ _ => R9q); obtain ⟨c9q, dx9q, o9q, p9q, e9q, e9'q, hC9q, hl9q, hcd9q⟩ := R9q; subst e9q e9'q; walk_at "my df")
  k_with "my side" => first | with_reducible assumption | omega | exact Nat.le_trans (By.sl_len _ _ _) (by omega) | exact IsCom.sub (by with_reducible assumption) (by walk_at "my subs") | exact fun k hk => Nat.lt_trans (By.hexCodes_lt k hk) (by decide) | exact Nat.le_trans (By.subjB_len _) (by omega)
  k_with "call ref" => (k_here; k_dflt (refine' says_use ?zqc ?zqk1 ?zqk2 ?zqk3 ?zqk4 ?zqk5 ?zqkK ?zqkd ?zqku ?_; (case zqk1 => k_asm); (case zqk2 => k_asm); (case zqk3 => k_asm); (case zqk4 => k_asm); (case zqk5 => k_asm); (case zqc => walk_at "my contract"); (case zqkK => first | exact rfl | assumption); (case zqkd => first | ktr_room | decide); (case zqku => first | ktr_units | decide); intro v9q n9q h9q tk9q F9q N9q R9q; walk_at "my back"))
  k_with "my contract" => (with_reducible apply says_cut_end) <;> walk_at "my side"
  k_with "my contract" => (with_reducible apply says_rows) <;> walk_at "my side"
  k_with "my contract" => (with_reducible apply says_lines) <;> walk_at "my side"
  k_with "my contract" => (with_reducible apply says_ended) <;> walk_at "my side"
  k_with "my contract" => (with_reducible apply says_subject) <;> walk_at "my side"
  k_with "my contract" => (with_reducible apply says_trimmed) <;> walk_at "my side"
  k_with "my contract" => (with_reducible apply says_trailer) <;> walk_at "my side"
  k_with "my contract" => (with_reducible apply says_last) <;> walk_at "my side"
  k_with "my contract" => (with_reducible apply says_trailers) <;> walk_at "my side"
  k_with "my contract" => (with_reducible apply says_hex) <;> walk_at "my side"
  k_with "my contract" => (with_reducible apply says_oct) <;> walk_at "my side"
  k_with "my contract" => (with_reducible apply says_csubj) <;> walk_at "my side"
  k_with "my contract" => (with_reducible apply says_body) <;> walk_at "my side"
  k_with "my contract" => (with_reducible apply says_mark) <;> walk_at "my side"
  k_with "my contract" => (with_reducible apply says_bare) <;> walk_at "my side"
  intro p loose mean mg mb dp un gd cn cs ad ccd cl outer A₀ base h₀ L m s Q E B F X N T hk hdp hu hret
  have hend := By.ended_len b
  have hbar := By.bareB_len a
  refine wpAny_call ?_
  k_dflt cell_enter
  k_steps
  all_goals first
    | (have hE := By.joinS1 (b := b) (a := a) (by assumption); exact hret _ _ _ _ (by k_asm) (cb_drop (by k_asm) (by kcf_all)) (RB.of hE))
    | (have hE := By.joinS2 (b := b) (a := a) (by assumption) (by assumption); exact hret _ _ _ _ (by k_asm) (cb_drop (by k_asm) (by kcf_all)) (RB.of hE))
    | (have hE := By.joinS3 (b := b) (a := a) (by assumption) (by assumption); exact hret _ _ _ _ (by k_asm) (cb_drop (by k_asm) (by kcf_all)) (RB.of hE))
end Mine
end
section
namespace Mine
set_option maxRecDepth 100000 in
set_option maxHeartbeats 1000000 in
theorem says_lhex (w : World) (a : List UInt8) (t : Tok) (news : List (Addr × Obj)) (ha : a.length ≤ 64) : Says w 286 1 [.bytes a.toArray t] news (RB (By.hexB a) news) := by
  unfold Says
  k_fill
  w_top off
  k_with_none
  k_with "getMethod bytes" => (k_here; first | refine By.get_method By.slot_find By.type_find ?_ | refine By.get_method By.slot_split By.type_split ?_ | refine By.get_method By.slot_rstrip By.type_rstrip ?_ | refine By.get_method By.slot_lstrip By.type_lstrip ?_ | refine By.get_method By.slot_join By.type_join ?_ | refine By.get_method FB.slot_bytes_startswith FB.type_bytes_startswith ?_ | refine By.get_method FB.slot_bytes_endswith FB.type_bytes_endswith ?_)
  k_with "call builtin:len" => (k_here; (with_reducible show wpAny _ _ (call (Value.builtin "len") [Value.bytes (List.toArray _) _]) _ _ _); (refine By.len_B (by first | assumption | omega) ?_); intro _ _)
  k_with "subscriptTail" => (k_here; (with_reducible show wpAny _ _ (subscriptTail _ _ (Value.bytes (List.toArray _) _) (Value.int _ _)) _ _ _); (refine By.item_B (by first | assumption | omega) (by omega) (by omega) ?_); intro _ _)
  k_with "subscriptTail" => (k_here; (with_reducible show wpAny _ _ (subscriptTail _ (Expr.Slice _ _ none _) (Value.bytes (List.toArray _) _) (Value.ref _)) _ _ _); (with_reducible rename Fr _ _ _ _ => F'q); (with_reducible rename News _ _ _ _ => N'q); (refine By.slice_B (s := ⟨_, _, _, _, _⟩) F'q N'q (by constructor) (by constructor) (by first | assumption | omega) ?_); intro _ _ _ _ _)
  k_with "compareOp In int bytes" => (k_here; (with_reducible show wpAny _ _ (compareOp CmpOp.In (Value.int _ _) (Value.bytes (List.toArray _) _)) _ _ _); refine By.in_byte ?_)
  k_with "compareOp Eq bytes bytes" => (k_here; (with_reducible show wpAny _ _ (compareOp CmpOp.Eq (Value.bytes (List.toArray _) _) (Value.bytes (List.toArray _) _)) _ _ _); refine By.eq_B ?_)
  k_with "compareOp NotEq bytes bytes" => (k_here; (with_reducible show wpAny _ _ (compareOp CmpOp.NotEq (Value.bytes (List.toArray _) _) (Value.bytes (List.toArray _) _)) _ _ _); refine By.ne_B ?_)
  k_with "binaryOp Add bytes bytes" => (k_here; (with_reducible show wpAny _ _ (binaryOp Operator.Add (Value.bytes (List.toArray _) _) (Value.bytes (List.toArray _) _)) _ _ _); (refine By.add_B (by first | assumption | omega | (simp only [List.length_append, List.length_cons, List.length_nil] at *; omega)) ?_); intro _ _)
  k_with "call builtin:bytes.startswith" => (k_here; (with_reducible show wpAny _ _ (call (Value.builtin _) [Value.bytes (List.toArray _) _, Value.bytes (List.toArray _) _]) _ _ _); refine By.call_startswith ?_)
  k_with "call builtin:bytes.endswith" => (k_here; (with_reducible show wpAny _ _ (call (Value.builtin _) [Value.bytes (List.toArray _) _, Value.bytes (List.toArray _) _]) _ _ _); refine By.call_endswith ?_)
  k_with "call builtin:bytes.rstrip" => (k_here; (with_reducible show wpAny _ _ (call (Value.builtin _) [Value.bytes (List.toArray _) _, Value.bytes (List.toArray _) _]) _ _ _); (refine By.call_rstrip (by first | assumption | omega) ?_); intro _ _)
  k_with "call builtin:bytes.lstrip" => (k_here; (with_reducible show wpAny _ _ (call (Value.builtin _) [Value.bytes (List.toArray _) _, Value.bytes (List.toArray _) _]) _ _ _); (refine By.call_lstrip (by first | assumption | omega) ?_); intro _ _)
  k_with "call builtin:bytes.find" => (k_here; first | (refine By.call_find0 ?_; intro _ _) | (refine By.call_findI (by omega) (by omega) ?_; intro _ _))
  k_with "call builtin:bytes.split" => (k_here; k_dflt (refine' By.call_split ?zqk1 ?zqk2 ?zqk3 ?_; (case zqk1 => k_asm); (case zqk2 => k_asm); (case zqk3 => omega); k_whole); intro l'q vs'q h'q k'q hB'q hS'q hZ'q F'q N'q o1q; (try simp only [LCg.Off1, and_true] at o1q); (try k_sweep))
  k_with "call builtin:list.append" => (k_here; (with_reducible show wpAny _ _ (call (Value.builtin _) [Value.ref _, _]) _ _ _); k_dflt (refine' append_K ?zqk1 ?zqk2 ?zqk3 ?_ ?zqz; (case zqk1 => k_asm); (case zqk2 => k_asm); (case zqk3 => k_upd); (case zqz => (rw [PySem.sizeLine_eq]; simp only [List.size_toArray]; omega)); k_whole); intro h'q F'q N'q; (try k_sweep))
  k_with "call builtin:bytes.join" => (k_here; (with_reducible show wpAny _ _ (call (Value.builtin _) [Value.bytes (List.toArray _) _, Value.ref _]) _ _ _); k_dflt (refine By.call_join (News.isList (by k_asm) (by k_mem)) (by with_reducible assumption) (by first | assumption | omega) ?_); intro _ _)
  k_with "eval ListComp" => (k_here; k_dflt (refine ListComp_WF (by k_asm) (by rfl) (by decide) (by rfl) (by decide) (by rfl) ?_))
  k_with "SrcW" => refine Held.out ?_
  k_with "CompEnd" => refine Held.out ?_
  k_with "subscriptTail" => (k_here; first | ((with_reducible show wpAny _ _ (subscriptTail _ _ (Value.bytes _ _) (Value.int (Int.fdiv _ _) _)) _ _ _); k_dflt (refine fig_hi ?_; intro _ _)) | ((with_reducible show wpAny _ _ (subscriptTail _ _ (Value.bytes _ _) (Value.int (Int.fmod _ _) _)) _ _ _); k_dflt (refine fig_lo ?_; intro _ _)))
  k_with "call type:bytes" => (k_here; (with_reducible show wpAny _ _ (call (Value.type "bytes") [Value.ref _]) _ _ _); k_dflt (refine bytes_two (by k_asm) (by k_asm) (by rfl) (by k_mem) (by assumption) (by assumption) ?_); intro h'q t'q k'q F'q N'q; (try k_sweep))
  k_with "my subs" => first | exact fun p hp => hp | (refine sub_tail ?_; walk_at "my subs")
  k_with "my df" => ((try dsimp only); (try k_fold))
  k_with "my back" => first | ((with_reducible rename RB _ _ _ _ => R9q); obtain ⟨⟨t9q, e9q⟩, e9'q⟩ := R9q; subst e9q e9'q; walk_at "my df") | ((with_reducible rename RL _ _ _ _ => R9q); obtain ⟨l9q, vs9q, k9q, e9q, hB9q, e9'q, hl9q⟩ := R9q; subst e9q e9'q; have hZ9q := hB9q.length; (try simp only [LCg.Off1, and_true] at hl9q); walk_at "my df") | ((with_reducible rename RSubj _ _ _ _ => R9q); obtain ⟨q9q, t9q, t9'q, e9q, e9'q, hl9q⟩ := R9q; subst e9q e9'q; (try simp only [LCg.Off1, and_true] at hl9q); walk_at "my df") | ((with_reducible rename RSome _ _ _ _ => R9q); obtain ⟨⟨x9q, t9q, e9q, hx9q⟩, e9'q⟩ := R9q; subst e9q e9'q; walk_at "my df") | ((with_reducible rename RTrail _ _ _ _ => R9q); rcases R9q with ⟨hT9q, e9q, e9'q⟩ | ⟨key9q, q9q, t9q, t9'q, x9q, hT9q, e9q, e9'q, hl9q⟩ <;> (subst e9q e9'q; (try simp only [LCg.Off1, and_true] at hl9q); walk_at "my df")) | ((with_reducible rename RLen _ _ _ _ => R9q); obtain ⟨l9q, xs9q, k9q, e9q, hx9q, e9'q, hl9q⟩ := R9q; subst e9q e9'q; (try simp only [LCg.Off1, and_true] at hl9q); walk_at "my df") | ((with_reducible rename RStr _ _ _ _ => R9q); obtain ⟨⟨t9q, e9q⟩, e9'q⟩ := R9q; subst e9q e9'q; walk_at "my df") | ((with_reducible rename RMark _ _ _ _ => R9q); rcases R9q with ⟨hM9q, e9q, e9'q⟩ | ⟨hM9q, q9q, o9q, e9q, e9'q, hl9q⟩ <;> (subst e9q e9'q; (try simp only [LCg.Off1, and_true] at hl9q); walk_at "my df")) | ((with_reducible rename RStp _ _ _ _ _ => R9q); obtain ⟨c9q, dx9q, o9q, p9q, e9q, e9'q, hst9q⟩ := R9q; subst e9q e9'q; walk_at "my df") | ((with_reducible rename RCom _ _ _ _ => R9q); obtain ⟨c9q, dx9q, o9q, p9q, e9q, e9'q, hC9q, hl9q, hcd9q⟩ := R9q; subst e9q e9'q; walk_at "my df")
  k_with "my side" => first | with_reducible assumption | omega | exact Nat.le_trans (By.sl_len _ _ _) (by omega) | exact IsCom.sub (by with_reducible assumption) (by walk_at "my subs") | exact fun k hk => Nat.lt_trans (By.hexCodes_lt k hk) (by decide) | exact Nat.le_trans (By.subjB_len _) (by omega)
  k_with "call ref" => (k_here; k_dflt (refine' says_use ?zqc ?zqk1 ?zqk2 ?zqk3 ?zqk4 ?zqk5 ?zqkK ?zqkd ?zqku ?_; (case zqk1 => k_asm); (case zqk2 => k_asm); (case zqk3 => k_asm); (case zqk4 => k_asm); (case zqk5 => k_asm); (case zqc => walk_at "my contract"); (case zqkK => first | exact rfl | assumption); (case zqkd => first | ktr_room | decide); (case zqku => first | ktr_units | decide); intro v9q n9q h9q tk9q F9q N9q R9q; walk_at "my back"))
  k_with "my contract" => (with_reducible apply says_cut_end) <;> walk_at "my side"
  k_with "my contract" => (with_reducible apply says_rows) <;> walk_at "my side"
  k_with "my contract" => (with_reducible apply says_lines) <;> walk_at "my side"
  k_with "my contract" => (with_reducible apply says_ended) <;> walk_at "my side"
  k_with "my contract" => (with_reducible apply says_subject) <;> walk_at "my side"
  k_with "my contract" => (with_reducible apply says_trimmed) <;> walk_at "my side"
  k_with "my contract" => (with_reducible apply says_trailer) <;> walk_at "my side"
  k_with "my contract" => (with_reducible apply says_last) <;> walk_at "my side"
  k_with "my contract" => (with_reducible apply says_trailers) <;> walk_at "my side"
  k_with "my contract" => (with_reducible apply says_hex) <;> walk_at "my side"
  k_with "my contract" => (with_reducible apply says_oct) <;> walk_at "my side"
  k_with "my contract" => (with_reducible apply says_csubj) <;> walk_at "my side"
  k_with "my contract" => (with_reducible apply says_body) <;> walk_at "my side"
  k_with "my contract" => (with_reducible apply says_mark) <;> walk_at "my side"
  k_with "my contract" => (with_reducible apply says_bare) <;> walk_at "my side"
  intro p loose mean mg mb dp un gd cn cs ad ccd cl outer A₀ base h₀ L m s Q E B F X N T hk hdp hu hret
  refine wpAny_call ?_
  k_dflt walk_at "my cell_enterC"
  rename (∀ p ∈ news, p.1 < _) => hlt
  have hcl := ne_cell hlt
  k_steps
  refine Held.on ?_
  k_dflt (refine SrcW.bytes (by rfl) (by k_asm) (by k_asm) (by omega) ?_)
  intro g'
  rw [show a.toArray.size = a.length from by simp]
  refine bcf_any a (fun c v => ∃ u, v = .int (c.toNat : Int) u) (fun (c : UInt8) v => ∃ t, v = .bytes [(By.hexd (c.toNat / 16)).toUInt8, (By.hexd (c.toNat % 16)).toUInt8].toArray t) (by rintro i v ⟨c, u, h1, h2⟩; exact ⟨c, by simpa using h1, u, h2⟩) (fun c' v' I' oI' C' oC' D' m' ys' h' tk' E' hc' hv' hC' hx' F' N' off' ne' => ?_) ?_
  · obtain ⟨u', rfl⟩ := hv'
    have hc1 : By.hexd (c'.toNat / 16) < 256 := Nat.lt_trans (By.hexd_lt (by have := c'.toNat_lt; omega)) (by decide)
    have hc2 : By.hexd (c'.toNat % 16) < 256 := Nat.lt_trans (By.hexd_lt (by have := c'.toNat_lt; omega)) (by decide)
    k_steps
    refine Held.on ?_
    exact LCg.CompEnd.intro (by k_asm) (by k_asm) _ (fun p hp => .tail _ hp) (by assumption) trivial ⟨rfl, _, rfl⟩
  · intro ys hys
    have hb := Rel2.bs (f := By.hex2) hys
    have hj := By.join_hex2 a
    have hl := By.hexB_len a
    have hl2 : (By.joinB [] (a.map By.hex2)).length ≤ 16777216 := by rw [hj]; omega
    k_steps
    exact hret _ _ _ _ (by k_asm) (cb_drop (by k_asm) (by kcf_all)) (RB.of hj)
end Mine
end
section
namespace Mine
local macro_rules | `(tactic| k_mem) => `(tactic| first | exact List.Mem.head _ | with_reducible_and_instances assumption | (refine' List.Mem.tail _ ?_; k_mem))
set_option maxRecDepth 100000 in
set_option maxHeartbeats 1000000 in
theorem says_lend (w : World) (l : Addr) (vs : List Value) (n : Nat) (rs : List (List UInt8)) (news : List (Addr × Obj)) (hm : (l, listOf vs.toArray n) ∈ news) (hv : BsAre vs rs) (hsh : Short 200 rs) (hn : rs.length ≤ 200) : Says w 303 1 [.ref l] news (RB (By.lend rs) news) := by
  unfold Says
  k_fill
  w_top off
  k_with_none
  k_with "getMethod bytes" => (k_here; first | refine By.get_method By.slot_find By.type_find ?_ | refine By.get_method By.slot_split By.type_split ?_ | refine By.get_method By.slot_rstrip By.type_rstrip ?_ | refine By.get_method By.slot_lstrip By.type_lstrip ?_ | refine By.get_method By.slot_join By.type_join ?_ | refine By.get_method FB.slot_bytes_startswith FB.type_bytes_startswith ?_ | refine By.get_method FB.slot_bytes_endswith FB.type_bytes_endswith ?_)
  k_with "call builtin:len" => (k_here; (with_reducible show wpAny _ _ (call (Value.builtin "len") [Value.bytes (List.toArray _) _]) _ _ _); (refine By.len_B (by first | assumption | omega) ?_); intro _ _)
  k_with "subscriptTail" => (k_here; (with_reducible show wpAny _ _ (subscriptTail _ _ (Value.bytes (List.toArray _) _) (Value.int _ _)) _ _ _); (refine By.item_B (by first | assumption | omega) (by omega) (by omega) ?_); intro _ _)
  k_with "subscriptTail" => (k_here; (with_reducible show wpAny _ _ (subscriptTail _ (Expr.Slice _ _ none _) (Value.bytes (List.toArray _) _) (Value.ref _)) _ _ _); (with_reducible rename Fr _ _ _ _ => F'q); (with_reducible rename News _ _ _ _ => N'q); (refine By.slice_B (s := ⟨_, _, _, _, _⟩) F'q N'q (by constructor) (by constructor) (by first | assumption | omega) ?_); intro _ _ _ _ _)
  k_with "compareOp In int bytes" => (k_here; (with_reducible show wpAny _ _ (compareOp CmpOp.In (Value.int _ _) (Value.bytes (List.toArray _) _)) _ _ _); refine By.in_byte ?_)
  k_with "compareOp Eq bytes bytes" => (k_here; (with_reducible show wpAny _ _ (compareOp CmpOp.Eq (Value.bytes (List.toArray _) _) (Value.bytes (List.toArray _) _)) _ _ _); refine By.eq_B ?_)
  k_with "compareOp NotEq bytes bytes" => (k_here; (with_reducible show wpAny _ _ (compareOp CmpOp.NotEq (Value.bytes (List.toArray _) _) (Value.bytes (List.toArray _) _)) _ _ _); refine By.ne_B ?_)
  k_with "binaryOp Add bytes bytes" => (k_here; (with_reducible show wpAny _ _ (binaryOp Operator.Add (Value.bytes (List.toArray _) _) (Value.bytes (List.toArray _) _)) _ _ _); (refine By.add_B (by first | assumption | omega | (simp only [List.length_append, List.length_cons, List.length_nil] at *; omega)) ?_); intro _ _)
  k_with "call builtin:bytes.startswith" => (k_here; (with_reducible show wpAny _ _ (call (Value.builtin _) [Value.bytes (List.toArray _) _, Value.bytes (List.toArray _) _]) _ _ _); refine By.call_startswith ?_)
  k_with "call builtin:bytes.endswith" => (k_here; (with_reducible show wpAny _ _ (call (Value.builtin _) [Value.bytes (List.toArray _) _, Value.bytes (List.toArray _) _]) _ _ _); refine By.call_endswith ?_)
  k_with "call builtin:bytes.rstrip" => (k_here; (with_reducible show wpAny _ _ (call (Value.builtin _) [Value.bytes (List.toArray _) _, Value.bytes (List.toArray _) _]) _ _ _); (refine By.call_rstrip (by first | assumption | omega) ?_); intro _ _)
  k_with "call builtin:bytes.lstrip" => (k_here; (with_reducible show wpAny _ _ (call (Value.builtin _) [Value.bytes (List.toArray _) _, Value.bytes (List.toArray _) _]) _ _ _); (refine By.call_lstrip (by first | assumption | omega) ?_); intro _ _)
  k_with "call builtin:bytes.find" => (k_here; first | (refine By.call_find0 ?_; intro _ _) | (refine By.call_findI (by omega) (by omega) ?_; intro _ _))
  k_with "call builtin:bytes.split" => (k_here; k_dflt (refine' By.call_split ?zqk1 ?zqk2 ?zqk3 ?_; (case zqk1 => k_asm); (case zqk2 => k_asm); (case zqk3 => omega); k_whole); intro l'q vs'q h'q k'q hB'q hS'q hZ'q F'q N'q o1q; (try simp only [LCg.Off1, and_true] at o1q); (try k_sweep))
  k_with "call builtin:list.append" => (k_here; (with_reducible show wpAny _ _ (call (Value.builtin _) [Value.ref _, _]) _ _ _); k_dflt (refine' append_K ?zqk1 ?zqk2 ?zqk3 ?_ ?zqz; (case zqk1 => k_asm); (case zqk2 => k_asm); (case zqk3 => k_upd); (case zqz => (rw [PySem.sizeLine_eq]; simp only [List.size_toArray]; omega)); k_whole); intro h'q F'q N'q; (try k_sweep))
  k_with "call builtin:bytes.join" => (k_here; (with_reducible show wpAny _ _ (call (Value.builtin _) [Value.bytes (List.toArray _) _, Value.ref _]) _ _ _); k_dflt (refine By.call_join (News.isList (by k_asm) (by k_mem)) (by with_reducible assumption) (by first | assumption | omega) ?_); intro _ _)
  k_with "eval ListComp" => (k_here; k_dflt (refine LCg.ListComp_U (F₀ := by k_asm) (by rfl) (by decide) (by rfl) (by decide) (by rfl) ?_))
  k_with "exec Assign cons ListComp" => (k_here; k_dflt (refine LCg.Assign_ListComp_U (F₀ := by k_asm) (by rfl) (by with_unfolding_all rfl) (by with_unfolding_all rfl) (by decide) (by rfl) (by decide) (by rfl) (by rfl) (by rfl) ?_))
  k_with "CompEnd" => refine Held.out ?_
  k_with "CompSrc" => refine Held.out ?_
  k_with "WEnd" => refine Held.out ?_
  k_with "compareOp NotEq ref ref" => (k_here; (with_reducible show wpAny _ _ (compareOp CmpOp.NotEq (Value.ref _) (Value.ref _)) _ _ _); k_dflt (refine ne_nilK (by k_asm) (by k_mem) (by k_mem) (by ktr_units) ?_))
  k_with "compareOp Eq ref ref" => (k_here; (with_reducible show wpAny _ _ (compareOp CmpOp.Eq (Value.ref _) (Value.ref _)) _ _ _); k_dflt (refine eq_nilK (by k_asm) (by k_mem) (by k_mem) (by ktr_units) ?_))
  k_with "subscriptTail" => (k_here; (with_reducible show wpAny _ _ (subscriptTail _ _ (Value.ref _) (Value.int _ _)) _ _ _); k_dflt first | ((with_reducible show wpAny _ _ (subscriptTail _ (Expr.UnaryOp _ _ _) _ _) _ _ _); refine item_lastK (by k_asm) (by k_mem) (by with_reducible assumption) (by omega) (by omega) ?_; intro _) | (refine item_K (by k_asm) (by k_mem) (by with_reducible assumption) (by omega) (by omega) (by omega) ?_; intro _))
  k_with "call builtin:list.pop" => (k_here; (with_reducible show wpAny _ _ (call (Value.builtin _) [Value.ref _]) _ _ _); k_dflt (refine' popK ?zqF ?zqN ?zqU ?zqi ?zql ?zqz ?_; (case zqF => k_asm); (case zqN => k_asm); (case zqU => k_upd); (case zqi => with_reducible assumption); (case zql => omega); (case zqz => omega)); intro h'q t'q F'q N'q; (try k_sweep))
  k_with "subscriptTail" => (k_here; (with_reducible show wpAny _ _ (subscriptTail _ (Expr.Slice _ _ none _) (Value.ref _) (Value.ref _)) _ _ _); (with_reducible rename Fr _ _ _ _ => F'q); (with_reducible rename News _ _ _ _ => N'q); k_dflt (refine slice_L (s := ⟨_, _, _, _, _⟩) F'q N'q (by k_mem) (by with_reducible assumption) (by constructor) (by constructor) (by omega) ?_); intro l'q vs'q h'q hB'q hZ'q F'q N'q o1q; (try simp only [LCg.Off1, and_true] at o1q))
  k_with "subscriptTail Name Slice ref ref" => (k_here; (with_reducible show wpAny _ _ (subscriptTail _ (Expr.Slice _ _ none _) (Value.ref _) (Value.ref _)) _ _ _); (with_reducible rename Fr _ _ _ _ => F'q); (with_reducible rename News _ _ _ _ => N'q); k_dflt (refine slice_L (s := ⟨_, _, _, _, _⟩) F'q N'q (by k_mem) (by with_reducible assumption) (by constructor) (by constructor) (by omega) ?_); intro l'q vs'q h'q hB'q hZ'q F'q N'q o1q; (try simp only [LCg.Off1, and_true] at o1q))
  k_with "subscriptTail Call Slice ref ref" => (k_here; (with_reducible show wpAny _ _ (subscriptTail _ (Expr.Slice _ _ none _) (Value.ref _) (Value.ref _)) _ _ _); (with_reducible rename Fr _ _ _ _ => F'q); (with_reducible rename News _ _ _ _ => N'q); k_dflt (refine slice_L (s := ⟨_, _, _, _, _⟩) F'q N'q (by k_mem) (by with_reducible assumption) (by constructor) (by constructor) (by omega) ?_); intro l'q vs'q h'q hB'q hZ'q F'q N'q o1q; (try simp only [LCg.Off1, and_true] at o1q))
  k_with "call builtin:len" => (k_here; (with_reducible show wpAny _ _ (call (Value.builtin "len") [Value.ref _]) _ _ _); k_dflt (refine len_LK (by k_asm) (by k_mem) (by omega) ?_); intro _ _)
  k_with "exec While Compare cons nil" => refine Held.out ?_
  k_with "exec While BoolOp" => refine Held.out ?_
  k_with "KswEnd" => refine Held.out ?_
  k_with "my subs" => first | exact fun p hp => hp | (refine sub_tail ?_; walk_at "my subs")
  k_with "my df" => ((try dsimp only); (try k_fold))
  k_with "my back" => first | ((with_reducible rename RB _ _ _ _ => R9q); obtain ⟨⟨t9q, e9q⟩, e9'q⟩ := R9q; subst e9q e9'q; walk_at "my df") | ((with_reducible rename RL _ _ _ _ => R9q); obtain ⟨l9q, vs9q, k9q, e9q, hB9q, e9'q, hl9q⟩ := R9q; subst e9q e9'q; have hZ9q := hB9q.length; (try simp only [LCg.Off1, and_true] at hl9q); walk_at "my df") | ((with_reducible rename RSubj _ _ _ _ => R9q); obtain ⟨q9q, t9q, t9'q, e9q, e9'q, hl9q⟩ := R9q; subst e9q e9'q; (try simp only [LCg.Off1, and_true] at hl9q); walk_at "my df") | ((with_reducible rename RSome _ _ _ _ => R9q); obtain ⟨⟨x9q, t9q, e9q, hx9q⟩, e9'q⟩ := R9q; subst e9q e9'q; walk_at "my df") | ((with_reducible rename RTrail _ _ _ _ => R9q); rcases R9q with ⟨hT9q, e9q, e9'q⟩ | ⟨key9q, q9q, t9q, t9'q, x9q, hT9q, e9q, e9'q, hl9q⟩ <;> (subst e9q e9'q; (try simp only [LCg.Off1, and_true] at hl9q); walk_at "my df")) | ((with_reducible rename RLen _ _ _ _ => R9q); obtain ⟨l9q, xs9q, k9q, e9q, hx9q, e9'q, hl9q⟩ := R9q; subst e9q e9'q; (try simp only [LCg.Off1, and_true] at hl9q); walk_at "my df") | ((with_reducible rename RStr _ _ _ _ => R9q); obtain ⟨⟨t9q, e9q⟩, e9'q⟩ := R9q; subst e9q e9'q; walk_at "my df") | ((with_reducible rename RMark _ _ _ _ => R9q); rcases R9q with ⟨hM9q, e9q, e9'q⟩ | ⟨hM9q, q9q, o9q, e9q, e9'q, hl9q⟩ <;> (subst e9q e9'q; (try simp only [LCg.Off1, and_true] at hl9q); walk_at "my df")) | ((with_reducible rename RStp _ _ _ _ _ => R9q); obtain ⟨c9q, dx9q, o9q, p9q, e9q, e9'q, hst9q⟩ := R9q; subst e9q e9'q; walk_at "my df") | ((with_reducible rename RCom _ _ _ _ => R9q); obtain ⟨c9q, dx9q, o9q, p9q, e9q, e9'q, hC9q, hl9q, hcd9q⟩ := R9q; subst e9q e9'q; walk_at "my df")
  k_with "my side" => first | with_reducible assumption | omega | exact Nat.le_trans (By.sl_len _ _ _) (by omega) | exact IsCom.sub (by with_reducible assumption) (by walk_at "my subs") | exact fun k hk => Nat.lt_trans (By.hexCodes_lt k hk) (by decide) | exact Nat.le_trans (By.subjB_len _) (by omega)
  k_with "call ref" => (k_here; k_dflt (refine' says_use ?zqc ?zqk1 ?zqk2 ?zqk3 ?zqk4 ?zqk5 ?zqkK ?zqkd ?zqku ?_; (case zqk1 => k_asm); (case zqk2 => k_asm); (case zqk3 => k_asm); (case zqk4 => k_asm); (case zqk5 => k_asm); (case zqc => walk_at "my contract"); (case zqkK => first | exact rfl | assumption); (case zqkd => first | ktr_room | decide); (case zqku => first | ktr_units | decide); intro v9q n9q h9q tk9q F9q N9q R9q; walk_at "my back"))
  k_with "my contract" => (with_reducible apply says_cut_end) <;> walk_at "my side"
  k_with "my contract" => (with_reducible apply says_rows) <;> walk_at "my side"
  k_with "my contract" => (with_reducible apply says_lines) <;> walk_at "my side"
  k_with "my contract" => (with_reducible apply says_ended) <;> walk_at "my side"
  k_with "my contract" => (with_reducible apply says_subject) <;> walk_at "my side"
  k_with "my contract" => (with_reducible apply says_trimmed) <;> walk_at "my side"
  k_with "my contract" => (with_reducible apply says_trailer) <;> walk_at "my side"
  k_with "my contract" => (with_reducible apply says_last) <;> walk_at "my side"
  k_with "my contract" => (with_reducible apply says_trailers) <;> walk_at "my side"
  k_with "my contract" => (with_reducible apply says_hex) <;> walk_at "my side"
  k_with "my contract" => (with_reducible apply says_oct) <;> walk_at "my side"
  k_with "my contract" => (with_reducible apply says_csubj) <;> walk_at "my side"
  k_with "my contract" => (with_reducible apply says_body) <;> walk_at "my side"
  k_with "my contract" => (with_reducible apply says_mark) <;> walk_at "my side"
  k_with "my contract" => (with_reducible apply says_bare) <;> walk_at "my side"
  k_with "my contract" => (with_reducible apply says_lhex) <;> walk_at "my side"
  intro p loose mean mg mb dp un gd cn cs ad ccd cl outer A₀ base h₀ L m s Q E B F X N T hk hdp hu hret
  have hvl := hv.length
  refine wpAny_call ?_
  k_dflt cell_enter
  k_steps
  refine Held.on ?_
  k_dflt (refine LCg.CompSrc.ledger (by rfl) (by k_asm) (by k_asm) (by k_mem) (by (rw [PySem.sizeLine_eq, List.size_toArray]; omega)) ?_)
  intro g'
  refine bcf_list (By.rcut [32, 9, 13]) (by assumption) (fun b' t' I' oI' C' oC' D' m' ys' h' tk' E' hb' hC' hx' F' N' off' ne' => ?_) ?_
  · have hbl' := Short.at hsh hb'
    k_steps
    refine Held.on ?_
    exact LCg.CompEnd.intro (by k_asm) (by k_asm) _ (fun p hp => hp) (by assumption) (.inr ⟨_, hm, rfl, _, rfl⟩) (BEl.of rfl)
  · intro ys hys
    k_steps
    refine Held.on ?_
    rename Fr _ _ _ _ => lF'
    rename News _ _ _ _ => lN'
    rename LCg.Off1 _ news => hfr
    have hzy : ys.length ≤ 1000 := by rw [hys.length, List.length_map]; omega
    with_unfolding_all refine' whileG (σ := Addr × List Value × Nat × List (List UInt8)) (fun c => c.1) (fun c => listOf c.2.1.toArray c.2.2.1) (fun c => [(Str.ofString "plain", Value.ref c.1)]) [] (fun c => LCg.Off1 c.1 news ∧ BsAre c.2.1 c.2.2.2 ∧ c.2.1.length ≤ 1000 ∧ By.hcut c.2.2.2 = By.hcut (rs.map (By.rcut [32, 9, 13]))) (fun c => c.2.1.length) (fun c => LCg.Off1 c.1 news ∧ BsAre c.2.1 c.2.2.2 ∧ c.2.1.length ≤ 1000 ∧ c.2.2.2 = By.hcut (rs.map (By.rcut [32, 9, 13]))) (_, ys, _, rs.map (By.rcut [32, 9, 13])) lF' lN' ?kk ?kp ?_ ?_
    case kk => kst_all
    case kp => exact ⟨hfr, hys, hzy, rfl⟩
    · clear lF' lN'
      intro c u h tk Q' hP F1 N1
      obtain ⟨l2, vs2, n2, bs2⟩ := c
      obtain ⟨hf2, hb2, hz2, he2⟩ := hP
      dsimp only [kstB] at F1
      dsimp only at N1 hf2 hb2 hz2 he2
      (try k_unmd)
      (try k_fold)
      k_steps
      · refine Held.on ?_
        have hne : bs2 ≠ [] := fun q => by have := hb2.length; rw [q, List.length_nil] at this; omega
        rename BsAre _ (By.sl _ _ _) => hB3
        rw [By.sl_from (by decide)] at hB3
        rename (_ ∧ _ ∧ LCg.Off1 _ news) => ho
        exact ksw_end (_, _, _, bs2.drop 1) (by assumption) (by assumption) (by kcf_all) trivial (by kst_all) (by ksw_same) ⟨ho.2.2, hB3, by dsimp only; omega, (By.hcut_pop hne (by assumption)).trans he2⟩ (by dsimp only; rw [hB3.length, List.length_drop, ← hb2.length]; omega)
      · refine Held.on ?_
        have hne : bs2 ≠ [] := fun q => by have := hb2.length; rw [q, List.length_nil] at this; omega
        exact WEnd.intro (l2, vs2, n2, bs2) (by assumption) (by assumption) (by kcf_all) (by kst_all) (by ksw_same) ⟨hf2, hb2, hz2, (By.hcut_done hne (by assumption)).symm.trans he2⟩
      · refine Held.on ?_
        have hne : bs2 = [] := List.eq_nil_of_length_eq_zero (by rw [← hb2.length]; omega)
        exact WEnd.intro (l2, vs2, n2, bs2) (by assumption) (by assumption) (by kcf_all) (by kst_all) (by ksw_same) ⟨hf2, hb2, hz2, by subst hne; exact he2⟩
    · clear lF' lN' hys hzy
      intro c u h tk hD F1 N1
      obtain ⟨l, vs, n, bs⟩ := c
      obtain ⟨hf, hb, hz, he⟩ := hD
      dsimp only [kstB] at F1
      dsimp only at N1 hf hb hz he
      k_steps
      refine Held.on ?_
      with_unfolding_all refine' whileG (σ := Addr × List Value × Nat × List (List UInt8)) (fun c => c.1) (fun c => listOf c.2.1.toArray c.2.2.1) (fun c => [(Str.ofString "plain", Value.ref c.1)]) [] (fun c => LCg.Off1 c.1 news ∧ BsAre c.2.1 c.2.2.2 ∧ c.2.1.length ≤ 1000 ∧ By.tcut c.2.2.2 = By.tcut bs) (fun c => c.2.1.length) (fun c => LCg.Off1 c.1 news ∧ BsAre c.2.1 c.2.2.2 ∧ c.2.1.length ≤ 1000 ∧ c.2.2.2 = By.tcut bs) (l, vs, n, bs) F1 N1 ?kk ?kp ?_ ?_
      case kk => kst_all
      case kp => exact ⟨hf, hb, hz, rfl⟩
      · clear F1 N1
        intro c u h tk Q' hP F1 N1
        obtain ⟨l2, vs2, n2, bs2⟩ := c
        obtain ⟨hf2, hb2, hz2, he2⟩ := hP
        dsimp only [kstB] at F1
        dsimp only at N1 hf2 hb2 hz2 he2
        clear hf hb hz
        (try k_unmd)
        (try k_fold)
        k_steps
        · refine Held.on ?_
          have hne : bs2 ≠ [] := fun q => by have := hb2.length; rw [q, List.length_nil] at this; omega
          rename BsAre _ (By.sl bs2 _ _) => hB3
          rw [By.dropLast_sl (by rw [← hb2.length]; omega)] at hB3
          rename (_ ∧ _ ∧ LCg.Off1 _ news) => ho
          exact ksw_end (_, _, _, bs2.dropLast) (by assumption) (by assumption) (by kcf_all) trivial (by kst_all) (by ksw_same) ⟨ho.2.2, hB3, by dsimp only; omega, (By.tcut_pop hne (by assumption)).trans he2⟩ (by dsimp only; rw [hB3.length, List.length_dropLast, ← hb2.length]; omega)
        · refine Held.on ?_
          have hne : bs2 ≠ [] := fun q => by have := hb2.length; rw [q, List.length_nil] at this; omega
          exact WEnd.intro (l2, vs2, n2, bs2) (by assumption) (by assumption) (by kcf_all) (by kst_all) (by ksw_same) ⟨hf2, hb2, hz2, (By.tcut_done hne (by assumption)).symm.trans he2⟩
        · refine Held.on ?_
          have hne : bs2 = [] := List.eq_nil_of_length_eq_zero (by rw [← hb2.length]; omega)
          exact WEnd.intro (l2, vs2, n2, bs2) (by assumption) (by assumption) (by kcf_all) (by kst_all) (by ksw_same) ⟨hf2, hb2, hz2, by subst hne; exact he2⟩
      · clear F1 N1
        intro c u h tk hD F1 N1
        obtain ⟨l2, vs2, n2, bs2⟩ := c
        obtain ⟨hf2, hb2, hz2, he2⟩ := hD
        dsimp only [kstB] at F1
        dsimp only at N1 hf2 hb2 hz2 he2
        clear hf hb hz
        k_steps
        refine Held.on ?_
        have hsub : ∀ x ∈ bs2, x ∈ rs.map (By.rcut [32, 9, 13]) := fun x hx => by
          rw [he2] at hx
          have := (By.tcut_pre _).subset hx
          rw [he] at this
          exact (By.hcut_suf _).subset this
        have hel := By.lend_len rs
        have hss := By.sum_short hsh
        have heq : By.joinB [] (bs2.map (· ++ [10])) = By.lend rs := by
          rw [By.joinB_nil, he2, he]; rfl
        k_dflt (refine LCg.CompSrc.ledger (by rfl) (by k_asm) (by k_asm) (by k_mem) (by (rw [PySem.sizeLine_eq, List.size_toArray]; omega)) ?_)
        intro g'
        refine bcf_list (· ++ [10]) (by assumption) (fun b' t' I' oI' C' oC' D' m' ys' h' tk' E' hb' hC' hx' F' N' off' ne' => ?_) ?_
        · have hbl' : b'.length ≤ 200 := by
            obtain ⟨r, hr, rfl⟩ := List.mem_map.mp (hsub b' hb')
            exact Nat.le_trans (By.rcut_len _ _) (Short.at hsh hr)
          k_steps
          refine Held.on ?_
          exact LCg.CompEnd.intro (by k_asm) (by k_asm) _ (fun p hp => hp) (by assumption) (.inr ⟨_, .head _, rfl, _, rfl⟩) (BEl.of rfl)
        · intro ys2 hys2
          have hJ : (By.joinB [] (bs2.map (· ++ [10]))).length ≤ 16777216 := by rw [heq]; omega
          k_steps
          exact hret _ _ _ _ (by k_asm) (cb_drop (by k_asm) (by kcf_all)) (RB.of heq)
end Mine
end
section
namespace Mine
local macro_rules | `(tactic| k_mem) => `(tactic| first | exact List.Mem.head _ | with_reducible_and_instances assumption | (refine' List.Mem.tail _ ?_; k_mem))
set_option maxRecDepth 100000 in
set_option maxHeartbeats 1000000 in
theorem says_msg (w : World) (d l : Addr) (od ol : Obj) (news : List (Addr × Obj)) (hdk : IsDeck w d l od ol) (hod : LCg.Off1 d news) (hol : LCg.Off1 l news) : Says w 293 2 [.ref d] ((d, od) :: (l, ol) :: news) (RMsg w d l news) := by
  unfold Says
  k_fill
  w_top off
  k_with_none
  k_with "getMethod bytes" => (k_here; first | refine By.get_method By.slot_find By.type_find ?_ | refine By.get_method By.slot_split By.type_split ?_ | refine By.get_method By.slot_rstrip By.type_rstrip ?_ | refine By.get_method By.slot_lstrip By.type_lstrip ?_ | refine By.get_method By.slot_join By.type_join ?_ | refine By.get_method FB.slot_bytes_startswith FB.type_bytes_startswith ?_ | refine By.get_method FB.slot_bytes_endswith FB.type_bytes_endswith ?_)
  k_with "call builtin:len" => (k_here; (with_reducible show wpAny _ _ (call (Value.builtin "len") [Value.bytes (List.toArray _) _]) _ _ _); (refine By.len_B (by first | assumption | omega) ?_); intro _ _)
  k_with "subscriptTail" => (k_here; (with_reducible show wpAny _ _ (subscriptTail _ _ (Value.bytes (List.toArray _) _) (Value.int _ _)) _ _ _); (refine By.item_B (by first | assumption | omega) (by omega) (by omega) ?_); intro _ _)
  k_with "subscriptTail" => (k_here; (with_reducible show wpAny _ _ (subscriptTail _ (Expr.Slice _ _ none _) (Value.bytes (List.toArray _) _) (Value.ref _)) _ _ _); (with_reducible rename Fr _ _ _ _ => F'q); (with_reducible rename News _ _ _ _ => N'q); (refine By.slice_B (s := ⟨_, _, _, _, _⟩) F'q N'q (by constructor) (by constructor) (by first | assumption | omega) ?_); intro _ _ _ _ _)
  k_with "compareOp In int bytes" => (k_here; (with_reducible show wpAny _ _ (compareOp CmpOp.In (Value.int _ _) (Value.bytes (List.toArray _) _)) _ _ _); refine By.in_byte ?_)
  k_with "compareOp Eq bytes bytes" => (k_here; (with_reducible show wpAny _ _ (compareOp CmpOp.Eq (Value.bytes (List.toArray _) _) (Value.bytes (List.toArray _) _)) _ _ _); refine By.eq_B ?_)
  k_with "compareOp NotEq bytes bytes" => (k_here; (with_reducible show wpAny _ _ (compareOp CmpOp.NotEq (Value.bytes (List.toArray _) _) (Value.bytes (List.toArray _) _)) _ _ _); refine By.ne_B ?_)
  k_with "binaryOp Add bytes bytes" => (k_here; (with_reducible show wpAny _ _ (binaryOp Operator.Add (Value.bytes (List.toArray _) _) (Value.bytes (List.toArray _) _)) _ _ _); (refine By.add_B (by first | assumption | omega | (simp only [List.length_append, List.length_cons, List.length_nil] at *; omega)) ?_); intro _ _)
  k_with "call builtin:bytes.startswith" => (k_here; (with_reducible show wpAny _ _ (call (Value.builtin _) [Value.bytes (List.toArray _) _, Value.bytes (List.toArray _) _]) _ _ _); refine By.call_startswith ?_)
  k_with "call builtin:bytes.endswith" => (k_here; (with_reducible show wpAny _ _ (call (Value.builtin _) [Value.bytes (List.toArray _) _, Value.bytes (List.toArray _) _]) _ _ _); refine By.call_endswith ?_)
  k_with "call builtin:bytes.rstrip" => (k_here; (with_reducible show wpAny _ _ (call (Value.builtin _) [Value.bytes (List.toArray _) _, Value.bytes (List.toArray _) _]) _ _ _); (refine By.call_rstrip (by first | assumption | omega) ?_); intro _ _)
  k_with "call builtin:bytes.lstrip" => (k_here; (with_reducible show wpAny _ _ (call (Value.builtin _) [Value.bytes (List.toArray _) _, Value.bytes (List.toArray _) _]) _ _ _); (refine By.call_lstrip (by first | assumption | omega) ?_); intro _ _)
  k_with "call builtin:bytes.find" => (k_here; first | (refine By.call_find0 ?_; intro _ _) | (refine By.call_findI (by omega) (by omega) ?_; intro _ _))
  k_with "call builtin:bytes.split" => (k_here; k_dflt (refine' By.call_split ?zqk1 ?zqk2 ?zqk3 ?_; (case zqk1 => k_asm); (case zqk2 => k_asm); (case zqk3 => omega); k_whole); intro l'q vs'q h'q k'q hB'q hS'q hZ'q F'q N'q o1q; (try simp only [LCg.Off1, and_true] at o1q); (try k_sweep))
  k_with "call builtin:list.append" => (k_here; (with_reducible show wpAny _ _ (call (Value.builtin _) [Value.ref _, _]) _ _ _); k_dflt (refine' append_K ?zqk1 ?zqk2 ?zqk3 ?_ ?zqz; (case zqk1 => k_asm); (case zqk2 => k_asm); (case zqk3 => k_upd); (case zqz => (rw [PySem.sizeLine_eq]; simp only [List.size_toArray]; omega)); k_whole); intro h'q F'q N'q; (try k_sweep))
  k_with "call builtin:bytes.join" => (k_here; (with_reducible show wpAny _ _ (call (Value.builtin _) [Value.bytes (List.toArray _) _, Value.ref _]) _ _ _); k_dflt (refine By.call_join (News.isList (by k_asm) (by k_mem)) (by with_reducible assumption) (by first | assumption | omega) ?_); intro _ _)
  k_with "compareOp NotEq ref ref" => (k_here; (with_reducible show wpAny _ _ (compareOp CmpOp.NotEq (Value.ref _) (Value.ref _)) _ _ _); k_dflt (refine ne_nilK (by k_asm) (by k_mem) (by k_mem) (by ktr_units) ?_))
  k_with "compareOp Eq ref ref" => (k_here; (with_reducible show wpAny _ _ (compareOp CmpOp.Eq (Value.ref _) (Value.ref _)) _ _ _); k_dflt (refine eq_nilK (by k_asm) (by k_mem) (by k_mem) (by ktr_units) ?_))
  k_with "subscriptTail" => (k_here; (with_reducible show wpAny _ _ (subscriptTail _ _ (Value.ref _) (Value.int _ _)) _ _ _); k_dflt first | ((with_reducible show wpAny _ _ (subscriptTail _ (Expr.UnaryOp _ _ _) _ _) _ _ _); refine item_lastK (by k_asm) (by k_mem) (by with_reducible assumption) (by omega) (by omega) ?_; intro _) | (refine item_K (by k_asm) (by k_mem) (by with_reducible assumption) (by omega) (by omega) (by omega) ?_; intro _))
  k_with "call builtin:list.pop" => (k_here; (with_reducible show wpAny _ _ (call (Value.builtin _) [Value.ref _]) _ _ _); k_dflt (refine' popK ?zqF ?zqN ?zqU ?zqi ?zql ?zqz ?_; (case zqF => k_asm); (case zqN => k_asm); (case zqU => k_upd); (case zqi => with_reducible assumption); (case zql => omega); (case zqz => omega)); intro h'q t'q F'q N'q; (try k_sweep))
  k_with "subscriptTail" => (k_here; (with_reducible show wpAny _ _ (subscriptTail _ (Expr.Slice _ _ none _) (Value.ref _) (Value.ref _)) _ _ _); (with_reducible rename Fr _ _ _ _ => F'q); (with_reducible rename News _ _ _ _ => N'q); k_dflt (refine slice_L (s := ⟨_, _, _, _, _⟩) F'q N'q (by k_mem) (by with_reducible assumption) (by constructor) (by constructor) (by omega) ?_); intro l'q vs'q h'q hB'q hZ'q F'q N'q o1q; (try simp only [LCg.Off1, and_true] at o1q))
  k_with "subscriptTail Name Slice ref ref" => (k_here; (with_reducible show wpAny _ _ (subscriptTail _ (Expr.Slice _ _ none _) (Value.ref _) (Value.ref _)) _ _ _); (with_reducible rename Fr _ _ _ _ => F'q); (with_reducible rename News _ _ _ _ => N'q); k_dflt (refine slice_L (s := ⟨_, _, _, _, _⟩) F'q N'q (by k_mem) (by with_reducible assumption) (by constructor) (by constructor) (by omega) ?_); intro l'q vs'q h'q hB'q hZ'q F'q N'q o1q; (try simp only [LCg.Off1, and_true] at o1q))
  k_with "subscriptTail Call Slice ref ref" => (k_here; (with_reducible show wpAny _ _ (subscriptTail _ (Expr.Slice _ _ none _) (Value.ref _) (Value.ref _)) _ _ _); (with_reducible rename Fr _ _ _ _ => F'q); (with_reducible rename News _ _ _ _ => N'q); k_dflt (refine slice_L (s := ⟨_, _, _, _, _⟩) F'q N'q (by k_mem) (by with_reducible assumption) (by constructor) (by constructor) (by omega) ?_); intro l'q vs'q h'q hB'q hZ'q F'q N'q o1q; (try simp only [LCg.Off1, and_true] at o1q))
  k_with "call builtin:len" => (k_here; (with_reducible show wpAny _ _ (call (Value.builtin "len") [Value.ref _]) _ _ _); k_dflt (refine len_LK (by k_asm) (by k_mem) (by omega) ?_); intro _ _)
  k_with "exec While Compare cons nil" => refine Held.out ?_
  k_with "exec While BoolOp" => refine Held.out ?_
  k_with "KswEnd" => refine Held.out ?_
  k_with "pyIter bytes" => refine Held.out ?_
  k_with "pyIter ref" => refine Held.out ?_
  k_with "InvEndN" => refine Held.out ?_
  k_with "exec For Name Subscript cons nil" => (k_here; (rename Fr _ _ _ _ => lF'q); (with_unfolding_all refine' For_invVF lF'q ?zqk1 ?zqk2 ?_; (case zqk1 => exact rfl); (case zqk2 => exact rfl); k_whole))
  k_with "exec For Name Name cons nil" => (k_here; (rename Fr _ _ _ _ => lF'q); (with_unfolding_all refine' For_invVF lF'q ?zqk1 ?zqk2 ?_; (case zqk1 => exact rfl); (case zqk2 => exact rfl); k_whole))
  k_with "exec For Name Call cons nil" => (k_here; (rename Fr _ _ _ _ => lF'q); (with_unfolding_all refine' For_invVF lF'q ?zqk1 ?zqk2 ?_; (case zqk1 => exact rfl); (case zqk2 => exact rfl); k_whole))
  k_with "call ref" => (k_here; (with_reducible show wpAny _ _ (call (Value.ref 281) [Value.ref _, Value.int _ _]) _ _ _); k_dflt (refine' draw_use ?zqD ?zqk1 ?zqk2 ?zqk3 ?zqk4 ?zqk5 ?zqsub ?zqo1 ?zqo2 ?zqhm ?zqhm2 ?zqkK ?zqkd ?zqku ?_; (case zqk1 => k_asm); (case zqk2 => k_asm); (case zqk3 => k_asm); (case zqk4 => k_asm); (case zqk5 => k_asm); (case zqD => with_reducible assumption); (case zqsub => walk_at "my deck_sub"); (case zqo1 => walk_at "my k_off"); (case zqo2 => walk_at "my k_off"); (case zqhm => decide); (case zqhm2 => decide); (case zqkK => first | exact rfl | assumption); (case zqkd => ktr_room); (case zqku => ktr_units); intro r9q t9q od9q ol9q h9q tk9q hr0 hr1 hdk9q F9q N9q; (try dsimp only); (try k_fold)))
  k_with "subscriptTail Name Call ref int" => (k_here; k_dflt first | (refine subj_item (by k_asm) (by k_in) (by assumption) (by assumption) ?_; intro q9q sj9q hkt9q hsj9q) | (refine part_item (by k_asm) (by k_in) (by assumption) (by assumption) ?_; intro q9q sj9q hkt9q hsj9q) | (refine end_item (by k_asm) (by k_in) (by assumption) (by assumption) ?_; intro q9q sj9q hkt9q hsj9q))
  k_with "my rl_len" => first | ((try simp only [List.length_replicate, List.length_append, List.length_cons, List.length_nil]); omega) | ((have hel9q := By.end_len (by assumption)); (try simp only [List.length_replicate, List.length_append, List.length_cons, List.length_nil]); omega)
  k_with "call type:range" => ((rename Fr _ _ _ _ => F'q); (rename News _ _ _ _ => N'q); with_unfolding_all refine range1_rows F'q N'q ?_; intro _ _ _ _ _ hR9q F9q N9q _)
  k_with "binaryOp Mult ref int" => (k_here; (with_reducible show wpAny _ _ (binaryOp Operator.Mult (Value.ref _) (Value.int _ _)) _ _ _); k_dflt (refine' mul_L ?zqF ?zqN ?zqa ?zqh0 ?zqh1 ?_; (case zqF => k_asm); (case zqN => k_asm); (case zqa => k_mem); (case zqh0 => omega); (case zqh1 => omega)); intro D'q us'q h'q F'q N'q l1q hB'q; (try k_lt l1q); (try k_sweep))
  k_with "binaryOp Add ref ref" => (k_here; (with_reducible show wpAny _ _ (binaryOp Operator.Add (Value.ref _) (Value.ref _)) _ _ _); k_dflt (refine' add_L ?zqF ?zqN ?zqa ?zqb ?zqh1 ?zqh2 ?zqhz ?_; (case zqF => k_asm); (case zqN => k_asm); (case zqa => k_mem); (case zqb => k_mem); (case zqh1 => first | with_reducible assumption | exact .cons _ .nil); (case zqh2 => first | with_reducible assumption | exact .cons _ .nil); (case zqhz => walk_at "my rl_len")); intro D'q us'q h'q F'q N'q l1q hB'q; (try k_lt l1q); (try k_sweep))
  k_with "call builtin:list.extend" => (k_here; (with_reducible show wpAny _ _ (call (Value.builtin _) [Value.ref _, Value.ref _]) _ _ _); k_dflt (refine' ext_T ?zqF ?zqN ?zqX ?zqq ?zqh1 ?zqhne ?zqhz ?zqU ?_; (case zqF => k_asm); (case zqN => k_asm); (case zqX => k_in); (case zqq => with_reducible assumption); (case zqU => (intro ws; k_upd)); (case zqh1 => with_reducible assumption); (case zqhne => exact (By.part_len (by assumption)).1); (case zqhz => (have hpl9q := By.part_len (by assumption); walk_at "my rl_len"))); intro ws'q h'q F'q N'q hB'q; (try k_sweep))
  k_with "call builtin:list.extend" => (k_here; (with_reducible show wpAny _ _ (call (Value.builtin _) [Value.ref _, Value.ref _]) _ _ _); k_dflt (refine' ext_L ?zqF ?zqN ?zqb ?zqh1 ?zqh2 ?zqhne ?zqhz ?zqU ?_; (case zqF => k_asm); (case zqN => k_asm); (case zqb => k_mem); (case zqU => k_upd); (case zqh1 => with_reducible assumption); (case zqh2 => with_reducible assumption); (case zqhne => walk_at "my rl_len"); (case zqhz => walk_at "my rl_len")); intro h'q F'q N'q hB'q; (try k_sweep))
  k_with "call type:list" => (k_here; (with_reducible show wpAny _ _ (call (Value.type "list") [Value.ref _]) _ _ _); k_dflt (refine' list_T ?zqF ?zqN ?zqX ?zqq ?zqhz ?_; (case zqF => k_asm); (case zqN => k_asm); (case zqX => k_in); (case zqq => with_reducible assumption); (case zqhz => walk_at "my rl_len")); intro D'q us'q k'q h'q F'q N'q l1q hB'q; (try k_lt l1q); (try k_sweep))
  k_with "call builtin:len" => (k_here; (with_reducible show wpAny _ _ (call (Value.builtin "len") [Value.ref _]) _ _ _); k_dflt (refine len_T (by k_asm) (by k_in) (by with_reducible assumption) (by walk_at "my rl_len") ?_); intro _ _)
  k_with "compareOp NotEq ref ref" => (k_here; (with_reducible show wpAny _ _ (compareOp CmpOp.NotEq (Value.ref _) (Value.ref _)) _ _ _); k_dflt (refine ne_T (by k_asm) (by k_in) (by with_reducible assumption) (News.isTup (by k_asm) (by k_mem)) (by ktr_units) ?_))
  k_with "my subs" => first | exact fun p hp => hp | (refine sub_tail ?_; walk_at "my subs")
  k_with "my df" => ((try dsimp only); (try k_fold))
  k_with "my back" => first | ((with_reducible rename RB _ _ _ _ => R9q); obtain ⟨⟨t9q, e9q⟩, e9'q⟩ := R9q; subst e9q e9'q; walk_at "my df") | ((with_reducible rename RL _ _ _ _ => R9q); obtain ⟨l9q, vs9q, k9q, e9q, hB9q, e9'q, hl9q⟩ := R9q; subst e9q e9'q; have hZ9q := hB9q.length; (try simp only [LCg.Off1, and_true] at hl9q); walk_at "my df") | ((with_reducible rename RSubj _ _ _ _ => R9q); obtain ⟨q9q, t9q, t9'q, e9q, e9'q, hl9q⟩ := R9q; subst e9q e9'q; (try simp only [LCg.Off1, and_true] at hl9q); walk_at "my df") | ((with_reducible rename RSome _ _ _ _ => R9q); obtain ⟨⟨x9q, t9q, e9q, hx9q⟩, e9'q⟩ := R9q; subst e9q e9'q; walk_at "my df") | ((with_reducible rename RTrail _ _ _ _ => R9q); rcases R9q with ⟨hT9q, e9q, e9'q⟩ | ⟨key9q, q9q, t9q, t9'q, x9q, hT9q, e9q, e9'q, hl9q⟩ <;> (subst e9q e9'q; (try simp only [LCg.Off1, and_true] at hl9q); walk_at "my df")) | ((with_reducible rename RLen _ _ _ _ => R9q); obtain ⟨l9q, xs9q, k9q, e9q, hx9q, e9'q, hl9q⟩ := R9q; subst e9q e9'q; (try simp only [LCg.Off1, and_true] at hl9q); walk_at "my df") | ((with_reducible rename RStr _ _ _ _ => R9q); obtain ⟨⟨t9q, e9q⟩, e9'q⟩ := R9q; subst e9q e9'q; walk_at "my df") | ((with_reducible rename RMark _ _ _ _ => R9q); rcases R9q with ⟨hM9q, e9q, e9'q⟩ | ⟨hM9q, q9q, o9q, e9q, e9'q, hl9q⟩ <;> (subst e9q e9'q; (try simp only [LCg.Off1, and_true] at hl9q); walk_at "my df")) | ((with_reducible rename RStp _ _ _ _ _ => R9q); obtain ⟨c9q, dx9q, o9q, p9q, e9q, e9'q, hst9q⟩ := R9q; subst e9q e9'q; walk_at "my df") | ((with_reducible rename RCom _ _ _ _ => R9q); obtain ⟨c9q, dx9q, o9q, p9q, e9q, e9'q, hC9q, hl9q, hcd9q⟩ := R9q; subst e9q e9'q; walk_at "my df")
  k_with "my side" => first | with_reducible assumption | omega | exact Nat.le_trans (By.sl_len _ _ _) (by omega) | exact IsCom.sub (by with_reducible assumption) (by walk_at "my subs") | exact fun k hk => Nat.lt_trans (By.hexCodes_lt k hk) (by decide) | exact Nat.le_trans (By.subjB_len _) (by omega)
  k_with "call ref" => (k_here; k_dflt (refine' says_use ?zqc ?zqk1 ?zqk2 ?zqk3 ?zqk4 ?zqk5 ?zqkK ?zqkd ?zqku ?_; (case zqk1 => k_asm); (case zqk2 => k_asm); (case zqk3 => k_asm); (case zqk4 => k_asm); (case zqk5 => k_asm); (case zqc => walk_at "my contract"); (case zqkK => first | exact rfl | assumption); (case zqkd => first | ktr_room | decide); (case zqku => first | ktr_units | decide); intro v9q n9q h9q tk9q F9q N9q R9q; walk_at "my back"))
  k_with "my contract" => (with_reducible apply says_cut_end) <;> walk_at "my side"
  k_with "my contract" => (with_reducible apply says_rows) <;> walk_at "my side"
  k_with "my contract" => (with_reducible apply says_lines) <;> walk_at "my side"
  k_with "my contract" => (with_reducible apply says_ended) <;> walk_at "my side"
  k_with "my contract" => (with_reducible apply says_subject) <;> walk_at "my side"
  k_with "my contract" => (with_reducible apply says_trimmed) <;> walk_at "my side"
  k_with "my contract" => (with_reducible apply says_trailer) <;> walk_at "my side"
  k_with "my contract" => (with_reducible apply says_last) <;> walk_at "my side"
  k_with "my contract" => (with_reducible apply says_trailers) <;> walk_at "my side"
  k_with "my contract" => (with_reducible apply says_hex) <;> walk_at "my side"
  k_with "my contract" => (with_reducible apply says_oct) <;> walk_at "my side"
  k_with "my contract" => (with_reducible apply says_csubj) <;> walk_at "my side"
  k_with "my contract" => (with_reducible apply says_body) <;> walk_at "my side"
  k_with "my contract" => (with_reducible apply says_mark) <;> walk_at "my side"
  k_with "my contract" => (with_reducible apply says_bare) <;> walk_at "my side"
  k_with "my contract" => (with_reducible apply says_lhex) <;> walk_at "my side"
  k_with "my contract" => (refine' says_lend _ _ _ _ _ _ ?zqs1 ?zqs2 ?zqs3 ?zqs4; (case zqs1 => k_mem); (case zqs2 => with_reducible assumption); (case zqs3 => with_reducible assumption); (case zqs4 => first | omega | (simp only [List.length_append]; omega)))
  intro p loose mean mg mb dp un gd cn cs ad ccd cl outer A₀ base h₀ L m s Q E B F X N T hk hdp hu hret
  have hdl : d ≠ l := by obtain ⟨_, _, _, _, _, _, _, _, _, _, h⟩ := hdk; exact h
  have hdl2 : l ≠ d := Ne.symm hdl
  refine wpAny_call ?_
  k_dflt cell_enter
  k_steps
  refine Held.on ?_
  rename Fr _ _ _ _ => lF'
  rename News _ _ _ _ => lN'
  rename IsRange _ _ _ _ _ _ _ _ => hR
  rename (_ < (3 : Int)) => h3
  rename (_ ∧ _ ∧ AllLt _ _) => hlt
  with_unfolding_all refine' forRng (σ := List Value × Nat × List (List UInt8) × Obj × Obj) (fun c => (d, c.2.2.2.1) :: (l, c.2.2.2.2) :: (_, listOf c.1.toArray c.2.1) :: news) (fun c => []) [] (fun i c => By.Parts i c.2.2.1 ∧ BsAre c.1 c.2.2.1 ∧ IsDeck w d l c.2.2.2.1 c.2.2.2.2) ([], 0, [], _, _) hR (by assumption) (by omega) (by rfl) lF' lN' ?kk ?kp ?_ ?_
  case kk => (intro p hp; cases hp)
  case kp => exact ⟨.nil, .nil, by assumption⟩
  · clear lF' lN' hR
    intro c i t u h tk own hi hoff hP F1 N1
    obtain ⟨vs, k, rs, od2, ol2⟩ := c
    obtain ⟨hPt, hBs, hDk⟩ := hP
    dsimp only [kstB] at F1
    dsimp only [List.cons_append] at N1 hPt hBs hDk
    have hrl := hPt.len
    have hri : rs.length ≤ 10 := by omega
    have oD : LCg.Off1 d (news ++ own) := off1_of (app_ne hod hoff (.head _))
    have oL : LCg.Off1 l (news ++ own) := off1_of (app_ne hol hoff (.tail _ (.head _)))
    have oR := app_ne (off1_all hlt.2.2) hoff (.tail _ (.tail _ (.head _)))
    (try k_unmd)
    (try k_fold)
    k_steps
    refine Held.on ?_
    rename News _ _ _ _ => nE
    rename BsAre (vs ++ _ ++ _) _ => hB3
    refine' ForS.end (_, k + 1 + 1, _, _, _) (by assumption) nE ?sub ?ow ?ha ?h1 ?h2 ⟨hPt.more _ ⟨?a, ?b⟩ ?hp, hB3, ?hd⟩
    case sub => walk_at "my k_led"
    case ow => walk_at "my k_ownR"
    case ha => rfl
    case h1 => (intro p hp; cases hp)
    case h2 => (intro z h1 h2 h3; simp [h1])
    case a => omega
    case b => omega
    case hp => assumption
    case hd => assumption
  · clear lF' lN' hR
    intro c u h tk hD F1 N1
    obtain ⟨vs, k, rs, od2, ol2⟩ := c
    obtain ⟨hPt, hBs, hDk⟩ := hD
    dsimp only [kstB] at F1
    dsimp only at N1 hPt hBs hDk
    have hrl := hPt.len
    have hn2 : (Int.toNat _) ≤ 2 := Int.toNat_le.mpr (Int.le_of_lt_add_one h3)
    k_steps
    all_goals (rename (_ ∈ By.ends) => hen; rename (_ ∈ By.subjects) => hsu)
    · rename BsAre _ (rs ++ [[]] ++ _ ++ _) => hB4
      have hM := By.MsgOk.yes hsu hPt hn2 hen (by assumption) (by assumption) (by assumption)
      refine' hret _ ((_, tupO [.ref _, .ref _, .int _ _]) :: (_, listOf _ 0) :: (d, _) :: (l, _) :: news) _ _ (by k_asm) (cb_drop (by k_asm) ?sub) (RMsg.make hM ?hk hB4 ?hD ?ho)
      case sub => walk_at "my k_led"
      case hk => assumption
      case hD => assumption
      case ho => exact ⟨by omega, by omega, by omega, by omega⟩
    · rename BsAre _ (rs ++ List.replicate _ _) => hB4
      have hM := By.MsgOk.no hsu hPt hn2 hen (by assumption) (by assumption) (by assumption)
      refine' hret _ ((_, tupO [.ref _, .ref _, .int _ _]) :: (_, listOf _ 0) :: (d, _) :: (l, _) :: news) _ _ (by k_asm) (cb_drop (by k_asm) ?sub) (RMsg.make hM ?hk hB4 ?hD ?ho)
      case sub => walk_at "my k_led"
      case hk => assumption
      case hD => assumption
      case ho => exact ⟨by omega, by omega, by omega, by omega⟩
end Mine
end
section
namespace Mine
local macro_rules | `(tactic| k_ne) => `(tactic| (refine neN ?_; first | with_reducible assumption | exact Ne.symm (by with_reducible assumption) | (walk_at "my ats"; first | with_reducible assumption | exact Ne.symm (by with_reducible assumption) | exact Nat.ne_of_lt (by with_reducible assumption) | exact Nat.ne_of_gt (by with_reducible assumption)) | ((try dsimp only); omega)))
local macro_rules | `(tactic| k_mem) => `(tactic| first | exact List.Mem.head _ | with_reducible_and_instances assumption | (refine' List.Mem.tail _ ?_; k_mem))
set_option maxRecDepth 100000 in
set_option maxHeartbeats 1000000 in
theorem says_loct (w : World) (d l sref rl : Addr) (od ol : Obj) (vs : List Value) (k : Nat) (sj rs : List (List UInt8)) (news : List (Addr × Obj)) (hdk : IsDeck w d l od ol) (hod : LCg.Off1 d news) (hol : LCg.Off1 l news) (hkt : KTup w sref sj) (hrl : (rl, listOf vs.toArray k) ∈ news) (hbs : BsAre vs rs)
    (hz1 : sj.length ≤ 100) (hz2 : rs.length ≤ 100) (hsh : ((sj ++ rs).map List.length).sum ≤ 10000) : Says w 298 2 [.ref d, .ref sref, .ref rl] ((d, od) :: (l, ol) :: news) (ROct w d l (sj ++ rs) news) := by
  unfold Says
  k_fill
  w_top off
  k_with_none
  k_with "getMethod bytes" => (k_here; first | refine By.get_method By.slot_find By.type_find ?_ | refine By.get_method By.slot_split By.type_split ?_ | refine By.get_method By.slot_rstrip By.type_rstrip ?_ | refine By.get_method By.slot_lstrip By.type_lstrip ?_ | refine By.get_method By.slot_join By.type_join ?_ | refine By.get_method FB.slot_bytes_startswith FB.type_bytes_startswith ?_ | refine By.get_method FB.slot_bytes_endswith FB.type_bytes_endswith ?_)
  k_with "call builtin:len" => (k_here; (with_reducible show wpAny _ _ (call (Value.builtin "len") [Value.bytes (List.toArray _) _]) _ _ _); (refine By.len_B (by first | assumption | omega) ?_); intro _ _)
  k_with "subscriptTail" => (k_here; (with_reducible show wpAny _ _ (subscriptTail _ _ (Value.bytes (List.toArray _) _) (Value.int _ _)) _ _ _); (refine By.item_B (by first | assumption | omega) (by omega) (by omega) ?_); intro _ _)
  k_with "subscriptTail" => (k_here; (with_reducible show wpAny _ _ (subscriptTail _ (Expr.Slice _ _ none _) (Value.bytes (List.toArray _) _) (Value.ref _)) _ _ _); (with_reducible rename Fr _ _ _ _ => F'q); (with_reducible rename News _ _ _ _ => N'q); (refine By.slice_B (s := ⟨_, _, _, _, _⟩) F'q N'q (by constructor) (by constructor) (by first | assumption | omega) ?_); intro _ _ _ _ _)
  k_with "compareOp In int bytes" => (k_here; (with_reducible show wpAny _ _ (compareOp CmpOp.In (Value.int _ _) (Value.bytes (List.toArray _) _)) _ _ _); refine By.in_byte ?_)
  k_with "compareOp Eq bytes bytes" => (k_here; (with_reducible show wpAny _ _ (compareOp CmpOp.Eq (Value.bytes (List.toArray _) _) (Value.bytes (List.toArray _) _)) _ _ _); refine By.eq_B ?_)
  k_with "compareOp NotEq bytes bytes" => (k_here; (with_reducible show wpAny _ _ (compareOp CmpOp.NotEq (Value.bytes (List.toArray _) _) (Value.bytes (List.toArray _) _)) _ _ _); refine By.ne_B ?_)
  k_with "binaryOp Add bytes bytes" => (k_here; (with_reducible show wpAny _ _ (binaryOp Operator.Add (Value.bytes (List.toArray _) _) (Value.bytes (List.toArray _) _)) _ _ _); (refine By.add_B (by first | assumption | omega | (simp only [List.length_append, List.length_cons, List.length_nil] at *; omega)) ?_); intro _ _)
  k_with "call builtin:bytes.startswith" => (k_here; (with_reducible show wpAny _ _ (call (Value.builtin _) [Value.bytes (List.toArray _) _, Value.bytes (List.toArray _) _]) _ _ _); refine By.call_startswith ?_)
  k_with "call builtin:bytes.endswith" => (k_here; (with_reducible show wpAny _ _ (call (Value.builtin _) [Value.bytes (List.toArray _) _, Value.bytes (List.toArray _) _]) _ _ _); refine By.call_endswith ?_)
  k_with "call builtin:bytes.rstrip" => (k_here; (with_reducible show wpAny _ _ (call (Value.builtin _) [Value.bytes (List.toArray _) _, Value.bytes (List.toArray _) _]) _ _ _); (refine By.call_rstrip (by first | assumption | omega) ?_); intro _ _)
  k_with "call builtin:bytes.lstrip" => (k_here; (with_reducible show wpAny _ _ (call (Value.builtin _) [Value.bytes (List.toArray _) _, Value.bytes (List.toArray _) _]) _ _ _); (refine By.call_lstrip (by first | assumption | omega) ?_); intro _ _)
  k_with "call builtin:bytes.find" => (k_here; first | (refine By.call_find0 ?_; intro _ _) | (refine By.call_findI (by omega) (by omega) ?_; intro _ _))
  k_with "call builtin:bytes.split" => (k_here; k_dflt (refine' By.call_split ?zqk1 ?zqk2 ?zqk3 ?_; (case zqk1 => k_asm); (case zqk2 => k_asm); (case zqk3 => omega); k_whole); intro l'q vs'q h'q k'q hB'q hS'q hZ'q F'q N'q o1q; (try simp only [LCg.Off1, and_true] at o1q); (try k_sweep))
  k_with "call builtin:list.append" => (k_here; (with_reducible show wpAny _ _ (call (Value.builtin _) [Value.ref _, _]) _ _ _); k_dflt (refine' append_K ?zqk1 ?zqk2 ?zqk3 ?_ ?zqz; (case zqk1 => k_asm); (case zqk2 => k_asm); (case zqk3 => k_upd); (case zqz => (rw [PySem.sizeLine_eq]; simp only [List.size_toArray]; omega)); k_whole); intro h'q F'q N'q; (try k_sweep))
  k_with "call builtin:bytes.join" => (k_here; (with_reducible show wpAny _ _ (call (Value.builtin _) [Value.bytes (List.toArray _) _, Value.ref _]) _ _ _); k_dflt (refine By.call_join (News.isList (by k_asm) (by k_mem)) (by with_reducible assumption) (by first | assumption | omega) ?_); intro _ _)
  k_with "eval ListComp" => (k_here; k_dflt (refine LCg.ListComp_U (F₀ := by k_asm) (by rfl) (by decide) (by rfl) (by decide) (by rfl) ?_))
  k_with "exec Assign cons ListComp" => (k_here; k_dflt (refine LCg.Assign_ListComp_U (F₀ := by k_asm) (by rfl) (by with_unfolding_all rfl) (by with_unfolding_all rfl) (by decide) (by rfl) (by decide) (by rfl) (by rfl) (by rfl) ?_))
  k_with "CompEnd" => refine Held.out ?_
  k_with "CompSrc" => refine Held.out ?_
  k_with "WEnd" => refine Held.out ?_
  k_with "compareOp NotEq ref ref" => (k_here; (with_reducible show wpAny _ _ (compareOp CmpOp.NotEq (Value.ref _) (Value.ref _)) _ _ _); k_dflt (refine ne_nilK (by k_asm) (by k_mem) (by k_mem) (by ktr_units) ?_))
  k_with "compareOp Eq ref ref" => (k_here; (with_reducible show wpAny _ _ (compareOp CmpOp.Eq (Value.ref _) (Value.ref _)) _ _ _); k_dflt (refine eq_nilK (by k_asm) (by k_mem) (by k_mem) (by ktr_units) ?_))
  k_with "subscriptTail" => (k_here; (with_reducible show wpAny _ _ (subscriptTail _ _ (Value.ref _) (Value.int _ _)) _ _ _); k_dflt first | ((with_reducible show wpAny _ _ (subscriptTail _ (Expr.UnaryOp _ _ _) _ _) _ _ _); refine item_lastK (by k_asm) (by k_mem) (by with_reducible assumption) (by omega) (by omega) ?_; intro _) | (refine item_K (by k_asm) (by k_mem) (by with_reducible assumption) (by omega) (by omega) (by omega) ?_; intro _))
  k_with "call builtin:list.pop" => (k_here; (with_reducible show wpAny _ _ (call (Value.builtin _) [Value.ref _]) _ _ _); k_dflt (refine' popK ?zqF ?zqN ?zqU ?zqi ?zql ?zqz ?_; (case zqF => k_asm); (case zqN => k_asm); (case zqU => k_upd); (case zqi => with_reducible assumption); (case zql => omega); (case zqz => omega)); intro h'q t'q F'q N'q; (try k_sweep))
  k_with "subscriptTail" => (k_here; (with_reducible show wpAny _ _ (subscriptTail _ (Expr.Slice _ _ none _) (Value.ref _) (Value.ref _)) _ _ _); (with_reducible rename Fr _ _ _ _ => F'q); (with_reducible rename News _ _ _ _ => N'q); k_dflt (refine slice_L (s := ⟨_, _, _, _, _⟩) F'q N'q (by k_mem) (by with_reducible assumption) (by constructor) (by constructor) (by omega) ?_); intro l'q vs'q h'q hB'q hZ'q F'q N'q o1q; (try simp only [LCg.Off1, and_true] at o1q))
  k_with "subscriptTail Name Slice ref ref" => (k_here; (with_reducible show wpAny _ _ (subscriptTail _ (Expr.Slice _ _ none _) (Value.ref _) (Value.ref _)) _ _ _); (with_reducible rename Fr _ _ _ _ => F'q); (with_reducible rename News _ _ _ _ => N'q); k_dflt (refine slice_L (s := ⟨_, _, _, _, _⟩) F'q N'q (by k_mem) (by with_reducible assumption) (by constructor) (by constructor) (by omega) ?_); intro l'q vs'q h'q hB'q hZ'q F'q N'q o1q; (try simp only [LCg.Off1, and_true] at o1q))
  k_with "subscriptTail Call Slice ref ref" => (k_here; (with_reducible show wpAny _ _ (subscriptTail _ (Expr.Slice _ _ none _) (Value.ref _) (Value.ref _)) _ _ _); (with_reducible rename Fr _ _ _ _ => F'q); (with_reducible rename News _ _ _ _ => N'q); k_dflt (refine slice_L (s := ⟨_, _, _, _, _⟩) F'q N'q (by k_mem) (by with_reducible assumption) (by constructor) (by constructor) (by omega) ?_); intro l'q vs'q h'q hB'q hZ'q F'q N'q o1q; (try simp only [LCg.Off1, and_true] at o1q))
  k_with "call builtin:len" => (k_here; (with_reducible show wpAny _ _ (call (Value.builtin "len") [Value.ref _]) _ _ _); k_dflt (refine len_LK (by k_asm) (by k_mem) (by omega) ?_); intro _ _)
  k_with "exec While Compare cons nil" => refine Held.out ?_
  k_with "exec While BoolOp" => refine Held.out ?_
  k_with "KswEnd" => refine Held.out ?_
  k_with "my ats" => repeat (with_reducible rename _ ∧ _ => hc9q; cases hc9q)
  k_with "call ref" => (k_here; (with_reducible show wpAny _ _ (call (Value.ref 281) [Value.ref _, Value.int _ _]) _ _ _); k_dflt (refine' draw_use ?zqD ?zqk1 ?zqk2 ?zqk3 ?zqk4 ?zqk5 ?zqsub ?zqo1 ?zqo2 ?zqhm ?zqhm2 ?zqkK ?zqkd ?zqku ?_; (case zqk1 => k_asm); (case zqk2 => k_asm); (case zqk3 => k_asm); (case zqk4 => k_asm); (case zqk5 => k_asm); (case zqD => with_reducible assumption); (case zqsub => walk_at "my deck_sub"); (case zqo1 => walk_at "my k_off"); (case zqo2 => walk_at "my k_off"); (case zqhm => decide); (case zqhm2 => decide); (case zqkK => first | exact rfl | assumption); (case zqkd => ktr_room); (case zqku => ktr_units); intro r9q t9q od9q ol9q h9q tk9q hr0 hr1 hdk9q F9q N9q; (try dsimp only); (try k_fold)))
  k_with "my rl_len" => first | ((try simp only [List.length_replicate, List.length_append, List.length_cons, List.length_nil]); omega) | ((have hel9q := By.end_len (by assumption)); (try simp only [List.length_replicate, List.length_append, List.length_cons, List.length_nil]); omega)
  k_with "call type:range" => ((rename Fr _ _ _ _ => F'q); (rename News _ _ _ _ => N'q); with_unfolding_all refine range1_rows F'q N'q ?_; intro _ _ _ _ _ hR9q F9q N9q _)
  k_with "binaryOp Mult ref int" => (k_here; (with_reducible show wpAny _ _ (binaryOp Operator.Mult (Value.ref _) (Value.int _ _)) _ _ _); k_dflt (refine' mul_L ?zqF ?zqN ?zqa ?zqh0 ?zqh1 ?_; (case zqF => k_asm); (case zqN => k_asm); (case zqa => k_mem); (case zqh0 => omega); (case zqh1 => omega)); intro D'q us'q h'q F'q N'q l1q hB'q; (try k_lt l1q); (try k_sweep))
  k_with "binaryOp Add ref ref" => (k_here; (with_reducible show wpAny _ _ (binaryOp Operator.Add (Value.ref _) (Value.ref _)) _ _ _); k_dflt (refine' add_L ?zqF ?zqN ?zqa ?zqb ?zqh1 ?zqh2 ?zqhz ?_; (case zqF => k_asm); (case zqN => k_asm); (case zqa => k_mem); (case zqb => k_mem); (case zqh1 => first | with_reducible assumption | exact .cons _ .nil); (case zqh2 => first | with_reducible assumption | exact .cons _ .nil); (case zqhz => walk_at "my rl_len")); intro D'q us'q h'q F'q N'q l1q hB'q; (try k_lt l1q); (try k_sweep))
  k_with "call builtin:list.extend" => (k_here; (with_reducible show wpAny _ _ (call (Value.builtin _) [Value.ref _, Value.ref _]) _ _ _); k_dflt (refine' ext_T ?zqF ?zqN ?zqX ?zqq ?zqh1 ?zqhne ?zqhz ?zqU ?_; (case zqF => k_asm); (case zqN => k_asm); (case zqX => k_in); (case zqq => with_reducible assumption); (case zqU => (intro ws; k_upd)); (case zqh1 => with_reducible assumption); (case zqhne => exact (By.part_len (by assumption)).1); (case zqhz => (have hpl9q := By.part_len (by assumption); walk_at "my rl_len"))); intro ws'q h'q F'q N'q hB'q; (try k_sweep))
  k_with "call builtin:list.extend" => (k_here; (with_reducible show wpAny _ _ (call (Value.builtin _) [Value.ref _, Value.ref _]) _ _ _); k_dflt (refine' ext_L ?zqF ?zqN ?zqb ?zqh1 ?zqh2 ?zqhne ?zqhz ?zqU ?_; (case zqF => k_asm); (case zqN => k_asm); (case zqb => k_mem); (case zqU => k_upd); (case zqh1 => with_reducible assumption); (case zqh2 => with_reducible assumption); (case zqhne => walk_at "my rl_len"); (case zqhz => walk_at "my rl_len")); intro h'q F'q N'q hB'q; (try k_sweep))
  k_with "call type:list" => (k_here; (with_reducible show wpAny _ _ (call (Value.type "list") [Value.ref _]) _ _ _); k_dflt (refine' list_T ?zqF ?zqN ?zqX ?zqq ?zqhz ?_; (case zqF => k_asm); (case zqN => k_asm); (case zqX => k_in); (case zqq => with_reducible assumption); (case zqhz => walk_at "my rl_len")); intro D'q us'q k'q h'q F'q N'q l1q hB'q; (try k_lt l1q); (try k_sweep))
  k_with "call builtin:len" => (k_here; (with_reducible show wpAny _ _ (call (Value.builtin "len") [Value.ref _]) _ _ _); k_dflt (refine len_T (by k_asm) (by k_in) (by with_reducible assumption) (by walk_at "my rl_len") ?_); intro _ _)
  k_with "compareOp NotEq ref ref" => (k_here; (with_reducible show wpAny _ _ (compareOp CmpOp.NotEq (Value.ref _) (Value.ref _)) _ _ _); k_dflt (refine ne_T (by k_asm) (by k_in) (by with_reducible assumption) (News.isTup (by k_asm) (by k_mem)) (by ktr_units) ?_))
  k_with "my subs" => first | exact fun p hp => hp | (refine sub_tail ?_; walk_at "my subs")
  k_with "my df" => ((try dsimp only); (try k_fold))
  k_with "my back" => first | ((with_reducible rename RB _ _ _ _ => R9q); obtain ⟨⟨t9q, e9q⟩, e9'q⟩ := R9q; subst e9q e9'q; walk_at "my df") | ((with_reducible rename RL _ _ _ _ => R9q); obtain ⟨l9q, vs9q, k9q, e9q, hB9q, e9'q, hl9q⟩ := R9q; subst e9q e9'q; have hZ9q := hB9q.length; (try simp only [LCg.Off1, and_true] at hl9q); walk_at "my df") | ((with_reducible rename RSubj _ _ _ _ => R9q); obtain ⟨q9q, t9q, t9'q, e9q, e9'q, hl9q⟩ := R9q; subst e9q e9'q; (try simp only [LCg.Off1, and_true] at hl9q); walk_at "my df") | ((with_reducible rename RSome _ _ _ _ => R9q); obtain ⟨⟨x9q, t9q, e9q, hx9q⟩, e9'q⟩ := R9q; subst e9q e9'q; walk_at "my df") | ((with_reducible rename RTrail _ _ _ _ => R9q); rcases R9q with ⟨hT9q, e9q, e9'q⟩ | ⟨key9q, q9q, t9q, t9'q, x9q, hT9q, e9q, e9'q, hl9q⟩ <;> (subst e9q e9'q; (try simp only [LCg.Off1, and_true] at hl9q); walk_at "my df")) | ((with_reducible rename RLen _ _ _ _ => R9q); obtain ⟨l9q, xs9q, k9q, e9q, hx9q, e9'q, hl9q⟩ := R9q; subst e9q e9'q; (try simp only [LCg.Off1, and_true] at hl9q); walk_at "my df") | ((with_reducible rename RStr _ _ _ _ => R9q); obtain ⟨⟨t9q, e9q⟩, e9'q⟩ := R9q; subst e9q e9'q; walk_at "my df") | ((with_reducible rename RMark _ _ _ _ => R9q); rcases R9q with ⟨hM9q, e9q, e9'q⟩ | ⟨hM9q, q9q, o9q, e9q, e9'q, hl9q⟩ <;> (subst e9q e9'q; (try simp only [LCg.Off1, and_true] at hl9q); walk_at "my df")) | ((with_reducible rename RStp _ _ _ _ _ => R9q); obtain ⟨c9q, dx9q, o9q, p9q, e9q, e9'q, hst9q⟩ := R9q; subst e9q e9'q; walk_at "my df") | ((with_reducible rename RCom _ _ _ _ => R9q); obtain ⟨c9q, dx9q, o9q, p9q, e9q, e9'q, hC9q, hl9q, hcd9q⟩ := R9q; subst e9q e9'q; walk_at "my df")
  k_with "my side" => first | with_reducible assumption | omega | exact Nat.le_trans (By.sl_len _ _ _) (by omega) | exact IsCom.sub (by with_reducible assumption) (by walk_at "my subs") | exact fun k hk => Nat.lt_trans (By.hexCodes_lt k hk) (by decide) | exact Nat.le_trans (By.subjB_len _) (by omega)
  k_with "call ref" => (k_here; k_dflt (refine' says_use ?zqc ?zqk1 ?zqk2 ?zqk3 ?zqk4 ?zqk5 ?zqkK ?zqkd ?zqku ?_; (case zqk1 => k_asm); (case zqk2 => k_asm); (case zqk3 => k_asm); (case zqk4 => k_asm); (case zqk5 => k_asm); (case zqc => walk_at "my contract"); (case zqkK => first | exact rfl | assumption); (case zqkd => first | ktr_room | decide); (case zqku => first | ktr_units | decide); intro v9q n9q h9q tk9q F9q N9q R9q; walk_at "my back"))
  k_with "my contract" => (with_reducible apply says_cut_end) <;> walk_at "my side"
  k_with "my contract" => (with_reducible apply says_rows) <;> walk_at "my side"
  k_with "my contract" => (with_reducible apply says_lines) <;> walk_at "my side"
  k_with "my contract" => (with_reducible apply says_ended) <;> walk_at "my side"
  k_with "my contract" => (with_reducible apply says_subject) <;> walk_at "my side"
  k_with "my contract" => (with_reducible apply says_trimmed) <;> walk_at "my side"
  k_with "my contract" => (with_reducible apply says_trailer) <;> walk_at "my side"
  k_with "my contract" => (with_reducible apply says_last) <;> walk_at "my side"
  k_with "my contract" => (with_reducible apply says_trailers) <;> walk_at "my side"
  k_with "my contract" => (with_reducible apply says_hex) <;> walk_at "my side"
  k_with "my contract" => (with_reducible apply says_oct) <;> walk_at "my side"
  k_with "my contract" => (with_reducible apply says_csubj) <;> walk_at "my side"
  k_with "my contract" => (with_reducible apply says_body) <;> walk_at "my side"
  k_with "my contract" => (with_reducible apply says_mark) <;> walk_at "my side"
  k_with "my contract" => (with_reducible apply says_bare) <;> walk_at "my side"
  k_with "my contract" => (with_reducible apply says_lhex) <;> walk_at "my side"
  k_with "my contract" => (refine' says_lend _ _ _ _ _ _ ?zqs1 ?zqs2 ?zqs3 ?zqs4; (case zqs1 => k_mem); (case zqs2 => with_reducible assumption); (case zqs3 => with_reducible assumption); (case zqs4 => first | omega | (simp only [List.length_append]; omega)))
  intro p loose mean mg mb dp un gd cn cs ad ccd cl outer A₀ base h₀ L m s Q E B F X N T hk hdp hu hret
  have hdl : d ≠ l := by obtain ⟨_, _, _, _, _, _, _, _, _, _, h⟩ := hdk; exact h
  have hdl2 : l ≠ d := Ne.symm hdl
  refine wpAny_call ?_
  k_dflt walk_at "my cell_enterC"
  rename (Obj.data _ = Data.cell _) => hcd
  replace hcd : _ = Data.cell (some (Value.ref d)) := hcd.trans (by with_unfolding_all rfl)
  k_steps
  refine Held.on ?_
  rename News _ _ _ _ => lN'
  rename BsAre _ (sj ++ rs) => hBB
  have hlen := hBB.length
  rw [List.length_append] at hlen
  have lN2 := cb_drop lN' (news := (d, od) :: (l, ol) :: (_, listOf _ 0) :: (_ + 1, _) :: news) (by walk_at "my k_led")
  clear lN'
  k_dflt (refine LCg.CompSrc.ledger (by rfl) (by k_asm) lN2 (.tail _ (.tail _ (.head _))) (by (rw [PySem.sizeLine_eq, List.size_toArray]; omega)) ?_)
  intro g'
  clear lN2
  refine bcf_sp (σ := Obj × Obj) (fun c => (d, c.1) :: (l, c.2) :: (_, listOf _ 0) :: (_ + 1, _) :: news) (fun c => IsDeck w d l c.1 c.2) (od, ol) hBB hdk (fun c' b' t' I' oI' C' oC' D' m' ys' h' tk' E' hb' hP' hC' hx' F' N' off' ne' => ?_) ?_
  · obtain ⟨od2, ol2⟩ := c'
    dsimp only at hP' N' off'
    have hbl := Nat.le_trans (By.len_le_sum hb') hsh
    have off2 := off'
    simp only [LCg.Off3, and_true] at off2
    k_steps
    · refine Held.on ?_
      rename IsDeck w d l _ _ => hD9
      refine' LCg.CompEnd.intro ?F ?N _ ?sub ?off (.inr ⟨_, .tail _ (.tail _ (.head _)), rfl, _, rfl⟩) ⟨(_, _), _, _, rfl, hD9, ?hb, rfl⟩
      case F => k_asm
      case N => k_asm
      case sub => walk_at "my k_led"
      case off => exact off'
      case hb => exact .inr ⟨by rename (b' != []) = true => hne; simpa using hne, rfl⟩
    · refine Held.on ?_
      rename IsDeck w d l _ _ => hD9
      refine' LCg.CompEnd.intro ?F ?N _ ?sub ?off (.inr ⟨_, .tail _ (.tail _ (.head _)), rfl, _, rfl⟩) ⟨(_, _), _, _, rfl, hD9, ?hb, rfl⟩
      case F => k_asm
      case N => k_asm
      case sub => walk_at "my k_led"
      case off => exact off'
      case hb => exact .inl (List.append_nil _)
    · refine Held.on ?_
      exact LCg.CompEnd.intro (by k_asm) (by k_asm) _ (by walk_at "my k_led") off' (.inr ⟨_, .tail _ (.tail _ (.head _)), rfl, _, rfl⟩) ⟨(od2, ol2), _, _, rfl, hP', .inl (List.append_nil _), rfl⟩
  · intro c ys bs' hDk hys hsp
    obtain ⟨od2, ol2⟩ := c
    dsimp only at hDk
    have hjl := By.sp_join hsp
    rw [List.length_append] at hjl
    have hjm : (By.joinB [10] bs').length ≤ 16777216 := by omega
    k_steps
    · exact hret _ _ _ _ (by k_asm) (cb_drop (by k_asm) (by walk_at "my k_led")) (ROct.make hsp (.inr rfl) (by assumption))
    · exact hret _ _ _ _ (by k_asm) (cb_drop (by k_asm) (by walk_at "my k_led")) (ROct.make hsp (.inl rfl) (by assumption))
end Mine
end
section
namespace Mine
local macro_rules | `(tactic| k_mem) => `(tactic| first | exact List.Mem.head _ | with_reducible_and_instances assumption | (refine' List.Mem.tail _ ?_; k_mem))
set_option maxRecDepth 100000 in
set_option maxHeartbeats 1000000 in
theorem says_lpick (w : World) (sref rl : Addr) (vs : List Value) (k many : Nat) (tm to : Tok) (oid : List UInt8) (sj rs : List (List UInt8)) (news : List (Addr × Obj)) (hkt : KTup w sref sj) (hrl : (rl, listOf vs.toArray k) ∈ news) (hbs : BsAre vs rs)
    (hz1 : sj.length ≤ 100) (hz2 : rs.length ≤ 100) (hsh : Short 200 (sj ++ rs)) (ho : oid.length ≤ 64) : Says w 310 2 [.ref sref, .ref rl, .int (many : Int) tm, .bytes oid.toArray to] news (RB (By.lpick (sj ++ rs) many oid) news) := by
  unfold Says
  k_fill
  w_top off
  k_with_none
  k_with "getMethod bytes" => (k_here; first | refine By.get_method By.slot_find By.type_find ?_ | refine By.get_method By.slot_split By.type_split ?_ | refine By.get_method By.slot_rstrip By.type_rstrip ?_ | refine By.get_method By.slot_lstrip By.type_lstrip ?_ | refine By.get_method By.slot_join By.type_join ?_ | refine By.get_method FB.slot_bytes_startswith FB.type_bytes_startswith ?_ | refine By.get_method FB.slot_bytes_endswith FB.type_bytes_endswith ?_)
  k_with "call builtin:len" => (k_here; (with_reducible show wpAny _ _ (call (Value.builtin "len") [Value.bytes (List.toArray _) _]) _ _ _); (refine By.len_B (by first | assumption | omega) ?_); intro _ _)
  k_with "subscriptTail" => (k_here; (with_reducible show wpAny _ _ (subscriptTail _ _ (Value.bytes (List.toArray _) _) (Value.int _ _)) _ _ _); (refine By.item_B (by first | assumption | omega) (by omega) (by omega) ?_); intro _ _)
  k_with "subscriptTail" => (k_here; (with_reducible show wpAny _ _ (subscriptTail _ (Expr.Slice _ _ none _) (Value.bytes (List.toArray _) _) (Value.ref _)) _ _ _); (with_reducible rename Fr _ _ _ _ => F'q); (with_reducible rename News _ _ _ _ => N'q); (refine By.slice_B (s := ⟨_, _, _, _, _⟩) F'q N'q (by constructor) (by constructor) (by first | assumption | omega) ?_); intro _ _ _ _ _)
  k_with "compareOp In int bytes" => (k_here; (with_reducible show wpAny _ _ (compareOp CmpOp.In (Value.int _ _) (Value.bytes (List.toArray _) _)) _ _ _); refine By.in_byte ?_)
  k_with "compareOp Eq bytes bytes" => (k_here; (with_reducible show wpAny _ _ (compareOp CmpOp.Eq (Value.bytes (List.toArray _) _) (Value.bytes (List.toArray _) _)) _ _ _); refine By.eq_B ?_)
  k_with "compareOp NotEq bytes bytes" => (k_here; (with_reducible show wpAny _ _ (compareOp CmpOp.NotEq (Value.bytes (List.toArray _) _) (Value.bytes (List.toArray _) _)) _ _ _); refine By.ne_B ?_)
  k_with "binaryOp Add bytes bytes" => (k_here; (with_reducible show wpAny _ _ (binaryOp Operator.Add (Value.bytes (List.toArray _) _) (Value.bytes (List.toArray _) _)) _ _ _); (refine By.add_B (by first | assumption | omega | (simp only [List.length_append, List.length_cons, List.length_nil] at *; omega)) ?_); intro _ _)
  k_with "call builtin:bytes.startswith" => (k_here; (with_reducible show wpAny _ _ (call (Value.builtin _) [Value.bytes (List.toArray _) _, Value.bytes (List.toArray _) _]) _ _ _); refine By.call_startswith ?_)
  k_with "call builtin:bytes.endswith" => (k_here; (with_reducible show wpAny _ _ (call (Value.builtin _) [Value.bytes (List.toArray _) _, Value.bytes (List.toArray _) _]) _ _ _); refine By.call_endswith ?_)
  k_with "call builtin:bytes.rstrip" => (k_here; (with_reducible show wpAny _ _ (call (Value.builtin _) [Value.bytes (List.toArray _) _, Value.bytes (List.toArray _) _]) _ _ _); (refine By.call_rstrip (by first | assumption | omega) ?_); intro _ _)
  k_with "call builtin:bytes.lstrip" => (k_here; (with_reducible show wpAny _ _ (call (Value.builtin _) [Value.bytes (List.toArray _) _, Value.bytes (List.toArray _) _]) _ _ _); (refine By.call_lstrip (by first | assumption | omega) ?_); intro _ _)
  k_with "call builtin:bytes.find" => (k_here; first | (refine By.call_find0 ?_; intro _ _) | (refine By.call_findI (by omega) (by omega) ?_; intro _ _))
  k_with "call builtin:bytes.split" => (k_here; k_dflt (refine' By.call_split ?zqk1 ?zqk2 ?zqk3 ?_; (case zqk1 => k_asm); (case zqk2 => k_asm); (case zqk3 => omega); k_whole); intro l'q vs'q h'q k'q hB'q hS'q hZ'q F'q N'q o1q; (try simp only [LCg.Off1, and_true] at o1q); (try k_sweep))
  k_with "call builtin:list.append" => (k_here; (with_reducible show wpAny _ _ (call (Value.builtin _) [Value.ref _, _]) _ _ _); k_dflt (refine' append_K ?zqk1 ?zqk2 ?zqk3 ?_ ?zqz; (case zqk1 => k_asm); (case zqk2 => k_asm); (case zqk3 => k_upd); (case zqz => (rw [PySem.sizeLine_eq]; simp only [List.size_toArray]; omega)); k_whole); intro h'q F'q N'q; (try k_sweep))
  k_with "call builtin:bytes.join" => (k_here; (with_reducible show wpAny _ _ (call (Value.builtin _) [Value.bytes (List.toArray _) _, Value.ref _]) _ _ _); k_dflt (refine By.call_join (News.isList (by k_asm) (by k_mem)) (by with_reducible assumption) (by first | assumption | omega) ?_); intro _ _)
  k_with "compareOp NotEq ref ref" => (k_here; (with_reducible show wpAny _ _ (compareOp CmpOp.NotEq (Value.ref _) (Value.ref _)) _ _ _); k_dflt (refine ne_nilK (by k_asm) (by k_mem) (by k_mem) (by ktr_units) ?_))
  k_with "compareOp Eq ref ref" => (k_here; (with_reducible show wpAny _ _ (compareOp CmpOp.Eq (Value.ref _) (Value.ref _)) _ _ _); k_dflt (refine eq_nilK (by k_asm) (by k_mem) (by k_mem) (by ktr_units) ?_))
  k_with "subscriptTail" => (k_here; (with_reducible show wpAny _ _ (subscriptTail _ _ (Value.ref _) (Value.int _ _)) _ _ _); k_dflt first | ((with_reducible show wpAny _ _ (subscriptTail _ (Expr.UnaryOp _ _ _) _ _) _ _ _); refine item_lastK (by k_asm) (by k_mem) (by with_reducible assumption) (by omega) (by omega) ?_; intro _) | (refine item_K (by k_asm) (by k_mem) (by with_reducible assumption) (by omega) (by omega) (by omega) ?_; intro _))
  k_with "call builtin:list.pop" => (k_here; (with_reducible show wpAny _ _ (call (Value.builtin _) [Value.ref _]) _ _ _); k_dflt (refine' popK ?zqF ?zqN ?zqU ?zqi ?zql ?zqz ?_; (case zqF => k_asm); (case zqN => k_asm); (case zqU => k_upd); (case zqi => with_reducible assumption); (case zql => omega); (case zqz => omega)); intro h'q t'q F'q N'q; (try k_sweep))
  k_with "subscriptTail" => (k_here; (with_reducible show wpAny _ _ (subscriptTail _ (Expr.Slice _ _ none _) (Value.ref _) (Value.ref _)) _ _ _); (with_reducible rename Fr _ _ _ _ => F'q); (with_reducible rename News _ _ _ _ => N'q); k_dflt (refine slice_L (s := ⟨_, _, _, _, _⟩) F'q N'q (by k_mem) (by with_reducible assumption) (by constructor) (by constructor) (by omega) ?_); intro l'q vs'q h'q hB'q hZ'q F'q N'q o1q; (try simp only [LCg.Off1, and_true] at o1q))
  k_with "subscriptTail Name Slice ref ref" => (k_here; (with_reducible show wpAny _ _ (subscriptTail _ (Expr.Slice _ _ none _) (Value.ref _) (Value.ref _)) _ _ _); (with_reducible rename Fr _ _ _ _ => F'q); (with_reducible rename News _ _ _ _ => N'q); k_dflt (refine slice_L (s := ⟨_, _, _, _, _⟩) F'q N'q (by k_mem) (by with_reducible assumption) (by constructor) (by constructor) (by omega) ?_); intro l'q vs'q h'q hB'q hZ'q F'q N'q o1q; (try simp only [LCg.Off1, and_true] at o1q))
  k_with "subscriptTail Call Slice ref ref" => (k_here; (with_reducible show wpAny _ _ (subscriptTail _ (Expr.Slice _ _ none _) (Value.ref _) (Value.ref _)) _ _ _); (with_reducible rename Fr _ _ _ _ => F'q); (with_reducible rename News _ _ _ _ => N'q); k_dflt (refine slice_L (s := ⟨_, _, _, _, _⟩) F'q N'q (by k_mem) (by with_reducible assumption) (by constructor) (by constructor) (by omega) ?_); intro l'q vs'q h'q hB'q hZ'q F'q N'q o1q; (try simp only [LCg.Off1, and_true] at o1q))
  k_with "call builtin:len" => (k_here; (with_reducible show wpAny _ _ (call (Value.builtin "len") [Value.ref _]) _ _ _); k_dflt (refine len_LK (by k_asm) (by k_mem) (by omega) ?_); intro _ _)
  k_with "exec While Compare cons nil" => refine Held.out ?_
  k_with "exec While BoolOp" => refine Held.out ?_
  k_with "KswEnd" => refine Held.out ?_
  k_with "my rl_len" => first | ((try simp only [List.length_replicate, List.length_append, List.length_cons, List.length_nil]); omega) | ((have hel9q := By.end_len (by assumption)); (try simp only [List.length_replicate, List.length_append, List.length_cons, List.length_nil]); omega)
  k_with "call type:range" => ((rename Fr _ _ _ _ => F'q); (rename News _ _ _ _ => N'q); with_unfolding_all refine range1_rows F'q N'q ?_; intro _ _ _ _ _ hR9q F9q N9q _)
  k_with "binaryOp Mult ref int" => (k_here; (with_reducible show wpAny _ _ (binaryOp Operator.Mult (Value.ref _) (Value.int _ _)) _ _ _); k_dflt (refine' mul_L ?zqF ?zqN ?zqa ?zqh0 ?zqh1 ?_; (case zqF => k_asm); (case zqN => k_asm); (case zqa => k_mem); (case zqh0 => omega); (case zqh1 => omega)); intro D'q us'q h'q F'q N'q l1q hB'q; (try k_lt l1q); (try k_sweep))
  k_with "binaryOp Add ref ref" => (k_here; (with_reducible show wpAny _ _ (binaryOp Operator.Add (Value.ref _) (Value.ref _)) _ _ _); k_dflt (refine' add_L ?zqF ?zqN ?zqa ?zqb ?zqh1 ?zqh2 ?zqhz ?_; (case zqF => k_asm); (case zqN => k_asm); (case zqa => k_mem); (case zqb => k_mem); (case zqh1 => first | with_reducible assumption | exact .cons _ .nil); (case zqh2 => first | with_reducible assumption | exact .cons _ .nil); (case zqhz => walk_at "my rl_len")); intro D'q us'q h'q F'q N'q l1q hB'q; (try k_lt l1q); (try k_sweep))
  k_with "call builtin:list.extend" => (k_here; (with_reducible show wpAny _ _ (call (Value.builtin _) [Value.ref _, Value.ref _]) _ _ _); k_dflt (refine' ext_T ?zqF ?zqN ?zqX ?zqq ?zqh1 ?zqhne ?zqhz ?zqU ?_; (case zqF => k_asm); (case zqN => k_asm); (case zqX => k_in); (case zqq => with_reducible assumption); (case zqU => (intro ws; k_upd)); (case zqh1 => with_reducible assumption); (case zqhne => exact (By.part_len (by assumption)).1); (case zqhz => (have hpl9q := By.part_len (by assumption); walk_at "my rl_len"))); intro ws'q h'q F'q N'q hB'q; (try k_sweep))
  k_with "call builtin:list.extend" => (k_here; (with_reducible show wpAny _ _ (call (Value.builtin _) [Value.ref _, Value.ref _]) _ _ _); k_dflt (refine' ext_L ?zqF ?zqN ?zqb ?zqh1 ?zqh2 ?zqhne ?zqhz ?zqU ?_; (case zqF => k_asm); (case zqN => k_asm); (case zqb => k_mem); (case zqU => k_upd); (case zqh1 => with_reducible assumption); (case zqh2 => with_reducible assumption); (case zqhne => walk_at "my rl_len"); (case zqhz => walk_at "my rl_len")); intro h'q F'q N'q hB'q; (try k_sweep))
  k_with "call type:list" => (k_here; (with_reducible show wpAny _ _ (call (Value.type "list") [Value.ref _]) _ _ _); k_dflt (refine' list_T ?zqF ?zqN ?zqX ?zqq ?zqhz ?_; (case zqF => k_asm); (case zqN => k_asm); (case zqX => k_in); (case zqq => with_reducible assumption); (case zqhz => walk_at "my rl_len")); intro D'q us'q k'q h'q F'q N'q l1q hB'q; (try k_lt l1q); (try k_sweep))
  k_with "call builtin:len" => (k_here; (with_reducible show wpAny _ _ (call (Value.builtin "len") [Value.ref _]) _ _ _); k_dflt (refine len_T (by k_asm) (by k_in) (by with_reducible assumption) (by walk_at "my rl_len") ?_); intro _ _)
  k_with "compareOp NotEq ref ref" => (k_here; (with_reducible show wpAny _ _ (compareOp CmpOp.NotEq (Value.ref _) (Value.ref _)) _ _ _); k_dflt (refine ne_T (by k_asm) (by k_in) (by with_reducible assumption) (News.isTup (by k_asm) (by k_mem)) (by ktr_units) ?_))
  k_with "my by_len" => first | omega | (simp only [List.length_append, List.length_cons, List.length_nil, List.length_map, By.hexCodes_len, sl_from_len]; omega)
  k_with "binaryOp Add bytes bytes" => (k_here; (with_reducible show wpAny _ _ (binaryOp Operator.Add (Value.bytes (List.toArray _) _) (Value.bytes (List.toArray _) _)) _ _ _); (refine By.add_B (by walk_at "my by_len") ?_); intro _ _)
  k_with "my subs" => first | exact fun p hp => hp | (refine sub_tail ?_; walk_at "my subs")
  k_with "my df" => ((try dsimp only); (try k_fold))
  k_with "my back" => first | ((with_reducible rename RB _ _ _ _ => R9q); obtain ⟨⟨t9q, e9q⟩, e9'q⟩ := R9q; subst e9q e9'q; walk_at "my df") | ((with_reducible rename RL _ _ _ _ => R9q); obtain ⟨l9q, vs9q, k9q, e9q, hB9q, e9'q, hl9q⟩ := R9q; subst e9q e9'q; have hZ9q := hB9q.length; (try simp only [LCg.Off1, and_true] at hl9q); walk_at "my df") | ((with_reducible rename RSubj _ _ _ _ => R9q); obtain ⟨q9q, t9q, t9'q, e9q, e9'q, hl9q⟩ := R9q; subst e9q e9'q; (try simp only [LCg.Off1, and_true] at hl9q); walk_at "my df") | ((with_reducible rename RSome _ _ _ _ => R9q); obtain ⟨⟨x9q, t9q, e9q, hx9q⟩, e9'q⟩ := R9q; subst e9q e9'q; walk_at "my df") | ((with_reducible rename RTrail _ _ _ _ => R9q); rcases R9q with ⟨hT9q, e9q, e9'q⟩ | ⟨key9q, q9q, t9q, t9'q, x9q, hT9q, e9q, e9'q, hl9q⟩ <;> (subst e9q e9'q; (try simp only [LCg.Off1, and_true] at hl9q); walk_at "my df")) | ((with_reducible rename RLen _ _ _ _ => R9q); obtain ⟨l9q, xs9q, k9q, e9q, hx9q, e9'q, hl9q⟩ := R9q; subst e9q e9'q; (try simp only [LCg.Off1, and_true] at hl9q); walk_at "my df") | ((with_reducible rename RStr _ _ _ _ => R9q); obtain ⟨⟨t9q, e9q⟩, e9'q⟩ := R9q; subst e9q e9'q; walk_at "my df") | ((with_reducible rename RMark _ _ _ _ => R9q); rcases R9q with ⟨hM9q, e9q, e9'q⟩ | ⟨hM9q, q9q, o9q, e9q, e9'q, hl9q⟩ <;> (subst e9q e9'q; (try simp only [LCg.Off1, and_true] at hl9q); walk_at "my df")) | ((with_reducible rename RStp _ _ _ _ _ => R9q); obtain ⟨c9q, dx9q, o9q, p9q, e9q, e9'q, hst9q⟩ := R9q; subst e9q e9'q; walk_at "my df") | ((with_reducible rename RCom _ _ _ _ => R9q); obtain ⟨c9q, dx9q, o9q, p9q, e9q, e9'q, hC9q, hl9q, hcd9q⟩ := R9q; subst e9q e9'q; walk_at "my df")
  k_with "my side" => first | with_reducible assumption | omega | exact Nat.le_trans (By.sl_len _ _ _) (by omega) | exact IsCom.sub (by with_reducible assumption) (by walk_at "my subs") | exact fun k hk => Nat.lt_trans (By.hexCodes_lt k hk) (by decide) | exact Nat.le_trans (By.subjB_len _) (by omega)
  k_with "call ref" => (k_here; k_dflt (refine' says_use ?zqc ?zqk1 ?zqk2 ?zqk3 ?zqk4 ?zqk5 ?zqkK ?zqkd ?zqku ?_; (case zqk1 => k_asm); (case zqk2 => k_asm); (case zqk3 => k_asm); (case zqk4 => k_asm); (case zqk5 => k_asm); (case zqc => walk_at "my contract"); (case zqkK => first | exact rfl | assumption); (case zqkd => first | ktr_room | decide); (case zqku => first | ktr_units | decide); intro v9q n9q h9q tk9q F9q N9q R9q; walk_at "my back"))
  k_with "my contract" => (with_reducible apply says_cut_end) <;> walk_at "my side"
  k_with "my contract" => (with_reducible apply says_rows) <;> walk_at "my side"
  k_with "my contract" => (with_reducible apply says_lines) <;> walk_at "my side"
  k_with "my contract" => (with_reducible apply says_ended) <;> walk_at "my side"
  k_with "my contract" => (with_reducible apply says_subject) <;> walk_at "my side"
  k_with "my contract" => (with_reducible apply says_trimmed) <;> walk_at "my side"
  k_with "my contract" => (with_reducible apply says_trailer) <;> walk_at "my side"
  k_with "my contract" => (with_reducible apply says_last) <;> walk_at "my side"
  k_with "my contract" => (with_reducible apply says_trailers) <;> walk_at "my side"
  k_with "my contract" => (with_reducible apply says_hex) <;> walk_at "my side"
  k_with "my contract" => (with_reducible apply says_oct) <;> walk_at "my side"
  k_with "my contract" => (with_reducible apply says_csubj) <;> walk_at "my side"
  k_with "my contract" => (with_reducible apply says_body) <;> walk_at "my side"
  k_with "my contract" => (with_reducible apply says_mark) <;> walk_at "my side"
  k_with "my contract" => (with_reducible apply says_bare) <;> walk_at "my side"
  k_with "my contract" => (with_reducible apply says_lhex) <;> walk_at "my side"
  k_with "my contract" => (refine' says_lend _ _ _ _ _ _ ?zqs1 ?zqs2 ?zqs3 ?zqs4; (case zqs1 => k_mem); (case zqs2 => with_reducible assumption); (case zqs3 => with_reducible assumption); (case zqs4 => first | omega | (simp only [List.length_append]; omega)))
  intro p loose mean mg mb dp un gd cn cs ad ccd cl outer A₀ base h₀ L m s Q E B F X N T hk hdp hu hret
  have hhl := By.hexB_len oid
  have hll := By.lend_len (sj ++ rs)
  have hss := By.sum_short hsh
  rw [List.length_append] at hll hss
  have hss2 : 200 * (sj.length + rs.length) ≤ 40000 := by omega
  refine wpAny_call ?_
  k_dflt cell_enter
  k_steps
  all_goals first
    | (have hE := By.lpick_yes (rows := sj ++ rs) (oid := oid) (many := many) (by assumption); exact hret _ _ _ _ (by k_asm) (cb_drop (by k_asm) (by walk_at "my k_led")) (RB.of hE))
    | (have hE := By.lpick_no (rows := sj ++ rs) (oid := oid) (many := many) (by assumption); exact hret _ _ _ _ (by k_asm) (cb_drop (by k_asm) (by walk_at "my k_led")) (RB.of hE))
end Mine
end
section
namespace Mine
set_option maxRecDepth 100000 in
set_option maxHeartbeats 1000000 in
theorem says_lrev (w : World) (sref : Addr) (to : Tok) (oid : List UInt8) (v : Value) (pr : Option (List UInt8)) (sj : List (List UInt8)) (news : List (Addr × Obj)) (hkt : KTup w sref sj) (hj : (By.joinB [32] sj).length ≤ 4000) (ho : oid.length ≤ 64) (hpv : ParV v pr) : Says w 317 2 [.ref sref, .bytes oid.toArray to, v] news (RB (By.lrevB (By.joinB [32] sj) oid pr) news) := by
  unfold Says
  k_fill
  w_top off
  k_with_none
  k_with "getMethod bytes" => (k_here; first | refine By.get_method By.slot_find By.type_find ?_ | refine By.get_method By.slot_split By.type_split ?_ | refine By.get_method By.slot_rstrip By.type_rstrip ?_ | refine By.get_method By.slot_lstrip By.type_lstrip ?_ | refine By.get_method By.slot_join By.type_join ?_ | refine By.get_method FB.slot_bytes_startswith FB.type_bytes_startswith ?_ | refine By.get_method FB.slot_bytes_endswith FB.type_bytes_endswith ?_)
  k_with "call builtin:len" => (k_here; (with_reducible show wpAny _ _ (call (Value.builtin "len") [Value.bytes (List.toArray _) _]) _ _ _); (refine By.len_B (by first | assumption | omega) ?_); intro _ _)
  k_with "subscriptTail" => (k_here; (with_reducible show wpAny _ _ (subscriptTail _ _ (Value.bytes (List.toArray _) _) (Value.int _ _)) _ _ _); (refine By.item_B (by first | assumption | omega) (by omega) (by omega) ?_); intro _ _)
  k_with "subscriptTail" => (k_here; (with_reducible show wpAny _ _ (subscriptTail _ (Expr.Slice _ _ none _) (Value.bytes (List.toArray _) _) (Value.ref _)) _ _ _); (with_reducible rename Fr _ _ _ _ => F'q); (with_reducible rename News _ _ _ _ => N'q); (refine By.slice_B (s := ⟨_, _, _, _, _⟩) F'q N'q (by constructor) (by constructor) (by first | assumption | omega) ?_); intro _ _ _ _ _)
  k_with "compareOp In int bytes" => (k_here; (with_reducible show wpAny _ _ (compareOp CmpOp.In (Value.int _ _) (Value.bytes (List.toArray _) _)) _ _ _); refine By.in_byte ?_)
  k_with "compareOp Eq bytes bytes" => (k_here; (with_reducible show wpAny _ _ (compareOp CmpOp.Eq (Value.bytes (List.toArray _) _) (Value.bytes (List.toArray _) _)) _ _ _); refine By.eq_B ?_)
  k_with "compareOp NotEq bytes bytes" => (k_here; (with_reducible show wpAny _ _ (compareOp CmpOp.NotEq (Value.bytes (List.toArray _) _) (Value.bytes (List.toArray _) _)) _ _ _); refine By.ne_B ?_)
  k_with "binaryOp Add bytes bytes" => (k_here; (with_reducible show wpAny _ _ (binaryOp Operator.Add (Value.bytes (List.toArray _) _) (Value.bytes (List.toArray _) _)) _ _ _); (refine By.add_B (by first | assumption | omega | (simp only [List.length_append, List.length_cons, List.length_nil] at *; omega)) ?_); intro _ _)
  k_with "call builtin:bytes.startswith" => (k_here; (with_reducible show wpAny _ _ (call (Value.builtin _) [Value.bytes (List.toArray _) _, Value.bytes (List.toArray _) _]) _ _ _); refine By.call_startswith ?_)
  k_with "call builtin:bytes.endswith" => (k_here; (with_reducible show wpAny _ _ (call (Value.builtin _) [Value.bytes (List.toArray _) _, Value.bytes (List.toArray _) _]) _ _ _); refine By.call_endswith ?_)
  k_with "call builtin:bytes.rstrip" => (k_here; (with_reducible show wpAny _ _ (call (Value.builtin _) [Value.bytes (List.toArray _) _, Value.bytes (List.toArray _) _]) _ _ _); (refine By.call_rstrip (by first | assumption | omega) ?_); intro _ _)
  k_with "call builtin:bytes.lstrip" => (k_here; (with_reducible show wpAny _ _ (call (Value.builtin _) [Value.bytes (List.toArray _) _, Value.bytes (List.toArray _) _]) _ _ _); (refine By.call_lstrip (by first | assumption | omega) ?_); intro _ _)
  k_with "call builtin:bytes.find" => (k_here; first | (refine By.call_find0 ?_; intro _ _) | (refine By.call_findI (by omega) (by omega) ?_; intro _ _))
  k_with "call builtin:bytes.split" => (k_here; k_dflt (refine' By.call_split ?zqk1 ?zqk2 ?zqk3 ?_; (case zqk1 => k_asm); (case zqk2 => k_asm); (case zqk3 => omega); k_whole); intro l'q vs'q h'q k'q hB'q hS'q hZ'q F'q N'q o1q; (try simp only [LCg.Off1, and_true] at o1q); (try k_sweep))
  k_with "call builtin:list.append" => (k_here; (with_reducible show wpAny _ _ (call (Value.builtin _) [Value.ref _, _]) _ _ _); k_dflt (refine' append_K ?zqk1 ?zqk2 ?zqk3 ?_ ?zqz; (case zqk1 => k_asm); (case zqk2 => k_asm); (case zqk3 => k_upd); (case zqz => (rw [PySem.sizeLine_eq]; simp only [List.size_toArray]; omega)); k_whole); intro h'q F'q N'q; (try k_sweep))
  k_with "call builtin:bytes.join" => (k_here; (with_reducible show wpAny _ _ (call (Value.builtin _) [Value.bytes (List.toArray _) _, Value.ref _]) _ _ _); k_dflt (refine By.call_join (News.isList (by k_asm) (by k_mem)) (by with_reducible assumption) (by first | assumption | omega) ?_); intro _ _)
  k_with "compareOp NotEq ref ref" => (k_here; (with_reducible show wpAny _ _ (compareOp CmpOp.NotEq (Value.ref _) (Value.ref _)) _ _ _); k_dflt (refine ne_nilK (by k_asm) (by k_mem) (by k_mem) (by ktr_units) ?_))
  k_with "compareOp Eq ref ref" => (k_here; (with_reducible show wpAny _ _ (compareOp CmpOp.Eq (Value.ref _) (Value.ref _)) _ _ _); k_dflt (refine eq_nilK (by k_asm) (by k_mem) (by k_mem) (by ktr_units) ?_))
  k_with "subscriptTail" => (k_here; (with_reducible show wpAny _ _ (subscriptTail _ _ (Value.ref _) (Value.int _ _)) _ _ _); k_dflt first | ((with_reducible show wpAny _ _ (subscriptTail _ (Expr.UnaryOp _ _ _) _ _) _ _ _); refine item_lastK (by k_asm) (by k_mem) (by with_reducible assumption) (by omega) (by omega) ?_; intro _) | (refine item_K (by k_asm) (by k_mem) (by with_reducible assumption) (by omega) (by omega) (by omega) ?_; intro _))
  k_with "call builtin:list.pop" => (k_here; (with_reducible show wpAny _ _ (call (Value.builtin _) [Value.ref _]) _ _ _); k_dflt (refine' popK ?zqF ?zqN ?zqU ?zqi ?zql ?zqz ?_; (case zqF => k_asm); (case zqN => k_asm); (case zqU => k_upd); (case zqi => with_reducible assumption); (case zql => omega); (case zqz => omega)); intro h'q t'q F'q N'q; (try k_sweep))
  k_with "subscriptTail" => (k_here; (with_reducible show wpAny _ _ (subscriptTail _ (Expr.Slice _ _ none _) (Value.ref _) (Value.ref _)) _ _ _); (with_reducible rename Fr _ _ _ _ => F'q); (with_reducible rename News _ _ _ _ => N'q); k_dflt (refine slice_L (s := ⟨_, _, _, _, _⟩) F'q N'q (by k_mem) (by with_reducible assumption) (by constructor) (by constructor) (by omega) ?_); intro l'q vs'q h'q hB'q hZ'q F'q N'q o1q; (try simp only [LCg.Off1, and_true] at o1q))
  k_with "subscriptTail Name Slice ref ref" => (k_here; (with_reducible show wpAny _ _ (subscriptTail _ (Expr.Slice _ _ none _) (Value.ref _) (Value.ref _)) _ _ _); (with_reducible rename Fr _ _ _ _ => F'q); (with_reducible rename News _ _ _ _ => N'q); k_dflt (refine slice_L (s := ⟨_, _, _, _, _⟩) F'q N'q (by k_mem) (by with_reducible assumption) (by constructor) (by constructor) (by omega) ?_); intro l'q vs'q h'q hB'q hZ'q F'q N'q o1q; (try simp only [LCg.Off1, and_true] at o1q))
  k_with "subscriptTail Call Slice ref ref" => (k_here; (with_reducible show wpAny _ _ (subscriptTail _ (Expr.Slice _ _ none _) (Value.ref _) (Value.ref _)) _ _ _); (with_reducible rename Fr _ _ _ _ => F'q); (with_reducible rename News _ _ _ _ => N'q); k_dflt (refine slice_L (s := ⟨_, _, _, _, _⟩) F'q N'q (by k_mem) (by with_reducible assumption) (by constructor) (by constructor) (by omega) ?_); intro l'q vs'q h'q hB'q hZ'q F'q N'q o1q; (try simp only [LCg.Off1, and_true] at o1q))
  k_with "call builtin:len" => (k_here; (with_reducible show wpAny _ _ (call (Value.builtin "len") [Value.ref _]) _ _ _); k_dflt (refine len_LK (by k_asm) (by k_mem) (by omega) ?_); intro _ _)
  k_with "exec While Compare cons nil" => refine Held.out ?_
  k_with "exec While BoolOp" => refine Held.out ?_
  k_with "KswEnd" => refine Held.out ?_
  k_with "my by_len" => first | omega | (simp only [List.length_append, List.length_cons, List.length_nil, List.length_map, By.hexCodes_len, sl_from_len]; omega)
  k_with "binaryOp Add bytes bytes" => (k_here; (with_reducible show wpAny _ _ (binaryOp Operator.Add (Value.bytes (List.toArray _) _) (Value.bytes (List.toArray _) _)) _ _ _); (refine By.add_B (by walk_at "my by_len") ?_); intro _ _)
  k_with "call builtin:bytes.join" => (k_here; (with_reducible show wpAny _ _ (call (Value.builtin _) [Value.bytes (List.toArray _) _, Value.ref _]) _ _ _); k_dflt (refine join_T (by k_asm) (by k_in) (by with_reducible assumption) (by first | assumption | omega) ?_); intro _ _)
  k_with "eval BoolOp" => (k_here; refine Held.out ?_)
  k_with "eval IfExp" => (k_here; refine Held.out ?_)
  k_with "JVb" => refine Held.out ?_
  k_with "JV" => refine Held.out ?_
  k_with "my subs" => first | exact fun p hp => hp | (refine sub_tail ?_; walk_at "my subs")
  k_with "my df" => ((try dsimp only); (try k_fold))
  k_with "my back" => first | ((with_reducible rename RB _ _ _ _ => R9q); obtain ⟨⟨t9q, e9q⟩, e9'q⟩ := R9q; subst e9q e9'q; walk_at "my df") | ((with_reducible rename RL _ _ _ _ => R9q); obtain ⟨l9q, vs9q, k9q, e9q, hB9q, e9'q, hl9q⟩ := R9q; subst e9q e9'q; have hZ9q := hB9q.length; (try simp only [LCg.Off1, and_true] at hl9q); walk_at "my df") | ((with_reducible rename RSubj _ _ _ _ => R9q); obtain ⟨q9q, t9q, t9'q, e9q, e9'q, hl9q⟩ := R9q; subst e9q e9'q; (try simp only [LCg.Off1, and_true] at hl9q); walk_at "my df") | ((with_reducible rename RSome _ _ _ _ => R9q); obtain ⟨⟨x9q, t9q, e9q, hx9q⟩, e9'q⟩ := R9q; subst e9q e9'q; walk_at "my df") | ((with_reducible rename RTrail _ _ _ _ => R9q); rcases R9q with ⟨hT9q, e9q, e9'q⟩ | ⟨key9q, q9q, t9q, t9'q, x9q, hT9q, e9q, e9'q, hl9q⟩ <;> (subst e9q e9'q; (try simp only [LCg.Off1, and_true] at hl9q); walk_at "my df")) | ((with_reducible rename RLen _ _ _ _ => R9q); obtain ⟨l9q, xs9q, k9q, e9q, hx9q, e9'q, hl9q⟩ := R9q; subst e9q e9'q; (try simp only [LCg.Off1, and_true] at hl9q); walk_at "my df") | ((with_reducible rename RStr _ _ _ _ => R9q); obtain ⟨⟨t9q, e9q⟩, e9'q⟩ := R9q; subst e9q e9'q; walk_at "my df") | ((with_reducible rename RMark _ _ _ _ => R9q); rcases R9q with ⟨hM9q, e9q, e9'q⟩ | ⟨hM9q, q9q, o9q, e9q, e9'q, hl9q⟩ <;> (subst e9q e9'q; (try simp only [LCg.Off1, and_true] at hl9q); walk_at "my df")) | ((with_reducible rename RStp _ _ _ _ _ => R9q); obtain ⟨c9q, dx9q, o9q, p9q, e9q, e9'q, hst9q⟩ := R9q; subst e9q e9'q; walk_at "my df") | ((with_reducible rename RCom _ _ _ _ => R9q); obtain ⟨c9q, dx9q, o9q, p9q, e9q, e9'q, hC9q, hl9q, hcd9q⟩ := R9q; subst e9q e9'q; walk_at "my df")
  k_with "my side" => first | with_reducible assumption | omega | exact Nat.le_trans (By.sl_len _ _ _) (by omega) | exact IsCom.sub (by with_reducible assumption) (by walk_at "my subs") | exact fun k hk => Nat.lt_trans (By.hexCodes_lt k hk) (by decide) | exact Nat.le_trans (By.subjB_len _) (by omega)
  k_with "call ref" => (k_here; k_dflt (refine' says_use ?zqc ?zqk1 ?zqk2 ?zqk3 ?zqk4 ?zqk5 ?zqkK ?zqkd ?zqku ?_; (case zqk1 => k_asm); (case zqk2 => k_asm); (case zqk3 => k_asm); (case zqk4 => k_asm); (case zqk5 => k_asm); (case zqc => walk_at "my contract"); (case zqkK => first | exact rfl | assumption); (case zqkd => first | ktr_room | decide); (case zqku => first | ktr_units | decide); intro v9q n9q h9q tk9q F9q N9q R9q; walk_at "my back"))
  k_with "my contract" => (with_reducible apply says_cut_end) <;> walk_at "my side"
  k_with "my contract" => (with_reducible apply says_rows) <;> walk_at "my side"
  k_with "my contract" => (with_reducible apply says_lines) <;> walk_at "my side"
  k_with "my contract" => (with_reducible apply says_ended) <;> walk_at "my side"
  k_with "my contract" => (with_reducible apply says_subject) <;> walk_at "my side"
  k_with "my contract" => (with_reducible apply says_trimmed) <;> walk_at "my side"
  k_with "my contract" => (with_reducible apply says_trailer) <;> walk_at "my side"
  k_with "my contract" => (with_reducible apply says_last) <;> walk_at "my side"
  k_with "my contract" => (with_reducible apply says_trailers) <;> walk_at "my side"
  k_with "my contract" => (with_reducible apply says_hex) <;> walk_at "my side"
  k_with "my contract" => (with_reducible apply says_oct) <;> walk_at "my side"
  k_with "my contract" => (with_reducible apply says_csubj) <;> walk_at "my side"
  k_with "my contract" => (with_reducible apply says_body) <;> walk_at "my side"
  k_with "my contract" => (with_reducible apply says_mark) <;> walk_at "my side"
  k_with "my contract" => (with_reducible apply says_bare) <;> walk_at "my side"
  k_with "my contract" => (with_reducible apply says_lhex) <;> walk_at "my side"
  k_with "my contract" => (refine' says_lend _ _ _ _ _ _ ?zqs1 ?zqs2 ?zqs3 ?zqs4; (case zqs1 => k_mem); (case zqs2 => with_reducible assumption); (case zqs3 => with_reducible assumption); (case zqs4 => first | omega | (simp only [List.length_append]; omega)))
  intro p loose mean mg mb dp un gd cn cs ad ccd cl outer A₀ base h₀ L m s Q E B F X N T hk hdp hu hret
  have hhl := By.hexB_len oid
  have hj2 : (By.joinB [32] sj).length ≤ 16777216 := by omega
  have hs7 := By.sl_len (By.joinB [32] sj) (some 7) none
  refine wpAny_call ?_
  k_dflt cell_enter
  k_steps
  refine Held.on ?_
  refine' jvb_join (By.lisRev (By.joinB [32] sj)) (by k_asm) (by k_asm) ?turn ?fin
  case turn =>
    with_reducible refine BoolOp_and ?_
    k_steps
    all_goals refine Held.on ?_
    any_goals ((first | with_reducible refine BoolOp_one ?_ | with_reducible refine BoolOp_and ?_); k_steps; all_goals refine Held.on ?_)
    any_goals ((first | with_reducible refine BoolOp_one ?_ | with_reducible refine BoolOp_and ?_); k_steps; all_goals refine Held.on ?_)
    all_goals first
      | exact JVb.of (By.lrevq_n1 (by assumption)) (by k_asm) (by k_asm)
      | exact JVb.of (By.lrevq_n2 (by assumption)) (by k_asm) (by k_asm)
      | exact JVb.of (By.lrevq_y (by assumption) (by assumption)) (by k_asm) (by k_asm)
  case fin =>
    intro h1 tk1 F1 N1
    k_steps
    refine Held.on ?_
    refine' jv_join (By.lrevH (By.joinB [32] sj)) (by k_asm) (by k_asm) ?turn ?fin
    case turn =>
      with_reducible refine IfExp_ ?_
      k_steps
      all_goals refine Held.on ?_
      all_goals first
        | exact JV.of (By.lrevh_t (by assumption)) (by k_asm) (by k_asm)
        | exact JV.of (By.lrevh_f (by assumption)) (by k_asm) (by k_asm)
    case fin =>
      intro h2 tk2 t2 F2 N2
      k_steps
      refine Held.on ?_
      refine' jv_join (By.lmerged pr) (by k_asm) (by k_asm) ?turn ?fin
      case turn =>
        with_reducible refine IfExp_ ?_
        cases hpv with
        | none =>
          k_steps
          refine Held.on ?_
          exact JV.of rfl (by k_asm) (by k_asm)
        | @some pa tp hpa =>
          have hhl2 := By.hexB_len pa
          k_steps
          refine Held.on ?_
          exact JV.of rfl (by k_asm) (by k_asm)
      case fin =>
        intro h3 tk3 t3 F3 N3
        have hx1 := By.lrevH_len (By.joinB [32] sj)
        have hx2 := hpv.merged_len
        k_steps
        exact hret _ _ _ _ (by k_asm) (cb_drop (by k_asm) (by kcf_all)) (RB.of (By.lrevB_of pr))
end Mine
end
section
namespace Mine
local macro_rules | `(tactic| k_mem) => `(tactic| first | exact List.Mem.head _ | with_reducible_and_instances assumption | (refine' List.Mem.tail _ ?_; k_mem))
set_option maxRecDepth 100000 in
set_option maxHeartbeats 1000000 in
theorem says_lbare (w : World) (sref rl : Addr) (vs : List Value) (k : Nat) (sj rs : List (List UInt8)) (news : List (Addr × Obj)) (hkt : KTup w sref sj) (hrl : (rl, listOf vs.toArray k) ∈ news) (hbs : BsAre vs rs)
    (hz0 : 0 < sj.length) (hz1 : sj.length ≤ 100) (hz2 : rs.length ≤ 100) (hsh : Short 200 (sj ++ rs)) : Says w 324 2 [.ref sref, .ref rl] news (RB (By.lbare sj rs) news) := by
  unfold Says
  k_fill
  w_top off
  k_with_none
  k_with "getMethod bytes" => (k_here; first | refine By.get_method By.slot_find By.type_find ?_ | refine By.get_method By.slot_split By.type_split ?_ | refine By.get_method By.slot_rstrip By.type_rstrip ?_ | refine By.get_method By.slot_lstrip By.type_lstrip ?_ | refine By.get_method By.slot_join By.type_join ?_ | refine By.get_method FB.slot_bytes_startswith FB.type_bytes_startswith ?_ | refine By.get_method FB.slot_bytes_endswith FB.type_bytes_endswith ?_)
  k_with "call builtin:len" => (k_here; (with_reducible show wpAny _ _ (call (Value.builtin "len") [Value.bytes (List.toArray _) _]) _ _ _); (refine By.len_B (by first | assumption | omega) ?_); intro _ _)
  k_with "subscriptTail" => (k_here; (with_reducible show wpAny _ _ (subscriptTail _ _ (Value.bytes (List.toArray _) _) (Value.int _ _)) _ _ _); (refine By.item_B (by first | assumption | omega) (by omega) (by omega) ?_); intro _ _)
  k_with "subscriptTail" => (k_here; (with_reducible show wpAny _ _ (subscriptTail _ (Expr.Slice _ _ none _) (Value.bytes (List.toArray _) _) (Value.ref _)) _ _ _); (with_reducible rename Fr _ _ _ _ => F'q); (with_reducible rename News _ _ _ _ => N'q); (refine By.slice_B (s := ⟨_, _, _, _, _⟩) F'q N'q (by constructor) (by constructor) (by first | assumption | omega) ?_); intro _ _ _ _ _)
  k_with "compareOp In int bytes" => (k_here; (with_reducible show wpAny _ _ (compareOp CmpOp.In (Value.int _ _) (Value.bytes (List.toArray _) _)) _ _ _); refine By.in_byte ?_)
  k_with "compareOp Eq bytes bytes" => (k_here; (with_reducible show wpAny _ _ (compareOp CmpOp.Eq (Value.bytes (List.toArray _) _) (Value.bytes (List.toArray _) _)) _ _ _); refine By.eq_B ?_)
  k_with "compareOp NotEq bytes bytes" => (k_here; (with_reducible show wpAny _ _ (compareOp CmpOp.NotEq (Value.bytes (List.toArray _) _) (Value.bytes (List.toArray _) _)) _ _ _); refine By.ne_B ?_)
  k_with "binaryOp Add bytes bytes" => (k_here; (with_reducible show wpAny _ _ (binaryOp Operator.Add (Value.bytes (List.toArray _) _) (Value.bytes (List.toArray _) _)) _ _ _); (refine By.add_B (by first | assumption | omega | (simp only [List.length_append, List.length_cons, List.length_nil] at *; omega)) ?_); intro _ _)
  k_with "call builtin:bytes.startswith" => (k_here; (with_reducible show wpAny _ _ (call (Value.builtin _) [Value.bytes (List.toArray _) _, Value.bytes (List.toArray _) _]) _ _ _); refine By.call_startswith ?_)
  k_with "call builtin:bytes.endswith" => (k_here; (with_reducible show wpAny _ _ (call (Value.builtin _) [Value.bytes (List.toArray _) _, Value.bytes (List.toArray _) _]) _ _ _); refine By.call_endswith ?_)
  k_with "call builtin:bytes.rstrip" => (k_here; (with_reducible show wpAny _ _ (call (Value.builtin _) [Value.bytes (List.toArray _) _, Value.bytes (List.toArray _) _]) _ _ _); (refine By.call_rstrip (by first | assumption | omega) ?_); intro _ _)
  k_with "call builtin:bytes.lstrip" => (k_here; (with_reducible show wpAny _ _ (call (Value.builtin _) [Value.bytes (List.toArray _) _, Value.bytes (List.toArray _) _]) _ _ _); (refine By.call_lstrip (by first | assumption | omega) ?_); intro _ _)
  k_with "call builtin:bytes.find" => (k_here; first | (refine By.call_find0 ?_; intro _ _) | (refine By.call_findI (by omega) (by omega) ?_; intro _ _))
  k_with "call builtin:bytes.split" => (k_here; k_dflt (refine' By.call_split ?zqk1 ?zqk2 ?zqk3 ?_; (case zqk1 => k_asm); (case zqk2 => k_asm); (case zqk3 => omega); k_whole); intro l'q vs'q h'q k'q hB'q hS'q hZ'q F'q N'q o1q; (try simp only [LCg.Off1, and_true] at o1q); (try k_sweep))
  k_with "call builtin:list.append" => (k_here; (with_reducible show wpAny _ _ (call (Value.builtin _) [Value.ref _, _]) _ _ _); k_dflt (refine' append_K ?zqk1 ?zqk2 ?zqk3 ?_ ?zqz; (case zqk1 => k_asm); (case zqk2 => k_asm); (case zqk3 => k_upd); (case zqz => (rw [PySem.sizeLine_eq]; simp only [List.size_toArray]; omega)); k_whole); intro h'q F'q N'q; (try k_sweep))
  k_with "call builtin:bytes.join" => (k_here; (with_reducible show wpAny _ _ (call (Value.builtin _) [Value.bytes (List.toArray _) _, Value.ref _]) _ _ _); k_dflt (refine By.call_join (News.isList (by k_asm) (by k_mem)) (by with_reducible assumption) (by first | assumption | omega) ?_); intro _ _)
  k_with "compareOp NotEq ref ref" => (k_here; (with_reducible show wpAny _ _ (compareOp CmpOp.NotEq (Value.ref _) (Value.ref _)) _ _ _); k_dflt (refine ne_nilK (by k_asm) (by k_mem) (by k_mem) (by ktr_units) ?_))
  k_with "compareOp Eq ref ref" => (k_here; (with_reducible show wpAny _ _ (compareOp CmpOp.Eq (Value.ref _) (Value.ref _)) _ _ _); k_dflt (refine eq_nilK (by k_asm) (by k_mem) (by k_mem) (by ktr_units) ?_))
  k_with "subscriptTail" => (k_here; (with_reducible show wpAny _ _ (subscriptTail _ _ (Value.ref _) (Value.int _ _)) _ _ _); k_dflt first | ((with_reducible show wpAny _ _ (subscriptTail _ (Expr.UnaryOp _ _ _) _ _) _ _ _); refine item_lastK (by k_asm) (by k_mem) (by with_reducible assumption) (by omega) (by omega) ?_; intro _) | (refine item_K (by k_asm) (by k_mem) (by with_reducible assumption) (by omega) (by omega) (by omega) ?_; intro _))
  k_with "call builtin:list.pop" => (k_here; (with_reducible show wpAny _ _ (call (Value.builtin _) [Value.ref _]) _ _ _); k_dflt (refine' popK ?zqF ?zqN ?zqU ?zqi ?zql ?zqz ?_; (case zqF => k_asm); (case zqN => k_asm); (case zqU => k_upd); (case zqi => with_reducible assumption); (case zql => omega); (case zqz => omega)); intro h'q t'q F'q N'q; (try k_sweep))
  k_with "subscriptTail" => (k_here; (with_reducible show wpAny _ _ (subscriptTail _ (Expr.Slice _ _ none _) (Value.ref _) (Value.ref _)) _ _ _); (with_reducible rename Fr _ _ _ _ => F'q); (with_reducible rename News _ _ _ _ => N'q); k_dflt (refine slice_L (s := ⟨_, _, _, _, _⟩) F'q N'q (by k_mem) (by with_reducible assumption) (by constructor) (by constructor) (by omega) ?_); intro l'q vs'q h'q hB'q hZ'q F'q N'q o1q; (try simp only [LCg.Off1, and_true] at o1q))
  k_with "subscriptTail Name Slice ref ref" => (k_here; (with_reducible show wpAny _ _ (subscriptTail _ (Expr.Slice _ _ none _) (Value.ref _) (Value.ref _)) _ _ _); (with_reducible rename Fr _ _ _ _ => F'q); (with_reducible rename News _ _ _ _ => N'q); k_dflt (refine slice_L (s := ⟨_, _, _, _, _⟩) F'q N'q (by k_mem) (by with_reducible assumption) (by constructor) (by constructor) (by omega) ?_); intro l'q vs'q h'q hB'q hZ'q F'q N'q o1q; (try simp only [LCg.Off1, and_true] at o1q))
  k_with "subscriptTail Call Slice ref ref" => (k_here; (with_reducible show wpAny _ _ (subscriptTail _ (Expr.Slice _ _ none _) (Value.ref _) (Value.ref _)) _ _ _); (with_reducible rename Fr _ _ _ _ => F'q); (with_reducible rename News _ _ _ _ => N'q); k_dflt (refine slice_L (s := ⟨_, _, _, _, _⟩) F'q N'q (by k_mem) (by with_reducible assumption) (by constructor) (by constructor) (by omega) ?_); intro l'q vs'q h'q hB'q hZ'q F'q N'q o1q; (try simp only [LCg.Off1, and_true] at o1q))
  k_with "call builtin:len" => (k_here; (with_reducible show wpAny _ _ (call (Value.builtin "len") [Value.ref _]) _ _ _); k_dflt (refine len_LK (by k_asm) (by k_mem) (by omega) ?_); intro _ _)
  k_with "exec While Compare cons nil" => refine Held.out ?_
  k_with "exec While BoolOp" => refine Held.out ?_
  k_with "KswEnd" => refine Held.out ?_
  k_with "my rl_len" => first | ((try simp only [List.length_replicate, List.length_append, List.length_cons, List.length_nil]); omega) | ((have hel9q := By.end_len (by assumption)); (try simp only [List.length_replicate, List.length_append, List.length_cons, List.length_nil]); omega)
  k_with "call type:range" => ((rename Fr _ _ _ _ => F'q); (rename News _ _ _ _ => N'q); with_unfolding_all refine range1_rows F'q N'q ?_; intro _ _ _ _ _ hR9q F9q N9q _)
  k_with "binaryOp Mult ref int" => (k_here; (with_reducible show wpAny _ _ (binaryOp Operator.Mult (Value.ref _) (Value.int _ _)) _ _ _); k_dflt (refine' mul_L ?zqF ?zqN ?zqa ?zqh0 ?zqh1 ?_; (case zqF => k_asm); (case zqN => k_asm); (case zqa => k_mem); (case zqh0 => omega); (case zqh1 => omega)); intro D'q us'q h'q F'q N'q l1q hB'q; (try k_lt l1q); (try k_sweep))
  k_with "binaryOp Add ref ref" => (k_here; (with_reducible show wpAny _ _ (binaryOp Operator.Add (Value.ref _) (Value.ref _)) _ _ _); k_dflt (refine' add_L ?zqF ?zqN ?zqa ?zqb ?zqh1 ?zqh2 ?zqhz ?_; (case zqF => k_asm); (case zqN => k_asm); (case zqa => k_mem); (case zqb => k_mem); (case zqh1 => first | with_reducible assumption | exact .cons _ .nil); (case zqh2 => first | with_reducible assumption | exact .cons _ .nil); (case zqhz => walk_at "my rl_len")); intro D'q us'q h'q F'q N'q l1q hB'q; (try k_lt l1q); (try k_sweep))
  k_with "call builtin:list.extend" => (k_here; (with_reducible show wpAny _ _ (call (Value.builtin _) [Value.ref _, Value.ref _]) _ _ _); k_dflt (refine' ext_T ?zqF ?zqN ?zqX ?zqq ?zqh1 ?zqhne ?zqhz ?zqU ?_; (case zqF => k_asm); (case zqN => k_asm); (case zqX => k_in); (case zqq => with_reducible assumption); (case zqU => (intro ws; k_upd)); (case zqh1 => with_reducible assumption); (case zqhne => exact (By.part_len (by assumption)).1); (case zqhz => (have hpl9q := By.part_len (by assumption); walk_at "my rl_len"))); intro ws'q h'q F'q N'q hB'q; (try k_sweep))
  k_with "call builtin:list.extend" => (k_here; (with_reducible show wpAny _ _ (call (Value.builtin _) [Value.ref _, Value.ref _]) _ _ _); k_dflt (refine' ext_L ?zqF ?zqN ?zqb ?zqh1 ?zqh2 ?zqhne ?zqhz ?zqU ?_; (case zqF => k_asm); (case zqN => k_asm); (case zqb => k_mem); (case zqU => k_upd); (case zqh1 => with_reducible assumption); (case zqh2 => with_reducible assumption); (case zqhne => walk_at "my rl_len"); (case zqhz => walk_at "my rl_len")); intro h'q F'q N'q hB'q; (try k_sweep))
  k_with "call type:list" => (k_here; (with_reducible show wpAny _ _ (call (Value.type "list") [Value.ref _]) _ _ _); k_dflt (refine' list_T ?zqF ?zqN ?zqX ?zqq ?zqhz ?_; (case zqF => k_asm); (case zqN => k_asm); (case zqX => k_in); (case zqq => with_reducible assumption); (case zqhz => walk_at "my rl_len")); intro D'q us'q k'q h'q F'q N'q l1q hB'q; (try k_lt l1q); (try k_sweep))
  k_with "call builtin:len" => (k_here; (with_reducible show wpAny _ _ (call (Value.builtin "len") [Value.ref _]) _ _ _); k_dflt (refine len_T (by k_asm) (by k_in) (by with_reducible assumption) (by walk_at "my rl_len") ?_); intro _ _)
  k_with "compareOp NotEq ref ref" => (k_here; (with_reducible show wpAny _ _ (compareOp CmpOp.NotEq (Value.ref _) (Value.ref _)) _ _ _); k_dflt (refine ne_T (by k_asm) (by k_in) (by with_reducible assumption) (News.isTup (by k_asm) (by k_mem)) (by ktr_units) ?_))
  k_with "subscriptTail" => (k_here; (with_reducible show wpAny _ _ (subscriptTail _ _ (Value.ref _) (Value.int 0 _)) _ _ _); k_dflt (refine first_T' (by k_asm) (by k_in) (by with_reducible assumption) (by with_reducible assumption) (by with_reducible assumption) ?_); intro _)
  k_with "compareOp Eq bytes bytes" => (k_here; (with_reducible show wpAny _ _ (compareOp CmpOp.Eq (Value.bytes (List.toArray _) _) (Value.bytes (List.toArray _) _)) _ _ _); refine eq_hid (by with_reducible assumption) ?_)
  k_with "subscriptTail" => (k_here; (with_reducible show wpAny _ _ (subscriptTail _ (Expr.Slice _ _ none _) (Value.bytes (List.toArray _) _) (Value.ref _)) _ _ _); (with_reducible rename Fr _ _ _ _ => F'q); (with_reducible rename News _ _ _ _ => N'q); (refine By.slice_B (s := ⟨_, _, _, _, _⟩) F'q N'q (by constructor) (by constructor) (by first | assumption | omega) ?_); intro _ _ _ _ _; (try dsimp only))
  k_with "my subs" => first | exact fun p hp => hp | (refine sub_tail ?_; walk_at "my subs")
  k_with "my df" => ((try dsimp only); (try k_fold))
  k_with "my back" => first | ((with_reducible rename RB _ _ _ _ => R9q); obtain ⟨⟨t9q, e9q⟩, e9'q⟩ := R9q; subst e9q e9'q; walk_at "my df") | ((with_reducible rename RL _ _ _ _ => R9q); obtain ⟨l9q, vs9q, k9q, e9q, hB9q, e9'q, hl9q⟩ := R9q; subst e9q e9'q; have hZ9q := hB9q.length; (try simp only [LCg.Off1, and_true] at hl9q); walk_at "my df") | ((with_reducible rename RSubj _ _ _ _ => R9q); obtain ⟨q9q, t9q, t9'q, e9q, e9'q, hl9q⟩ := R9q; subst e9q e9'q; (try simp only [LCg.Off1, and_true] at hl9q); walk_at "my df") | ((with_reducible rename RSome _ _ _ _ => R9q); obtain ⟨⟨x9q, t9q, e9q, hx9q⟩, e9'q⟩ := R9q; subst e9q e9'q; walk_at "my df") | ((with_reducible rename RTrail _ _ _ _ => R9q); rcases R9q with ⟨hT9q, e9q, e9'q⟩ | ⟨key9q, q9q, t9q, t9'q, x9q, hT9q, e9q, e9'q, hl9q⟩ <;> (subst e9q e9'q; (try simp only [LCg.Off1, and_true] at hl9q); walk_at "my df")) | ((with_reducible rename RLen _ _ _ _ => R9q); obtain ⟨l9q, xs9q, k9q, e9q, hx9q, e9'q, hl9q⟩ := R9q; subst e9q e9'q; (try simp only [LCg.Off1, and_true] at hl9q); walk_at "my df") | ((with_reducible rename RStr _ _ _ _ => R9q); obtain ⟨⟨t9q, e9q⟩, e9'q⟩ := R9q; subst e9q e9'q; walk_at "my df") | ((with_reducible rename RMark _ _ _ _ => R9q); rcases R9q with ⟨hM9q, e9q, e9'q⟩ | ⟨hM9q, q9q, o9q, e9q, e9'q, hl9q⟩ <;> (subst e9q e9'q; (try simp only [LCg.Off1, and_true] at hl9q); walk_at "my df")) | ((with_reducible rename RStp _ _ _ _ _ => R9q); obtain ⟨c9q, dx9q, o9q, p9q, e9q, e9'q, hst9q⟩ := R9q; subst e9q e9'q; walk_at "my df") | ((with_reducible rename RCom _ _ _ _ => R9q); obtain ⟨c9q, dx9q, o9q, p9q, e9q, e9'q, hC9q, hl9q, hcd9q⟩ := R9q; subst e9q e9'q; walk_at "my df")
  k_with "my side" => first | with_reducible assumption | omega | exact Nat.le_trans (By.sl_len _ _ _) (by omega) | exact IsCom.sub (by with_reducible assumption) (by walk_at "my subs") | exact fun k hk => Nat.lt_trans (By.hexCodes_lt k hk) (by decide) | exact Nat.le_trans (By.subjB_len _) (by omega)
  k_with "call ref" => (k_here; k_dflt (refine' says_use ?zqc ?zqk1 ?zqk2 ?zqk3 ?zqk4 ?zqk5 ?zqkK ?zqkd ?zqku ?_; (case zqk1 => k_asm); (case zqk2 => k_asm); (case zqk3 => k_asm); (case zqk4 => k_asm); (case zqk5 => k_asm); (case zqc => walk_at "my contract"); (case zqkK => first | exact rfl | assumption); (case zqkd => first | ktr_room | decide); (case zqku => first | ktr_units | decide); intro v9q n9q h9q tk9q F9q N9q R9q; walk_at "my back"))
  k_with "my contract" => (with_reducible apply says_cut_end) <;> walk_at "my side"
  k_with "my contract" => (with_reducible apply says_rows) <;> walk_at "my side"
  k_with "my contract" => (with_reducible apply says_lines) <;> walk_at "my side"
  k_with "my contract" => (with_reducible apply says_ended) <;> walk_at "my side"
  k_with "my contract" => (with_reducible apply says_subject) <;> walk_at "my side"
  k_with "my contract" => (with_reducible apply says_trimmed) <;> walk_at "my side"
  k_with "my contract" => (with_reducible apply says_trailer) <;> walk_at "my side"
  k_with "my contract" => (with_reducible apply says_last) <;> walk_at "my side"
  k_with "my contract" => (with_reducible apply says_trailers) <;> walk_at "my side"
  k_with "my contract" => (with_reducible apply says_hex) <;> walk_at "my side"
  k_with "my contract" => (with_reducible apply says_oct) <;> walk_at "my side"
  k_with "my contract" => (with_reducible apply says_csubj) <;> walk_at "my side"
  k_with "my contract" => (with_reducible apply says_body) <;> walk_at "my side"
  k_with "my contract" => (with_reducible apply says_mark) <;> walk_at "my side"
  k_with "my contract" => (with_reducible apply says_bare) <;> walk_at "my side"
  k_with "my contract" => (with_reducible apply says_lhex) <;> walk_at "my side"
  k_with "my contract" => (refine' says_lend _ _ _ _ _ _ ?zqs1 ?zqs2 ?zqs3 ?zqs4; (case zqs1 => k_mem); (case zqs2 => with_reducible assumption); (case zqs3 => with_reducible assumption); (case zqs4 => first | omega | (simp only [List.length_append]; omega)))
  intro p loose mean mg mb dp un gd cn cs ad ccd cl outer A₀ base h₀ L m s Q E B F X N T hk hdp hu hret
  have hsh2 : Short 200 rs := fun c hc => hsh c (List.mem_append_right _ hc)
  have hfl : (sj.getD 0 []).length ≤ 200 := by
    cases sj with
    | nil => exact Nat.zero_le _
    | cons r t => exact hsh r (.head _)
  obtain ⟨x0, hx0⟩ : ∃ x0, sj.getD 0 [] = x0 := ⟨_, rfl⟩
  rw [hx0] at hfl
  refine wpAny_call ?_
  k_dflt cell_enter
  cases hd1 : (By.sl x0 none (some 7) == [102, 105, 120, 117, 112, 33, 32]) with
  | true =>
    have hc1 := Hid.mk hd1
    clear hd1
    k_steps
    have hE := By.lbare1 (sj := sj) (rs := rs) (by rw [hx0]; exact hc1.eq)
    exact hret _ _ _ _ (by k_asm) (cb_drop (by k_asm) (by walk_at "my k_led")) (RB.of hE)
  | false =>
    have hc1 := Hid.mk hd1
    clear hd1
    cases hd2 : (By.sl x0 none (some 8) == [115, 113, 117, 97, 115, 104, 33, 32]) with
    | true =>
      have hc2 := Hid.mk hd2
      clear hd2
      k_steps
      have hE := By.lbare2 (sj := sj) (rs := rs) (by rw [hx0]; exact hc2.eq)
      exact hret _ _ _ _ (by k_asm) (cb_drop (by k_asm) (by walk_at "my k_led")) (RB.of hE)
    | false =>
      have hc2 := Hid.mk hd2
      clear hd2
      cases hd3 : (By.sl x0 none (some 7) == [97, 109, 101, 110, 100, 33, 32]) with
      | true =>
        have hc3 := Hid.mk hd3
        clear hd3
        k_steps
        have hE := By.lbare3 (sj := sj) (rs := rs) (by rw [hx0]; exact hc3.eq)
        exact hret _ _ _ _ (by k_asm) (cb_drop (by k_asm) (by walk_at "my k_led")) (RB.of hE)
      | false =>
        have hc3 := Hid.mk hd3
        clear hd3
        k_steps
        have hE := By.lbare0 (sj := sj) (rs := rs) (by rw [hx0]; exact hc1.eq) (by rw [hx0]; exact hc2.eq) (by rw [hx0]; exact hc3.eq)
        exact hret _ _ _ _ (by k_asm) (cb_drop (by k_asm) (by walk_at "my k_led")) (RB.of hE)
end Mine
end
section
namespace Mine
set_option maxRecDepth 100000 in
set_option maxHeartbeats 1000000 in
theorem says_ljoinF (w : World) (sign elder mine whole : List UInt8) (t1 t2 t3 t4 t5 : Tok) (news : List (Addr × Obj)) (he : elder.length ≤ 100000) (hm : mine.length ≤ 100000) : Says w 331 1 [.str (Str.ofString "fixup") t1, .bytes sign.toArray t2, .bytes elder.toArray t3, .bytes mine.toArray t4, .bytes whole.toArray t5] news (RB (By.ljoinF sign mine whole) news) := by
  unfold Says
  k_fill
  w_top off
  k_with_none
  k_with "getMethod bytes" => (k_here; first | refine By.get_method By.slot_find By.type_find ?_ | refine By.get_method By.slot_split By.type_split ?_ | refine By.get_method By.slot_rstrip By.type_rstrip ?_ | refine By.get_method By.slot_lstrip By.type_lstrip ?_ | refine By.get_method By.slot_join By.type_join ?_ | refine By.get_method FB.slot_bytes_startswith FB.type_bytes_startswith ?_ | refine By.get_method FB.slot_bytes_endswith FB.type_bytes_endswith ?_)
  k_with "call builtin:len" => (k_here; (with_reducible show wpAny _ _ (call (Value.builtin "len") [Value.bytes (List.toArray _) _]) _ _ _); (refine By.len_B (by first | assumption | omega) ?_); intro _ _)
  k_with "subscriptTail" => (k_here; (with_reducible show wpAny _ _ (subscriptTail _ _ (Value.bytes (List.toArray _) _) (Value.int _ _)) _ _ _); (refine By.item_B (by first | assumption | omega) (by omega) (by omega) ?_); intro _ _)
  k_with "subscriptTail" => (k_here; (with_reducible show wpAny _ _ (subscriptTail _ (Expr.Slice _ _ none _) (Value.bytes (List.toArray _) _) (Value.ref _)) _ _ _); (with_reducible rename Fr _ _ _ _ => F'q); (with_reducible rename News _ _ _ _ => N'q); (refine By.slice_B (s := ⟨_, _, _, _, _⟩) F'q N'q (by constructor) (by constructor) (by first | assumption | omega) ?_); intro _ _ _ _ _)
  k_with "compareOp In int bytes" => (k_here; (with_reducible show wpAny _ _ (compareOp CmpOp.In (Value.int _ _) (Value.bytes (List.toArray _) _)) _ _ _); refine By.in_byte ?_)
  k_with "compareOp Eq bytes bytes" => (k_here; (with_reducible show wpAny _ _ (compareOp CmpOp.Eq (Value.bytes (List.toArray _) _) (Value.bytes (List.toArray _) _)) _ _ _); refine By.eq_B ?_)
  k_with "compareOp NotEq bytes bytes" => (k_here; (with_reducible show wpAny _ _ (compareOp CmpOp.NotEq (Value.bytes (List.toArray _) _) (Value.bytes (List.toArray _) _)) _ _ _); refine By.ne_B ?_)
  k_with "binaryOp Add bytes bytes" => (k_here; (with_reducible show wpAny _ _ (binaryOp Operator.Add (Value.bytes (List.toArray _) _) (Value.bytes (List.toArray _) _)) _ _ _); (refine By.add_B (by first | assumption | omega | (simp only [List.length_append, List.length_cons, List.length_nil] at *; omega)) ?_); intro _ _)
  k_with "call builtin:bytes.startswith" => (k_here; (with_reducible show wpAny _ _ (call (Value.builtin _) [Value.bytes (List.toArray _) _, Value.bytes (List.toArray _) _]) _ _ _); refine By.call_startswith ?_)
  k_with "call builtin:bytes.endswith" => (k_here; (with_reducible show wpAny _ _ (call (Value.builtin _) [Value.bytes (List.toArray _) _, Value.bytes (List.toArray _) _]) _ _ _); refine By.call_endswith ?_)
  k_with "call builtin:bytes.rstrip" => (k_here; (with_reducible show wpAny _ _ (call (Value.builtin _) [Value.bytes (List.toArray _) _, Value.bytes (List.toArray _) _]) _ _ _); (refine By.call_rstrip (by first | assumption | omega) ?_); intro _ _)
  k_with "call builtin:bytes.lstrip" => (k_here; (with_reducible show wpAny _ _ (call (Value.builtin _) [Value.bytes (List.toArray _) _, Value.bytes (List.toArray _) _]) _ _ _); (refine By.call_lstrip (by first | assumption | omega) ?_); intro _ _)
  k_with "call builtin:bytes.find" => (k_here; first | (refine By.call_find0 ?_; intro _ _) | (refine By.call_findI (by omega) (by omega) ?_; intro _ _))
  k_with "call builtin:bytes.split" => (k_here; k_dflt (refine' By.call_split ?zqk1 ?zqk2 ?zqk3 ?_; (case zqk1 => k_asm); (case zqk2 => k_asm); (case zqk3 => omega); k_whole); intro l'q vs'q h'q k'q hB'q hS'q hZ'q F'q N'q o1q; (try simp only [LCg.Off1, and_true] at o1q); (try k_sweep))
  k_with "call builtin:list.append" => (k_here; (with_reducible show wpAny _ _ (call (Value.builtin _) [Value.ref _, _]) _ _ _); k_dflt (refine' append_K ?zqk1 ?zqk2 ?zqk3 ?_ ?zqz; (case zqk1 => k_asm); (case zqk2 => k_asm); (case zqk3 => k_upd); (case zqz => (rw [PySem.sizeLine_eq]; simp only [List.size_toArray]; omega)); k_whole); intro h'q F'q N'q; (try k_sweep))
  k_with "call builtin:bytes.join" => (k_here; (with_reducible show wpAny _ _ (call (Value.builtin _) [Value.bytes (List.toArray _) _, Value.ref _]) _ _ _); k_dflt (refine By.call_join (News.isList (by k_asm) (by k_mem)) (by with_reducible assumption) (by first | assumption | omega) ?_); intro _ _)
  k_with "my by_len" => first | omega | (simp only [List.length_append, List.length_cons, List.length_nil, List.length_map, By.hexCodes_len, sl_from_len]; omega)
  k_with "binaryOp Add bytes bytes" => (k_here; (with_reducible show wpAny _ _ (binaryOp Operator.Add (Value.bytes (List.toArray _) _) (Value.bytes (List.toArray _) _)) _ _ _); (refine By.add_B (by walk_at "my by_len") ?_); intro _ _)
  k_with "my subs" => first | exact fun p hp => hp | (refine sub_tail ?_; walk_at "my subs")
  k_with "my df" => ((try dsimp only); (try k_fold))
  k_with "my back" => first | ((with_reducible rename RB _ _ _ _ => R9q); obtain ⟨⟨t9q, e9q⟩, e9'q⟩ := R9q; subst e9q e9'q; walk_at "my df") | ((with_reducible rename RL _ _ _ _ => R9q); obtain ⟨l9q, vs9q, k9q, e9q, hB9q, e9'q, hl9q⟩ := R9q; subst e9q e9'q; have hZ9q := hB9q.length; (try simp only [LCg.Off1, and_true] at hl9q); walk_at "my df") | ((with_reducible rename RSubj _ _ _ _ => R9q); obtain ⟨q9q, t9q, t9'q, e9q, e9'q, hl9q⟩ := R9q; subst e9q e9'q; (try simp only [LCg.Off1, and_true] at hl9q); walk_at "my df") | ((with_reducible rename RSome _ _ _ _ => R9q); obtain ⟨⟨x9q, t9q, e9q, hx9q⟩, e9'q⟩ := R9q; subst e9q e9'q; walk_at "my df") | ((with_reducible rename RTrail _ _ _ _ => R9q); rcases R9q with ⟨hT9q, e9q, e9'q⟩ | ⟨key9q, q9q, t9q, t9'q, x9q, hT9q, e9q, e9'q, hl9q⟩ <;> (subst e9q e9'q; (try simp only [LCg.Off1, and_true] at hl9q); walk_at "my df")) | ((with_reducible rename RLen _ _ _ _ => R9q); obtain ⟨l9q, xs9q, k9q, e9q, hx9q, e9'q, hl9q⟩ := R9q; subst e9q e9'q; (try simp only [LCg.Off1, and_true] at hl9q); walk_at "my df") | ((with_reducible rename RStr _ _ _ _ => R9q); obtain ⟨⟨t9q, e9q⟩, e9'q⟩ := R9q; subst e9q e9'q; walk_at "my df") | ((with_reducible rename RMark _ _ _ _ => R9q); rcases R9q with ⟨hM9q, e9q, e9'q⟩ | ⟨hM9q, q9q, o9q, e9q, e9'q, hl9q⟩ <;> (subst e9q e9'q; (try simp only [LCg.Off1, and_true] at hl9q); walk_at "my df")) | ((with_reducible rename RStp _ _ _ _ _ => R9q); obtain ⟨c9q, dx9q, o9q, p9q, e9q, e9'q, hst9q⟩ := R9q; subst e9q e9'q; walk_at "my df") | ((with_reducible rename RCom _ _ _ _ => R9q); obtain ⟨c9q, dx9q, o9q, p9q, e9q, e9'q, hC9q, hl9q, hcd9q⟩ := R9q; subst e9q e9'q; walk_at "my df")
  k_with "my side" => first | with_reducible assumption | omega | exact Nat.le_trans (By.sl_len _ _ _) (by omega) | exact IsCom.sub (by with_reducible assumption) (by walk_at "my subs") | exact fun k hk => Nat.lt_trans (By.hexCodes_lt k hk) (by decide) | exact Nat.le_trans (By.subjB_len _) (by omega)
  k_with "call ref" => (k_here; k_dflt (refine' says_use ?zqc ?zqk1 ?zqk2 ?zqk3 ?zqk4 ?zqk5 ?zqkK ?zqkd ?zqku ?_; (case zqk1 => k_asm); (case zqk2 => k_asm); (case zqk3 => k_asm); (case zqk4 => k_asm); (case zqk5 => k_asm); (case zqc => walk_at "my contract"); (case zqkK => first | exact rfl | assumption); (case zqkd => first | ktr_room | decide); (case zqku => first | ktr_units | decide); intro v9q n9q h9q tk9q F9q N9q R9q; walk_at "my back"))
  k_with "my contract" => (with_reducible apply says_cut_end) <;> walk_at "my side"
  k_with "my contract" => (with_reducible apply says_rows) <;> walk_at "my side"
  k_with "my contract" => (with_reducible apply says_lines) <;> walk_at "my side"
  k_with "my contract" => (with_reducible apply says_ended) <;> walk_at "my side"
  k_with "my contract" => (with_reducible apply says_subject) <;> walk_at "my side"
  k_with "my contract" => (with_reducible apply says_trimmed) <;> walk_at "my side"
  k_with "my contract" => (with_reducible apply says_trailer) <;> walk_at "my side"
  k_with "my contract" => (with_reducible apply says_last) <;> walk_at "my side"
  k_with "my contract" => (with_reducible apply says_trailers) <;> walk_at "my side"
  k_with "my contract" => (with_reducible apply says_hex) <;> walk_at "my side"
  k_with "my contract" => (with_reducible apply says_oct) <;> walk_at "my side"
  k_with "my contract" => (with_reducible apply says_csubj) <;> walk_at "my side"
  k_with "my contract" => (with_reducible apply says_body) <;> walk_at "my side"
  k_with "my contract" => (with_reducible apply says_mark) <;> walk_at "my side"
  k_with "my contract" => (with_reducible apply says_bare) <;> walk_at "my side"
  k_with "my contract" => (with_reducible apply says_lhex) <;> walk_at "my side"
  k_with "my contract" => (refine' says_lend _ _ _ _ _ _ ?zqs1 ?zqs2 ?zqs3 ?zqs4; (case zqs1 => k_mem); (case zqs2 => with_reducible assumption); (case zqs3 => with_reducible assumption); (case zqs4 => first | omega | (simp only [List.length_append]; omega)))
  intro p loose mean mg mb dp un gd cn cs ad ccd cl outer A₀ base h₀ L m s Q E B F X N T hk hdp hu hret
  refine wpAny_call ?_
  k_dflt cell_enter
  k_steps
  all_goals first
    | (have hE := By.ljoinF1 (sign := sign) (mine := mine) (whole := whole) (by assumption); exact hret _ _ _ _ (by k_asm) (cb_drop (by k_asm) (by kcf_all)) (RB.of hE))
    | (have hE := By.ljoinF2 (sign := sign) (mine := mine) (whole := whole) (by assumption); exact hret _ _ _ _ (by k_asm) (cb_drop (by k_asm) (by kcf_all)) (RB.of hE))
set_option maxRecDepth 100000 in
set_option maxHeartbeats 1000000 in
theorem says_ljoinS (w : World) (sign elder mine whole : List UInt8) (t1 t2 t3 t4 t5 : Tok) (news : List (Addr × Obj)) (he : elder.length ≤ 100000) (hm : mine.length ≤ 100000) : Says w 331 1 [.str (Str.ofString "squash") t1, .bytes sign.toArray t2, .bytes elder.toArray t3, .bytes mine.toArray t4, .bytes whole.toArray t5] news (RB (By.ljoinS elder mine) news) := by
  unfold Says
  k_fill
  w_top off
  k_with_none
  k_with "getMethod bytes" => (k_here; first | refine By.get_method By.slot_find By.type_find ?_ | refine By.get_method By.slot_split By.type_split ?_ | refine By.get_method By.slot_rstrip By.type_rstrip ?_ | refine By.get_method By.slot_lstrip By.type_lstrip ?_ | refine By.get_method By.slot_join By.type_join ?_ | refine By.get_method FB.slot_bytes_startswith FB.type_bytes_startswith ?_ | refine By.get_method FB.slot_bytes_endswith FB.type_bytes_endswith ?_)
  k_with "call builtin:len" => (k_here; (with_reducible show wpAny _ _ (call (Value.builtin "len") [Value.bytes (List.toArray _) _]) _ _ _); (refine By.len_B (by first | assumption | omega) ?_); intro _ _)
  k_with "subscriptTail" => (k_here; (with_reducible show wpAny _ _ (subscriptTail _ _ (Value.bytes (List.toArray _) _) (Value.int _ _)) _ _ _); (refine By.item_B (by first | assumption | omega) (by omega) (by omega) ?_); intro _ _)
  k_with "subscriptTail" => (k_here; (with_reducible show wpAny _ _ (subscriptTail _ (Expr.Slice _ _ none _) (Value.bytes (List.toArray _) _) (Value.ref _)) _ _ _); (with_reducible rename Fr _ _ _ _ => F'q); (with_reducible rename News _ _ _ _ => N'q); (refine By.slice_B (s := ⟨_, _, _, _, _⟩) F'q N'q (by constructor) (by constructor) (by first | assumption | omega) ?_); intro _ _ _ _ _)
  k_with "compareOp In int bytes" => (k_here; (with_reducible show wpAny _ _ (compareOp CmpOp.In (Value.int _ _) (Value.bytes (List.toArray _) _)) _ _ _); refine By.in_byte ?_)
  k_with "compareOp Eq bytes bytes" => (k_here; (with_reducible show wpAny _ _ (compareOp CmpOp.Eq (Value.bytes (List.toArray _) _) (Value.bytes (List.toArray _) _)) _ _ _); refine By.eq_B ?_)
  k_with "compareOp NotEq bytes bytes" => (k_here; (with_reducible show wpAny _ _ (compareOp CmpOp.NotEq (Value.bytes (List.toArray _) _) (Value.bytes (List.toArray _) _)) _ _ _); refine By.ne_B ?_)
  k_with "binaryOp Add bytes bytes" => (k_here; (with_reducible show wpAny _ _ (binaryOp Operator.Add (Value.bytes (List.toArray _) _) (Value.bytes (List.toArray _) _)) _ _ _); (refine By.add_B (by first | assumption | omega | (simp only [List.length_append, List.length_cons, List.length_nil] at *; omega)) ?_); intro _ _)
  k_with "call builtin:bytes.startswith" => (k_here; (with_reducible show wpAny _ _ (call (Value.builtin _) [Value.bytes (List.toArray _) _, Value.bytes (List.toArray _) _]) _ _ _); refine By.call_startswith ?_)
  k_with "call builtin:bytes.endswith" => (k_here; (with_reducible show wpAny _ _ (call (Value.builtin _) [Value.bytes (List.toArray _) _, Value.bytes (List.toArray _) _]) _ _ _); refine By.call_endswith ?_)
  k_with "call builtin:bytes.rstrip" => (k_here; (with_reducible show wpAny _ _ (call (Value.builtin _) [Value.bytes (List.toArray _) _, Value.bytes (List.toArray _) _]) _ _ _); (refine By.call_rstrip (by first | assumption | omega) ?_); intro _ _)
  k_with "call builtin:bytes.lstrip" => (k_here; (with_reducible show wpAny _ _ (call (Value.builtin _) [Value.bytes (List.toArray _) _, Value.bytes (List.toArray _) _]) _ _ _); (refine By.call_lstrip (by first | assumption | omega) ?_); intro _ _)
  k_with "call builtin:bytes.find" => (k_here; first | (refine By.call_find0 ?_; intro _ _) | (refine By.call_findI (by omega) (by omega) ?_; intro _ _))
  k_with "call builtin:bytes.split" => (k_here; k_dflt (refine' By.call_split ?zqk1 ?zqk2 ?zqk3 ?_; (case zqk1 => k_asm); (case zqk2 => k_asm); (case zqk3 => omega); k_whole); intro l'q vs'q h'q k'q hB'q hS'q hZ'q F'q N'q o1q; (try simp only [LCg.Off1, and_true] at o1q); (try k_sweep))
  k_with "call builtin:list.append" => (k_here; (with_reducible show wpAny _ _ (call (Value.builtin _) [Value.ref _, _]) _ _ _); k_dflt (refine' append_K ?zqk1 ?zqk2 ?zqk3 ?_ ?zqz; (case zqk1 => k_asm); (case zqk2 => k_asm); (case zqk3 => k_upd); (case zqz => (rw [PySem.sizeLine_eq]; simp only [List.size_toArray]; omega)); k_whole); intro h'q F'q N'q; (try k_sweep))
  k_with "call builtin:bytes.join" => (k_here; (with_reducible show wpAny _ _ (call (Value.builtin _) [Value.bytes (List.toArray _) _, Value.ref _]) _ _ _); k_dflt (refine By.call_join (News.isList (by k_asm) (by k_mem)) (by with_reducible assumption) (by first | assumption | omega) ?_); intro _ _)
  k_with "my by_len" => first | omega | (simp only [List.length_append, List.length_cons, List.length_nil, List.length_map, By.hexCodes_len, sl_from_len]; omega)
  k_with "binaryOp Add bytes bytes" => (k_here; (with_reducible show wpAny _ _ (binaryOp Operator.Add (Value.bytes (List.toArray _) _) (Value.bytes (List.toArray _) _)) _ _ _); (refine By.add_B (by walk_at "my by_len") ?_); intro _ _)
  k_with "my subs" => first | exact fun p hp => hp | (refine sub_tail ?_; walk_at "my subs")
  k_with "my df" => ((try dsimp only); (try k_fold))
  k_with "my back" => first | ((with_reducible rename RB _ _ _ _ => R9q); obtain ⟨⟨t9q, e9q⟩, e9'q⟩ := R9q; subst e9q e9'q; walk_at "my df") | ((with_reducible rename RL _ _ _ _ => R9q); obtain ⟨l9q, vs9q, k9q, e9q, hB9q, e9'q, hl9q⟩ := R9q; subst e9q e9'q; have hZ9q := hB9q.length; (try simp only [LCg.Off1, and_true] at hl9q); walk_at "my df") | ((with_reducible rename RSubj _ _ _ _ => R9q); obtain ⟨q9q, t9q, t9'q, e9q, e9'q, hl9q⟩ := R9q; subst e9q e9'q; (try simp only [LCg.Off1, and_true] at hl9q); walk_at "my df") | ((with_reducible rename RSome _ _ _ _ => R9q); obtain ⟨⟨x9q, t9q, e9q, hx9q⟩, e9'q⟩ := R9q; subst e9q e9'q; walk_at "my df") | ((with_reducible rename RTrail _ _ _ _ => R9q); rcases R9q with ⟨hT9q, e9q, e9'q⟩ | ⟨key9q, q9q, t9q, t9'q, x9q, hT9q, e9q, e9'q, hl9q⟩ <;> (subst e9q e9'q; (try simp only [LCg.Off1, and_true] at hl9q); walk_at "my df")) | ((with_reducible rename RLen _ _ _ _ => R9q); obtain ⟨l9q, xs9q, k9q, e9q, hx9q, e9'q, hl9q⟩ := R9q; subst e9q e9'q; (try simp only [LCg.Off1, and_true] at hl9q); walk_at "my df") | ((with_reducible rename RStr _ _ _ _ => R9q); obtain ⟨⟨t9q, e9q⟩, e9'q⟩ := R9q; subst e9q e9'q; walk_at "my df") | ((with_reducible rename RMark _ _ _ _ => R9q); rcases R9q with ⟨hM9q, e9q, e9'q⟩ | ⟨hM9q, q9q, o9q, e9q, e9'q, hl9q⟩ <;> (subst e9q e9'q; (try simp only [LCg.Off1, and_true] at hl9q); walk_at "my df")) | ((with_reducible rename RStp _ _ _ _ _ => R9q); obtain ⟨c9q, dx9q, o9q, p9q, e9q, e9'q, hst9q⟩ := R9q; subst e9q e9'q; walk_at "my df") | ((with_reducible rename RCom _ _ _ _ => R9q); obtain ⟨c9q, dx9q, o9q, p9q, e9q, e9'q, hC9q, hl9q, hcd9q⟩ := R9q; subst e9q e9'q; walk_at "my df")
  k_with "my side" => first | with_reducible assumption | omega | exact Nat.le_trans (By.sl_len _ _ _) (by omega) | exact IsCom.sub (by with_reducible assumption) (by walk_at "my subs") | exact fun k hk => Nat.lt_trans (By.hexCodes_lt k hk) (by decide) | exact Nat.le_trans (By.subjB_len _) (by omega)
  k_with "call ref" => (k_here; k_dflt (refine' says_use ?zqc ?zqk1 ?zqk2 ?zqk3 ?zqk4 ?zqk5 ?zqkK ?zqkd ?zqku ?_; (case zqk1 => k_asm); (case zqk2 => k_asm); (case zqk3 => k_asm); (case zqk4 => k_asm); (case zqk5 => k_asm); (case zqc => walk_at "my contract"); (case zqkK => first | exact rfl | assumption); (case zqkd => first | ktr_room | decide); (case zqku => first | ktr_units | decide); intro v9q n9q h9q tk9q F9q N9q R9q; walk_at "my back"))
  k_with "my contract" => (with_reducible apply says_cut_end) <;> walk_at "my side"
  k_with "my contract" => (with_reducible apply says_rows) <;> walk_at "my side"
  k_with "my contract" => (with_reducible apply says_lines) <;> walk_at "my side"
  k_with "my contract" => (with_reducible apply says_ended) <;> walk_at "my side"
  k_with "my contract" => (with_reducible apply says_subject) <;> walk_at "my side"
  k_with "my contract" => (with_reducible apply says_trimmed) <;> walk_at "my side"
  k_with "my contract" => (with_reducible apply says_trailer) <;> walk_at "my side"
  k_with "my contract" => (with_reducible apply says_last) <;> walk_at "my side"
  k_with "my contract" => (with_reducible apply says_trailers) <;> walk_at "my side"
  k_with "my contract" => (with_reducible apply says_hex) <;> walk_at "my side"
  k_with "my contract" => (with_reducible apply says_oct) <;> walk_at "my side"
  k_with "my contract" => (with_reducible apply says_csubj) <;> walk_at "my side"
  k_with "my contract" => (with_reducible apply says_body) <;> walk_at "my side"
  k_with "my contract" => (with_reducible apply says_mark) <;> walk_at "my side"
  k_with "my contract" => (with_reducible apply says_bare) <;> walk_at "my side"
  k_with "my contract" => (with_reducible apply says_lhex) <;> walk_at "my side"
  k_with "my contract" => (refine' says_lend _ _ _ _ _ _ ?zqs1 ?zqs2 ?zqs3 ?zqs4; (case zqs1 => k_mem); (case zqs2 => with_reducible assumption); (case zqs3 => with_reducible assumption); (case zqs4 => first | omega | (simp only [List.length_append]; omega)))
  intro p loose mean mg mb dp un gd cn cs ad ccd cl outer A₀ base h₀ L m s Q E B F X N T hk hdp hu hret
  refine wpAny_call ?_
  k_dflt cell_enter
  k_steps
  all_goals first
    | (have hE := By.ljoinS1 (elder := elder) (mine := mine) (by assumption); exact hret _ _ _ _ (by k_asm) (cb_drop (by k_asm) (by kcf_all)) (RB.of hE))
    | (have hE := By.ljoinS2 (elder := elder) (mine := mine) (by assumption); exact hret _ _ _ _ (by k_asm) (cb_drop (by k_asm) (by kcf_all)) (RB.of hE))
    | (have hE := By.ljoinS3 (elder := elder) (mine := mine) (by assumption) (by assumption); exact hret _ _ _ _ (by k_asm) (cb_drop (by k_asm) (by kcf_all)) (RB.of hE))
end Mine
end
section
namespace Mine
local macro_rules | `(tactic| k_mem) => `(tactic| first | exact List.Mem.head _ | with_reducible_and_instances assumption | (refine' List.Mem.tail _ ?_; k_mem))
def RCom (a : List UInt8) (news : List (Addr × Obj)) (v : Value) (news' : List (Addr × Obj)) : Prop :=
  ∃ c dx o p, v = .ref c ∧ news' = (c, o) :: (dx, p) :: news ∧ ComObj a dx o p ∧ (∀ q ∈ news, q.1 < dx) ∧ @LT.lt Nat _ dx c
set_option maxRecDepth 100000 in
set_option maxHeartbeats 1000000 in
theorem says_commit (w : World) (e1 e2 : Addr) (a b : List UInt8) (t1 t2 : Tok) (news : List (Addr × Obj)) : Says w 158 2 [.bytes b.toArray t1, .ref e1, .none, .none, .ref e2, .bytes a.toArray t2] news (RCom a news) := by
  unfold Says
  k_fill
  w_top off
  k_with_none
  k_with "getMethod bytes" => (k_here; first | refine By.get_method By.slot_find By.type_find ?_ | refine By.get_method By.slot_split By.type_split ?_ | refine By.get_method By.slot_rstrip By.type_rstrip ?_ | refine By.get_method By.slot_lstrip By.type_lstrip ?_ | refine By.get_method By.slot_join By.type_join ?_ | refine By.get_method FB.slot_bytes_startswith FB.type_bytes_startswith ?_ | refine By.get_method FB.slot_bytes_endswith FB.type_bytes_endswith ?_)
  k_with "call builtin:len" => (k_here; (with_reducible show wpAny _ _ (call (Value.builtin "len") [Value.bytes (List.toArray _) _]) _ _ _); (refine By.len_B (by first | assumption | omega) ?_); intro _ _)
  k_with "subscriptTail" => (k_here; (with_reducible show wpAny _ _ (subscriptTail _ _ (Value.bytes (List.toArray _) _) (Value.int _ _)) _ _ _); (refine By.item_B (by first | assumption | omega) (by omega) (by omega) ?_); intro _ _)
  k_with "subscriptTail" => (k_here; (with_reducible show wpAny _ _ (subscriptTail _ (Expr.Slice _ _ none _) (Value.bytes (List.toArray _) _) (Value.ref _)) _ _ _); (with_reducible rename Fr _ _ _ _ => F'q); (with_reducible rename News _ _ _ _ => N'q); (refine By.slice_B (s := ⟨_, _, _, _, _⟩) F'q N'q (by constructor) (by constructor) (by first | assumption | omega) ?_); intro _ _ _ _ _)
  k_with "compareOp In int bytes" => (k_here; (with_reducible show wpAny _ _ (compareOp CmpOp.In (Value.int _ _) (Value.bytes (List.toArray _) _)) _ _ _); refine By.in_byte ?_)
  k_with "compareOp Eq bytes bytes" => (k_here; (with_reducible show wpAny _ _ (compareOp CmpOp.Eq (Value.bytes (List.toArray _) _) (Value.bytes (List.toArray _) _)) _ _ _); refine By.eq_B ?_)
  k_with "compareOp NotEq bytes bytes" => (k_here; (with_reducible show wpAny _ _ (compareOp CmpOp.NotEq (Value.bytes (List.toArray _) _) (Value.bytes (List.toArray _) _)) _ _ _); refine By.ne_B ?_)
  k_with "binaryOp Add bytes bytes" => (k_here; (with_reducible show wpAny _ _ (binaryOp Operator.Add (Value.bytes (List.toArray _) _) (Value.bytes (List.toArray _) _)) _ _ _); (refine By.add_B (by first | assumption | omega | (simp only [List.length_append, List.length_cons, List.length_nil] at *; omega)) ?_); intro _ _)
  k_with "call builtin:bytes.startswith" => (k_here; (with_reducible show wpAny _ _ (call (Value.builtin _) [Value.bytes (List.toArray _) _, Value.bytes (List.toArray _) _]) _ _ _); refine By.call_startswith ?_)
  k_with "call builtin:bytes.endswith" => (k_here; (with_reducible show wpAny _ _ (call (Value.builtin _) [Value.bytes (List.toArray _) _, Value.bytes (List.toArray _) _]) _ _ _); refine By.call_endswith ?_)
  k_with "call builtin:bytes.rstrip" => (k_here; (with_reducible show wpAny _ _ (call (Value.builtin _) [Value.bytes (List.toArray _) _, Value.bytes (List.toArray _) _]) _ _ _); (refine By.call_rstrip (by first | assumption | omega) ?_); intro _ _)
  k_with "call builtin:bytes.lstrip" => (k_here; (with_reducible show wpAny _ _ (call (Value.builtin _) [Value.bytes (List.toArray _) _, Value.bytes (List.toArray _) _]) _ _ _); (refine By.call_lstrip (by first | assumption | omega) ?_); intro _ _)
  k_with "call builtin:bytes.find" => (k_here; first | (refine By.call_find0 ?_; intro _ _) | (refine By.call_findI (by omega) (by omega) ?_; intro _ _))
  k_with "call builtin:bytes.split" => (k_here; k_dflt (refine' By.call_split ?zqk1 ?zqk2 ?zqk3 ?_; (case zqk1 => k_asm); (case zqk2 => k_asm); (case zqk3 => omega); k_whole); intro l'q vs'q h'q k'q hB'q hS'q hZ'q F'q N'q o1q; (try simp only [LCg.Off1, and_true] at o1q); (try k_sweep))
  k_with "call builtin:list.append" => (k_here; (with_reducible show wpAny _ _ (call (Value.builtin _) [Value.ref _, _]) _ _ _); k_dflt (refine' append_K ?zqk1 ?zqk2 ?zqk3 ?_ ?zqz; (case zqk1 => k_asm); (case zqk2 => k_asm); (case zqk3 => k_upd); (case zqz => (rw [PySem.sizeLine_eq]; simp only [List.size_toArray]; omega)); k_whole); intro h'q F'q N'q; (try k_sweep))
  k_with "call builtin:bytes.join" => (k_here; (with_reducible show wpAny _ _ (call (Value.builtin _) [Value.bytes (List.toArray _) _, Value.ref _]) _ _ _); k_dflt (refine By.call_join (News.isList (by k_asm) (by k_mem)) (by with_reducible assumption) (by first | assumption | omega) ?_); intro _ _)
  k_with "compareOp NotEq ref ref" => (k_here; (with_reducible show wpAny _ _ (compareOp CmpOp.NotEq (Value.ref _) (Value.ref _)) _ _ _); k_dflt (refine ne_nilK (by k_asm) (by k_mem) (by k_mem) (by ktr_units) ?_))
  k_with "compareOp Eq ref ref" => (k_here; (with_reducible show wpAny _ _ (compareOp CmpOp.Eq (Value.ref _) (Value.ref _)) _ _ _); k_dflt (refine eq_nilK (by k_asm) (by k_mem) (by k_mem) (by ktr_units) ?_))
  k_with "subscriptTail" => (k_here; (with_reducible show wpAny _ _ (subscriptTail _ _ (Value.ref _) (Value.int _ _)) _ _ _); k_dflt first | ((with_reducible show wpAny _ _ (subscriptTail _ (Expr.UnaryOp _ _ _) _ _) _ _ _); refine item_lastK (by k_asm) (by k_mem) (by with_reducible assumption) (by omega) (by omega) ?_; intro _) | (refine item_K (by k_asm) (by k_mem) (by with_reducible assumption) (by omega) (by omega) (by omega) ?_; intro _))
  k_with "call builtin:list.pop" => (k_here; (with_reducible show wpAny _ _ (call (Value.builtin _) [Value.ref _]) _ _ _); k_dflt (refine' popK ?zqF ?zqN ?zqU ?zqi ?zql ?zqz ?_; (case zqF => k_asm); (case zqN => k_asm); (case zqU => k_upd); (case zqi => with_reducible assumption); (case zql => omega); (case zqz => omega)); intro h'q t'q F'q N'q; (try k_sweep))
  k_with "subscriptTail" => (k_here; (with_reducible show wpAny _ _ (subscriptTail _ (Expr.Slice _ _ none _) (Value.ref _) (Value.ref _)) _ _ _); (with_reducible rename Fr _ _ _ _ => F'q); (with_reducible rename News _ _ _ _ => N'q); k_dflt (refine slice_L (s := ⟨_, _, _, _, _⟩) F'q N'q (by k_mem) (by with_reducible assumption) (by constructor) (by constructor) (by omega) ?_); intro l'q vs'q h'q hB'q hZ'q F'q N'q o1q; (try simp only [LCg.Off1, and_true] at o1q))
  k_with "subscriptTail Name Slice ref ref" => (k_here; (with_reducible show wpAny _ _ (subscriptTail _ (Expr.Slice _ _ none _) (Value.ref _) (Value.ref _)) _ _ _); (with_reducible rename Fr _ _ _ _ => F'q); (with_reducible rename News _ _ _ _ => N'q); k_dflt (refine slice_L (s := ⟨_, _, _, _, _⟩) F'q N'q (by k_mem) (by with_reducible assumption) (by constructor) (by constructor) (by omega) ?_); intro l'q vs'q h'q hB'q hZ'q F'q N'q o1q; (try simp only [LCg.Off1, and_true] at o1q))
  k_with "subscriptTail Call Slice ref ref" => (k_here; (with_reducible show wpAny _ _ (subscriptTail _ (Expr.Slice _ _ none _) (Value.ref _) (Value.ref _)) _ _ _); (with_reducible rename Fr _ _ _ _ => F'q); (with_reducible rename News _ _ _ _ => N'q); k_dflt (refine slice_L (s := ⟨_, _, _, _, _⟩) F'q N'q (by k_mem) (by with_reducible assumption) (by constructor) (by constructor) (by omega) ?_); intro l'q vs'q h'q hB'q hZ'q F'q N'q o1q; (try simp only [LCg.Off1, and_true] at o1q))
  k_with "call builtin:len" => (k_here; (with_reducible show wpAny _ _ (call (Value.builtin "len") [Value.ref _]) _ _ _); k_dflt (refine len_LK (by k_asm) (by k_mem) (by omega) ?_); intro _ _)
  k_with "exec While Compare cons nil" => refine Held.out ?_
  k_with "exec While BoolOp" => refine Held.out ?_
  k_with "KswEnd" => refine Held.out ?_
  k_with "my subs" => first | exact fun p hp => hp | (refine sub_tail ?_; walk_at "my subs")
  k_with "my df" => ((try dsimp only); (try k_fold))
  k_with "my back" => first | ((with_reducible rename RB _ _ _ _ => R9q); obtain ⟨⟨t9q, e9q⟩, e9'q⟩ := R9q; subst e9q e9'q; walk_at "my df") | ((with_reducible rename RL _ _ _ _ => R9q); obtain ⟨l9q, vs9q, k9q, e9q, hB9q, e9'q, hl9q⟩ := R9q; subst e9q e9'q; have hZ9q := hB9q.length; (try simp only [LCg.Off1, and_true] at hl9q); walk_at "my df") | ((with_reducible rename RSubj _ _ _ _ => R9q); obtain ⟨q9q, t9q, t9'q, e9q, e9'q, hl9q⟩ := R9q; subst e9q e9'q; (try simp only [LCg.Off1, and_true] at hl9q); walk_at "my df") | ((with_reducible rename RSome _ _ _ _ => R9q); obtain ⟨⟨x9q, t9q, e9q, hx9q⟩, e9'q⟩ := R9q; subst e9q e9'q; walk_at "my df") | ((with_reducible rename RTrail _ _ _ _ => R9q); rcases R9q with ⟨hT9q, e9q, e9'q⟩ | ⟨key9q, q9q, t9q, t9'q, x9q, hT9q, e9q, e9'q, hl9q⟩ <;> (subst e9q e9'q; (try simp only [LCg.Off1, and_true] at hl9q); walk_at "my df")) | ((with_reducible rename RLen _ _ _ _ => R9q); obtain ⟨l9q, xs9q, k9q, e9q, hx9q, e9'q, hl9q⟩ := R9q; subst e9q e9'q; (try simp only [LCg.Off1, and_true] at hl9q); walk_at "my df") | ((with_reducible rename RStr _ _ _ _ => R9q); obtain ⟨⟨t9q, e9q⟩, e9'q⟩ := R9q; subst e9q e9'q; walk_at "my df") | ((with_reducible rename RMark _ _ _ _ => R9q); rcases R9q with ⟨hM9q, e9q, e9'q⟩ | ⟨hM9q, q9q, o9q, e9q, e9'q, hl9q⟩ <;> (subst e9q e9'q; (try simp only [LCg.Off1, and_true] at hl9q); walk_at "my df")) | ((with_reducible rename RStp _ _ _ _ _ => R9q); obtain ⟨c9q, dx9q, o9q, p9q, e9q, e9'q, hst9q⟩ := R9q; subst e9q e9'q; walk_at "my df") | ((with_reducible rename RCom _ _ _ _ => R9q); obtain ⟨c9q, dx9q, o9q, p9q, e9q, e9'q, hC9q, hl9q, hcd9q⟩ := R9q; subst e9q e9'q; walk_at "my df")
  k_with "my side" => first | with_reducible assumption | omega | exact Nat.le_trans (By.sl_len _ _ _) (by omega) | exact IsCom.sub (by with_reducible assumption) (by walk_at "my subs") | exact fun k hk => Nat.lt_trans (By.hexCodes_lt k hk) (by decide) | exact Nat.le_trans (By.subjB_len _) (by omega)
  k_with "call ref" => (k_here; k_dflt (refine' says_use ?zqc ?zqk1 ?zqk2 ?zqk3 ?zqk4 ?zqk5 ?zqkK ?zqkd ?zqku ?_; (case zqk1 => k_asm); (case zqk2 => k_asm); (case zqk3 => k_asm); (case zqk4 => k_asm); (case zqk5 => k_asm); (case zqc => walk_at "my contract"); (case zqkK => first | exact rfl | assumption); (case zqkd => first | ktr_room | decide); (case zqku => first | ktr_units | decide); intro v9q n9q h9q tk9q F9q N9q R9q; walk_at "my back"))
  k_with "my contract" => (with_reducible apply says_cut_end) <;> walk_at "my side"
  k_with "my contract" => (with_reducible apply says_rows) <;> walk_at "my side"
  k_with "my contract" => (with_reducible apply says_lines) <;> walk_at "my side"
  k_with "my contract" => (with_reducible apply says_ended) <;> walk_at "my side"
  k_with "my contract" => (with_reducible apply says_subject) <;> walk_at "my side"
  k_with "my contract" => (with_reducible apply says_trimmed) <;> walk_at "my side"
  k_with "my contract" => (with_reducible apply says_trailer) <;> walk_at "my side"
  k_with "my contract" => (with_reducible apply says_last) <;> walk_at "my side"
  k_with "my contract" => (with_reducible apply says_trailers) <;> walk_at "my side"
  k_with "my contract" => (with_reducible apply says_hex) <;> walk_at "my side"
  k_with "my contract" => (with_reducible apply says_oct) <;> walk_at "my side"
  k_with "my contract" => (with_reducible apply says_csubj) <;> walk_at "my side"
  k_with "my contract" => (with_reducible apply says_body) <;> walk_at "my side"
  k_with "my contract" => (with_reducible apply says_mark) <;> walk_at "my side"
  k_with "my contract" => (with_reducible apply says_bare) <;> walk_at "my side"
  k_with "my contract" => (with_reducible apply says_lhex) <;> walk_at "my side"
  k_with "my contract" => (refine' says_lend _ _ _ _ _ _ ?zqs1 ?zqs2 ?zqs3 ?zqs4; (case zqs1 => k_mem); (case zqs2 => with_reducible assumption); (case zqs3 => with_reducible assumption); (case zqs4 => first | omega | (simp only [List.length_append]; omega)))
  intro p loose mean mg mb dp un gd cn cs ad ccd cl outer A₀ base h₀ L m s Q E B F X N T hk hdp hu hret
  k_dflt (refine' call_cls ?k1 ?k2 ?k3 ?k4 ?k5 ?k6 ?_; (case k1 => k_asm); (case k2 => k_asm); (case k3 => k_asm); (case k4 => k_is); (case k5 => k_is); (case k6 => k_is); k_whole; intro x' d' h' F' N' l1 l2; (try k_lt l1); (try k_lt2 l2); (try k_sweep))
  k_dflt cell_enter
  k_steps
  exact hret _ _ _ _ (by k_asm) (by k_asm) ⟨_, _, _, _, rfl, rfl, ⟨rfl, _, _, _, rfl, rfl, rfl⟩, l1, l2⟩
def RStp (word : Str) (sign : List UInt8) (news : List (Addr × Obj)) (v : Value) (news' : List (Addr × Obj)) : Prop :=
  ∃ c dx o p, v = .ref c ∧ news' = (c, o) :: (dx, p) :: news ∧ IsStep news' c word sign
set_option maxRecDepth 100000 in
set_option maxHeartbeats 1000000 in
theorem says_step (w : World) (word : Str) (oid sign : List UInt8) (t1 t2 t3 t4 : Tok) (news : List (Addr × Obj)) : Says w 205 2 [.str word t1, .bytes oid.toArray t2, .bytes (List.toArray []) t3, .bytes sign.toArray t4] news (RStp word sign news) := by
  unfold Says
  k_fill
  w_top off
  k_with_none
  k_with "getMethod bytes" => (k_here; first | refine By.get_method By.slot_find By.type_find ?_ | refine By.get_method By.slot_split By.type_split ?_ | refine By.get_method By.slot_rstrip By.type_rstrip ?_ | refine By.get_method By.slot_lstrip By.type_lstrip ?_ | refine By.get_method By.slot_join By.type_join ?_ | refine By.get_method FB.slot_bytes_startswith FB.type_bytes_startswith ?_ | refine By.get_method FB.slot_bytes_endswith FB.type_bytes_endswith ?_)
  k_with "call builtin:len" => (k_here; (with_reducible show wpAny _ _ (call (Value.builtin "len") [Value.bytes (List.toArray _) _]) _ _ _); (refine By.len_B (by first | assumption | omega) ?_); intro _ _)
  k_with "subscriptTail" => (k_here; (with_reducible show wpAny _ _ (subscriptTail _ _ (Value.bytes (List.toArray _) _) (Value.int _ _)) _ _ _); (refine By.item_B (by first | assumption | omega) (by omega) (by omega) ?_); intro _ _)
  k_with "subscriptTail" => (k_here; (with_reducible show wpAny _ _ (subscriptTail _ (Expr.Slice _ _ none _) (Value.bytes (List.toArray _) _) (Value.ref _)) _ _ _); (with_reducible rename Fr _ _ _ _ => F'q); (with_reducible rename News _ _ _ _ => N'q); (refine By.slice_B (s := ⟨_, _, _, _, _⟩) F'q N'q (by constructor) (by constructor) (by first | assumption | omega) ?_); intro _ _ _ _ _)
  k_with "compareOp In int bytes" => (k_here; (with_reducible show wpAny _ _ (compareOp CmpOp.In (Value.int _ _) (Value.bytes (List.toArray _) _)) _ _ _); refine By.in_byte ?_)
  k_with "compareOp Eq bytes bytes" => (k_here; (with_reducible show wpAny _ _ (compareOp CmpOp.Eq (Value.bytes (List.toArray _) _) (Value.bytes (List.toArray _) _)) _ _ _); refine By.eq_B ?_)
  k_with "compareOp NotEq bytes bytes" => (k_here; (with_reducible show wpAny _ _ (compareOp CmpOp.NotEq (Value.bytes (List.toArray _) _) (Value.bytes (List.toArray _) _)) _ _ _); refine By.ne_B ?_)
  k_with "binaryOp Add bytes bytes" => (k_here; (with_reducible show wpAny _ _ (binaryOp Operator.Add (Value.bytes (List.toArray _) _) (Value.bytes (List.toArray _) _)) _ _ _); (refine By.add_B (by first | assumption | omega | (simp only [List.length_append, List.length_cons, List.length_nil] at *; omega)) ?_); intro _ _)
  k_with "call builtin:bytes.startswith" => (k_here; (with_reducible show wpAny _ _ (call (Value.builtin _) [Value.bytes (List.toArray _) _, Value.bytes (List.toArray _) _]) _ _ _); refine By.call_startswith ?_)
  k_with "call builtin:bytes.endswith" => (k_here; (with_reducible show wpAny _ _ (call (Value.builtin _) [Value.bytes (List.toArray _) _, Value.bytes (List.toArray _) _]) _ _ _); refine By.call_endswith ?_)
  k_with "call builtin:bytes.rstrip" => (k_here; (with_reducible show wpAny _ _ (call (Value.builtin _) [Value.bytes (List.toArray _) _, Value.bytes (List.toArray _) _]) _ _ _); (refine By.call_rstrip (by first | assumption | omega) ?_); intro _ _)
  k_with "call builtin:bytes.lstrip" => (k_here; (with_reducible show wpAny _ _ (call (Value.builtin _) [Value.bytes (List.toArray _) _, Value.bytes (List.toArray _) _]) _ _ _); (refine By.call_lstrip (by first | assumption | omega) ?_); intro _ _)
  k_with "call builtin:bytes.find" => (k_here; first | (refine By.call_find0 ?_; intro _ _) | (refine By.call_findI (by omega) (by omega) ?_; intro _ _))
  k_with "call builtin:bytes.split" => (k_here; k_dflt (refine' By.call_split ?zqk1 ?zqk2 ?zqk3 ?_; (case zqk1 => k_asm); (case zqk2 => k_asm); (case zqk3 => omega); k_whole); intro l'q vs'q h'q k'q hB'q hS'q hZ'q F'q N'q o1q; (try simp only [LCg.Off1, and_true] at o1q); (try k_sweep))
  k_with "call builtin:list.append" => (k_here; (with_reducible show wpAny _ _ (call (Value.builtin _) [Value.ref _, _]) _ _ _); k_dflt (refine' append_K ?zqk1 ?zqk2 ?zqk3 ?_ ?zqz; (case zqk1 => k_asm); (case zqk2 => k_asm); (case zqk3 => k_upd); (case zqz => (rw [PySem.sizeLine_eq]; simp only [List.size_toArray]; omega)); k_whole); intro h'q F'q N'q; (try k_sweep))
  k_with "call builtin:bytes.join" => (k_here; (with_reducible show wpAny _ _ (call (Value.builtin _) [Value.bytes (List.toArray _) _, Value.ref _]) _ _ _); k_dflt (refine By.call_join (News.isList (by k_asm) (by k_mem)) (by with_reducible assumption) (by first | assumption | omega) ?_); intro _ _)
  k_with "compareOp NotEq ref ref" => (k_here; (with_reducible show wpAny _ _ (compareOp CmpOp.NotEq (Value.ref _) (Value.ref _)) _ _ _); k_dflt (refine ne_nilK (by k_asm) (by k_mem) (by k_mem) (by ktr_units) ?_))
  k_with "compareOp Eq ref ref" => (k_here; (with_reducible show wpAny _ _ (compareOp CmpOp.Eq (Value.ref _) (Value.ref _)) _ _ _); k_dflt (refine eq_nilK (by k_asm) (by k_mem) (by k_mem) (by ktr_units) ?_))
  k_with "subscriptTail" => (k_here; (with_reducible show wpAny _ _ (subscriptTail _ _ (Value.ref _) (Value.int _ _)) _ _ _); k_dflt first | ((with_reducible show wpAny _ _ (subscriptTail _ (Expr.UnaryOp _ _ _) _ _) _ _ _); refine item_lastK (by k_asm) (by k_mem) (by with_reducible assumption) (by omega) (by omega) ?_; intro _) | (refine item_K (by k_asm) (by k_mem) (by with_reducible assumption) (by omega) (by omega) (by omega) ?_; intro _))
  k_with "call builtin:list.pop" => (k_here; (with_reducible show wpAny _ _ (call (Value.builtin _) [Value.ref _]) _ _ _); k_dflt (refine' popK ?zqF ?zqN ?zqU ?zqi ?zql ?zqz ?_; (case zqF => k_asm); (case zqN => k_asm); (case zqU => k_upd); (case zqi => with_reducible assumption); (case zql => omega); (case zqz => omega)); intro h'q t'q F'q N'q; (try k_sweep))
  k_with "subscriptTail" => (k_here; (with_reducible show wpAny _ _ (subscriptTail _ (Expr.Slice _ _ none _) (Value.ref _) (Value.ref _)) _ _ _); (with_reducible rename Fr _ _ _ _ => F'q); (with_reducible rename News _ _ _ _ => N'q); k_dflt (refine slice_L (s := ⟨_, _, _, _, _⟩) F'q N'q (by k_mem) (by with_reducible assumption) (by constructor) (by constructor) (by omega) ?_); intro l'q vs'q h'q hB'q hZ'q F'q N'q o1q; (try simp only [LCg.Off1, and_true] at o1q))
  k_with "subscriptTail Name Slice ref ref" => (k_here; (with_reducible show wpAny _ _ (subscriptTail _ (Expr.Slice _ _ none _) (Value.ref _) (Value.ref _)) _ _ _); (with_reducible rename Fr _ _ _ _ => F'q); (with_reducible rename News _ _ _ _ => N'q); k_dflt (refine slice_L (s := ⟨_, _, _, _, _⟩) F'q N'q (by k_mem) (by with_reducible assumption) (by constructor) (by constructor) (by omega) ?_); intro l'q vs'q h'q hB'q hZ'q F'q N'q o1q; (try simp only [LCg.Off1, and_true] at o1q))
  k_with "subscriptTail Call Slice ref ref" => (k_here; (with_reducible show wpAny _ _ (subscriptTail _ (Expr.Slice _ _ none _) (Value.ref _) (Value.ref _)) _ _ _); (with_reducible rename Fr _ _ _ _ => F'q); (with_reducible rename News _ _ _ _ => N'q); k_dflt (refine slice_L (s := ⟨_, _, _, _, _⟩) F'q N'q (by k_mem) (by with_reducible assumption) (by constructor) (by constructor) (by omega) ?_); intro l'q vs'q h'q hB'q hZ'q F'q N'q o1q; (try simp only [LCg.Off1, and_true] at o1q))
  k_with "call builtin:len" => (k_here; (with_reducible show wpAny _ _ (call (Value.builtin "len") [Value.ref _]) _ _ _); k_dflt (refine len_LK (by k_asm) (by k_mem) (by omega) ?_); intro _ _)
  k_with "exec While Compare cons nil" => refine Held.out ?_
  k_with "exec While BoolOp" => refine Held.out ?_
  k_with "KswEnd" => refine Held.out ?_
  k_with "my subs" => first | exact fun p hp => hp | (refine sub_tail ?_; walk_at "my subs")
  k_with "my df" => ((try dsimp only); (try k_fold))
  k_with "my back" => first | ((with_reducible rename RB _ _ _ _ => R9q); obtain ⟨⟨t9q, e9q⟩, e9'q⟩ := R9q; subst e9q e9'q; walk_at "my df") | ((with_reducible rename RL _ _ _ _ => R9q); obtain ⟨l9q, vs9q, k9q, e9q, hB9q, e9'q, hl9q⟩ := R9q; subst e9q e9'q; have hZ9q := hB9q.length; (try simp only [LCg.Off1, and_true] at hl9q); walk_at "my df") | ((with_reducible rename RSubj _ _ _ _ => R9q); obtain ⟨q9q, t9q, t9'q, e9q, e9'q, hl9q⟩ := R9q; subst e9q e9'q; (try simp only [LCg.Off1, and_true] at hl9q); walk_at "my df") | ((with_reducible rename RSome _ _ _ _ => R9q); obtain ⟨⟨x9q, t9q, e9q, hx9q⟩, e9'q⟩ := R9q; subst e9q e9'q; walk_at "my df") | ((with_reducible rename RTrail _ _ _ _ => R9q); rcases R9q with ⟨hT9q, e9q, e9'q⟩ | ⟨key9q, q9q, t9q, t9'q, x9q, hT9q, e9q, e9'q, hl9q⟩ <;> (subst e9q e9'q; (try simp only [LCg.Off1, and_true] at hl9q); walk_at "my df")) | ((with_reducible rename RLen _ _ _ _ => R9q); obtain ⟨l9q, xs9q, k9q, e9q, hx9q, e9'q, hl9q⟩ := R9q; subst e9q e9'q; (try simp only [LCg.Off1, and_true] at hl9q); walk_at "my df") | ((with_reducible rename RStr _ _ _ _ => R9q); obtain ⟨⟨t9q, e9q⟩, e9'q⟩ := R9q; subst e9q e9'q; walk_at "my df") | ((with_reducible rename RMark _ _ _ _ => R9q); rcases R9q with ⟨hM9q, e9q, e9'q⟩ | ⟨hM9q, q9q, o9q, e9q, e9'q, hl9q⟩ <;> (subst e9q e9'q; (try simp only [LCg.Off1, and_true] at hl9q); walk_at "my df")) | ((with_reducible rename RStp _ _ _ _ _ => R9q); obtain ⟨c9q, dx9q, o9q, p9q, e9q, e9'q, hst9q⟩ := R9q; subst e9q e9'q; walk_at "my df") | ((with_reducible rename RCom _ _ _ _ => R9q); obtain ⟨c9q, dx9q, o9q, p9q, e9q, e9'q, hC9q, hl9q, hcd9q⟩ := R9q; subst e9q e9'q; walk_at "my df")
  k_with "my side" => first | with_reducible assumption | omega | exact Nat.le_trans (By.sl_len _ _ _) (by omega) | exact IsCom.sub (by with_reducible assumption) (by walk_at "my subs") | exact fun k hk => Nat.lt_trans (By.hexCodes_lt k hk) (by decide) | exact Nat.le_trans (By.subjB_len _) (by omega)
  k_with "call ref" => (k_here; k_dflt (refine' says_use ?zqc ?zqk1 ?zqk2 ?zqk3 ?zqk4 ?zqk5 ?zqkK ?zqkd ?zqku ?_; (case zqk1 => k_asm); (case zqk2 => k_asm); (case zqk3 => k_asm); (case zqk4 => k_asm); (case zqk5 => k_asm); (case zqc => walk_at "my contract"); (case zqkK => first | exact rfl | assumption); (case zqkd => first | ktr_room | decide); (case zqku => first | ktr_units | decide); intro v9q n9q h9q tk9q F9q N9q R9q; walk_at "my back"))
  k_with "my contract" => (with_reducible apply says_cut_end) <;> walk_at "my side"
  k_with "my contract" => (with_reducible apply says_rows) <;> walk_at "my side"
  k_with "my contract" => (with_reducible apply says_lines) <;> walk_at "my side"
  k_with "my contract" => (with_reducible apply says_ended) <;> walk_at "my side"
  k_with "my contract" => (with_reducible apply says_subject) <;> walk_at "my side"
  k_with "my contract" => (with_reducible apply says_trimmed) <;> walk_at "my side"
  k_with "my contract" => (with_reducible apply says_trailer) <;> walk_at "my side"
  k_with "my contract" => (with_reducible apply says_last) <;> walk_at "my side"
  k_with "my contract" => (with_reducible apply says_trailers) <;> walk_at "my side"
  k_with "my contract" => (with_reducible apply says_hex) <;> walk_at "my side"
  k_with "my contract" => (with_reducible apply says_oct) <;> walk_at "my side"
  k_with "my contract" => (with_reducible apply says_csubj) <;> walk_at "my side"
  k_with "my contract" => (with_reducible apply says_body) <;> walk_at "my side"
  k_with "my contract" => (with_reducible apply says_mark) <;> walk_at "my side"
  k_with "my contract" => (with_reducible apply says_bare) <;> walk_at "my side"
  k_with "my contract" => (with_reducible apply says_lhex) <;> walk_at "my side"
  k_with "my contract" => (refine' says_lend _ _ _ _ _ _ ?zqs1 ?zqs2 ?zqs3 ?zqs4; (case zqs1 => k_mem); (case zqs2 => with_reducible assumption); (case zqs3 => with_reducible assumption); (case zqs4 => first | omega | (simp only [List.length_append]; omega)))
  intro p loose mean mg mb dp un gd cn cs ad ccd cl outer A₀ base h₀ L m s Q E B F X N T hk hdp hu hret
  k_dflt (refine' call_cls ?k1 ?k2 ?k3 ?k4 ?k5 ?k6 ?_; (case k1 => k_asm); (case k2 => k_asm); (case k3 => k_asm); (case k4 => k_is); (case k5 => k_is); (case k6 => k_is); k_whole; intro x' d' h' F' N' l1 l2; (try k_lt l1); (try k_lt2 l2); (try k_sweep))
  k_dflt (refine' code_def ?k1 ?k2 ?k3 ?k4 ?k5 ?kA ?kF ?kK ?k6 ?k7 ?k8 ?k9 ?kB ?_ ?c2 ?c3 ?c4 ?c5; (case kA => exact rfl); (case kF => exact rfl); (case kK => assumption); (case k1 => k_asm); (case k2 => k_asm); (case k3 => k_asm); (case k4 => k_asm); (case k5 => k_asm); (case k6 => k_is); (case k7 => k_is); (case k8 => ktr_room); (case k9 => exact binds_K (by k_in) rfl (by k_is) rfl rfl rfl); (case c5 => decide); (case kB => exact locs rfl); (case c2 => exact rfl); (case c3 => exact rfl); (case c4 => exact rfl); k_whole; intro g' L' h' FG' F' N' B' X' T'; (try dsimp only); (try k_lift B'); (try k_fold))
  k_steps
  exact hret _ _ _ _ (by k_asm) (by k_asm) ⟨_, _, _, _, rfl, rfl, _, _, _, _, _, .head _, .tail _ (.head _), rfl, rfl⟩
end Mine
end
section
namespace Mine
section
variable {w : World} {d l : Addr} {od ol : Obj} {led rest : List (Addr × Obj)} {p : Program} {loose : List Str} {mean : ExcName → Option Value} {mg mb : Str → Option Value} {dp un : Nat} {gd : Option (List Code)} {cn : Str} {cs : Scope} {a : Addr} {ccd : Value} {cl : List (Str × Addr)} {outer : List Env}
    {A₀ : Around} {base h₀ : Heap} {L : Addr} {m : Str → Option Value} {s : Shared} {Q E : Value → Shared → Prop}
theorem msg_use (hdk : IsDeck w d l od ol) (B : Below A₀ base outer h₀) (F : Fr h₀ L s.heap m) (X : (hd.heap_1 w.params).In h₀) (N : News h₀ L s.heap led) (T : Top p loose mean mg mb h₀) (hsub : ∀ p ∈ (d, od) :: (l, ol) :: rest, p ∈ led) (o1 : LCg.Off1 d rest) (o2 : LCg.Off1 l rest) (hk : cs.kind = .function)
    (hd : dp + 2 < recursionLimit) (hu : un + 8 * 2 < cLine)
    (h : ∀ (q sref rl : Addr) (vs : List Value) (k : Nat) (sj rs : List (List UInt8)) (many : Nat) (t : Tok) (od' ol' : Obj) (h' : Heap) (tk' : Nat), KTup w sref sj → BsAre vs rs → By.MsgOk sj rs many → IsDeck w d l od' ol' → ((@Ne Nat q d) ∧ (@Ne Nat q l) ∧ (@Ne Nat rl d) ∧ (@Ne Nat rl l)) → Fr h₀ L h' m →
      News h₀ L h' ((q, tupO [.ref sref, .ref rl, .int (many : Int) t]) :: (rl, listOf vs.toArray k) :: (d, od') :: (l, ol') :: rest) → Q (.ref q) { s with heap := h', toks := tk' }) :
    wpAny (model PySem.Challenge.rw_pb0111_01.row.prog w) (ktrTop dp un gd cn cs L a ccd cl outer) (call (.ref 293) [.ref d]) Q E s := by
  refine says_use (says_msg w d l od ol rest hdk o1 o2) B F X (fun p hp => N p (hsub p hp)) T hk hd hu fun v n' h' tk' F' N' R => ?_
  obtain ⟨q, sref, rl, vs, k, sj, rs, many, t, od', ol', rfl, rfl, h1, h2, h3, h4, h5⟩ := R
  exact h q sref rl vs k sj rs many t od' ol' h' tk' h1 h2 h3 h4 h5 F' N'
theorem loct_use {sref rl : Addr} {vs : List Value} {k : Nat} {sj rs : List (List UInt8)} (hdk : IsDeck w d l od ol) (B : Below A₀ base outer h₀) (F : Fr h₀ L s.heap m) (X : (hd.heap_1 w.params).In h₀) (N : News h₀ L s.heap led) (T : Top p loose mean mg mb h₀) (hsub : ∀ p ∈ (d, od) :: (l, ol) :: rest, p ∈ led) (o1 : LCg.Off1 d rest) (o2 : LCg.Off1 l rest)
    (hkt : KTup w sref sj) (hrl : (rl, listOf vs.toArray k) ∈ rest) (hbs : BsAre vs rs) (hz1 : sj.length ≤ 100) (hz2 : rs.length ≤ 100) (hsh : ((sj ++ rs).map List.length).sum ≤ 10000) (hk : cs.kind = .function) (hd : dp + 2 < recursionLimit) (hu : un + 8 * 2 < cLine)
    (h : ∀ (rs' : List (List UInt8)) (nl : List UInt8) (t : Tok) (od' ol' : Obj) (h' : Heap) (tk' : Nat), By.Sp (sj ++ rs) rs' → (nl = [] ∨ nl = [10]) → IsDeck w d l od' ol' → Fr h₀ L h' m → News h₀ L h' ((d, od') :: (l, ol') :: rest) → Q (.bytes (By.joinB [10] rs' ++ nl).toArray t) { s with heap := h', toks := tk' }) :
    wpAny (model PySem.Challenge.rw_pb0111_01.row.prog w) (ktrTop dp un gd cn cs L a ccd cl outer) (call (.ref 298) [.ref d, .ref sref, .ref rl]) Q E s := by
  refine says_use (says_loct w d l sref rl od ol vs k sj rs rest hdk o1 o2 hkt hrl hbs hz1 hz2 hsh) B F X (fun p hp => N p (hsub p hp)) T hk hd hu fun v n' h' tk' F' N' R => ?_
  obtain ⟨rs', nl, t, od', ol', rfl, rfl, h1, h2, h3⟩ := R
  exact h rs' nl t od' ol' h' tk' h1 h2 h3 F' N'
end
end Mine
namespace Mine
theorem IsDeck.makeL {w : World} {d l : Addr} {od : Obj} {vs : List Value} {ns : List Int} {mx : Int} {t : Tok} (h : od.IsDictOf (PySem.strKind PySem.Challenge.rw_pb0111_01.row.prog w) [(Str.ofString "left", .ref l), (Str.ofString "mixed", .int mx t)]) (hi : IntsAre vs ns) (hl : vs.length ≤ 63) (hs : (d == sysModules) = false) (hd : d ≠ l) : IsDeck w d l od (LCg.lst vs) := IsDeck.make h hi hl hs hd
end Mine
end
section
namespace Mine
end Mine
end
local macro_rules | `(tactic| walk_at "my k_gate") => `(tactic| fail_if_success (fail_if_success (with_reducible rename IsDeck _ _ _ _ _ => hgate)))
section
namespace Mine
end Mine
end
section
namespace Mine
namespace By
theorem msg_short {sj rs : List (List UInt8)} {many : Nat} (h : MsgOk sj rs many) : Short 200 (sj ++ rs) := fun c hc => by
  have h1 := (msg_size h).1
  have h2 := len_le_sum hc
  omega
theorem subj_join {sj : List (List UInt8)} (h : sj ∈ subjects) : (joinB [32] sj).length ≤ 4000 := by
  have h1 := joinB_len [32] sj
  have h2 := subj_facts h
  simp only [List.length_cons, List.length_nil] at h1
  omega
theorem msg_lend {sj rs : List (List UInt8)} {many : Nat} (h : MsgOk sj rs many) : (lend (sj ++ rs)).length ≤ 1000 := by
  have h1 := lend_len (sj ++ rs)
  have h2 := msg_size h
  rw [List.length_append] at h1
  omega
theorem msg_lbare {sj rs : List (List UInt8)} {many : Nat} (h : MsgOk sj rs many) : (lbare sj rs).length ≤ 1000 := by
  unfold lbare
  split
  · have h1 := lend_len rs
    have h2 := msg_size h
    rw [List.map_append, List.sum_append] at h2
    omega
  · exact msg_lend h
end By
open By
section
variable {sj rs sj2 rs2 : List (List UInt8)} {many many2 : Nat} {a b : List UInt8}
theorem law_pick (w : World) (c : Addr) (a oid : List UInt8) (to : Tok) (news : List (Addr × Obj)) (hm : Msg sj rs many a) (hcom : IsCom news c a) (ho : oid.length ≤ 64) : Says w 228 5 [.ref c, .bytes oid.toArray to] news (RB (By.lpick (sj ++ rs) many oid) news) := by
  have h := says_pick w c a oid to news hcom hm.len ho hm.joined.2.2
  rwa [hm.pick] at h
theorem law_rev (w : World) (c : Addr) (a oid : List UInt8) (to : Tok) (v : Value) (p : Option (List UInt8)) (news : List (Addr × Obj)) (hm : Msg sj rs many a) (hcom : IsCom news c a) (ho : oid.length ≤ 64) (hp : ParV v p) : Says w 235 5 [.ref c, .bytes oid.toArray to, v] news (RB (By.lrevB (By.joinB [32] sj) oid p) news) := by
  have h := says_rev w c a oid to v p news hcom hm.len ho hp
  rwa [hm.rev] at h
theorem law_bare (w : World) (c : Addr) (a : List UInt8) (news : List (Addr × Obj)) (hm : Msg sj rs many a) (hcom : IsCom news c a) : Says w 242 5 [.ref c] news (RB (By.lbare sj rs) news) := by
  have h := says_bare w c a news hcom hm.len
  rwa [hm.bare] at h
theorem law_joinF (w : World) (st e c : Addr) (b a sign : List UInt8) (news : List (Addr × Obj)) (hm : Msg sj rs many b) (hm2 : Msg sj2 rs2 many2 a) (hst : IsStep news st (Str.ofString "fixup") sign) (hel : IsCom news e b) (hcom : IsCom news c a) : Says w 249 6 [.ref st, .ref e, .ref c] news (RB (By.ljoinF sign (lbare sj2 rs2) b) news) := by
  have h := says_joinF w st e c b a sign news hst hel hcom hm.len hm2.len
  rwa [hm.joinF hm2] at h
theorem law_joinS (w : World) (st e c : Addr) (b a : List UInt8) (news : List (Addr × Obj)) (hm : Msg sj rs many b) (hm2 : Msg sj2 rs2 many2 a) (hst : IsStep news st (Str.ofString "squash") []) (hel : IsCom news e b) (hcom : IsCom news c a) : Says w 249 6 [.ref st, .ref e, .ref c] news (RB (By.ljoinS (lend (sj ++ rs)) (lbare sj2 rs2)) news) := by
  have h := says_joinS w st e c b a news hst hel hcom hm.len hm2.len
  rwa [hm.joinS hm2] at h
theorem law_lpick (w : World) (sref rl : Addr) (vs : List Value) (k many : Nat) (tm to : Tok) (oid : List UInt8) (sj rs : List (List UInt8)) (news : List (Addr × Obj)) (hm : MsgOk sj rs many) (hkt : KTup w sref sj) (hrl : (rl, listOf vs.toArray k) ∈ news) (hbs : BsAre vs rs)
    (ho : oid.length ≤ 64) : Says w 310 2 [.ref sref, .ref rl, .int (many : Int) tm, .bytes oid.toArray to] news (RB (By.lpick (sj ++ rs) many oid) news) := by
  have h := msg_size hm
  exact says_lpick w sref rl vs k many tm to oid sj rs news hkt hrl hbs (by omega) (by omega) (msg_short hm) ho
theorem law_lrev (w : World) (sref : Addr) (to : Tok) (oid : List UInt8) (v : Value) (p : Option (List UInt8)) (sj rs : List (List UInt8)) (many : Nat) (news : List (Addr × Obj)) (hm : MsgOk sj rs many) (hkt : KTup w sref sj) (ho : oid.length ≤ 64) (hp : ParV v p) : Says w 317 2 [.ref sref, .bytes oid.toArray to, v] news (RB (By.lrevB (By.joinB [32] sj) oid p) news) :=
  says_lrev w sref to oid v p sj news hkt (subj_join hm.1) ho hp
theorem law_lbare (w : World) (sref rl : Addr) (vs : List Value) (k many : Nat) (sj rs : List (List UInt8)) (news : List (Addr × Obj)) (hm : MsgOk sj rs many) (hkt : KTup w sref sj) (hrl : (rl, listOf vs.toArray k) ∈ news) (hbs : BsAre vs rs) : Says w 324 2 [.ref sref, .ref rl] news (RB (By.lbare sj rs) news) := by
  have h := msg_size hm
  have h2 := (subj_facts hm.1).1
  exact says_lbare w sref rl vs k sj rs news hkt hrl hbs (by cases sj with | nil => exact absurd rfl h2 | cons _ _ => exact Nat.succ_pos _) (by omega) (by omega) (msg_short hm)
theorem law_oct {w : World} {d l : Addr} {od ol : Obj} {led rest : List (Addr × Obj)} {p : Program} {loose : List Str} {mean : ExcName → Option Value} {mg mb : Str → Option Value} {dp un : Nat} {gd : Option (List Code)} {cn : Str} {cs : Scope} {ad : Addr} {ccd : Value} {cl : List (Str × Addr)} {outer : List Env}
    {A₀ : Around} {base h₀ : Heap} {L : Addr} {m : Str → Option Value} {s : Shared} {Q E : Value → Shared → Prop} {sref rl : Addr} {vs : List Value} {k : Nat} (hdk : IsDeck w d l od ol) (B : Below A₀ base outer h₀) (F : Fr h₀ L s.heap m) (X : (hd.heap_1 w.params).In h₀) (N : News h₀ L s.heap led) (T : Top p loose mean mg mb h₀) (hsub : ∀ p ∈ (d, od) :: (l, ol) :: rest, p ∈ led) (o1 : LCg.Off1 d rest) (o2 : LCg.Off1 l rest)
    (hkt : KTup w sref sj) (hrl : (rl, listOf vs.toArray k) ∈ rest) (hbs : BsAre vs rs) (hm : MsgOk sj rs many) (hk : cs.kind = .function) (hd : dp + 2 < recursionLimit) (hu : un + 8 * 2 < cLine)
    (h : ∀ (a : List UInt8) (t : Tok) (od' ol' : Obj) (h' : Heap) (tk' : Nat), Msg sj rs many a → IsDeck w d l od' ol' → Fr h₀ L h' m → News h₀ L h' ((d, od') :: (l, ol') :: rest) → Q (.bytes a.toArray t) { s with heap := h', toks := tk' }) :
    wpAny (model PySem.Challenge.rw_pb0111_01.row.prog w) (ktrTop dp un gd cn cs L ad ccd cl outer) (call (.ref 298) [.ref d, .ref sref, .ref rl]) Q E s := by
  have hz := msg_size hm
  exact loct_use hdk B F X N T hsub o1 o2 hkt hrl hbs (by omega) (by omega) (by omega) hk hd hu fun rs' nl t od' ol' h' tk' hs hn hD F' N' => h _ t od' ol' h' tk' ⟨hm, rs', nl, hs, hn, rfl⟩ hD F' N'
theorem ne_same {prog : Program} {w : World} {A : Around} {E : Value → Shared → Prop} {s : Shared} {x : List UInt8} {t u : Tok} {Q : Value → Shared → Prop} (h : Q (.bool false) s) : wpAny (model prog w) A (compareOp .NotEq (.bytes x.toArray t) (.bytes x.toArray u)) Q E s :=
  By.ne_B (by rw [bne_self_eq_false]; exact h)
end
end Mine
end
section
namespace Mine
section
variable {prog : Program} {w : World} {A : Around} {E : Value → Shared → Prop} {s : Shared} {h₀ : Heap} {L q : Addr} {news : List (Addr × Obj)} {Q : Value → Shared → Prop} {value slice : Expr} {t : Tok}
theorem tup_item {vs : List Value} {i : Int} {j : Nat} {v : Value} (N : News h₀ L s.heap news) (hm : (q, tupO vs) ∈ news) (hlo : -(2 ^ 63) ≤ i) (hhi : i < 2 ^ 63) (hj : seqIndex? i vs.length = some j) (hv : vs[j]? = some v) (h : Q v s)
    (hs : subscripted slice false (.ref q) (.int i t) = operate [.ref q, .int i t] (getItem (.ref q) (.int i t)) := by with_unfolding_all rfl) : wpAny (model prog w) A (subscriptTail value slice (.ref q) (.int i t)) Q E s :=
  item_tupleT ⟨_, (N _ hm).1, rfl, _, rfl⟩ hlo hhi hj hv h hs
theorem lst_item {vs : List Value} {k : Nat} {i : Int} {v : Value} (N : News h₀ L s.heap news) (hm : (q, listOf vs.toArray k) ∈ news) (h0 : 0 ≤ i) (hhi : i < 2 ^ 63) (hv : vs[i.toNat]? = some v) (h : Q v s)
    (hs : subscripted slice false (.ref q) (.int i t) = operate [.ref q, .int i t] (getItem (.ref q) (.int i t)) := by with_unfolding_all rfl) (hg : ∀ r, letTemporaryGo value (.ref q) r = pure () := by intro _; with_unfolding_all rfl) : wpAny (model prog w) A (subscriptTail value slice (.ref q) (.int i t)) Q E s :=
  item_listL (N.isList hm) h0 hhi hv h hs hg
end
end Mine
end
section
open PyProof.Rows.LCg
namespace Mine
structure NeA (a b : Addr) : Prop where
  ne : @Ne Nat a b
section
variable {prog : Program} {w : World} {A : Around} {h₀ : Heap} {L : Addr} {m : Str → Option Value} {env : Env} {elt : Expr} {x : Str} {scope : Scope} {cl : List (Str × Addr)} {s : Shared} {S : List (Addr × Obj) → Prop} {Pv : Nat → Value → Prop} {Fin : List Value → List (Addr × Obj) → Prop}
def LedEl {σ : Type} (Led : σ → List (Addr × Obj)) (P : σ → Prop) (res : Value → Prop) (y : Value) (news' : List (Addr × Obj)) : Prop := ∃ c : σ, news' = Led c ∧ P c ∧ res y
theorem bcf_led {σ α : Type} (Led : σ → List (Addr × Obj)) (P : σ → Prop) (src : List α) (val : α → Value → Prop) (res : α → Value → Prop) (c₀ : σ) (hp : P c₀) (hP : ∀ i v, i < src.length → Pv i v → ∃ a, src[i]? = some a ∧ val a v)
    (turn : ∀ c a v I oI C oC D m₂ ys h tk (E' : Value → Shared → Prop), a ∈ src → P c → val a v → LCg.NsObj oC m₂ → m₂ x = some v → Fr h₀ L h m → News h₀ L h ((I, oI) :: (C, oC) :: (D, LCg.lst ys) :: Led c) → LCg.Off3 I C D (Led c) → ((@Ne Nat I C) ∧ (@Ne Nat I D) ∧ (@Ne Nat C D)) →
      wpAny (model prog w) A (eval elt (compEnvC scope cl C env)) (LCg.CompEnd h₀ L m { s with heap := h, toks := tk } I oI C oC D (LCg.lst ys) S (fun y news' => LedEl Led P (res a) y news')) E' { s with heap := h, toks := tk })
    (fin : ∀ c ys, P c → Rel2 res src ys → Fin ys (Led c)) : LCg.CompRest prog w A h₀ L m env elt x scope cl s S Pv Fin src.length 0 [] (Led c₀) := by
  have key : ∀ (j i : Nat) (c : σ) (ys : List Value), i + j = src.length → P c → Rel2 res (src.take i) ys → LCg.CompRest prog w A h₀ L m env elt x scope cl s S Pv Fin j i ys (Led c) := by
    intro j
    induction j with
    | zero =>
      intro i c ys hi hc hy
      rw [List.take_of_length_le (by omega)] at hy
      exact LCg.CompRest.zero (fin c ys hc hy)
    | succ j ih =>
      intro i c ys hi hc hy
      refine LCg.CompRest.succ ?_
      intro v I oI C oC D m₂ h tk E' hv hC hx F N off ne
      obtain ⟨a, hk, hv'⟩ := hP i v (by omega) hv
      refine wpAny_mono (turn c a v I oI C oC D m₂ ys h tk E' (List.mem_of_getElem? hk) hc hv' hC hx F N off ne) (fun y s₂ hq => ?_) fun _ _ e => e
      obtain ⟨h', tk', nw, e, F', N', off', hS, c', hn, hc', hy'⟩ := hq
      rw [hn] at N' off' hS
      refine ⟨h', tk', Led c', e, F', N', off', hS, ?_⟩
      refine ih (i + 1) c' _ (by omega) hc' ?_
      rw [List.take_add_one, hk]
      exact hy.snoc hy'
  exact key src.length 0 c₀ [] (by omega) hp (by simp only [List.take_zero]; exact .nil)
end
theorem off_comp {d I C D : Addr} {od oI oC oD : Obj} {l R : List (Addr × Obj)} (h : LCg.Off3 I C D l) (hd : (d, od) ∈ l) (h1 : LCg.Off1 d R) : LCg.Off1 d ((I, oI) :: (C, oC) :: (D, oD) :: R) := by
  have h2 := h.mem (d, od) hd
  exact ⟨Ne.symm h2.1, Ne.symm h2.2.1, Ne.symm h2.2.2, h1⟩
structure Lot where
  q : Addr
  sref : Addr
  rl : Addr
  vs : List Value
  k : Nat
  sj : List (List UInt8)
  rs : List (List UInt8)
  many : Nat
  t : Tok
structure Lot.Ok (w : World) (R : List (Addr × Obj)) (x : Lot) : Prop where
  mem : (x.q, tupO [.ref x.sref, .ref x.rl, .int (x.many : Int) x.t]) ∈ R
  rest : (x.rl, listOf x.vs.toArray x.k) ∈ R
  tup : KTup w x.sref x.sj
  bs : BsAre x.vs x.rs
  ok : By.MsgOk x.sj x.rs x.many
def OctOf (x : Lot) (y : Value) : Prop := ∃ (a : List UInt8) (t : Tok), y = .bytes a.toArray t ∧ By.Msg x.sj x.rs x.many a
theorem lots_src {x1 x2 : Lot} {q1 q2 : Addr} (h1 : x1.q = q1) (h2 : x2.q = q2) : ∀ (i : Nat) (v : Value), (#[Value.ref q1, Value.ref q2] : Array Value)[i]? = some v → ∃ a : Lot, ([x1, x2] : List Lot)[i]? = some a ∧ v = Value.ref a.q := by
  subst h1 h2
  intro i v h
  match i, h with
  | 0, h => cases h; exact ⟨_, rfl, rfl⟩
  | 1, h => cases h; exact ⟨_, rfl, rfl⟩
  | i + 2, h => cases h
def DrawnOf (_ : Nat) (y : Value) : Prop := ∃ (r : Int) (t : Tok), y = .int r t ∧ 0 ≤ r ∧ r < 256
theorem drawn_bytes : ∀ {src : List Nat} {ys : List Value}, Rel2 DrawnOf src ys → ∃ cs : List Nat, cs.length = src.length ∧ (∀ k ∈ cs, k < 256) ∧ Rel2 (fun (c : Nat) v => ∃ t, v = .int (c : Int) t) cs ys
  | _, _, .nil => ⟨[], rfl, (fun _ h => nomatch h), .nil⟩
  | _, _, .cons h t => by
    obtain ⟨r, u, rfl, h0, h1⟩ := h
    obtain ⟨cs, e, h2, h3⟩ := drawn_bytes t
    obtain ⟨n, rfl⟩ := Int.eq_ofNat_of_zero_le h0
    refine ⟨n :: cs, by rw [List.length_cons, List.length_cons, e], ?_, .cons ⟨u, rfl⟩ h3⟩
    intro k hk
    rcases List.mem_cons.mp hk with rfl | hk
    · omega
    · exact h2 k hk
theorem deck_led {w : World} {d l L : Addr} {od ol : Obj} {h₀ h : Heap} {led rest : List (Addr × Obj)} (_hdk : IsDeck w d l od ol) (N : News h₀ L h led) (hsub : ∀ p ∈ (d, od) :: (l, ol) :: rest, p ∈ led) : News h₀ L h ((d, od) :: (l, ol) :: rest) := cb_drop N hsub
theorem news_drop2 {L : Addr} {h₀ h : Heap} {a b x y : Addr × Obj} {r : List (Addr × Obj)} (N : News h₀ L h (a :: b :: x :: y :: r)) : News h₀ L h (a :: b :: r) := cb_drop N fun p hp => by
  rcases List.mem_cons.mp hp with rfl | hp
  · exact .head _
  rcases List.mem_cons.mp hp with rfl | hp
  · exact .tail _ (.head _)
  exact .tail _ (.tail _ (.tail _ (.tail _ hp)))
section
variable {prog : Program} {w : World} {A : Around} {h₀ : Heap} {L : Addr} {m : Str → Option Value} {env : Env} {elt : Expr} {x : Str} {scope : Scope} {cl : List (Str × Addr)} {s₁ : Shared} {Fin : Shared → List Value → List (Addr × Obj) → Prop}
theorem oct_comp {d l ax q1 q2 : Addr} {od ol : Obj} {R : List (Addr × Obj)} {k : Nat} (x1 x2 : Lot) (hh : A.handled = none) (F : Fr h₀ L s₁.heap m) (hdk : IsDeck w d l od ol) (N : News h₀ L s₁.heap ((d, od) :: (l, ol) :: R)) (hm : (ax, ({ cls := .type "list", data := .seq #[.ref q1, .ref q2] k } : Obj)) ∈ R)
    (e1 : x1.q = q1) (e2 : x2.q = q2) (ok1 : x1.Ok w R) (ok2 : x2.Ok w R)
    (turn : ∀ (od ol : Obj) (y : Lot) I oI C oC D m₂ ys h tk (E' : Value → Shared → Prop), y.Ok w R → IsDeck w d l od ol → LCg.NsObj oC m₂ → m₂ x = some (.ref y.q) → Fr h₀ L h m → News h₀ L h ((I, oI) :: (C, oC) :: (D, LCg.lst ys) :: (d, od) :: (l, ol) :: R) → LCg.Off3 I C D ((d, od) :: (l, ol) :: R) → ((@Ne Nat I C) ∧ (@Ne Nat I D) ∧ (@Ne Nat C D)) →
      wpAny (model prog w) A (eval elt (compEnvC scope cl C env)) (LCg.CompEnd h₀ L m { s₁ with heap := h, toks := tk } I oI C oC D (LCg.lst ys) (LCg.SrcAt h₀ ax #[.ref q1, .ref q2]) (fun v news' => LedEl (fun c : Obj × Obj => (d, c.1) :: (l, c.2) :: R) (fun c => IsDeck w d l c.1 c.2) (OctOf y) v news')) E' { s₁ with heap := h, toks := tk })
    (fin : ∀ (od ol : Obj) (a1 a2 : List UInt8) (t1 t2 : Tok) g, IsDeck w d l od ol → By.Msg x1.sj x1.rs x1.many a1 → By.Msg x2.sj x2.rs x2.many a2 → Fin { s₁ with heap := g } [.bytes a1.toArray t1, .bytes a2.toArray t2] ((d, od) :: (l, ol) :: R)) :
    LCg.CompSrc prog w A h₀ L m env elt x scope cl Fin (.ref ax) s₁ := by
  refine LCg.CompSrc.ledger hh F N (.tail _ (.tail _ hm)) (by rw [sizeLine_eq]; show 2 ≤ _; decide) fun g => ?_
  refine bcf_led (σ := Obj × Obj) (fun c => (d, c.1) :: (l, c.2) :: R) (fun c => IsDeck w d l c.1 c.2) [x1, x2] (fun y v => v = .ref y.q) OctOf (od, ol) hdk (fun i v _ h => lots_src e1 e2 i v h) ?_ ?_
  · intro c y v I oI C oC D m₂ ys h tk E' hy hD hv hC hx F' N' off ne
    subst hv
    have ok : y.Ok w R := by
      simp only [List.mem_cons, List.not_mem_nil, or_false] at hy
      rcases hy with rfl | rfl
      · exact ok1
      · exact ok2
    exact turn c.1 c.2 y I oI C oC D m₂ ys h tk E' ok hD hC hx F' N' off ne
  · intro c ys hD hys
    cases hys with
    | cons h1 t1 => cases t1 with
      | cons h2 t2 => cases t2 with
        | nil =>
          obtain ⟨a1, u1, rfl, k1⟩ := h1
          obtain ⟨a2, u2, rfl, k2⟩ := h2
          exact fin c.1 c.2 a1 a2 u1 u2 g hD k1 k2
theorem oid_comp {d l r : Addr} {od ol : Obj} {R : List (Addr × Obj)} {n : Nat} {t1 t2 t3 : Tok} (hh : A.handled = none) (F : Fr h₀ L s₁.heap m) (hdk : IsDeck w d l od ol) (N : News h₀ L s₁.heap ((d, od) :: (l, ol) :: R)) (hr : IsRange s₁.heap r 0 (n : Int) 1 t1 t2 t3) (hn : n ≤ 64)
    (turn : ∀ (od ol : Obj) v I oI C oC D m₂ ys h tk (E' : Value → Shared → Prop), IsDeck w d l od ol → LCg.NsObj oC m₂ → m₂ x = some v → Fr h₀ L h m → News h₀ L h ((I, oI) :: (C, oC) :: (D, LCg.lst ys) :: (d, od) :: (l, ol) :: R) → LCg.Off3 I C D ((d, od) :: (l, ol) :: R) → ((@Ne Nat I C) ∧ (@Ne Nat I D) ∧ (@Ne Nat C D)) →
      wpAny (model prog w) A (eval elt (compEnvC scope cl C env)) (LCg.CompEnd h₀ L m { s₁ with heap := h, toks := tk } I oI C oC D (LCg.lst ys) (fun _ => True) (fun v news' => LedEl (fun c : Obj × Obj => (d, c.1) :: (l, c.2) :: R) (fun c => IsDeck w d l c.1 c.2) (DrawnOf 0) v news')) E' { s₁ with heap := h, toks := tk })
    (fin : ∀ (od ol : Obj) (cs : List Nat) (ys : List Value) g, IsDeck w d l od ol → cs.length = n → (∀ k ∈ cs, k < 256) → Rel2 (fun (c : Nat) v => ∃ t, v = .int (c : Int) t) cs ys → Fin { s₁ with heap := g } ys ((d, od) :: (l, ol) :: R)) :
    LCg.CompSrc prog w A h₀ L m env elt x scope cl Fin (.ref r) s₁ := by
  have e : Builtin.Range.rangeSize 0 (n : Int) 1 = ((n : Nat) : Int) := by
    unfold Builtin.Range.rangeSize
    simp
    omega
  refine LCg.CompSrc.range (n := n) hh F N hr (small_one (by omega) (by omega) (by omega) (by omega)) e (by rw [sizeLine_eq]; omega) fun g => ?_
  have hl : (List.replicate n 0).length = n := List.length_replicate
  have hc : LCg.CompRest prog w A h₀ L m env elt x scope cl { s₁ with heap := g } (fun _ => True) (fun i v => ∃ t, v = .int (0 + (i : Int)) t) (Fin { s₁ with heap := g }) (List.replicate n 0).length 0 [] ((d, od) :: (l, ol) :: R) := by
    refine bcf_led (σ := Obj × Obj) (fun c => (d, c.1) :: (l, c.2) :: R) (fun c => IsDeck w d l c.1 c.2) (List.replicate n 0) (fun _ _ => True) DrawnOf (od, ol) hdk (fun i v hi _ => ⟨0, by rw [List.getElem?_replicate, if_pos (by omega)], trivial⟩) ?_ ?_
    · intro c y v I oI C oC D m₂ ys h tk E' hy hD hv hC hx F' N' off ne
      rw [List.eq_of_mem_replicate hy]
      exact turn c.1 c.2 v I oI C oC D m₂ ys h tk E' hD hC hx F' N' off ne
    · intro c ys hD hys
      obtain ⟨cs, h1, h2, h3⟩ := drawn_bytes hys
      exact fin c.1 c.2 cs ys g hD (by rw [h1, hl]) h2 h3
  rw [hl] at hc
  exact hc
def CEl (a : List UInt8) (Rk : List (Addr × Obj)) (v : Value) (news' : List (Addr × Obj)) : Prop :=
  ∃ c dx o p, news' = (c, o) :: (dx, p) :: Rk ∧ v = .ref c ∧ ComObj a dx o p ∧ (∀ q ∈ Rk, q.1 < dx) ∧ @LT.lt Nat _ dx c
theorem com_comp {ax : Addr} {a1 a2 : List UInt8} {u1 u2 : Tok} {R : List (Addr × Obj)} {k : Nat} (hh : A.handled = none) (F : Fr h₀ L s₁.heap m) (N : News h₀ L s₁.heap R) (hm : (ax, ({ cls := .type "list", data := .seq #[.bytes a1.toArray u1, .bytes a2.toArray u2] k } : Obj)) ∈ R)
    (turn : ∀ (a : List UInt8) (u : Tok) (Rk : List (Addr × Obj)) I oI C oC D m₂ ys h tk (E' : Value → Shared → Prop), (ax, ({ cls := .type "list", data := .seq #[.bytes a1.toArray u1, .bytes a2.toArray u2] k } : Obj)) ∈ Rk → LCg.NsObj oC m₂ → m₂ x = some (.bytes a.toArray u) → Fr h₀ L h m → News h₀ L h ((I, oI) :: (C, oC) :: (D, LCg.lst ys) :: Rk) → LCg.Off3 I C D Rk → ((@Ne Nat I C) ∧ (@Ne Nat I D) ∧ (@Ne Nat C D)) →
      wpAny (model prog w) A (eval elt (compEnvC scope cl C env)) (LCg.CompEnd h₀ L m { s₁ with heap := h, toks := tk } I oI C oC D (LCg.lst ys) (LCg.SrcAt h₀ ax #[.bytes a1.toArray u1, .bytes a2.toArray u2]) (fun v news' => CEl a Rk v news')) E' { s₁ with heap := h, toks := tk })
    (fin : ∀ (c1 dx1 c2 dx2 : Addr) (o1 p1 o2 p2 : Obj) g, ComObj a1 dx1 o1 p1 → ComObj a2 dx2 o2 p2 → (∀ q ∈ R, q.1 < dx1) → @LT.lt Nat _ dx1 c1 → @LT.lt Nat _ c1 dx2 → @LT.lt Nat _ dx2 c2 → Fin { s₁ with heap := g } [.ref c1, .ref c2] ((c2, o2) :: (dx2, p2) :: (c1, o1) :: (dx1, p1) :: R)) :
    LCg.CompSrc prog w A h₀ L m env elt x scope cl Fin (.ref ax) s₁ := by
  refine LCg.CompSrc.ledger hh F N hm (by rw [sizeLine_eq]; show 2 ≤ _; decide) fun g => ?_
  show LCg.CompRest prog w A h₀ L m env elt x scope cl { s₁ with heap := g } _ _ _ 2 0 [] R
  refine LCg.CompRest.succ fun v I oI C oC D m₂ h tk E' hv hC hx F' N' off ne => ?_
  cases hv
  refine wpAny_mono (turn a1 u1 R I oI C oC D m₂ [] h tk E' hm hC hx F' N' off ne) (fun y s₂ hq => ?_) fun _ _ e => e
  obtain ⟨h', tk', nw, e, F2, N2, off2, hS, c1, dx1, o1, p1, rfl, rfl, k1, k2, k3⟩ := hq
  refine ⟨h', tk', _, e, F2, N2, off2, hS, ?_⟩
  refine LCg.CompRest.succ fun v I oI C oC D m₂ h tk E' hv hC hx F' N' off ne => ?_
  cases hv
  refine wpAny_mono (turn a2 u2 _ I oI C oC D m₂ _ h tk E' (.tail _ (.tail _ hm)) hC hx F' N' off ne) (fun y s₂ hq => ?_) fun _ _ e => e
  obtain ⟨h', tk', nw, e, F2, N2, off2, hS, c2, dx2, o2, p2, rfl, rfl, j1, j2, j3⟩ := hq
  refine ⟨h', tk', _, e, F2, N2, off2, hS, ?_⟩
  exact LCg.CompRest.zero (fin c1 dx1 c2 dx2 o1 p1 o2 p2 g k1 j1 k2 k3 (j2 (c1, o1) (.head _)) j3)
end
end Mine
end
section
open PyProof.Rows.LCg
namespace Mine
theorem off1_pair {L : Addr} {h₀ h : Heap} {a b x : Addr × Obj} (hne : @Ne Nat x.1 a.1) (_N : News h₀ L h [a, b, x]) : LCg.Off1 a.1 [x] := ⟨hne, trivial⟩
theorem off1_pairL {L : Addr} {h₀ h : Heap} {a b x : Addr × Obj} (hne : @Ne Nat x.1 b.1) (_N : News h₀ L h [a, b, x]) : LCg.Off1 b.1 [x] := ⟨hne, trivial⟩
end Mine
end
local macro_rules | `(tactic| walk_at "my k_conj") => `(tactic| repeat (with_reducible rename _ ∧ _ => hc9; clear hc9))
section
open PyProof.Rows.LCg
namespace Mine
end Mine
end
local macro_rules | `(tactic| walk_at "my k_atoms") => `(tactic| repeat (with_reducible rename _ ∧ _ => hc9; cases hc9))
section
open PyProof.Rows.LCg
namespace Mine
end Mine
end
local macro_rules | `(tactic| walk_at "my k_at") => `(tactic| first | exact NeA.ne (by with_reducible assumption) | exact Ne.symm (NeA.ne (by with_reducible assumption)) | exact Nat.ne_of_lt (by with_reducible assumption) | exact Nat.ne_of_gt (by with_reducible assumption))
section
open PyProof.Rows.LCg
namespace Mine
end Mine
end
local macro_rules | `(tactic| walk_at "my k_offA") => `(tactic| first | with_reducible assumption | exact trivial | (refine ⟨?a, ?b⟩; (case a => walk_at "my k_at"); (case b => walk_at "my k_offA")))
section
open PyProof.Rows.LCg
namespace Mine
theorem offD_of {L d l : Addr} {od ol : Obj} {h₀ h : Heap} {R : List (Addr × Obj)} (_N : News h₀ L h ((d, od) :: (l, ol) :: R)) (ho : LCg.Off1 d R) : LCg.Off1 d R := ho
theorem offL_of {L d l : Addr} {od ol : Obj} {h₀ h : Heap} {R : List (Addr × Obj)} (_N : News h₀ L h ((d, od) :: (l, ol) :: R)) (ho : LCg.Off1 l R) : LCg.Off1 l R := ho
theorem led_end {w : World} {h₀ h' : Heap} {L d l I C D : Addr} {m : Str → Option Value} {s₁ : Shared} {od ol od' ol' oI oC oD : Obj} {S : List (Addr × Obj) → Prop} {res : Value → Prop} {v : Value} {tk : Nat} {all R : List (Addr × Obj)} (F : Fr h₀ L h' m) (N : News h₀ L h' all) (hD : IsDeck w d l od' ol')
    (sub : ∀ p ∈ (I, oI) :: (C, oC) :: (D, oD) :: (d, od') :: (l, ol') :: R, p ∈ all) (off : LCg.Off3 I C D ((d, od) :: (l, ol) :: R)) (hS : S ((d, od') :: (l, ol') :: R)) (hr : res v) :
    LCg.CompEnd h₀ L m s₁ I oI C oC D oD S (fun v news' => LedEl (fun c : Obj × Obj => (d, c.1) :: (l, c.2) :: R) (fun c => IsDeck w d l c.1 c.2) res v news') v { s₁ with heap := h', toks := tk } :=
  LCg.CompEnd.intro F N _ sub off hS ⟨(od', ol'), rfl, hD, hr⟩
theorem com_end {h₀ h' : Heap} {L c dx ax I C D : Addr} {m : Str → Option Value} {s₁ : Shared} {o p oI oC oD : Obj} {a : List UInt8} {its : Array Value} {k tk : Nat} {all led Rk : List (Addr × Obj)} (F : Fr h₀ L h' m) (N : News h₀ L h' all) (hC : ComObj a dx o p) (hl : ∀ q ∈ led, q.1 < dx) (hcd : @LT.lt Nat _ dx c)
    (hled : ∀ q ∈ (I, oI) :: (C, oC) :: (D, oD) :: Rk, q ∈ led) (hall : ∀ q ∈ (c, o) :: (dx, p) :: led, q ∈ all) (off : LCg.Off3 I C D Rk) (hm : (ax, ({ cls := .type "list", data := .seq its k } : Obj)) ∈ Rk) :
    LCg.CompEnd h₀ L m s₁ I oI C oC D oD (LCg.SrcAt h₀ ax its) (fun v news' => CEl a Rk v news') (.ref c) { s₁ with heap := h', toks := tk } := by
  have lI := hl _ (hled _ (.head _))
  have lC := hl _ (hled _ (.tail _ (.head _)))
  have lD := hl _ (hled _ (.tail _ (.tail _ (.head _))))
  dsimp only at lI lC lD
  have off2 : LCg.Off3 I C D ((c, o) :: (dx, p) :: Rk) := ⟨⟨Nat.ne_of_gt (Nat.lt_trans lI hcd), Nat.ne_of_gt (Nat.lt_trans lC hcd), Nat.ne_of_gt (Nat.lt_trans lD hcd)⟩, ⟨Nat.ne_of_gt lI, Nat.ne_of_gt lC, Nat.ne_of_gt lD⟩, off⟩
  refine LCg.CompEnd.intro F N ((c, o) :: (dx, p) :: Rk) (fun q hq => ?_) off2 (.inr ⟨_, .tail _ (.tail _ hm), rfl, _, rfl⟩) ⟨c, dx, o, p, rfl, rfl, hC, fun q hq => hl q (hled q (.tail _ (.tail _ (.tail _ hq)))), hcd⟩
  simp only [List.mem_cons] at hq
  rcases hq with rfl | rfl | rfl | rfl | rfl | hq
  · exact hall _ (.tail _ (.tail _ (hled _ (.head _))))
  · exact hall _ (.tail _ (.tail _ (hled _ (.tail _ (.head _)))))
  · exact hall _ (.tail _ (.tail _ (hled _ (.tail _ (.tail _ (.head _))))))
  · exact hall _ (.head _)
  · exact hall _ (.tail _ (.head _))
  · exact hall _ (.tail _ (.tail _ (hled _ (.tail _ (.tail _ (.tail _ hq))))))
section
variable {prog : Program} {w : World} {A : Around} {E : Value → Shared → Prop} {s : Shared} {Q : Value → Shared → Prop} {h₀ : Heap} {L D : Addr} {m : Str → Option Value} {news : List (Addr × Obj)}
theorem bytes_drawn {n j : Nat} {cs : List Nat} {vs : List Value} (F : Fr h₀ L s.heap m) (N : News h₀ L s.heap news) (hh : A.handled = none) (hm : (D, listOf vs.toArray n) ∈ news) (hr : Rel2 (fun (c : Nat) v => ∃ t, v = .int (c : Int) t) cs vs) (hlt : ∀ k ∈ cs, k < 256) (hn : cs.length = j) (hj : j ≤ 64)
    (h : ∀ (oid : List UInt8) h' t' k, oid.length ≤ 64 → Fr h₀ L h' m → News h₀ L h' news → Q (.bytes oid.toArray t') { s with heap := h', toks := k }) : wpAny (model prog w) A (call (.type "bytes") [.ref D]) Q E s :=
  bytes_nats F N hh hm hr hlt (by omega) fun h' t' k F' N' => h _ h' t' k (by rw [List.length_map]; omega) F' N'
theorem bytes_four {n : Nat} {r : Int} {t1 t2 t3 t4 : Tok} (F : Fr h₀ L s.heap m) (N : News h₀ L s.heap news) (hh : A.handled = none) (hm : (D, listOf #[.int 171 t1, .int 205 t2, .int r t3, .int 9 t4] n) ∈ news) (h0 : 0 ≤ r) (h1 : r < 256)
    (h : ∀ (pa : List UInt8) h' t' k, pa.length ≤ 64 → Fr h₀ L h' m → News h₀ L h' news → Q (.bytes pa.toArray t') { s with heap := h', toks := k }) : wpAny (model prog w) A (call (.type "bytes") [.ref D]) Q E s := by
  obtain ⟨c, rfl⟩ := Int.eq_ofNat_of_zero_le h0
  exact bytes_nats (cs := [171, 205, c, 9]) (vs := [.int 171 t1, .int 205 t2, .int (c : Int) t3, .int 9 t4]) F N hh hm (.cons ⟨_, rfl⟩ (.cons ⟨_, rfl⟩ (.cons ⟨_, rfl⟩ (.cons ⟨_, rfl⟩ .nil)))) (by intro k hk; simp only [List.mem_cons, List.not_mem_nil, or_false] at hk; omega) (by show 4 ≤ 4096; decide) fun h' t' k F' N' => h _ h' t' k (by rw [List.length_map]; show 4 ≤ 64; decide) F' N'
end
theorem src_at {h₀ : Heap} {ax : Addr} {its : Array Value} {k : Nat} {a b : Addr × Obj} {R : List (Addr × Obj)} (hm : (ax, ({ cls := .type "list", data := .seq its k } : Obj)) ∈ R) : LCg.SrcAt h₀ ax its (a :: b :: R) := .inr ⟨_, .tail _ (.tail _ hm), rfl, _, rfl⟩
theorem deck_ne {w : World} {d l D : Addr} {od ol : Obj} {led : List (Addr × Obj)} (_hdk : IsDeck w d l od ol) (o : LCg.Off1 D led) (h1 : (d, od) ∈ led) (h2 : (l, ol) ∈ led) : NeA d D ∧ NeA l D := ⟨⟨off1_ne o _ h1⟩, ⟨off1_ne o _ h2⟩⟩
theorem deck_coms {w : World} {d l dx1 c1 dx2 c2 : Addr} {od ol : Obj} {led : List (Addr × Obj)} (_hdk : IsDeck w d l od ol) (hl : ∀ q ∈ led, q.1 < dx1) (lt1 : @LT.lt Nat _ dx1 c1) (lt2 : @LT.lt Nat _ c1 dx2) (lt3 : @LT.lt Nat _ dx2 c2) (h1 : (d, od) ∈ led) (h2 : (l, ol) ∈ led) :
    NeA d dx1 ∧ NeA d c1 ∧ NeA d dx2 ∧ NeA d c2 ∧ NeA l dx1 ∧ NeA l c1 ∧ NeA l dx2 ∧ NeA l c2 := by
  have k1 : @LT.lt Nat _ d dx1 := hl _ h1
  have k2 : @LT.lt Nat _ l dx1 := hl _ h2
  have a1 := Nat.lt_trans k1 lt1
  have a2 := Nat.lt_trans a1 lt2
  have a3 := Nat.lt_trans a2 lt3
  have b1 := Nat.lt_trans k2 lt1
  have b2 := Nat.lt_trans b1 lt2
  have b3 := Nat.lt_trans b2 lt3
  exact ⟨⟨Nat.ne_of_lt k1⟩, ⟨Nat.ne_of_lt a1⟩, ⟨Nat.ne_of_lt a2⟩, ⟨Nat.ne_of_lt a3⟩, ⟨Nat.ne_of_lt k2⟩, ⟨Nat.ne_of_lt b1⟩, ⟨Nat.ne_of_lt b2⟩, ⟨Nat.ne_of_lt b3⟩⟩
open By in
theorem law_lend (w : World) (l : Addr) (vs : List Value) (n : Nat) (sj rs : List (List UInt8)) (many : Nat) (news : List (Addr × Obj)) (hm : MsgOk sj rs many) (hrl : (l, listOf vs.toArray n) ∈ news) (hbs : BsAre vs (sj ++ rs)) : Says w 303 1 [.ref l] news (RB (By.lend (sj ++ rs)) news) := by
  have h := msg_size hm
  exact says_lend w l vs n (sj ++ rs) news hrl hbs (msg_short hm) (by rw [List.length_append]; omega)
section
variable {prog : Program} {w : World} {A : Around} {E : Value → Shared → Prop} {s : Shared} {h₀ : Heap} {L a b q : Addr} {m : Str → Option Value} {news news' : List (Addr × Obj)} {vs ws : List Value} {sj rs : List (List UInt8)} {n n2 many : Nat} {Q : Value → Shared → Prop}
theorem law_add (F : Fr h₀ L s.heap m) (N : News h₀ L s.heap news) (hm : By.MsgOk sj rs many) (ha : (a, listOf vs.toArray n) ∈ news) (hb : (b, listOf ws.toArray n2) ∈ news) (h1 : BsAre vs sj) (h2 : BsAre ws rs)
    (h : ∀ D us h', Fr h₀ L h' m → News h₀ L h' ((D, listOf us.toArray 0) :: news) → BsAre us (sj ++ rs) → Q (.ref D) { s with heap := h' }) : wpAny (model prog w) A (binaryOp .Add (.ref a) (.ref b)) Q E s := by
  have hz := By.msg_size hm
  exact add_L F N ha hb h1 h2 (by omega) fun D us h' F' N' _ hB => h D us h' F' N' hB
theorem law_list (F : Fr h₀ L s.heap m) (N : News h₀ L s.heap news) (X : (hd.heap_1 w.params).In h₀) (hq : KTup w q sj) (hm : By.MsgOk sj rs many)
    (h : ∀ D us k h', Fr h₀ L h' m → News h₀ L h' ((D, listOf us.toArray k) :: news) → BsAre us sj → Q (.ref D) { s with heap := h' }) : wpAny (model prog w) A (call (.type "list") [.ref q]) Q E s := by
  have hz := By.msg_size hm
  exact list_T F N X hq (by omega) fun D us k h' F' N' _ hB => h D us k h' F' N' hB
end
theorem menu_word {prog : Program} {w : World} {A : Around} {E : Value → Shared → Prop} {s : Shared} {h₀ : Heap} {L q q1 q2 q3 q4 : Addr} {news : List (Addr × Obj)} {Q : Value → Shared → Prop} {value slice : Expr} {r : Int} {t t2 t3 t4 u2 u3 u4 : Tok} {wd : Str} {b2 b3 b4 : List UInt8}
    (N : News h₀ L s.heap news) (hm : (q, tupO [.ref q1, .ref q2, .ref q3, .ref q4]) ∈ news) (h0 : 0 ≤ r) (h1 : r < 4)
    (m2 : (q2, tupO [.str wd t2, .bytes b2.toArray u2]) ∈ news) (m3 : (q3, tupO [.str wd t3, .bytes b3.toArray u3]) ∈ news) (m4 : (q4, tupO [.str wd t4, .bytes b4.toArray u4]) ∈ news)
    (hs : Q (.ref q1) s) (hf : ∀ (q' : Addr) (t u : Tok) (b : List UInt8), (q', tupO [.str wd t, .bytes b.toArray u]) ∈ news → Q (.ref q') s)
    (hsub : subscripted slice false (.ref q) (.int r t) = operate [.ref q, .int r t] (getItem (.ref q) (.int r t)) := by with_unfolding_all rfl) : wpAny (model prog w) A (subscriptTail value slice (.ref q) (.int r t)) Q E s := by
  have ht : IsTup s.heap q ([.ref q1, .ref q2, .ref q3, .ref q4] : List Value).toArray := ⟨_, (N _ hm).1, rfl, _, rfl⟩
  have hr : r = 0 ∨ r = 1 ∨ r = 2 ∨ r = 3 := by omega
  rcases hr with rfl | rfl | rfl | rfl
  · exact item_tupleT (j := 0) ht (by decide) (by decide) (by rfl) (by rfl) hs hsub
  · exact item_tupleT (j := 1) ht (by decide) (by decide) (by rfl) (by rfl) (hf _ _ _ _ m2) hsub
  · exact item_tupleT (j := 2) ht (by decide) (by decide) (by rfl) (by rfl) (hf _ _ _ _ m3) hsub
  · exact item_tupleT (j := 3) ht (by decide) (by decide) (by rfl) (by rfl) (hf _ _ _ _ m4) hsub
section
variable {prog : Program} {w : World} {A : Around} {E : Value → Shared → Prop} {h₀ : Heap} {env : Env} {target : Expr} {body : List Stmt} {Q : Flow → Shared → Prop} {s : Shared} {ws : List (Addr × String)} {keep : List (Addr × Obj)} {m : Str → Option Value} {news : List (Addr × Obj)}
theorem items_nil (h : ∀ h tk, Fr h₀ env.locals h m → News h₀ env.locals h news → Q .next { s with heap := h, toks := tk }) : ItemsRest prog w A E h₀ env target body Q s ws keep (List.map Itm.val []) m news := ItemsRest.zero h
theorem items_cons {v : Value} {r : List Value}
    (h : ∀ h tk, Fr h₀ env.locals h m → AllObj ws (fun its => News h₀ env.locals h (its ++ news) →
      wpAny (model prog w) A (assign target env v) (fun _ s₂ => wpAny (model prog w) A (execs body env) (UnrPostW h₀ env.locals { s with heap := h, toks := tk } its (fun m' n' => SubL keep n' ∧ ItemsRest prog w A E h₀ env target body Q s ws keep (List.map Itm.val r) m' n') Q) E s₂) E { s with heap := h, toks := tk })) :
    ItemsRest prog w A E h₀ env target body Q s ws keep (List.map Itm.val (v :: r)) m news := ItemsRest.val h
end
end Mine
end
section
open PyProof.Rows.LCg
namespace Mine
def MEl (a : List UInt8) (R : List (Addr × Obj)) (v : Value) (news' : List (Addr × Obj)) : Prop := news' = R ∧ ∃ t : Tok, v = .bytes a.toArray t
theorem MEl.of {a : List UInt8} {R : List (Addr × Obj)} {t : Tok} : MEl a R (.bytes a.toArray t) R := ⟨rfl, t, rfl⟩
section
variable {prog : Program} {w : World} {A : Around} {h₀ : Heap} {L : Addr} {m : Str → Option Value} {env : Env} {elt : Expr} {x : Str} {scope : Scope} {cl : List (Str × Addr)} {s₁ : Shared} {Fin : Shared → List Value → List (Addr × Obj) → Prop}
theorem msg_comp {ax c1 c2 : Addr} {a1 a2 : List UInt8} {R : List (Addr × Obj)} {k : Nat} (hh : A.handled = none) (F : Fr h₀ L s₁.heap m) (N : News h₀ L s₁.heap R) (hm : (ax, ({ cls := .type "list", data := .seq #[.ref c1, .ref c2] k } : Obj)) ∈ R) (hc1 : IsCom R c1 a1) (hc2 : IsCom R c2 a2)
    (turn : ∀ (c : Addr) (a : List UInt8) I oI C oC D m₂ ys h tk (E' : Value → Shared → Prop), IsCom R c a → LCg.NsObj oC m₂ → m₂ x = some (.ref c) → Fr h₀ L h m → News h₀ L h ((I, oI) :: (C, oC) :: (D, LCg.lst ys) :: R) → LCg.Off3 I C D R → ((@Ne Nat I C) ∧ (@Ne Nat I D) ∧ (@Ne Nat C D)) →
      wpAny (model prog w) A (eval elt (compEnvC scope cl C env)) (LCg.CompEnd h₀ L m { s₁ with heap := h, toks := tk } I oI C oC D (LCg.lst ys) (LCg.SrcAt h₀ ax #[.ref c1, .ref c2]) (fun v news' => MEl a R v news')) E' { s₁ with heap := h, toks := tk })
    (fin : ∀ (t1 t2 : Tok) g, Fin { s₁ with heap := g } [.bytes a1.toArray t1, .bytes a2.toArray t2] R) :
    LCg.CompSrc prog w A h₀ L m env elt x scope cl Fin (.ref ax) s₁ := by
  refine LCg.CompSrc.ledger hh F N hm (by rw [sizeLine_eq]; show 2 ≤ _; decide) fun g => ?_
  show LCg.CompRest prog w A h₀ L m env elt x scope cl { s₁ with heap := g } _ _ _ 2 0 [] R
  refine LCg.CompRest.succ fun v I oI C oC D m₂ h tk E' hv hC hx F' N' off ne => ?_
  cases hv
  refine wpAny_mono (turn c1 a1 I oI C oC D m₂ [] h tk E' hc1 hC hx F' N' off ne) (fun y s₂ hq => ?_) fun _ _ e => e
  obtain ⟨h1', tk1', nw1, e1, F1, N1, off1, hS1, hn1, t1, rfl⟩ := hq
  rw [hn1] at N1 off1 hS1
  refine ⟨h1', tk1', _, e1, F1, N1, off1, hS1, ?_⟩
  refine LCg.CompRest.succ fun v I oI C oC D m₂ h tk E' hv hC hx F' N' off ne => ?_
  cases hv
  refine wpAny_mono (turn c2 a2 I oI C oC D m₂ _ h tk E' hc2 hC hx F' N' off ne) (fun y s₂ hq => ?_) fun _ _ e => e
  obtain ⟨h2', tk2', nw2, e2, F2, N2, off2, hS2, hn2, t2, rfl⟩ := hq
  rw [hn2] at N2 off2 hS2
  refine ⟨h2', tk2', _, e2, F2, N2, off2, hS2, ?_⟩
  exact LCg.CompRest.zero (fin t1 t2 g)
end
section
variable {prog : Program} {w : World} {A : Around} {E : Value → Shared → Prop} {s : Shared} {h₀ : Heap} {L x y : Addr} {news : List (Addr × Obj)} {Q : Value → Shared → Prop} {a1 a2 : List UInt8} {t1 t2 u1 u2 : Tok} {n k : Nat}
theorem eq_two (N : News h₀ L s.heap news) (h1 : (x, listOf #[.bytes a1.toArray t1, .bytes a2.toArray t2] n) ∈ news) (h2 : (y, listOf #[.bytes a1.toArray u1, .bytes a2.toArray u2] k) ∈ news) (hu : A.units < cLine) (h : Q (.bool true) s) :
    wpAny (model prog w) A (compareOp .Eq (.ref x) (.ref y)) Q E s := by
  have eqs : ∀ {A : Around} (b : List UInt8) (t u : Tok), SeqAt.EqAt A s (.bytes b.toArray t) (.bytes b.toArray u) true := fun b t u => by
    have := eqAt_bytes (A := ‹_›) (s := s) (b := b) (c := b) (t := t) (u := u)
    rwa [beq_self_eq_true] at this
  refine SeqAt.eq_listAt (e := fun _ => true) (N.isList h1) (N.isList h2) rfl hu (fun j j1 j2 => ?_) h
  match j, j1, j2 with
  | 0, _, _ => exact eqs a1 t1 u1
  | 1, _, _ => exact eqs a2 t2 u2
  | j + 2, j1, _ => exact absurd j1 (by show ¬ j + 2 < 2; omega)
end
end Mine
end
section
namespace Mine
inductive WordV : Str → List UInt8 → Prop
  | squash : WordV (Str.ofString "squash") []
  | fixup {b : List UInt8} : WordV (Str.ofString "fixup") b
def By.ljW (wd : Str) (sign elder mine whole : List UInt8) : List UInt8 := if wd = Str.ofString "squash" then By.ljoinS elder mine else By.ljoinF sign mine whole
theorem By.ljW_s {sign elder mine whole : List UInt8} : By.ljW (Str.ofString "squash") sign elder mine whole = By.ljoinS elder mine := if_pos rfl
theorem By.ljW_f {sign elder mine whole : List UInt8} : By.ljW (Str.ofString "fixup") sign elder mine whole = By.ljoinF sign mine whole := if_neg (by decide)
open By
section
variable {sj rs sj2 rs2 : List (List UInt8)} {many many2 : Nat} {a b : List UInt8}
theorem law_join (w : World) (st e c : Addr) (b a : List UInt8) (wd : Str) (sign : List UInt8) (news : List (Addr × Obj)) (hm : Msg sj rs many b) (hm2 : Msg sj2 rs2 many2 a) (hst : IsStep news st wd sign) (hel : IsCom news e b) (hcom : IsCom news c a) (hw : WordV wd sign) : Says w 249 6 [.ref st, .ref e, .ref c] news (RB (By.ljW wd sign (lend (sj ++ rs)) (lbare sj2 rs2) b) news) := by
  cases hw with
  | squash => rw [By.ljW_s]; exact law_joinS w st e c b a news hm hm2 hst hel hcom
  | fixup => rw [By.ljW_f]; exact law_joinF w st e c b a _ news hm hm2 hst hel hcom
theorem law_ljoin (w : World) (wd : Str) (sign elder mine whole : List UInt8) (t1 t2 t3 t4 t5 : Tok) (news : List (Addr × Obj)) (he : elder.length ≤ 100000) (hm : mine.length ≤ 100000) (hw : WordV wd sign) : Says w 331 1 [.str wd t1, .bytes sign.toArray t2, .bytes elder.toArray t3, .bytes mine.toArray t4, .bytes whole.toArray t5] news (RB (By.ljW wd sign elder mine whole) news) := by
  cases hw with
  | squash => rw [By.ljW_s]; exact says_ljoinS w [] elder mine whole t1 t2 t3 t4 t5 news he hm
  | fixup => rw [By.ljW_f]; exact says_ljoinF w sign elder mine whole t1 t2 t3 t4 t5 news he hm
end
section
variable {prog : Program} {w : World} {A : Around} {E : Value → Shared → Prop} {s : Shared} {h₀ : Heap} {L : Addr} {m : Str → Option Value} {Q : Value → Shared → Prop} {d l : Addr} {od ol : Obj} {R all : List (Addr × Obj)} {x : Sem Value}
def ParPost (w : World) (d l : Addr) (R : List (Addr × Obj)) (h₀ : Heap) (L : Addr) (m : Str → Option Value) (s : Shared) (v : Value) (s' : Shared) : Prop :=
  ∃ od ol g tk p, s' = { s with heap := g, toks := tk } ∧ IsDeck w d l od ol ∧ Fr h₀ L g m ∧ News h₀ L g ((d, od) :: (l, ol) :: R) ∧ ParV v p
theorem par_eval (_F : Fr h₀ L s.heap m) (_hD : IsDeck w d l od ol) (_N : News h₀ L s.heap ((d, od) :: (l, ol) :: R)) (turn : wpAny (model prog w) A x (ParPost w d l R h₀ L m s) E s)
    (fin : ∀ v p od' ol' g tk, ParV v p → IsDeck w d l od' ol' → Fr h₀ L g m → News h₀ L g ((d, od') :: (l, ol') :: R) → Q v { s with heap := g, toks := tk }) : wpAny (model prog w) A x Q E s :=
  wpAny_mono turn (fun v s' hq => by
    obtain ⟨od', ol', g, tk, p, rfl, hD, F, N, hp⟩ := hq
    exact fin v p od' ol' g tk hp hD F N) fun _ _ e => e
theorem par_none {h' : Heap} {tk : Nat} {s₁ : Shared} (F : Fr h₀ L h' m) (N : News h₀ L h' all) (hD : IsDeck w d l od ol) (sub : ∀ p ∈ (d, od) :: (l, ol) :: R, p ∈ all) : ParPost w d l R h₀ L m s₁ .none { s₁ with heap := h', toks := tk } :=
  ⟨_, _, _, _, _, rfl, hD, F, fun p hp => N p (sub p hp), .none⟩
theorem par_some {h' : Heap} {tk : Nat} {s₁ : Shared} {pa : List UInt8} {t : Tok} (F : Fr h₀ L h' m) (N : News h₀ L h' all) (hD : IsDeck w d l od ol) (sub : ∀ p ∈ (d, od) :: (l, ol) :: R, p ∈ all) (h : pa.length ≤ 64) : ParPost w d l R h₀ L m s₁ (.bytes pa.toArray t) { s₁ with heap := h', toks := tk } :=
  ⟨_, _, _, _, _, rfl, hD, F, fun p hp => N p (sub p hp), .some h⟩
end
theorem menu_words {prog : Program} {w : World} {A : Around} {E : Value → Shared → Prop} {s : Shared} {h₀ : Heap} {L q q1 q2 q3 q4 : Addr} {news : List (Addr × Obj)} {Q : Value → Shared → Prop} {value slice : Expr} {r : Int} {t t1 t2 t3 t4 u1 u2 u3 u4 : Tok} {b2 b3 b4 : List UInt8}
    (N : News h₀ L s.heap news) (hm : (q, tupO [.ref q1, .ref q2, .ref q3, .ref q4]) ∈ news) (h0 : 0 ≤ r) (h1 : r < 4) (m1 : (q1, tupO [.str (Str.ofString "squash") t1, .bytes (List.toArray []) u1]) ∈ news)
    (m2 : (q2, tupO [.str (Str.ofString "fixup") t2, .bytes b2.toArray u2]) ∈ news) (m3 : (q3, tupO [.str (Str.ofString "fixup") t3, .bytes b3.toArray u3]) ∈ news) (m4 : (q4, tupO [.str (Str.ofString "fixup") t4, .bytes b4.toArray u4]) ∈ news)
    (hf : ∀ (q' : Addr) (wd : Str) (t u : Tok) (b : List UInt8), (q', tupO [.str wd t, .bytes b.toArray u]) ∈ news → WordV wd b → Q (.ref q') s)
    (hsub : subscripted slice false (.ref q) (.int r t) = operate [.ref q, .int r t] (getItem (.ref q) (.int r t)) := by with_unfolding_all rfl) : wpAny (model prog w) A (subscriptTail value slice (.ref q) (.int r t)) Q E s :=
  menu_word N hm h0 h1 m2 m3 m4 (hf _ _ _ _ _ m1 .squash) (fun q' t u b hq => hf q' _ t u b hq .fixup) hsub
end Mine
end
section
namespace Mine
theorem tail_out {w : World} {d l L : Addr} {od ol : Obj} {h₀ h : Heap} {R : List (Addr × Obj)} (_hD : IsDeck w d l od ol) (N : News h₀ L h ((d, od) :: (l, ol) :: R)) (o1 : LCg.Off1 d R) (o2 : LCg.Off1 l R) :
    ∃ R9, (∀ p ∈ R, p ∈ R9) ∧ News h₀ L h ((d, od) :: (l, ol) :: R9) ∧ LCg.Off1 d R9 ∧ LCg.Off1 l R9 := ⟨R, fun _ hp => hp, N, o1, o2⟩
theorem UnrEndY {h₀ : Heap} {L i : Addr} {o : Obj} {rest : (Str → Option Value) → List (Addr × Obj) → Prop} {s₁ : Shared} {h' : Heap} {tk : Nat} {m' : Str → Option Value} {news' : List (Addr × Obj)} (F : Fr h₀ L h' m') (N : News h₀ L h' ((i, o) :: news')) (off : ∀ p ∈ news', p.1 ≠ i) (r : rest m' news') : UnrEndW h₀ L s₁ [(i, o)] rest { s₁ with heap := h', toks := tk } :=
  UnrEndX news' F N (fun _ hp => hp) off r
end Mine
end
section
namespace Mine
local macro_rules | `(tactic| k_mem) => `(tactic| first | exact List.Mem.head _ | with_reducible_and_instances assumption | (refine' List.Mem.tail _ ?_; k_mem))
set_option maxRecDepth 100000 in
set_option maxHeartbeats 8000000 in
theorem law_holds : PySem.Challenge.rw_pb0111_01.Holds := hd (by
  k_with_none
  k_with "call ref" => (walk_at "my k_gate"; (with_reducible show wpAny _ _ (call (Value.ref _) _) _ _ _); refine Held.out ?_)
  k_with "call ref" => ((with_reducible show wpAny _ _ (call (Value.ref 293) _) _ _ _); refine Held.out ?_)
  k_with "my subs" => first | exact fun p hp => hp | (refine sub_tail ?_; walk_at "my subs")
  k_with "my df" => ((try dsimp only); (try k_fold))
  k_with "my back" => first | ((with_reducible rename RB _ _ _ _ => R9q); obtain ⟨⟨t9q, e9q⟩, e9'q⟩ := R9q; subst e9q e9'q; walk_at "my df") | ((with_reducible rename RL _ _ _ _ => R9q); obtain ⟨l9q, vs9q, k9q, e9q, hB9q, e9'q, hl9q⟩ := R9q; subst e9q e9'q; have hZ9q := hB9q.length; (try simp only [LCg.Off1, and_true] at hl9q); walk_at "my df") | ((with_reducible rename RSubj _ _ _ _ => R9q); obtain ⟨q9q, t9q, t9'q, e9q, e9'q, hl9q⟩ := R9q; subst e9q e9'q; (try simp only [LCg.Off1, and_true] at hl9q); walk_at "my df") | ((with_reducible rename RSome _ _ _ _ => R9q); obtain ⟨⟨x9q, t9q, e9q, hx9q⟩, e9'q⟩ := R9q; subst e9q e9'q; walk_at "my df") | ((with_reducible rename RTrail _ _ _ _ => R9q); rcases R9q with ⟨hT9q, e9q, e9'q⟩ | ⟨key9q, q9q, t9q, t9'q, x9q, hT9q, e9q, e9'q, hl9q⟩ <;> (subst e9q e9'q; (try simp only [LCg.Off1, and_true] at hl9q); walk_at "my df")) | ((with_reducible rename RLen _ _ _ _ => R9q); obtain ⟨l9q, xs9q, k9q, e9q, hx9q, e9'q, hl9q⟩ := R9q; subst e9q e9'q; (try simp only [LCg.Off1, and_true] at hl9q); walk_at "my df") | ((with_reducible rename RStr _ _ _ _ => R9q); obtain ⟨⟨t9q, e9q⟩, e9'q⟩ := R9q; subst e9q e9'q; walk_at "my df") | ((with_reducible rename RMark _ _ _ _ => R9q); rcases R9q with ⟨hM9q, e9q, e9'q⟩ | ⟨hM9q, q9q, o9q, e9q, e9'q, hl9q⟩ <;> (subst e9q e9'q; (try simp only [LCg.Off1, and_true] at hl9q); walk_at "my df")) | ((with_reducible rename RStp _ _ _ _ _ => R9q); obtain ⟨c9q, dx9q, o9q, p9q, e9q, e9'q, hst9q⟩ := R9q; subst e9q e9'q; walk_at "my df") | ((with_reducible rename RCom _ _ _ _ => R9q); obtain ⟨c9q, dx9q, o9q, p9q, e9q, e9'q, hC9q, hl9q, hcd9q⟩ := R9q; subst e9q e9'q; walk_at "my df")
  k_with "my side" => first | with_reducible assumption | omega | exact Nat.le_trans (By.sl_len _ _ _) (by omega) | exact IsCom.sub (by with_reducible assumption) (by walk_at "my subs") | exact fun k hk => Nat.lt_trans (By.hexCodes_lt k hk) (by decide) | exact Nat.le_trans (By.subjB_len _) (by omega)
  k_with "call ref" => (k_here; k_dflt (refine' says_use ?zqc ?zqk1 ?zqk2 ?zqk3 ?zqk4 ?zqk5 ?zqkK ?zqkd ?zqku ?_; (case zqk1 => k_asm); (case zqk2 => k_asm); (case zqk3 => k_asm); (case zqk4 => k_asm); (case zqk5 => k_asm); (case zqc => walk_at "my contract"); (case zqkK => first | exact rfl | assumption); (case zqkd => first | ktr_room | decide); (case zqku => first | ktr_units | decide); intro v9q n9q h9q tk9q F9q N9q R9q; walk_at "my back"))
  k_with "call ref" => (k_here; (with_reducible show wpAny _ _ (call (Value.ref 281) [Value.ref _, Value.int _ _]) _ _ _); walk_at "my k_atoms"; k_dflt (refine' draw_use ?zqD ?zqk1 ?zqk2 ?zqk3 ?zqk4 ?zqk5 ?zqsub ?zqo1 ?zqo2 ?zqhm ?zqhm2 ?zqkK ?zqkd ?zqku ?_; (case zqk1 => k_asm); (case zqk2 => k_asm); (case zqk3 => k_asm); (case zqk4 => k_asm); (case zqk5 => k_asm); (case zqD => with_reducible assumption); (case zqsub => walk_at "my deck_sub"); (case zqo1 => walk_at "my k_offA"); (case zqo2 => walk_at "my k_offA"); (case zqhm => decide); (case zqhm2 => decide); (case zqkK => first | exact rfl | assumption); (case zqkd => first | ktr_room | decide); (case zqku => first | ktr_units | decide); intro r9q t9q od9q ol9q h9q tk9q hr0 hr1 hdk9q F9q N9q; (try dsimp only); (try k_fold)))
  k_with "call ref" => (k_here; (with_reducible show wpAny _ _ (call (Value.ref 293) [Value.ref _]) _ _ _); k_dflt (refine' msg_use ?zqD ?zqk1 ?zqk2 ?zqk3 ?zqk4 ?zqk5 ?zqsub ?zqo1 ?zqo2 ?zqkK ?zqkd ?zqku ?_; (case zqk1 => k_asm); (case zqk2 => k_asm); (case zqk3 => k_asm); (case zqk4 => k_asm); (case zqk5 => k_asm); (case zqD => with_reducible assumption); (case zqsub => walk_at "my deck_sub"); (case zqo1 => walk_at "my k_offA"); (case zqo2 => walk_at "my k_offA"); (case zqkK => first | exact rfl | assumption); (case zqkd => first | ktr_room | decide); (case zqku => first | ktr_units | decide); intro q9q sref9q rl9q vs9q k9q sj9q rs9q many9q t9q od9q ol9q h9q tk9q hkt9q hbs9q hmo9q hdk9q hne9q F9q N9q; (obtain ⟨hn1, hn2, hn3, hn4⟩ := hne9q); (replace hn1 := NeA.mk hn1); (replace hn2 := NeA.mk hn2); (replace hn3 := NeA.mk hn3); (replace hn4 := NeA.mk hn4); (try dsimp only); (try k_fold)))
  k_with "call ref" => (k_here; (with_reducible show wpAny _ _ (call (Value.ref 298) [Value.ref _, Value.ref _, Value.ref _]) _ _ _); k_dflt (refine' law_oct ?zqD ?zqk1 ?zqk2 ?zqk3 ?zqk4 ?zqk5 ?zqsub ?zqo1 ?zqo2 ?zqkt ?zqrl ?zqbs ?zqhm ?zqkK ?zqkd ?zqku ?_; (case zqk1 => k_asm); (case zqk2 => k_asm); (case zqk3 => k_asm); (case zqk4 => k_asm); (case zqk5 => k_asm); (case zqD => with_reducible assumption); (case zqsub => walk_at "my deck_sub"); (case zqo1 => walk_at "my k_off"); (case zqo2 => walk_at "my k_off"); (case zqkt => with_reducible assumption); (case zqrl => k_mem); (case zqbs => with_reducible assumption); (case zqhm => with_reducible assumption); (case zqkK => first | exact rfl | assumption); (case zqkd => first | ktr_room | decide); (case zqku => first | ktr_units | decide); intro a9q t9q od9q ol9q h9q tk9q hms9q hdk9q F9q N9q; (try dsimp only); (try k_fold)))
  k_with "call type:bytes" => (k_here; (with_reducible show wpAny _ _ (call (Value.type "bytes") [Value.ref _]) _ _ _); k_dflt (refine bytes_four (by k_asm) (by k_asm) (by rfl) (by k_mem) (by with_reducible assumption) (by with_reducible assumption) ?_); intro pa9q h9q t9q k9q hpa9q F9q N9q; (try dsimp only); (try k_fold))
  k_with "call type:bytes" => (k_here; (with_reducible show wpAny _ _ (call (Value.type "bytes") [Value.ref _]) _ _ _); k_dflt (refine bytes_drawn (by k_asm) (by k_asm) (by rfl) (by k_mem) (by with_reducible assumption) (by with_reducible assumption) (by with_reducible assumption) (by decide) ?_); intro oid9q h9q t9q k9q ho9q F9q N9q; (try dsimp only); (try k_fold))
  k_with "FinE" => (walk_at "my k_gate"; refine Held.out ?_)
  k_with "subscriptTail Name Constant ref int" => (k_here; (with_reducible show wpAny _ _ (subscriptTail _ _ (Value.ref _) (Value.int _ _)) _ _ _); k_dflt (refine lst_item (by k_asm) (by k_mem) (by decide) (by decide) (by rfl) ?_))
  k_with "subscriptTail Name Constant ref int" => (k_here; (with_reducible show wpAny _ _ (subscriptTail (Expr.Name (Str.ofString "lot") _) _ (Value.ref _) (Value.int _ _)) _ _ _); k_dflt (refine tup_item (by k_asm) (by with_reducible_and_instances k_mem) (by decide) (by decide) (by rfl) (by rfl) ?_))
  k_with "subscriptTail Name Name ref int" => (k_here; (with_reducible show wpAny _ _ (subscriptTail _ _ (Value.ref _) (Value.int _ _)) _ _ _); k_dflt (refine lst_item (by k_asm) (by k_mem) (by decide) (by decide) (by rfl) ?_))
  k_with "subscriptTail Subscript Constant ref int" => (k_here; (with_reducible show wpAny _ _ (subscriptTail _ _ (Value.ref _) (Value.int _ _)) _ _ _); k_dflt (refine tup_item (by k_asm) (by with_reducible_and_instances k_mem) (by decide) (by decide) (by rfl) (by rfl) ?_))
  k_with "subscriptTail Subscript Name Constant Constant ref int" => (k_here; (with_reducible show wpAny _ _ (subscriptTail _ _ (Value.ref _) (Value.int _ _)) _ _ _); k_dflt (refine tup_item (by k_asm) (by with_reducible_and_instances k_mem) (by decide) (by decide) (by rfl) (by rfl) ?_))
  k_with "CompSrc" => (walk_at "my k_gate"; refine Held.out ?_)
  k_with "CompEnd" => (walk_at "my k_gate"; refine Held.out ?_)
  k_with "FinA" => (walk_at "my k_gate"; refine Held.out ?_)
  k_with "CompRest" => (walk_at "my k_gate"; with_unfolding_all first | (refine LCg.CompRest.succ ?_; intro v'q I'q oI'q C'q oC'q D'q m'q h'q tk'q E'q hv'q hC'q hx'q F'q N'q off'q ne'q; (first | lcg_open hv'q | (obtain ⟨t9'q, hv9'q⟩ := hv'q; subst hv9'q))) | refine LCg.CompRest.zero ?_)
  k_with "my as" => with_reducible assumption
  k_with "my icom" => (refine' IsCom.of ?zqhC ?zqh1 ?zqh2; (case zqh1 => k_mem); (case zqhC => walk_at "my as"); (case zqh2 => k_mem))
  k_with "my contract" => ((with_reducible refine' law_pick _ _ _ _ _ _ ?zqhm ?zqhc ?zqho); (case zqhc => walk_at "my icom"); (case zqhm => walk_at "my as"); (case zqho => walk_at "my as"))
  k_with "my contract" => ((with_reducible refine' law_rev _ _ _ _ _ _ _ _ ?zqhm ?zqhc ?zqho ?zqhp); (case zqhc => walk_at "my icom"); (case zqhm => walk_at "my as"); (case zqho => walk_at "my as"); (case zqhp => walk_at "my as"))
  k_with "my contract" => ((with_reducible refine' law_bare _ _ _ _ ?zqhm ?zqhc); (case zqhc => walk_at "my icom"); (case zqhm => walk_at "my as"))
  k_with "my contract" => ((with_reducible refine' law_lpick _ _ _ _ _ _ _ _ _ _ _ _ ?zqhm ?zqhkt ?zqhrl ?zqhbs ?zqho); (case zqhrl => k_mem); (case zqhkt => walk_at "my as"); (case zqhbs => walk_at "my as"); (case zqhm => walk_at "my as"); (case zqho => walk_at "my as"))
  k_with "my contract" => ((with_reducible refine' law_lrev _ _ _ _ _ _ _ _ _ _ ?zqhm ?zqhkt ?zqho ?zqhp); (case zqhkt => walk_at "my as"); (case zqhm => walk_at "my as"); (case zqho => walk_at "my as"); (case zqhp => walk_at "my as"))
  k_with "my contract" => ((with_reducible refine' law_lbare _ _ _ _ _ _ _ _ _ ?zqhm ?zqhkt ?zqhrl ?zqhbs); (case zqhrl => k_mem); (case zqhkt => walk_at "my as"); (case zqhbs => walk_at "my as"); (case zqhm => walk_at "my as"))
  k_with "my contract" => ((with_reducible refine' law_lend _ _ _ _ _ _ _ _ ?zqhm ?zqhrl ?zqhbs); (case zqhrl => k_mem); (case zqhbs => walk_at "my as"); (case zqhm => walk_at "my as"))
  k_with "my contract" => ((with_reducible refine' law_join _ _ _ _ _ _ _ _ _ ?zqhm ?zqhm2 ?zqhst ?zqhel ?zqhc ?zqhw); (case zqhst => walk_at "my as"); (case zqhel => walk_at "my icom"); (case zqhc => walk_at "my icom"); (case zqhm => walk_at "my as"); (case zqhm2 => walk_at "my as"); (case zqhw => walk_at "my as"))
  k_with "my contract" => ((with_reducible refine' law_ljoin _ _ _ _ _ _ _ _ _ _ _ _ ?zqhe ?zqhm ?zqhw); (case zqhw => walk_at "my as"); (case zqhe => first | omega | exact Nat.le_trans (By.msg_lend (by with_reducible assumption)) (by decide)); (case zqhm => first | omega | exact Nat.le_trans (By.msg_lbare (by with_reducible assumption)) (by decide)))
  k_with "my contract" => with_reducible first | exact says_commit _ _ _ _ _ _ _ _ | exact says_step _ _ _ _ _ _ _ _ _
  k_with "compareOp NotEq bytes bytes" => (k_here; (with_reducible show wpAny _ _ (compareOp CmpOp.NotEq (Value.bytes (List.toArray _) _) (Value.bytes (List.toArray _) _)) _ _ _); refine ne_same ?_)
  k_with "binaryOp Add ref ref" => (k_here; (with_reducible show wpAny _ _ (binaryOp Operator.Add (Value.ref _) (Value.ref _)) _ _ _); k_dflt (refine' law_add ?zqF ?zqN ?zqhm ?zqa ?zqb ?zqh1 ?zqh2 ?_; (case zqF => k_asm); (case zqN => k_asm); (case zqa => k_mem); (case zqb => k_mem); (case zqh1 => with_reducible assumption); (case zqh2 => with_reducible assumption); (case zqhm => with_reducible assumption)); intro D'q us'q h'q F'q N'q hB'q; (try dsimp only); (try k_fold))
  k_with "call type:list" => (k_here; (with_reducible show wpAny _ _ (call (Value.type "list") [Value.ref _]) _ _ _); k_dflt (refine' law_list ?zqF ?zqN ?zqX ?zqq ?zqhm ?_; (case zqF => k_asm); (case zqN => k_asm); (case zqX => k_in); (case zqq => with_reducible assumption); (case zqhm => with_reducible assumption)); intro D'q us'q k'q h'q F'q N'q hB'q; (try dsimp only); (try k_fold))
  k_with "ItemsRest" => (walk_at "my k_gate"; first | (with_reducible refine items_nil (fun h'q tk'q F'q N'q => ?_)) | ((with_reducible refine items_cons (fun h'q tk'q F'q => ?_)); ktu_objs) | refine Held.out ?_)
  k_with "subscriptTail Tuple cons Call ref int" => (walk_at "my k_gate"; k_here; (with_reducible show wpAny _ _ (subscriptTail _ _ (Value.ref _) (Value.int _ _)) _ _ _); k_dflt (refine' menu_words ?zqN ?zqm ?zqh0 ?zqh1 ?zqm1 ?zqm2 ?zqm3 ?zqm4 ?zqhf; (case zqN => k_asm); (case zqm => k_mem); (case zqm1 => k_mem); (case zqm2 => k_mem); (case zqm3 => k_mem); (case zqm4 => k_mem); (case zqh0 => with_reducible assumption); (case zqh1 => with_reducible assumption)); (intro qw9q wdw9q tw9q uw9q bw9q hmw9q hww9q))
  k_with "eval IfExp" => (walk_at "my k_gate"; refine Held.out ?_)
  k_with "ParPost" => (walk_at "my k_gate"; refine Held.out ?_)
  k_with "getAttr ref" => (walk_at "my k_gate"; k_here; (with_reducible show wpAny _ _ (getAttr (Value.ref _) (Str.ofString "message") _) _ _ _); k_dflt (refine com_msg _ (by k_asm) (by k_in) (by k_asm) (IsCom.sub (by with_reducible assumption) (by walk_at "my k_subs")) ?_); intro _ _)
  k_with "compareOp Eq ref ref" => (walk_at "my k_gate"; k_here; (with_reducible show wpAny _ _ (compareOp CmpOp.Eq (Value.ref _) (Value.ref _)) _ _ _); k_dflt (refine eq_two (by k_asm) (by k_mem) (by k_mem) (by first | ktr_units | decide) ?_))
  k_with "pyIter ref" => (walk_at "my k_gate"; (with_reducible rename Fr _ _ _ _ => lF'q); (with_reducible rename News _ _ _ _ => lN'q); (with_unfolding_all refine iter_tupTurns (by rfl) lF'q lN'q (by k_mem) (by rfl) (by rfl) ?_); clear lF'q; intro i'q l1q; (try k_lt l1q))
  k_with "my k_led" => first | with_reducible exact fun p hp => hp | ((with_reducible refine List.forall_mem_cons.mpr ⟨?zqka, ?zqkb⟩); (case zqka => k_mem); (case zqkb => walk_at "my k_led")) | ((with_reducible refine sub_tail ?_); walk_at "my k_led")
  k_with "my ne" => first | exact off1_ne (off1_all (by with_reducible assumption)) | (refine List.forall_mem_cons.mpr ⟨?zqna, ?zqnb⟩; (case zqna => walk_at "my k_at"); (case zqnb => walk_at "my ne"))
  k_with "UnrEndW" => (walk_at "my k_gate"; walk_at "my k_atoms"; k_dflt (refine' UnrEndY ?zqF ?zqN ?zqoff ⟨⟨?zqm1, trivial⟩, ?_⟩; (case zqF => k_asm); (case zqN => k_asm); (case zqm1 => k_mem); (case zqoff => walk_at "my ne")))
  k_go0
  all_goals try k_fold
  (all_goals k_steps)
  refine Held.on ?_
  rename Obj.IsDictOf _ _ _ => hdic
  rename (_ == sysModules) = false => hsys
  rename IntsAre _ (List.map _ _) => hints
  rename (_ ∧ _ ∧ _ ∧ _) => hlt4
  have hil := hints.length
  rw [List.length_map, List.length_take] at hil
  have hdk0 := IsDeck.makeL hdic hints (by omega) hsys (by k_ne)
  rename News _ _ _ _ => lN'
  have lN2 := deck_led hdk0 lN' (by walk_at "my deck_sub")
  have lN3 := news_drop2 lN2
  have oD0 := off1_pair (by k_ne) (lN3)
  have oL0 := off1_pairL (by k_ne) (lN3)
  clear hdic hsys hints hil lN' lN2 hlt4
  walk_at "my k_conj"
  k_steps
  refine Held.on ?_
  walk_at "my k_atoms"
  rename News _ _ _ _ => lN'
  rename IsDeck _ _ _ _ _ => hdk1
  have lN4 := deck_led hdk1 lN' (by walk_at "my deck_sub")
  (have oD1 := offD_of lN4 (by walk_at "my k_offA"))
  have oL1 := offL_of lN4 (by walk_at "my k_offA")
  clear lN'
  try clear oD0 oL0
  try clear hdk0
  (refine' oct_comp ⟨_, _, _, _, _, _, _, _, _⟩ ⟨_, _, _, _, _, _, _, _, _⟩ ?hh ?F hdk1 lN4 ?hm rfl rfl ⟨?a1, ?a2, ?a3, ?a4, ?a5⟩ ⟨?b1, ?b2, ?b3, ?b4, ?b5⟩ ?turn ?fin)
  case hh => rfl
  case F => k_asm
  case hm => k_mem
  case a1 => k_mem
  case a2 => k_mem
  case a3 => with_reducible assumption
  case a4 => with_reducible assumption
  case a5 => with_reducible assumption
  case b1 => k_mem
  case b2 => k_mem
  case b3 => with_reducible assumption
  case b4 => with_reducible assumption
  case b5 => with_reducible assumption
  case turn =>
    clear lN4
    intro od2 ol2 y I oI C oC D m2 ys h tk E' hok hD hC hx F' N' off ne
    have hq := hok.mem
    have hr := hok.rest
    have hkt := hok.tup
    have hbs := hok.bs
    have hmo := hok.ok
    have oDc := off_comp (oI := oI) (oC := oC) (oD := LCg.lst ys) off (.head _) oD1
    have oLc := off_comp (oI := oI) (oC := oC) (oD := LCg.lst ys) off (.tail _ (.head _)) oL1
    k_steps
    refine Held.on ?_
    rename By.Msg _ _ _ _ => hms
    rename IsDeck _ _ _ _ _ => hDn
    rename News _ _ _ _ => nE
    refine' led_end ?F nE hDn ?sub off (src_at ?mm) ⟨_, _, rfl, hms⟩
    case F => k_asm
    case mm => k_mem
    case sub => walk_at "my k_led"
  case fin =>
    intro od2 ol2 a1 a2 u1 u2 g hD hM1 hM2
    dsimp only at hM1 hM2
    clear lN4
    try clear hdk1
    unfold LCg.FinA
    intro D1 h1 tk1 F1 N1 o1
    obtain ⟨nd1, nl1⟩ := deck_ne hD o1 (.head _) (.tail _ (.head _))
    k_steps
    refine Held.on ?_
    (refine' com_comp (by rfl) (by k_asm) (by k_asm) (by k_mem) ?turn ?fin)
    case turn =>
      intro a u Rk I oI C oC D m2 ys h tk E' hax hC hx F' N' off ne
      k_steps
      refine Held.on ?_
      rename ComObj _ _ _ _ => hC9
      rename News _ _ _ _ => nE
      refine' com_end ?F nE hC9 ?hl ?cd ?hled ?hall off hax
      case hl => with_reducible assumption
      case F => k_asm
      case cd => with_reducible assumption
      case hled => walk_at "my k_led"
      case hall => walk_at "my k_led"
    case fin =>
      intro c1 dx1 c2 dx2 o1 p1 o2 p2 g hC1 hC2 hlR lt1 lt2 lt3
      obtain ⟨q1, q2, q3, q4, q5, q6, q7, q8⟩ := deck_coms hD hlR lt1 lt2 lt3 (by k_mem) (by k_mem)
      unfold LCg.FinA
      intro D2 h2 tk2 F2 N2 o2
      obtain ⟨nd2, nl2⟩ := deck_ne hD o2 (by k_mem) (by k_mem)
      k_steps
      refine Held.on ?_
      rename News _ _ _ _ => lN'
      rename IsRange _ _ _ _ _ _ _ _ => hR
      have lN5 := deck_led hD lN' (by walk_at "my deck_sub")
      (have oD2 := offD_of lN5 (by walk_at "my k_offA"))
      have oL2 := offL_of lN5 (by walk_at "my k_offA")
      clear lN'
      (refine' oid_comp (n := 4) (by rfl) (by k_asm) hD lN5 hR (by decide) ?turn ?fin)
      case turn =>
        clear lN5 hR hD
        intro od2 ol2 y I oI C oC D m2 ys h tk E' hD hC hx F' N' off ne
        have oDc := off_comp (oI := oI) (oC := oC) (oD := LCg.lst ys) off (.head _) oD2
        have oLc := off_comp (oI := oI) (oC := oC) (oD := LCg.lst ys) off (.tail _ (.head _)) oL2
        k_steps
        refine Held.on ?_
        rename IsDeck _ _ _ _ _ => hDn
        rename News _ _ _ _ => nE
        refine' led_end ?F nE hDn ?sub off trivial ⟨_, _, rfl, ?h0, ?h1⟩
        case F => k_asm
        case sub => walk_at "my k_led"
        case h0 => assumption
        case h1 => assumption
      case fin =>
        clear lN5 hR hD
        intro od3 ol3 cs ys g3 hD hcs hlt hrel
        unfold LCg.FinE
        intro D3 h3 tk3 F3 N3 o3
        obtain ⟨nd3, nl3⟩ := deck_ne hD o3 (.head _) (.tail _ (.head _))
        k_steps
        refine Held.on ?_
        walk_at "my k_atoms"
        rename News _ _ _ _ => lN'
        have lN6 := deck_led hD lN' (by walk_at "my deck_sub")
        have oD3 := offD_of lN6 (by walk_at "my k_offA")
        have oL3 := offL_of lN6 (by walk_at "my k_offA")
        clear lN'
        obtain ⟨R9, hR9, lN7, oD4, oL4⟩ := tail_out hD lN6 oD3 oL3
        clear lN6 oD3 oL3
        simp only [List.forall_mem_cons] at hR9
        walk_at "my k_atoms"
        (refine' par_eval (by k_asm) hD lN7 ?turn ?fin)
        case turn =>
          with_reducible refine IfExp_ ?_
          k_steps
          all_goals refine Held.on ?_
          all_goals
            rename News _ _ _ _ => nE
            rename IsDeck _ _ _ _ _ => hDn
            first
              | ((with_reducible show ParPost _ _ _ _ _ _ _ _ (Value.bytes _ _) _)
                 (with_reducible refine' par_some ?F nE hDn ?sub ?h)
                 case F => k_asm
                 case h => with_reducible assumption
                 case sub => walk_at "my k_led")
              | ((with_reducible refine' par_none ?F nE hDn ?sub)
                 case F => k_asm
                 case sub => walk_at "my k_led")
        case fin =>
          clear lN7 hD
          intro v p od4 ol4 g4 tk4 hpv hD F4 lN8
          k_steps
          refine Held.on ?_
          (refine' msg_comp (by rfl) (by k_asm) (by k_asm) (by k_mem) ?hq1 ?hq2 ?qturn ?qfin)
          case hq1 => refine' IsCom.of ?hC ?h1 ?h2; (case h1 => k_mem); (case hC => with_reducible assumption); (case h2 => k_mem)
          case hq2 => refine' IsCom.of ?hC ?h1 ?h2; (case h1 => k_mem); (case hC => with_reducible assumption); (case h2 => k_mem)
          case qturn =>
            intro c a I oI C oC D m2 ys h tk E' hca hC hx F' N' off ne
            k_steps
            refine Held.on ?_
            exact LCg.CompEnd.intro (by k_asm) (by k_asm) _ (by walk_at "my k_led") off (src_at (by k_mem)) MEl.of
          case qfin =>
            intro t1 t2 g
            unfold LCg.FinE
            intro D5 h5 tk5 F5 N5 o5
            k_steps)
end Mine
end
theorem PySem.Challenge.cw_pb0111_01_holds : PySem.Challenge.rw_pb0111_01.Holds := by
  exact Mine.law_holds
