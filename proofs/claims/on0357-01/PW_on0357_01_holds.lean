import PyProof.Rows.All
import Wide.All
import OpenK.AllK
import Wide.FinOn
import Lean
import PySem.Challenge.RW_on0357_01
open PySem PySem.W PySem.Calls PyProof.Rows
set_option Elab.async false
set_option maxRecDepth 100000
set_option maxHeartbeats 8000000
namespace Mine
open_top hd for PySem.Challenge.rw_on0357_01
theorem top_off : True := by
  w_top off
  exact trivial
local macro_rules | `(tactic| walk_at $s:str) => `(tactic| k_extra $s)
abbrev PG := PySem.Challenge.pw_on0357_01
/-- what a call of a def does, for all frames that may call it -/
abbrev CallOk (w : World) (p : Program) (loose : List Str) (mean : ExcName → Option Value) (mg mb : Str → Option Value) (f : Addr) (vs : List Value) (nd : Nat) (news : List (Addr × Obj)) (Post : Value → List (Addr × Obj) → Prop) : Prop :=
  ∀ (dp un : Nat) (gd : Option (List Code)) (cn : Str) (cs : Scope) (a : Addr) (ccd : Value) (cl : List (Str × Addr)) (outer : List Env) (A₀ : Around) (base h₀ : Heap) (L : Addr) (m : Str → Option Value) (s : Shared) (Q E : Value → Shared → Prop),
    Below A₀ base outer h₀ → Fr h₀ L s.heap m → (hd.heap_39 w.params).In h₀ → News h₀ L s.heap news → Top p loose mean mg mb h₀ → cs.kind = .function →
    dp + nd < 900 → un + 8 * nd + 200 < cLine →
    (∀ r news' h' tk', Fr h₀ L h' m → News h₀ L h' news' → Post r news' → Q r { s with heap := h', toks := tk' }) →
    wpAny (model PG w) (ktrTop dp un gd cn cs L a ccd cl outer) (call (.ref f) vs) Q E s
abbrev scanD (w : World) (r : Addr) (pl : Int) (t1 t2 t3 : Tok) : Obj := dictOf [⟨PyData.keyHash w.params "text", .str "text" t1, .ref r⟩, ⟨PyData.keyHash w.params "place", .str "place" t2, .int pl t3⟩] 2
def Halt (P : Prop) : Prop := P
theorem Halt.go {P : Prop} (h : Halt P) : P := h
theorem Halt.mk {P : Prop} (h : P) : Halt P := h
theorem getD_out {row : List Int} {i : Nat} {a : Int} (h : row.length ≤ i) : row.getD i a = a := by
  rw [List.getD_eq_getElem?_getD, List.getElem?_eq_none h]; rfl
theorem getD_in {row : List Int} {i : Nat} {a b : Int} (h : i < row.length) : row.getD i a = row.getD i b := by
  rw [List.getD_eq_getElem?_getD, List.getD_eq_getElem?_getD, List.getElem?_eq_getElem h]; rfl
def dig (c : Int) : Option Int := if 48 ≤ c ∧ c ≤ 57 then some (c - 48) else if 65 ≤ c ∧ c ≤ 70 then some (c - 55) else if 97 ≤ c ∧ c ≤ 102 then some (c - 87) else none
def optV (o : Option Int) (v : Value) : Prop := match o with | some k => ∃ t, v = .int k t | none => v = .none
/-- a sign of the menu -/
def Menu (c : Int) : Prop := c = 92 ∨ c = 110 ∨ c = 120 ∨ c = 117 ∨ c = 123 ∨ c = 125 ∨ c = 55 ∨ c = 65 ∨ c = 102 ∨ c = 68 ∨ c = 111 ∨ c = 119 ∨ c = 32 ∨ c = 10 ∨ c = 34 ∨ c = 233
/-- a figure to a base -/
def figB (base c : Int) : Option Int := (dig c).filter (· < base)
/-- the figures from a place on: the number, the place behind -/
def scanN (row : List Int) (base : Int) : Nat → Nat → Int → Int × Nat
  | 0, p, v => (v, p)
  | k + 1, p, v => match figB base (row.getD p (-1)) with
    | none => (v, p)
    | some d => scanN row base k (p + 1) (v * base + d)
theorem menu_at {row : List Int} (hm : ∀ c ∈ row, Menu c) {i : Int} {a : Int} (h0 : 0 ≤ i) (h1 : i < row.length) : Menu (row.getD i.toNat a) := by
  rw [List.getD_eq_getElem?_getD, List.getElem?_eq_getElem (by omega)]
  exact hm _ (List.getElem_mem _)
theorem optV_cases {o : Option Int} {v : Value} (h : optV o v) : (o = none ∧ v = .none) ∨ ∃ k t, o = some k ∧ v = .int k t := by
  cases o with
  | none => exact .inl ⟨rfl, h⟩
  | some k => obtain ⟨t, e⟩ := h; exact .inr ⟨k, t, rfl, e⟩
theorem fig_clash {o : Option Int} {k : Int} (h : o = none) (h2 : o = some k) : False := by rw [h] at h2; cases h2
theorem dig_bnd {c k : Int} (h : dig c = some k) : 0 ≤ k ∧ k < 16 := by
  unfold dig at h
  split at h
  · cases h; omega
  · split at h
    · cases h; omega
    · split at h
      · cases h; omega
      · cases h
theorem figB_bnd {b c k : Int} (h : figB b c = some k) : 0 ≤ k ∧ k < b ∧ k < 16 := by
  unfold figB at h
  obtain ⟨h1, h2⟩ := Option.filter_eq_some_iff.mp h
  have := dig_bnd h1
  simp only [decide_eq_true_eq] at h2
  exact ⟨this.1, h2, this.2⟩
theorem scanN_none {row : List Int} {base : Int} {k p : Nat} {v : Int} (h : figB base (row.getD p (-1)) = none) : scanN row base k p v = (v, p) := by
  cases k with
  | zero => rfl
  | succ k => rw [scanN, h]
theorem scanN_some {row : List Int} {base : Int} {k p : Nat} {v c : Int} (h : figB base (row.getD p (-1)) = some c) : scanN row base (k + 1) p v = scanN row base k (p + 1) (v * base + c) := by
  rw [scanN, h]
theorem scanN_le {row : List Int} (base : Int) : ∀ (k p : Nat) (v : Int), p ≤ row.length → p ≤ (scanN row base k p v).2 ∧ (scanN row base k p v).2 ≤ row.length
  | 0, p, v, h => ⟨Nat.le_refl _, h⟩
  | k + 1, p, v, h => by
    rw [scanN]
    split
    · exact ⟨Nat.le_refl _, h⟩
    · rename_i d q
      by_cases hp : p < row.length
      · have := scanN_le base k (p + 1) (v * base + d) hp
        exact ⟨by omega, this.2⟩
      · rw [getD_out (by omega)] at q; cases q
theorem figB_out {base : Int} : figB base (-1) = none := rfl
theorem pow_step {k : Nat} {v b c : Int} (h0 : 0 ≤ v) (h : v < 16 ^ k) (hb : b = 8 ∨ b = 16) (h1 : 0 ≤ c) (h2 : c < 16) : 0 ≤ v * b + c ∧ v * b + c < 16 ^ (k + 1) := by
  rw [Int.pow_succ]
  rcases hb with rfl | rfl <;> omega
theorem pow_le6 {k : Nat} (h : k ≤ 6) : (16 : Int) ^ k ≤ 16777216 := by
  have : k = 0 ∨ k = 1 ∨ k = 2 ∨ k = 3 ∨ k = 4 ∨ k = 5 ∨ k = 6 := by omega
  rcases this with rfl | rfl | rfl | rfl | rfl | rfl | rfl <;> decide
theorem getD_lt {row : List Int} {k : Nat} {c : Int} (h : row.getD k (-1) = c) (hc : c ≠ -1) : k < row.length := by
  by_cases q : k < row.length
  · exact q
  · rw [getD_out (by omega)] at h; exact absurd h.symm hc
theorem slice1 {row : List Int} {k c : Int} (h0 : 0 ≤ k) (h1 : k ≤ row.length) (hc : c ≠ -1) : decide (List.take (min (k + 1).toNat row.length - k.toNat) (List.drop k.toNat row) = [c]) = decide (row.getD k.toNat (-1) = c) := by
  refine decide_eq_decide.mpr ?_
  by_cases q : k.toNat < row.length
  · rw [show min (k + 1).toNat row.length - k.toNat = 1 by omega, List.drop_eq_getElem_cons q, List.getD_eq_getElem?_getD, List.getElem?_eq_getElem q]
    simp only [List.take_succ_cons, List.take_zero, List.cons.injEq, and_true, Option.getD_some]
  · rw [List.drop_eq_nil_of_le (by omega), getD_out (by omega)]
    simp [Ne.symm hc]
section
variable {prog : Program} {w : World} {A : Around} {E : Value → Shared → Prop} {s : Shared}
theorem ne_slice1 {a b : Addr} {vs us : List Value} {row : List Int} {k c : Int} {Q : Value → Shared → Prop} (hl : s.heap.IsList a vs.toArray) (hi : IntsAre vs (List.take (min (k + 1).toNat row.length - k.toNat) (List.drop k.toNat row))) (hl' : s.heap.IsList b us.toArray) (hi' : IntsAre us [c]) (hu : A.units + 64 < cLine)
    (h0 : 0 ≤ k) (h1 : k ≤ row.length) (hc : c ≠ -1) (h : Q (.bool (!decide (row.getD k.toNat (-1) = c))) s) : wpAny (model prog w) A (compareOp .NotEq (.ref a) (.ref b)) Q E s :=
  ne_intsK hl hi hl' hi' hu (by rw [slice1 h0 h1 hc]; exact h)
theorem eq_slice1 {a b : Addr} {vs us : List Value} {row : List Int} {k c : Int} {Q : Value → Shared → Prop} (hl : s.heap.IsList a vs.toArray) (hi : IntsAre vs (List.take (min (k + 1).toNat row.length - k.toNat) (List.drop k.toNat row))) (hl' : s.heap.IsList b us.toArray) (hi' : IntsAre us [c]) (hu : A.units + 64 < cLine)
    (h0 : 0 ≤ k) (h1 : k ≤ row.length) (hc : c ≠ -1) (h : Q (.bool (decide (row.getD k.toNat (-1) = c))) s) : wpAny (model prog w) A (compareOp .Eq (.ref a) (.ref b)) Q E s :=
  eq_intsK hl hi hl' hi' hu (by rw [slice1 h0 h1 hc]; exact h)
end
/-- what an escape tells: refused by a word, or codes and the place behind -/
inductive Esc where
  | bad (w : Str)
  | ok (codes : List Int) (p : Int)
abbrev tupO (l : List Value) : Obj := { cls := .type "tuple", data := .seq l.toArray }
/-- an escape as the law's own functions hand it back: a pair -/
def EscV (e : Esc) (begin : Int) (v : Value) (new : List (Addr × Obj)) : Prop := match e with
  | .bad wd => ∃ t t2 u1 u2 u3, v = .ref t ∧ new = [(t, tupO [.str "bad" u1, .ref t2]), (t2, tupO [.int begin u2, .str wd u3])]
  | .ok codes p => ∃ t l us c u, v = .ref t ∧ IntsAre us codes ∧ new = [(t, tupO [.ref l, .int p u]), (l, listOf us.toArray c)]
def bracesN (row : List Int) (k : Int) : Esc :=
  if row.getD k.toNat (-1) = 123 then
    let vp := scanN row 16 6 (k + 1).toNat 0
    if (vp.2 : Int) - (k + 1) < 1 then .bad "digits"
    else if row.getD vp.2 (-1) = 125 then
      if vp.1 > 1114111 ∨ (55296 ≤ vp.1 ∧ vp.1 < 57344) then .bad "code" else .ok [vp.1] (vp.2 + 1)
    else .bad "brace"
  else .bad "brace"
/-- the place behind all blanks and ends of rows -/
def skipN (row : List Int) : Nat → Nat → Nat
  | 0, p => p
  | k + 1, p => if row.getD p (-1) = 32 ∨ row.getD p (-1) = 10 then skipN row k (p + 1) else p
def figEsc (vp : Int × Nat) (b least : Int) : Esc := if (vp.2 : Int) - b < least then .bad "digits" else .ok [vp.1] vp.2
def escN (row : List Int) (begin : Int) : Esc :=
  if begin + 2 > row.length then .bad "end"
  else if row.getD (begin + 1).toNat 0 = 110 then .ok [10] (begin + 2)
  else if row.getD (begin + 1).toNat 0 = 120 then figEsc (scanN row 16 2 (begin + 2).toNat 0) (begin + 2) 2
  else if row.getD (begin + 1).toNat 0 = 111 then figEsc (scanN row 8 3 (begin + 2).toNat 0) (begin + 2) 1
  else if row.getD (begin + 1).toNat 0 = 117 then bracesN row (begin + 2)
  else if row.getD (begin + 1).toNat 0 = 119 then (if row.getD (begin + 2).toNat (-1) = 119 then .ok [87, 87] (begin + 2 + 1) else .bad "pair")
  else if row.getD (begin + 1).toNat 0 = 10 then .ok [] (skipN row (row.length - (begin + 2).toNat) (begin + 2).toNat)
  else .bad "escape"
theorem any2 {a b k : Int} : (([a, b] : List Int).any fun x => x == k) = true ↔ k = a ∨ k = b := by
  simp only [List.any_cons, List.any_nil, Bool.or_false, Bool.or_eq_true, beq_iff_eq]
  constructor
  · rintro (h | h)
    · exact .inl h.symm
    · exact .inr h.symm
  · rintro (h | h)
    · exact .inl h.symm
    · exact .inr h.symm
theorem any2f {a b k : Int} : (([a, b] : List Int).any fun x => x == k) = false ↔ k ≠ a ∧ k ≠ b := by
  rw [← Bool.not_eq_true, any2]; omega
theorem escV_cases {e : Esc} {begin : Int} {v : Value} {new : List (Addr × Obj)} (h : EscV e begin v new) :
    (∃ wd t t2 u1 u2 u3, e = .bad wd ∧ v = .ref t ∧ new = [(t, tupO [.str "bad" u1, .ref t2]), (t2, tupO [.int begin u2, .str wd u3])]) ∨
    (∃ codes p t l us c u, e = .ok codes p ∧ IntsAre us codes ∧ v = .ref t ∧ new = [(t, tupO [.ref l, .int p u]), (l, listOf us.toArray c)]) := by
  cases e with
  | bad wd => obtain ⟨t, t2, u1, u2, u3, a, b⟩ := h; exact .inl ⟨wd, t, t2, u1, u2, u3, rfl, a, b⟩
  | ok codes p => obtain ⟨t, l, us, c, u, a, b, d⟩ := h; exact .inr ⟨codes, p, t, l, us, c, u, rfl, b, a, d⟩
theorem skipN_le {row : List Int} : ∀ (k p : Nat), p ≤ row.length → p ≤ skipN row k p ∧ skipN row k p ≤ row.length
  | 0, p, h => ⟨Nat.le_refl _, h⟩
  | k + 1, p, h => by
    rw [skipN]
    split
    · rename_i q
      by_cases hp : p < row.length
      · have := skipN_le k (p + 1) hp
        exact ⟨by omega, this.2⟩
      · rw [getD_out (by omega)] at q; omega
    · exact ⟨Nat.le_refl _, h⟩
theorem figEsc_le {row : List Int} {base least : Int} {k p : Nat} {codes : List Int} {q : Int} (hp : p ≤ row.length) (hl : 1 ≤ least) (h : figEsc (scanN row base k p 0) p least = .ok codes q) : (p : Int) ≤ q ∧ q ≤ row.length ∧ codes.length = 1 := by
  have b := scanN_le (row := row) base k p 0 hp
  unfold figEsc at h
  split at h
  · cases h
  · cases h; exact ⟨by omega, by omega, rfl⟩
theorem escN_le {row : List Int} {begin : Int} {codes : List Int} {p : Int} (h0 : 0 ≤ begin) (h : escN row begin = .ok codes p) (_h1 : begin < row.length) : begin + 2 ≤ p ∧ p ≤ row.length ∧ (codes.length : Int) ≤ p - begin := by
  unfold escN at h
  split at h
  · cases h
  · rename_i g
    split at h
    · cases h; simp only [List.length_cons, List.length_nil]; omega
    · split at h
      · rw [show begin + 2 = (((begin + 2).toNat : Nat) : Int) by omega] at h
        have := figEsc_le (by omega) (by omega) h
        omega
      · split at h
        · rw [show begin + 2 = (((begin + 2).toNat : Nat) : Int) by omega] at h
          have := figEsc_le (by omega) (by omega) h
          omega
        · split at h
          · unfold bracesN at h
            split at h
            · rename_i q
              have q1 := getD_lt q (by decide)
              have b := scanN_le (row := row) 16 6 (begin + 2 + 1).toNat 0 (by omega)
              dsimp only at h
              split at h
              · cases h
              · split at h
                · rename_i q2
                  have q3 := getD_lt q2 (by decide)
                  split at h
                  · cases h
                  · cases h; simp only [List.length_cons, List.length_nil]; omega
                · cases h
            · cases h
          · split at h
            · split at h
              · rename_i q
                have q1 := getD_lt q (by decide)
                cases h; simp only [List.length_cons, List.length_nil]; omega
              · cases h
            · split at h
              · have := skipN_le (row := row) (row.length - (begin + 2).toNat) (begin + 2).toNat (by omega)
                cases h; simp only [List.length_nil]; omega
              · cases h
/-- what a row tells -/
inductive Tell where
  | bad (p : Int) (w : Str)
  | told (codes : List Int)
def tellN (row : List Int) : Nat → Int → List Int → Tell
  | 0, _, fs => .told fs
  | k + 1, q, fs => if q < row.length then
      (if row.getD q.toNat 0 = 34 then .bad q "sign"
       else if row.getD q.toNat 0 = 92 then (match escN row q with
         | .bad w => .bad q w
         | .ok codes p => tellN row k p (fs ++ codes))
       else tellN row k (q + 1) (fs ++ [row.getD q.toNat 0]))
    else .told fs
def TellV (e : Tell) (v : Value) (new news : List (Addr × Obj)) : Prop := match e with
  | .bad p wd => ∃ t t2 u1 u2 u3, v = .ref t ∧ new = [(t, tupO [.str "bad" u1, .ref t2]), (t2, tupO [.int p u2, .str wd u3])]
  | .told codes => ∃ t l us c u, v = .ref t ∧ IntsAre us codes ∧ new = [(t, tupO [.str "told" u, .ref l]), (l, listOf us.toArray c)] ∧ ∀ p ∈ news, p.1 ≠ l
theorem tellV_bad {wd : Str} {p : Int} {t t2 : Addr} {u1 u2 u3 : Tok} {news : List (Addr × Obj)} {e : Tell} (h : e = .bad p wd) : TellV e (.ref t) [(t, tupO [.str "bad" u1, .ref t2]), (t2, tupO [.int p u2, .str wd u3])] news := by
  subst h; exact ⟨_, _, _, _, _, rfl, rfl⟩
theorem tellV_told {codes : List Int} {t l : Addr} {us : List Value} {u : Tok} {c : Nat} {news : List (Addr × Obj)} {e : Tell} (h : e = .told codes) (hi : IntsAre us codes) (hl : ∀ p ∈ news, p.1 ≠ l) : TellV e (.ref t) [(t, tupO [.str "told" u, .ref l]), (l, listOf us.toArray c)] news := by
  subst h; exact ⟨_, _, _, _, _, rfl, hi, rfl, hl⟩
theorem allLt_ne {a : Addr} {l : List (Addr × Obj)} (h : AllLt a l) : ∀ q ∈ l, q.1 ≠ a := fun q hq => Nat.ne_of_lt (kst_ltOf h q hq)
-- a ledger that is a letter: its entries are facts at hand
local macro_rules | `(tactic| k_mem) => `(tactic| first | (with_reducible exact List.Mem.head _) | ktr_member | (refine List.mem_cons_of_mem _ ?_; k_mem))
local macro_rules | `(tactic| news_mem) => `(tactic| k_mem)
-- depth and units of a frame
-- enter a def
-- use a contract
-- the walk halts before a while
-- the names that a loop does not turn
-- two lists of ints compared
-- two new objects ahead of a ledger that is a letter
-- no join of ways at a call: our contracts tell one way each
-- two facts, one stored name
section
variable {w : World} {p : Program} {loose : List Str} {mean : ExcName → Option Value} {mg mb : Str → Option Value} {x d r : Addr} {t1 t2 t3 : Tok} {row : List Int} {vs : List Value} {nr : Nat} {pl : Int} {news : List (Addr × Obj)}
theorem lines1 : True := by
  (k_with "room" => (first | (simp only [depth_under_make, depth_under_kw, depth_in1, depth_deeper, depth_caller, recursionLimit]; omega) | ((try simp only [depth_under_make, depth_under_kw, depth_in1, depth_deeper, depth_caller, recursionLimit] at *); (try dsimp only [ktrTop] at *); omega)))
  (k_with "units" => (first | (simp only [units_in1, units_deeper, Around.mark_units, units_caller, cLine_is]; omega) | ((try simp only [units_in1, units_deeper, Around.mark_units, units_caller] at *); (try dsimp only [ktrTop] at *); omega)))
  (k_with "enterdef" => (refine' code_def ?k1 ?k2 ?k3 ?k4 ?k5 ?kA ?kF ?kK ?k6 ?k7 ?k8 ?k9 ?kB ?_ ?c2 ?c3 ?c4 ?c5; (case kA => exact rfl); (case kF => exact rfl); (case kK => first | exact rfl | assumption); (case k1 => k_asm); (case k2 => k_asm); (case k3 => k_asm); (case k4 => k_asm); (case k5 => k_asm); (case k6 => k_is); (case k7 => k_is); (case k8 => walk_at "room"); (case k9 => exact BindsTo.of_eq rfl); (case c5 => decide); (case kB => exact locs rfl); (case c2 => exact rfl); (case c3 => exact rfl); (case c4 => exact rfl); k_whole; intro g' L' h' FG' F' N' B' X' T'; (try dsimp only); (try k_fold)))
  (k_with "exec While BoolOp cons nil" => (refine Halt.go ?_))
  (k_with "exec While Compare cons nil" => (refine Halt.go ?_))
  (k_with "exec While UnaryOp cons nil" => (refine Halt.go ?_))
  (k_with "KswEnd" => (refine Halt.go ?_))
  (k_with "same1" => (intro z h2 h3; (have a1 := h2 _ (.head _)); dsimp only at a1; simp only [kstB, if_neg a1, List.contains_nil, Bool.false_eq_true, if_false]))
  (k_with "same2" => (intro z h2 h3; (have a1 := h2 _ (.head _)); (have a2 := h2 _ (.tail _ (.head _))); dsimp only at a1 a2; simp only [kstB, if_neg a1, if_neg a2, List.contains_nil, Bool.false_eq_true, if_false]))
  (k_with "compareOp NotEq ref ref" => (k_here; (with_unfolding_all refine' ne_slice1 ?k1 ?k2 ?k3 ?k4 ?k5 ?h0 ?h1 ?hc ?_; (case k1 => is_list); (case k2 => l_ints); (case k3 => is_list); (case k4 => l_ints); (case k5 => walk_at "units"); (case h0 => omega); (case h1 => omega); (case hc => decide); k_whole)))
  (k_with "compareOp Eq ref ref" => (k_here; (with_unfolding_all refine' eq_slice1 ?k1 ?k2 ?k3 ?k4 ?k5 ?h0 ?h1 ?hc ?_; (case k1 => is_list); (case k2 => l_ints); (case k3 => is_list); (case k4 => l_ints); (case k5 => walk_at "units"); (case h0 => omega); (case h1 => omega); (case hc => decide); k_whole)))
  (k_with "sameC" => (intro z h2 h3; (have a1 := h2 _ (.head _)); (have a2 := h2 _ (.tail _ (.head _))); dsimp only at a1 a2; (simp only [List.contains_cons, List.contains_nil, Bool.or_false, Bool.or_eq_false_iff, beq_eq_false_iff_ne, ne_eq] at h3); simp only [kstB, if_neg a1, if_neg a2, if_neg h3.1, if_neg h3.2, List.contains_cons, List.contains_nil, beq_eq_false_iff_ne.mpr h3.1, beq_eq_false_iff_ne.mpr h3.2, Bool.or_false, Bool.false_eq_true, if_false]))
  (k_with "sub2" => (refine List.forall_mem_cons.mpr ⟨?a, List.forall_mem_cons.mpr ⟨?b, ?c⟩⟩; (case a => k_mem); (case b => k_mem); (case c => (intro p hp; (repeat refine List.mem_cons_of_mem _ ?_); exact hp))))
  (k_with "sub1" => (refine List.forall_mem_cons.mpr ⟨?a, ?c⟩; (case a => k_mem); (case c => (intro p hp; (repeat refine List.mem_cons_of_mem _ ?_); exact hp))))
  (k_with "eval Call" => (k_here; k_dflt (refine Call_ ?_)))
  (k_with "compareOp In int ref" => (k_here; (with_unfolding_all refine' in_list_ints ?k1 ?k2 ?_; (case k1 => is_list); (case k2 => l_ints); k_whole)))
  (k_with "same21" => (intro z h2 h3; (have a1 := h2 _ (.head _)); (have a2 := h2 _ (.tail _ (.head _))); dsimp only at a1 a2; (simp only [List.contains_cons, List.contains_nil, Bool.or_false, beq_eq_false_iff_ne, ne_eq] at h3); simp only [kstB, if_neg a1, if_neg a2, if_neg h3, List.contains_cons, List.contains_nil, beq_eq_false_iff_ne.mpr h3, Bool.or_false, Bool.false_eq_true, if_false]))
  exact trivial
theorem is_over_ok (hx : (x, instObj 134 d) ∈ news) (hdd : (d, scanD w r pl t1 t2 t3) ∈ news) (hr : (r, listOf vs.toArray nr) ∈ news) (hi : IntsAre vs row) (h2 : row.length ≤ 18) :
  CallOk w p loose mean mg mb 96 [.ref x] 1 news (fun v news' => news' = news ∧ v = .bool (decide (pl = row.length))) := by
  intro dp un gd cn cs a ccd cl outer A₀ base h₀ L m s Q E B F X N T hk hdp hun hret
  refine wpAny_call ?_
  k_dflt (walk_at "enterdef")
  k_steps
  exact hret _ _ _ _ (by assumption) (by assumption) ⟨rfl, rfl⟩
theorem sign_ok (hx : (x, instObj 134 d) ∈ news) (hdd : (d, scanD w r pl t1 t2 t3) ∈ news) (hr : (r, listOf vs.toArray nr) ∈ news) (hi : IntsAre vs row) (h0 : 0 ≤ pl) (h1 : pl ≤ row.length) (h2 : row.length ≤ 18) :
  CallOk w p loose mean mg mb 103 [.ref x] 1 news (fun v news' => news' = news ∧ ∃ t, v = .int (row.getD pl.toNat (-1)) t) := by
  intro dp un gd cn cs a ccd cl outer A₀ base h₀ L m s Q E B F X N T hk hdp hun hret
  refine wpAny_call ?_
  k_dflt (walk_at "enterdef")
  k_steps
  all_goals refine hret _ _ _ _ (by assumption) (by assumption) ⟨rfl, ?_⟩
  · subst pl
    exact ⟨_, by rw [getD_out (by omega)]⟩
  · exact ⟨_, by rw [getD_in (b := -1) (by omega)]⟩
theorem escape_digit_ok {c : Int} {tc : Tok} :
  CallOk w p loose mean mg mb 75 [.int c tc] 1 news (fun v news' => news' = news ∧ optV (dig c) v) := by
  intro dp un gd cn cs a ccd cl outer A₀ base h₀ L m s Q E B F X N T hk hdp hun hret
  refine wpAny_call ?_
  k_dflt (walk_at "enterdef")
  k_steps
  all_goals refine hret _ _ _ _ (by assumption) (by assumption) ⟨rfl, ?_⟩
  all_goals (unfold dig; (repeat' split) <;> first | exact ⟨_, rfl⟩ | rfl | (exfalso; omega))
theorem is_code_ok {c : Int} {tc : Tok} :
  CallOk w p loose mean mg mb 54 [.int c tc] 1 news (fun v news' => news' = news ∧ v = .bool (decide (0 ≤ c ∧ c ≤ 1114111))) := by
  intro dp un gd cn cs a ccd cl outer A₀ base h₀ L m s Q E B F X N T hk hdp hun hret
  refine wpAny_call ?_
  k_dflt (walk_at "enterdef")
  k_steps
  all_goals exact hret _ _ _ _ (by assumption) (by assumption) ⟨rfl, congrArg Value.bool (decide_eq_decide.mpr (by omega))⟩
theorem is_surrogate_ok {c : Int} {tc : Tok} :
  CallOk w p loose mean mg mb 61 [.int c tc] 1 news (fun v news' => news' = news ∧ v = .bool (decide (55296 ≤ c ∧ c ≤ 57343))) := by
  intro dp un gd cn cs a ccd cl outer A₀ base h₀ L m s Q E B F X N T hk hdp hun hret
  refine wpAny_call ?_
  k_dflt (walk_at "enterdef")
  k_steps
  all_goals exact hret _ _ _ _ (by assumption) (by assumption) ⟨rfl, congrArg Value.bool (decide_eq_decide.mpr (by omega))⟩
end
section
variable {w : World} {p : Program} {loose : List Str} {mean : ExcName → Option Value} {mg mb : Str → Option Value} {x d r : Addr} {t1 t2 t3 : Tok} {row : List Int} {vs : List Value} {nr : Nat} {pl : Int} {news : List (Addr × Obj)}
theorem lines2 : True := by
  (k_with "call ref" => (k_here; (with_reducible show wpAny _ _ (call (Value.ref 75) _) _ _ _); (k_dflt (refine' escape_digit_ok _ _ _ _ _ _ _ _ _ _ _ _ _ _ _ _ _ ?kB ?kF ?kX ?kN ?kT ?kK ?kd ?ku ?_; (case kB => k_asm); (case kF => k_asm); (case kX => k_asm); (case kT => k_asm); (case kK => first | exact rfl | assumption); (case kd => walk_at "room"); (case ku => walk_at "units"))); (case kN => k_asm); intro r9 n9 h9 tk9 F9 N9 P9; obtain ⟨e9, e9'⟩ := P9; subst e9; (try dsimp only); (try k_fold)))
  (k_with "call ref" => (k_here; (with_reducible show wpAny _ _ (call (Value.ref 54) _) _ _ _); (k_dflt (refine' is_code_ok _ _ _ _ _ _ _ _ _ _ _ _ _ _ _ _ _ ?kB ?kF ?kX ?kN ?kT ?kK ?kd ?ku ?_; (case kB => k_asm); (case kF => k_asm); (case kX => k_asm); (case kT => k_asm); (case kK => first | exact rfl | assumption); (case kd => walk_at "room"); (case ku => walk_at "units"))); (case kN => k_asm); intro r9 n9 h9 tk9 F9 N9 P9; obtain ⟨e9, e9'⟩ := P9; subst e9 e9'; (try dsimp only); (try k_fold)))
  (k_with "call ref" => (k_here; (with_reducible show wpAny _ _ (call (Value.ref 61) _) _ _ _); (k_dflt (refine' is_surrogate_ok _ _ _ _ _ _ _ _ _ _ _ _ _ _ _ _ _ ?kB ?kF ?kX ?kN ?kT ?kK ?kd ?ku ?_; (case kB => k_asm); (case kF => k_asm); (case kX => k_asm); (case kT => k_asm); (case kK => first | exact rfl | assumption); (case kd => walk_at "room"); (case ku => walk_at "units"))); (case kN => k_asm); intro r9 n9 h9 tk9 F9 N9 P9; obtain ⟨e9, e9'⟩ := P9; subst e9 e9'; (try dsimp only); (try k_fold)))
  (k_with "call ref" => (k_here; (with_reducible show wpAny _ _ (call (Value.ref 96) _) _ _ _); (k_dflt (refine' (is_over_ok ?hx ?hdd ?hr ?hi ?h2) _ _ _ _ _ _ _ _ _ _ _ _ _ _ _ _ _ ?kB ?kF ?kX ?kN ?kT ?kK ?kd ?ku ?_; (case kB => k_asm); (case kF => k_asm); (case kX => k_asm); (case kT => k_asm); (case kK => first | exact rfl | assumption); (case kd => walk_at "room"); (case ku => walk_at "units"))); (case kN => k_asm); (case hx => k_mem); (case hdd => k_mem); (case hr => k_mem); (case hi => l_ints); (case h2 => omega); intro r9 n9 h9 tk9 F9 N9 P9; obtain ⟨e9, e9'⟩ := P9; subst e9 e9'; (try dsimp only); (try k_fold)))
  (k_with "call ref" => (k_here; (with_reducible show wpAny _ _ (call (Value.ref 103) _) _ _ _); (k_dflt (refine' (sign_ok ?hx ?hdd ?hr ?hi ?h0 ?h1 ?h2) _ _ _ _ _ _ _ _ _ _ _ _ _ _ _ _ _ ?kB ?kF ?kX ?kN ?kT ?kK ?kd ?ku ?_; (case kB => k_asm); (case kF => k_asm); (case kX => k_asm); (case kT => k_asm); (case kK => first | exact rfl | assumption); (case kd => walk_at "room"); (case ku => walk_at "units"))); (case kN => k_asm); (case hx => k_mem); (case hdd => k_mem); (case hr => k_mem); (case hi => l_ints); (case h0 => omega); (case h1 => omega); (case h2 => omega); intro r9 n9 h9 tk9 F9 N9 P9; obtain ⟨e9, t9, e9'⟩ := P9; subst e9 e9'; (try dsimp only); (try k_fold)))
  exact trivial
theorem is_scalar_ok {c : Int} {tc : Tok} :
  CallOk w p loose mean mg mb 68 [.int c tc] 2 news (fun v news' => news' = news ∧ v = .bool (decide (0 ≤ c ∧ c ≤ 1114111 ∧ ¬ (55296 ≤ c ∧ c ≤ 57343)))) := by
  intro dp un gd cn cs a ccd cl outer A₀ base h₀ L m s Q E B F X N T hk hdp hun hret
  refine wpAny_call ?_
  k_dflt (walk_at "enterdef")
  k_steps
  · exact hret _ _ _ _ (by assumption) (by assumption) ⟨rfl, congrArg Value.bool (by rw [← decide_not]; exact decide_eq_decide.mpr (by omega))⟩
  · exact hret _ _ _ _ (by assumption) (by assumption) ⟨rfl, congrArg Value.bool (decide_eq_decide.mpr (by omega))⟩
theorem figB_menu {b c : Int} (hc : Menu c) (hb : b = 8 ∨ b = 16) : figB b c = if c = 55 then some 7 else if c = 65 then (if 10 < b then some 10 else none) else if c = 102 then (if 15 < b then some 15 else none) else if c = 68 then (if 13 < b then some 13 else none) else none := by
  unfold Menu at hc
  rcases hb with rfl | rfl <;> rcases hc with rfl | rfl | rfl | rfl | rfl | rfl | rfl | rfl | rfl | rfl | rfl | rfl | rfl | rfl | rfl | rfl <;> decide
theorem lines3 : True := by
  (k_with "call ref" => (k_here; (with_reducible show wpAny _ _ (call (Value.ref 159) _) _ _ _); refine wpAny_call ?_; k_dflt (walk_at "enterdef")))
  exact trivial
theorem law_value_ok {c b : Int} {tc tb : Tok} (hc : Menu c) (hb : b = 8 ∨ b = 16) :
  CallOk w p loose mean mg mb 167 [.int c tc, .int b tb] 2 news (fun v news' => news' = news ∧ optV (figB b c) v) := by
  intro dp un gd cn cs a ccd cl outer A₀ base h₀ L m s Q E B F X N T hk hdp hun hret
  refine wpAny_call ?_
  k_dflt (walk_at "enterdef")
  k_steps
  all_goals refine hret _ _ _ _ (by assumption) (cb_drop (by assumption) fun p hp => List.mem_cons_of_mem _ hp) ⟨rfl, ?_⟩
  all_goals (rw [figB_menu hc hb]; (repeat' split) <;> first | exact ⟨_, rfl⟩ | rfl | (exfalso; omega))
end
theorem lines4 : True := by
  k_with_none
  (k_with "room" => (first | (simp only [depth_under_make, depth_under_kw, depth_in1, depth_deeper, depth_caller, recursionLimit]; omega) | ((try simp only [depth_under_make, depth_under_kw, depth_in1, depth_deeper, depth_caller, recursionLimit] at *); (try dsimp only [ktrTop] at *); omega)))
  (k_with "units" => (first | (simp only [units_in1, units_deeper, Around.mark_units, units_caller, cLine_is]; omega) | ((try simp only [units_in1, units_deeper, Around.mark_units, units_caller] at *); (try dsimp only [ktrTop] at *); omega)))
  (k_with "enterdef" => (refine' code_def ?k1 ?k2 ?k3 ?k4 ?k5 ?kA ?kF ?kK ?k6 ?k7 ?k8 ?k9 ?kB ?_ ?c2 ?c3 ?c4 ?c5; (case kA => exact rfl); (case kF => exact rfl); (case kK => first | exact rfl | assumption); (case k1 => k_asm); (case k2 => k_asm); (case k3 => k_asm); (case k4 => k_asm); (case k5 => k_asm); (case k6 => k_is); (case k7 => k_is); (case k8 => walk_at "room"); (case k9 => exact BindsTo.of_eq rfl); (case c5 => decide); (case kB => exact locs rfl); (case c2 => exact rfl); (case c3 => exact rfl); (case c4 => exact rfl); k_whole; intro g' L' h' FG' F' N' B' X' T'; (try dsimp only); (try k_fold)))
  (k_with "exec While BoolOp cons nil" => (refine Halt.go ?_))
  (k_with "exec While Compare cons nil" => (refine Halt.go ?_))
  (k_with "exec While UnaryOp cons nil" => (refine Halt.go ?_))
  (k_with "KswEnd" => (refine Halt.go ?_))
  (k_with "same1" => (intro z h2 h3; (have a1 := h2 _ (.head _)); dsimp only at a1; simp only [kstB, if_neg a1, List.contains_nil, Bool.false_eq_true, if_false]))
  (k_with "same2" => (intro z h2 h3; (have a1 := h2 _ (.head _)); (have a2 := h2 _ (.tail _ (.head _))); dsimp only at a1 a2; simp only [kstB, if_neg a1, if_neg a2, List.contains_nil, Bool.false_eq_true, if_false]))
  (k_with "compareOp NotEq ref ref" => (k_here; (with_unfolding_all refine' ne_slice1 ?k1 ?k2 ?k3 ?k4 ?k5 ?h0 ?h1 ?hc ?_; (case k1 => is_list); (case k2 => l_ints); (case k3 => is_list); (case k4 => l_ints); (case k5 => walk_at "units"); (case h0 => omega); (case h1 => omega); (case hc => decide); k_whole)))
  (k_with "compareOp Eq ref ref" => (k_here; (with_unfolding_all refine' eq_slice1 ?k1 ?k2 ?k3 ?k4 ?k5 ?h0 ?h1 ?hc ?_; (case k1 => is_list); (case k2 => l_ints); (case k3 => is_list); (case k4 => l_ints); (case k5 => walk_at "units"); (case h0 => omega); (case h1 => omega); (case hc => decide); k_whole)))
  (k_with "sameC" => (intro z h2 h3; (have a1 := h2 _ (.head _)); (have a2 := h2 _ (.tail _ (.head _))); dsimp only at a1 a2; (simp only [List.contains_cons, List.contains_nil, Bool.or_false, Bool.or_eq_false_iff, beq_eq_false_iff_ne, ne_eq] at h3); simp only [kstB, if_neg a1, if_neg a2, if_neg h3.1, if_neg h3.2, List.contains_cons, List.contains_nil, beq_eq_false_iff_ne.mpr h3.1, beq_eq_false_iff_ne.mpr h3.2, Bool.or_false, Bool.false_eq_true, if_false]))
  (k_with "sub2" => (refine List.forall_mem_cons.mpr ⟨?a, List.forall_mem_cons.mpr ⟨?b, ?c⟩⟩; (case a => k_mem); (case b => k_mem); (case c => (intro p hp; (repeat refine List.mem_cons_of_mem _ ?_); exact hp))))
  (k_with "sub1" => (refine List.forall_mem_cons.mpr ⟨?a, ?c⟩; (case a => k_mem); (case c => (intro p hp; (repeat refine List.mem_cons_of_mem _ ?_); exact hp))))
  (k_with "eval Call" => (k_here; k_dflt (refine Call_ ?_)))
  (k_with "compareOp In int ref" => (k_here; (with_unfolding_all refine' in_list_ints ?k1 ?k2 ?_; (case k1 => is_list); (case k2 => l_ints); k_whole)))
  (k_with "same21" => (intro z h2 h3; (have a1 := h2 _ (.head _)); (have a2 := h2 _ (.tail _ (.head _))); dsimp only at a1 a2; (simp only [List.contains_cons, List.contains_nil, Bool.or_false, beq_eq_false_iff_ne, ne_eq] at h3); simp only [kstB, if_neg a1, if_neg a2, if_neg h3, List.contains_cons, List.contains_nil, beq_eq_false_iff_ne.mpr h3, Bool.or_false, Bool.false_eq_true, if_false]))
  (k_with "call ref" => (k_here; (with_reducible show wpAny _ _ (call (Value.ref 75) _) _ _ _); (k_dflt (refine' escape_digit_ok _ _ _ _ _ _ _ _ _ _ _ _ _ _ _ _ _ ?kB ?kF ?kX ?kN ?kT ?kK ?kd ?ku ?_; (case kB => k_asm); (case kF => k_asm); (case kX => k_asm); (case kT => k_asm); (case kK => first | exact rfl | assumption); (case kd => walk_at "room"); (case ku => walk_at "units"))); (case kN => k_asm); intro r9 n9 h9 tk9 F9 N9 P9; obtain ⟨e9, e9'⟩ := P9; subst e9; (try dsimp only); (try k_fold)))
  (k_with "call ref" => (k_here; (with_reducible show wpAny _ _ (call (Value.ref 54) _) _ _ _); (k_dflt (refine' is_code_ok _ _ _ _ _ _ _ _ _ _ _ _ _ _ _ _ _ ?kB ?kF ?kX ?kN ?kT ?kK ?kd ?ku ?_; (case kB => k_asm); (case kF => k_asm); (case kX => k_asm); (case kT => k_asm); (case kK => first | exact rfl | assumption); (case kd => walk_at "room"); (case ku => walk_at "units"))); (case kN => k_asm); intro r9 n9 h9 tk9 F9 N9 P9; obtain ⟨e9, e9'⟩ := P9; subst e9 e9'; (try dsimp only); (try k_fold)))
  (k_with "call ref" => (k_here; (with_reducible show wpAny _ _ (call (Value.ref 61) _) _ _ _); (k_dflt (refine' is_surrogate_ok _ _ _ _ _ _ _ _ _ _ _ _ _ _ _ _ _ ?kB ?kF ?kX ?kN ?kT ?kK ?kd ?ku ?_; (case kB => k_asm); (case kF => k_asm); (case kX => k_asm); (case kT => k_asm); (case kK => first | exact rfl | assumption); (case kd => walk_at "room"); (case ku => walk_at "units"))); (case kN => k_asm); intro r9 n9 h9 tk9 F9 N9 P9; obtain ⟨e9, e9'⟩ := P9; subst e9 e9'; (try dsimp only); (try k_fold)))
  (k_with "call ref" => (k_here; (with_reducible show wpAny _ _ (call (Value.ref 96) _) _ _ _); (k_dflt (refine' (is_over_ok ?hx ?hdd ?hr ?hi ?h2) _ _ _ _ _ _ _ _ _ _ _ _ _ _ _ _ _ ?kB ?kF ?kX ?kN ?kT ?kK ?kd ?ku ?_; (case kB => k_asm); (case kF => k_asm); (case kX => k_asm); (case kT => k_asm); (case kK => first | exact rfl | assumption); (case kd => walk_at "room"); (case ku => walk_at "units"))); (case kN => k_asm); (case hx => k_mem); (case hdd => k_mem); (case hr => k_mem); (case hi => l_ints); (case h2 => omega); intro r9 n9 h9 tk9 F9 N9 P9; obtain ⟨e9, e9'⟩ := P9; subst e9 e9'; (try dsimp only); (try k_fold)))
  (k_with "call ref" => (k_here; (with_reducible show wpAny _ _ (call (Value.ref 103) _) _ _ _); (k_dflt (refine' (sign_ok ?hx ?hdd ?hr ?hi ?h0 ?h1 ?h2) _ _ _ _ _ _ _ _ _ _ _ _ _ _ _ _ _ ?kB ?kF ?kX ?kN ?kT ?kK ?kd ?ku ?_; (case kB => k_asm); (case kF => k_asm); (case kX => k_asm); (case kT => k_asm); (case kK => first | exact rfl | assumption); (case kd => walk_at "room"); (case ku => walk_at "units"))); (case kN => k_asm); (case hx => k_mem); (case hdd => k_mem); (case hr => k_mem); (case hi => l_ints); (case h0 => omega); (case h1 => omega); (case h2 => omega); intro r9 n9 h9 tk9 F9 N9 P9; obtain ⟨e9, t9, e9'⟩ := P9; subst e9 e9'; (try dsimp only); (try k_fold)))
  (k_with "call ref" => (k_here; (with_reducible show wpAny _ _ (call (Value.ref 68) _) _ _ _); (k_dflt (refine' is_scalar_ok _ _ _ _ _ _ _ _ _ _ _ _ _ _ _ _ _ ?kB ?kF ?kX ?kN ?kT ?kK ?kd ?ku ?_; (case kB => k_asm); (case kF => k_asm); (case kX => k_asm); (case kT => k_asm); (case kK => first | exact rfl | assumption); (case kd => walk_at "room"); (case ku => walk_at "units"))); (case kN => k_asm); intro r9 n9 h9 tk9 F9 N9 P9; obtain ⟨e9, e9'⟩ := P9; subst e9 e9'; (try dsimp only); (try k_fold)))
  (k_with "call ref" => (k_here; (with_reducible show wpAny _ _ (call (Value.ref 167) _) _ _ _); (k_dflt (refine' (law_value_ok ?hc ?hb) _ _ _ _ _ _ _ _ _ _ _ _ _ _ _ _ _ ?kB ?kF ?kX ?kN ?kT ?kK ?kd ?ku ?_; (case kB => k_asm); (case kF => k_asm); (case kX => k_asm); (case kT => k_asm); (case kK => first | exact rfl | assumption); (case kd => walk_at "room"); (case ku => walk_at "units"))); (case kN => k_asm); (case hc => first | assumption | (apply menu_at <;> first | assumption | omega)); (case hb => assumption); intro r9 n9 h9 tk9 F9 N9 P9; obtain ⟨e9, e9'⟩ := P9; subst e9; (rcases optV_cases e9' with ⟨q9, e9''⟩ | ⟨k9, t9, q9, e9''⟩ <;> (subst e9''; (try (have b9 := figB_bnd q9)); (try (exfalso; exact fig_clash (by assumption) (by assumption))); (try dsimp only); (try k_fold)))))
  exact trivial
theorem fig_exit {row : List Int} {base most at0 at1 v : Int} {R : Int × Nat} (h0 : 0 ≤ at0) (h1 : at0 ≤ at1) (p6 : scanN row base (most - (at1 - at0)).toNat at1.toNat v = R)
    (hx : ¬ at1 < row.length ∨ ¬ at1 - at0 < most ∨ (at1 < row.length ∧ figB base (row.getD at1.toNat 0) = none)) : R = (v, at1.toNat) := by
  rw [← p6]
  rcases hx with hx | hx | ⟨hx, q⟩
  · exact scanN_none (by rw [getD_out (by omega)]; exact figB_out)
  · rw [show (most - (at1 - at0)).toNat = 0 by omega]; rfl
  · exact scanN_none (by rw [getD_in (b := 0) (by omega)]; exact q)
theorem fig_turn {row : List Int} {base most at0 at1 v k : Int} {R : Int × Nat} (h0 : 0 ≤ at0) (h1 : at0 ≤ at1) (hb : base = 8 ∨ base = 16) (p1 : 0 ≤ v) (p2 : v < 16 ^ (at1 - at0).toNat) (p6 : scanN row base (most - (at1 - at0)).toNat at1.toNat v = R)
    (a1 : at1 < row.length) (a2 : at1 - at0 < most) (q : figB base (row.getD at1.toNat 0) = some k) :
    0 ≤ v * base + k ∧ v * base + k < 16 ^ (at1 + 1 - at0).toNat ∧ at0 ≤ at1 + 1 ∧ at1 + 1 ≤ row.length ∧ at1 + 1 - at0 ≤ most ∧ scanN row base (most - (at1 + 1 - at0)).toNat (at1 + 1).toNat (v * base + k) = R := by
  have b := figB_bnd q
  obtain ⟨s1, s2⟩ := pow_step p1 p2 hb b.1 b.2.2
  rw [getD_in (b := -1) (by omega)] at q
  rw [show (most - (at1 - at0)).toNat = (most - (at1 + 1 - at0)).toNat + 1 by omega, scanN_some q] at p6
  refine ⟨s1, ?_, by omega, by omega, by omega, ?_⟩
  · rw [show (at1 + 1 - at0).toNat = (at1 - at0).toNat + 1 by omega]; exact s2
  · rw [show (at1 + 1).toNat = at1.toNat + 1 by omega]; exact p6
section
variable {w : World} {p : Program} {loose : List Str} {mean : ExcName → Option Value} {mg mb : Str → Option Value} {x d r : Addr} {t1 t2 t3 : Tok} {row : List Int} {vs : List Value} {nr : Nat} {pl : Int} {news : List (Addr × Obj)}
theorem figures_ok {at0 base least most : Int} {ta tb tl tm : Tok} (hr : (r, listOf vs.toArray nr) ∈ news) (hi : IntsAre vs row) (h2 : row.length ≤ 18) (hm : ∀ c ∈ row, Menu c) (hb : base = 8 ∨ base = 16) (h0 : 0 ≤ at0) (h1 : at0 ≤ row.length) (hm0 : 0 ≤ most) (hm1 : most ≤ 6) (hl0 : 0 ≤ least) (hl1 : least ≤ 6) :
  CallOk w p loose mean mg mb 174 [.ref r, .int at0 ta, .int base tb, .int least tl, .int most tm] 4 news (fun v news' => 
    if ((scanN row base most.toNat at0.toNat 0).2 : Int) - at0 < least then v = .none ∧ news' = news else
    ∃ t u1 u2, v = .ref t ∧ news' = (t, { cls := .type "tuple", data := .seq #[.int (scanN row base most.toNat at0.toNat 0).1 u1, .int (scanN row base most.toNat at0.toNat 0).2 u2] }) :: news) := by
  intro dp un gd cn cs a ccd cl outer A₀ base' h₀ L m s Q E B F X N T hk hdp hun hret
  refine wpAny_call ?_
  k_dflt (walk_at "enterdef")
  k_steps
  refine Halt.mk ?_
  rename_i tk0 _ _ _ _
  refine ksw_while (σ := Int × Tok × Int × Tok) (fun _ => news) (fun c => [("number", .int c.1 c.2.1), ("at", .int c.2.2.1 c.2.2.2)]) (fun _ => True) []
    (fun c => 0 ≤ c.1 ∧ c.1 < 16 ^ (c.2.2.1 - at0).toNat ∧ at0 ≤ c.2.2.1 ∧ c.2.2.1 ≤ row.length ∧ c.2.2.1 - at0 ≤ most ∧ scanN row base (most - (c.2.2.1 - at0)).toNat c.2.2.1.toNat c.1 = scanN row base most.toNat at0.toNat 0)
    (fun c => ((row.length : Int) - c.2.2.1).toNat) (0, _, at0, _) (by assumption) (cb_drop (by assumption) fun p hp => List.mem_cons_of_mem _ hp) trivial (by kst_all) ?_ ?_ (by with_unfolding_all passes_own)
  · dsimp only; refine ⟨by omega, ?_, by omega, by omega, by omega, ?_⟩
    · rw [show (at0 - at0).toNat = 0 by omega]; decide
    · rw [show (most - (at0 - at0)) = most by omega]
  rintro ⟨v, tv, at1, ta1⟩ u h tk - ⟨p1, p2, p3, p4, p5, p6⟩ F2 N2
  dsimp only at *
  have p7 : v < 16777216 := Int.lt_of_lt_of_le p2 (pow_le6 (by omega))
  k_steps
  all_goals first
    | (refine Halt.mk (ksw_end (_, _, _, _) (by assumption) (cb_drop (by assumption) fun p hp => List.mem_cons_of_mem _ hp) (fun p hp => hp) trivial (by kst_all) (by walk_at "same2") ?_ ?_)
       · exact fig_turn h0 p3 hb p1 p2 p6 (by assumption) (by assumption) (by assumption)
       · dsimp only; omega)
    | (have e := fig_exit h0 p3 p6 (by first | exact .inl (by assumption) | exact .inr (.inl (by assumption)) | exact .inr (.inr ⟨by assumption, by assumption⟩))
       first
       | (refine hret _ _ _ _ (by assumption) (by assumption) ?_
          rw [e, if_pos (by dsimp only; omega)]
          exact ⟨rfl, rfl⟩)
       | (refine hret _ _ _ _ (by assumption) (by assumption) ?_
          rw [e, if_neg (by dsimp only; omega)]
          exact ⟨_, _, _, rfl, by rw [Int.toNat_of_nonneg (by omega)]⟩))
end
theorem fig_cases {P : Prop} [Decidable P] {v : Value} {news news' : List (Addr × Obj)} {a b : Int} (h : if P then v = .none ∧ news' = news else ∃ t u1 u2, v = .ref t ∧ news' = (t, ({ cls := .type "tuple", data := .seq #[.int a u1, .int b u2] } : Obj)) :: news) :
    (P ∧ v = .none ∧ news' = news) ∨ (¬ P ∧ ∃ t u1 u2, v = .ref t ∧ news' = (t, ({ cls := .type "tuple", data := .seq #[.int a u1, .int b u2] } : Obj)) :: news) := by
  by_cases q : P
  · rw [if_pos q] at h; exact .inl ⟨q, h⟩
  · rw [if_neg q] at h; exact .inr ⟨q, h⟩
theorem fig_casesB {P : Prop} [Decidable P] {v : Value} {news news' : List (Addr × Obj)} {row : List Int} {base : Int} {k q : Nat} {b : Int} (h : if P then v = .none ∧ news' = news else ∃ t u1 u2, v = .ref t ∧ news' = (t, ({ cls := .type "tuple", data := .seq #[.int (scanN row base k q 0).1 u1, .int b u2] } : Obj)) :: news) (hq : q ≤ row.length) :
    (q ≤ (scanN row base k q 0).2 ∧ (scanN row base k q 0).2 ≤ row.length) ∧ (P ∧ v = .none ∧ news' = news) ∨ (q ≤ (scanN row base k q 0).2 ∧ (scanN row base k q 0).2 ≤ row.length) ∧ (¬ P ∧ ∃ t u1 u2, v = .ref t ∧ news' = (t, ({ cls := .type "tuple", data := .seq #[.int (scanN row base k q 0).1 u1, .int b u2] } : Obj)) :: news) := by
  have bb := scanN_le (row := row) base k q 0 hq
  rcases fig_cases h with c | c
  · exact .inl ⟨bb, c⟩
  · exact .inr ⟨bb, c⟩
theorem lines5 : True := by
  (k_with "call ref" => (k_here; (with_reducible show wpAny _ _ (call (Value.ref 174) _) _ _ _); (k_dflt (refine' (figures_ok ?hr ?hi ?h2 ?hm ?hb ?h0 ?h1 ?m0 ?m1 ?l0 ?l1) _ _ _ _ _ _ _ _ _ _ _ _ _ _ _ _ _ ?kB ?kF ?kX ?kN ?kT ?kK ?kd ?ku ?_; (case kB => k_asm); (case kF => k_asm); (case kX => k_asm); (case kT => k_asm); (case kK => first | exact rfl | assumption); (case kd => walk_at "room"); (case ku => walk_at "units"))); (case kN => k_asm); (case hr => k_mem); (case hi => l_ints); (case h2 => assumption); (case hm => assumption); (case hb => first | exact .inl rfl | exact .inr rfl); (case h0 => omega); (case h1 => first | omega | ((have g9 := getD_lt (by assumption) (by decide)); omega)); (case m0 => decide); (case m1 => decide); (case l0 => decide); (case l1 => decide); intro r9 n9 h9 tk9 F9 N9 P9; (try simp only [Int.reduceToNat] at P9); (rcases fig_casesB P9 (by first | omega | ((have g9 := getD_lt (by assumption) (by decide)); omega)) with ⟨b9, c9, e9, e9'⟩ | ⟨b9, c9, t9, u9, u9', e9, e9'⟩); (all_goals (clear P9; subst e9 e9'; (try dsimp only); (try k_fold)))))
  exact trivial
theorem br1 {row : List Int} {k : Int} (h : ¬ row.getD k.toNat (-1) = 123) : bracesN row k = .bad "brace" := by
  unfold bracesN; rw [if_neg h]
theorem br2 {row : List Int} {k : Int} (h : row.getD k.toNat (-1) = 123) (c : ((scanN row 16 6 (k + 1).toNat 0).2 : Int) - (k + 1) < 1) : bracesN row k = .bad "digits" := by
  unfold bracesN; rw [if_pos h]; dsimp only; rw [if_pos c]
theorem br3 {row : List Int} {k : Int} (h : row.getD k.toNat (-1) = 123) (c : ¬ ((scanN row 16 6 (k + 1).toNat 0).2 : Int) - (k + 1) < 1) (g : ¬ row.getD ((scanN row 16 6 (k + 1).toNat 0).2 : Int).toNat (-1) = 125) : bracesN row k = .bad "brace" := by
  unfold bracesN; rw [if_pos h]; dsimp only; rw [if_neg c]; exact if_neg g
theorem br4 {row : List Int} {k : Int} (h : row.getD k.toNat (-1) = 123) (c : ¬ ((scanN row 16 6 (k + 1).toNat 0).2 : Int) - (k + 1) < 1) (g : row.getD ((scanN row 16 6 (k + 1).toNat 0).2 : Int).toNat (-1) = 125)
    (q : (scanN row 16 6 (k + 1).toNat 0).1 > 1114111 ∨ (55296 ≤ (scanN row 16 6 (k + 1).toNat 0).1 ∧ (scanN row 16 6 (k + 1).toNat 0).1 < 57344)) : bracesN row k = .bad "code" := by
  unfold bracesN; rw [if_pos h]; dsimp only; rw [if_neg c]; exact (if_pos g).trans (if_pos q)
theorem br5 {row : List Int} {k : Int} (h : row.getD k.toNat (-1) = 123) (c : ¬ ((scanN row 16 6 (k + 1).toNat 0).2 : Int) - (k + 1) < 1) (g : row.getD ((scanN row 16 6 (k + 1).toNat 0).2 : Int).toNat (-1) = 125)
    (q : ¬ ((scanN row 16 6 (k + 1).toNat 0).1 > 1114111 ∨ (55296 ≤ (scanN row 16 6 (k + 1).toNat 0).1 ∧ (scanN row 16 6 (k + 1).toNat 0).1 < 57344))) : bracesN row k = .ok [(scanN row 16 6 (k + 1).toNat 0).1] ((scanN row 16 6 (k + 1).toNat 0).2 + 1) := by
  unfold bracesN; rw [if_pos h]; dsimp only; rw [if_neg c]; exact (if_pos g).trans (if_neg q)
theorem escV_bad {wd : Str} {begin : Int} {t t2 : Addr} {u1 u2 u3 : Tok} {e : Esc} (h : e = .bad wd) : EscV e begin (.ref t) [(t, tupO [.str "bad" u1, .ref t2]), (t2, tupO [.int begin u2, .str wd u3])] := by
  subst h; exact ⟨_, _, _, _, _, rfl, rfl⟩
theorem escV_ok {codes : List Int} {begin p : Int} {t l : Addr} {us : List Value} {u : Tok} {c : Nat} {e : Esc} (h : e = .ok codes p) (hi : IntsAre us codes) : EscV e begin (.ref t) [(t, tupO [.ref l, .int p u]), (l, listOf us.toArray c)] := by
  subst h; exact ⟨_, _, _, _, _, rfl, hi, rfl⟩
section
variable {w : World} {p : Program} {loose : List Str} {mean : ExcName → Option Value} {mg mb : Str → Option Value} {x d r : Addr} {t1 t2 t3 : Tok} {row : List Int} {vs : List Value} {nr : Nat} {pl : Int} {news : List (Addr × Obj)}
theorem braces_ok {at0 begin : Int} {ta tb : Tok} (hr : (r, listOf vs.toArray nr) ∈ news) (hi : IntsAre vs row) (h2 : row.length ≤ 18) (hm : ∀ c ∈ row, Menu c) (h0 : 0 ≤ at0) (h1 : at0 ≤ row.length) :
  CallOk w p loose mean mg mb 181 [.ref r, .int at0 ta, .int begin tb] 6 news (fun v news' => ∃ new, news' = new ++ news ∧ EscV (bracesN row at0) begin v new) := by
  intro dp un gd cn cs a ccd cl outer A₀ base' h₀ L m s Q E B F X N T hk hdp hun hret
  refine wpAny_call ?_
  k_dflt (walk_at "enterdef")
  k_steps
  all_goals first
    | (refine' hret _ (_ ++ news) _ _ (by assumption) (cb_drop (by assumption) ?sub) ⟨_, rfl, escV_bad ?esc⟩
       (case esc => first | exact br1 (by assumption) | exact br2 (by assumption) (by assumption) | exact br3 (by assumption) (by assumption) (by assumption) | exact br4 (by assumption) (by assumption) (by assumption) (by omega))
       (case sub => walk_at "sub2"))
    | (refine' hret _ (_ ++ news) _ _ (by assumption) (cb_drop (by assumption) ?sub) ⟨_, rfl, escV_ok ?esc ?qi⟩
       (case esc => exact br5 (by assumption) (by assumption) (by assumption) (by omega))
       (case sub => walk_at "sub2")
       (case qi => l_ints))
end
section
variable {row : List Int} {begin : Int}
theorem lines6 : True := by
  (k_with "call ref" => (k_here; (with_reducible show wpAny _ _ (call (Value.ref 181) _) _ _ _); (k_dflt (refine' (braces_ok ?hr ?hi ?h2 ?hm ?h0 ?h1) _ _ _ _ _ _ _ _ _ _ _ _ _ _ _ _ _ ?kB ?kF ?kX ?kN ?kT ?kK ?kd ?ku ?_; (case kB => k_asm); (case kF => k_asm); (case kX => k_asm); (case kT => k_asm); (case kK => first | exact rfl | assumption); (case kd => walk_at "room"); (case ku => walk_at "units"))); (case kN => k_asm); (case hr => k_mem); (case hi => assumption); (case h2 => assumption); (case hm => assumption); (case h0 => omega); (case h1 => omega); intro r9 n9 h9 tk9 F9 N9 P9; obtain ⟨new9, e9, V9⟩ := P9; subst e9; (try dsimp only); (try k_fold)))
  exact trivial
theorem es1 (h : (row.length : Int) < begin + 2) : escN row begin = .bad "end" := by
  unfold escN; rw [if_pos h]
theorem es2 (h : ¬ (row.length : Int) < begin + 2) (k : row.getD (begin + 1).toNat 0 = 110) : escN row begin = .ok [10] (begin + 2) := by
  unfold escN; rw [if_neg h, if_pos k]
theorem es34 (h : ¬ (row.length : Int) < begin + 2) (k : row.getD (begin + 1).toNat 0 = 120) : escN row begin = figEsc (scanN row 16 2 (begin + 2).toNat 0) (begin + 2) 2 := by
  unfold escN; rw [if_neg h, if_neg (by omega), if_pos k]
theorem es56 (h : ¬ (row.length : Int) < begin + 2) (k : ([120, 111].any fun x => x == row.getD (begin + 1).toNat 0) = true) (k2 : row.getD (begin + 1).toNat 0 ≠ 120) : escN row begin = figEsc (scanN row 8 3 (begin + 2).toNat 0) (begin + 2) 1 := by
  have k3 := any2.mp k
  unfold escN; rw [if_neg h, if_neg (by omega), if_neg (by omega), if_pos (by omega)]
theorem es7 (h : ¬ (row.length : Int) < begin + 2) (k : row.getD (begin + 1).toNat 0 = 117) : escN row begin = bracesN row (begin + 2) := by
  unfold escN; rw [if_neg h, if_neg (by omega), if_neg (by omega), if_neg (by omega), if_pos k]
theorem es8 (h : ¬ (row.length : Int) < begin + 2) (k : row.getD (begin + 1).toNat 0 = 119) (q : row.getD (begin + 2).toNat (-1) = 119) : escN row begin = .ok [87, 87] (begin + 2 + 1) := by
  unfold escN; rw [if_neg h, if_neg (by omega), if_neg (by omega), if_neg (by omega), if_neg (by omega), if_pos k, if_pos q]
theorem es9 (h : ¬ (row.length : Int) < begin + 2) (k : row.getD (begin + 1).toNat 0 = 119) (q : ¬ row.getD (begin + 2).toNat (-1) = 119) : escN row begin = .bad "pair" := by
  unfold escN; rw [if_neg h, if_neg (by omega), if_neg (by omega), if_neg (by omega), if_neg (by omega), if_pos k, if_neg q]
theorem es10 (h : ¬ (row.length : Int) < begin + 2) (k0 : row.getD (begin + 1).toNat 0 ≠ 110) (k : ([120, 111].any fun x => x == row.getD (begin + 1).toNat 0) = false) (k1 : row.getD (begin + 1).toNat 0 ≠ 117) (k2 : row.getD (begin + 1).toNat 0 ≠ 119) (k3 : row.getD (begin + 1).toNat 0 ≠ 10) : escN row begin = .bad "escape" := by
  have k4 := any2f.mp k
  unfold escN; rw [if_neg h, if_neg k0, if_neg (by omega), if_neg (by omega), if_neg k1, if_neg k2, if_neg k3]
theorem es11 (h : ¬ (row.length : Int) < begin + 2) (k : row.getD (begin + 1).toNat 0 = 10) : escN row begin = .ok [] (skipN row (row.length - (begin + 2).toNat) (begin + 2).toNat) := by
  unfold escN; rw [if_neg h, if_neg (by omega), if_neg (by omega), if_neg (by omega), if_neg (by omega), if_neg (by omega), if_pos k]
theorem figEsc_bad {vp : Int × Nat} {b l : Int} (h : (vp.2 : Int) - b < l) : figEsc vp b l = .bad "digits" := by unfold figEsc; rw [if_pos h]
theorem figEsc_ok {vp : Int × Nat} {b l : Int} (h : ¬ (vp.2 : Int) - b < l) : figEsc vp b l = .ok [vp.1] vp.2 := by unfold figEsc; rw [if_neg h]
theorem skip_exit {at1 : Int} {R : Nat} (h0 : 0 ≤ at1) (h1 : at1 ≤ row.length) (e : skipN row (row.length - at1.toNat) at1.toNat = R) (hx : ¬ at1 < row.length ∨ ([32, 10].any fun x => x == row.getD at1.toNat 0) = false) : (R : Int) = at1 := by
  have : skipN row (row.length - at1.toNat) at1.toNat = at1.toNat := by
    by_cases q : at1 < row.length
    · have hx := any2f.mp (hx.resolve_left (by omega))
      rw [show row.length - at1.toNat = (row.length - at1.toNat - 1) + 1 by omega, skipN, if_neg (by rw [getD_in (b := 0) (by omega)]; omega)]
    · rw [show row.length - at1.toNat = 0 by omega]; rfl
  omega
theorem skip_turn {at1 : Int} {R : Nat} (h0 : 0 ≤ at1) (h1 : at1 < row.length) (e : skipN row (row.length - at1.toNat) at1.toNat = R) (hx : ([32, 10].any fun x => x == row.getD at1.toNat 0) = true) : skipN row (row.length - (at1 + 1).toNat) (at1 + 1).toNat = R := by
  have hx := any2.mp hx
  rw [show row.length - at1.toNat = (row.length - (at1 + 1).toNat) + 1 by omega, skipN, if_pos (by rw [getD_in (b := 0) (by omega)]; omega)] at e
  rw [show (at1 + 1).toNat = at1.toNat + 1 by omega] at e ⊢
  exact e
end
section
variable {w : World} {p : Program} {loose : List Str} {mean : ExcName → Option Value} {mg mb : Str → Option Value} {x d r : Addr} {t1 t2 t3 : Tok} {row : List Int} {vs : List Value} {nr : Nat} {pl : Int} {news : List (Addr × Obj)}
theorem escape_ok {begin : Int} {tb : Tok} (hr : (r, listOf vs.toArray nr) ∈ news) (hi : IntsAre vs row) (h2 : row.length ≤ 18) (hm : ∀ c ∈ row, Menu c) (h0 : 0 ≤ begin) (h1 : begin < row.length) :
  CallOk w p loose mean mg mb 188 [.ref r, .int begin tb] 8 news (fun v news' => ∃ new, news' = new ++ news ∧ EscV (escN row begin) begin v new) := by
  intro dp un gd cn cs a ccd cl outer A₀ base' h₀ L m s Q E B F X N T hk hdp hun hret
  refine wpAny_call ?_
  k_dflt (walk_at "enterdef")
  k_steps
  all_goals first
    | (refine' hret _ (_ ++ news) _ _ (by assumption) (cb_drop (by assumption) ?sub) ⟨_, rfl, escV_bad ?esc⟩
       (case esc => first | exact es1 (by assumption) | exact (es34 (by assumption) (by assumption)).trans (figEsc_bad (by assumption)) | exact (es56 (by assumption) (by assumption) (by assumption)).trans (figEsc_bad (by assumption)) | exact es9 (by assumption) (by assumption) (by assumption) | exact es10 (by assumption) (by assumption) (by assumption) (by assumption) (by assumption) (by assumption))
       (case sub => walk_at "sub2"))
    | (refine' hret _ (_ ++ news) _ _ (by assumption) (cb_drop (by assumption) ?sub) ⟨_, rfl, escV_ok ?esc ?qi⟩
       (case esc => first | exact es2 (by assumption) (by assumption) | exact (es34 (by assumption) (by assumption)).trans (figEsc_ok (by assumption)) | exact (es56 (by assumption) (by assumption) (by assumption)).trans (figEsc_ok (by assumption)) | exact es8 (by assumption) (by assumption) (by assumption))
       (case sub => walk_at "sub2")
       (case qi => l_ints))
    | (refine hret _ (_ ++ news) _ _ (by assumption) (cb_drop (by assumption) ?sub) ⟨_, rfl, by rw [es7 (by assumption) (by assumption)]; assumption⟩
       (case sub => (intro p hp; rcases List.mem_append.mp hp with hp | hp
                     · exact List.mem_append_left _ hp
                     · exact List.mem_append_right _ (List.mem_cons_of_mem _ hp))))
    | skip
  refine Halt.mk ?_
  refine ksw_while (σ := Int × Tok) (fun _ => news) (fun c => [("at", .int c.1 c.2)]) (fun _ => True) []
    (fun c => begin + 2 ≤ c.1 ∧ c.1 ≤ row.length ∧ skipN row (row.length - c.1.toNat) c.1.toNat = skipN row (row.length - (begin + 2).toNat) (begin + 2).toNat)
    (fun c => ((row.length : Int) - c.1).toNat) (begin + 2, _) (by assumption) (cb_drop (by assumption) fun p hp => List.mem_cons_of_mem _ hp) trivial (by kst_all) ?_ ?_ (by with_unfolding_all passes_own)
  · exact ⟨Int.le_refl _, by omega, rfl⟩
  rintro ⟨at1, ta1⟩ u h tk - ⟨p1, p2, p3⟩ F2 N2
  dsimp only at *
  k_steps
  all_goals first
    | (refine Halt.mk (ksw_end (_, _) (by assumption) (cb_drop (by assumption) fun p hp => List.mem_cons_of_mem _ hp) (fun p hp => hp) trivial (by kst_all) (by walk_at "same1") ?_ ?_)
       · exact ⟨by omega, by omega, skip_turn (by omega) (by assumption) p3 (by assumption)⟩
       · dsimp only; omega)
    | (have e := skip_exit (by omega) p2 p3 (by first | exact .inl (by assumption) | exact .inr (by assumption))
       refine' hret _ (_ ++ news) _ _ (by assumption) (cb_drop (by assumption) ?sub) ⟨_, rfl, escV_ok ?esc ?qi⟩
       (case esc => exact (es11 (by assumption) (by assumption)).trans (by rw [e]))
       (case sub => walk_at "sub2")
       (case qi => exact IntsAre.nil))
end
theorem lines7 : True := by
  (k_with "call ref" => (k_here; (with_reducible show wpAny _ _ (call (Value.ref 188) _) _ _ _); (k_dflt (refine' (escape_ok ?hr ?hi ?h2 ?hm ?h0 ?h1) _ _ _ _ _ _ _ _ _ _ _ _ _ _ _ _ _ ?kB ?kF ?kX ?kN ?kT ?kK ?kd ?ku ?_; (case kB => k_asm); (case kF => k_asm); (case kX => k_asm); (case kT => k_asm); (case kK => first | exact rfl | assumption); (case kd => walk_at "room"); (case ku => walk_at "units"))); (case kN => k_asm); (case hr => k_mem); (case hi => assumption); (case h2 => assumption); (case hm => assumption); (case h0 => omega); (case h1 => omega); intro r9 n9 h9 tk9 F9 N9 P9; obtain ⟨new9, e9, V9⟩ := P9; (rcases escV_cases V9 with ⟨wd9, t9, t9', u9, u9', u9'', q9, e9', e9''⟩ | ⟨co9, p9, t9, l9, us9, c9, u9, q9, hI9, e9', e9''⟩); (all_goals (clear V9; subst e9'' e9' e9; (try have b9 := escN_le (by omega) q9 (by omega)); (try simp only [List.cons_append, List.nil_append] at N9); (try dsimp only); (try k_fold)))))
  exact trivial
open PyProof.V PySem.Spec PySem.SeqAt in
theorem eq_list_bad {prog : Program} {w : World} {A : Around} {E : Value → Shared → Prop} {s : Shared} {a : Addr} {vs : List Value} {ns : List Int} {t : Tok} {Q : Value → Shared → Prop} (hl : s.heap.IsList a vs.toArray) (hi : IntsAre vs ns) (hu : A.units + 64 < cLine)
    (h : Q (.bool false) s) : wpAny (model prog w) A (compareOp .Eq (.ref a) (.str "bad" t)) Q E s :=
  eq_dataH_same (reads_of_ints hl hi) (.str _ _) (shaped_ints ns) (by decide +kernel) hu (by simp only [noMix]) (by simp only [PySem.Spec.same]; exact h)
section
variable {row : List Int} {k : Nat} {q : Int} {fs : List Int} {R : Tell}
theorem tl_sign (h : q < row.length) (hk : (row.length : Int) - q ≤ k) (c : row.getD q.toNat 0 = 34) (e : tellN row k q fs = R) : R = .bad q "sign" := by
  obtain ⟨k, rfl⟩ : ∃ k', k = k' + 1 := ⟨k - 1, by omega⟩
  rw [← e, tellN, if_pos h, if_pos c]
theorem tl_bare (h : q < row.length) (hk : (row.length : Int) - q ≤ k) (c : row.getD q.toNat 0 ≠ 34) (c2 : row.getD q.toNat 0 ≠ 92) (e : tellN row k q fs = R) : ∃ k' : Nat, (row.length : Int) - (q + 1) ≤ k' ∧ tellN row k' (q + 1) (fs ++ [row.getD q.toNat 0]) = R := by
  obtain ⟨k, rfl⟩ : ∃ k', k = k' + 1 := ⟨k - 1, by omega⟩
  rw [tellN, if_pos h, if_neg c, if_neg c2] at e
  exact ⟨k, by omega, e⟩
theorem tl_bad {w : Str} (h : q < row.length) (hk : (row.length : Int) - q ≤ k) (c : row.getD q.toNat 0 ≠ 34) (c2 : row.getD q.toNat 0 = 92) (x : escN row q = .bad w) (e : tellN row k q fs = R) : R = .bad q w := by
  obtain ⟨k, rfl⟩ : ∃ k', k = k' + 1 := ⟨k - 1, by omega⟩
  rw [← e, tellN, if_pos h, if_neg c, if_pos c2, x]
theorem tl_esc {codes : List Int} {p : Int} (h : q < row.length) (hk : (row.length : Int) - q ≤ k) (c : row.getD q.toNat 0 ≠ 34) (c2 : row.getD q.toNat 0 = 92) (x : escN row q = .ok codes p) (hp : q + 1 ≤ p) (e : tellN row k q fs = R) : ∃ k' : Nat, (row.length : Int) - p ≤ k' ∧ tellN row k' p (fs ++ codes) = R := by
  obtain ⟨k, rfl⟩ : ∃ k', k = k' + 1 := ⟨k - 1, by omega⟩
  rw [tellN, if_pos h, if_neg c, if_pos c2, x] at e
  exact ⟨k, by omega, e⟩
theorem tl_end (h : ¬ q < row.length) (e : tellN row k q fs = R) : R = .told fs := by
  rw [← e]
  cases k with
  | zero => rfl
  | succ k => rw [tellN, if_neg h]
end
section
variable {w : World} {p : Program} {loose : List Str} {mean : ExcName → Option Value} {mg mb : Str → Option Value} {x d r : Addr} {t1 t2 t3 : Tok} {row : List Int} {vs : List Value} {nr : Nat} {pl : Int} {news : List (Addr × Obj)}
theorem lines8 : True := by
  (k_with "fresh" => ((try dsimp only); with_reducible first | assumption | exact allLt_ne (allLt_of (by assumption)) | exact allLt_ne (by assumption) | exact allLt_ne (And.right (by assumption)) | exact allLt_ne (And.right (And.right (by assumption))) | exact allLt_ne (And.right (And.right (And.right (by assumption)))) | exact allLt_ne (And.right (And.right (And.right (And.right (by assumption))))) | exact allLt_ne (And.right (And.right (And.right (And.right (And.right (by assumption))))))))
  (k_with "compareOp Eq ref str" => (k_here; (with_unfolding_all refine' eq_list_bad ?k1 ?k2 ?k5 ?_; (case k1 => is_list); (case k2 => l_ints); (case k5 => walk_at "units"); k_whole)))
  exact trivial
theorem told_ok (hr : (r, listOf vs.toArray nr) ∈ news) (hi : IntsAre vs row) (h2 : row.length ≤ 18) (hm : ∀ c ∈ row, Menu c) :
  CallOk w p loose mean mg mb 195 [.ref r] 10 news (fun v news' => ∃ new, news' = new ++ news ∧ TellV (tellN row row.length 0 []) v new news) := by
  intro dp un gd cn cs a ccd cl outer A₀ base' h₀ L m s Q E B F X N T hk hdp hun hret
  refine wpAny_call ?_
  k_dflt (walk_at "enterdef")
  k_steps
  refine Halt.mk ?_
  refine ksw_while (σ := Addr × List Value × List Int × Nat × Int × Tok) (fun c => (c.1, listOf c.2.1.toArray c.2.2.2.1) :: news) (fun c => [("found", .ref c.1), ("at", .int c.2.2.2.2.1 c.2.2.2.2.2)]) (fun c => IntsAre c.2.1 c.2.2.1 ∧ ∀ p ∈ news, p.1 ≠ c.1) ["codes", "behind"]
    (fun c => 0 ≤ c.2.2.2.2.1 ∧ c.2.2.2.2.1 ≤ row.length ∧ (c.2.2.1.length : Int) ≤ c.2.2.2.2.1 ∧ ∃ k : Nat, (row.length : Int) - c.2.2.2.2.1 ≤ k ∧ tellN row k c.2.2.2.2.1 c.2.2.1 = tellN row row.length 0 [])
    (fun c => ((row.length : Int) - c.2.2.2.2.1).toNat) (_, [], [], 0, 0, _) (by assumption) (cb_drop (by assumption) fun p hp => List.mem_cons_of_mem _ hp) ⟨IntsAre.nil, by walk_at "fresh"⟩ (by kst_all) ?_ ?_ (by with_unfolding_all passes_own)
  · exact ⟨Int.le_refl _, by dsimp only; omega, Int.le_refl _, row.length, by dsimp only; omega, rfl⟩
  rintro ⟨l, us, fs, c, q, tq⟩ u h tk ⟨hF, hFr⟩ ⟨p1, p2, p3, k, p4, p5⟩ F2 N2
  dsimp only at *
  k_steps
  all_goals first
    | (refine' Halt.mk (ksw_end (_, _, _, _, _, _) ?kF (cb_drop ?kN ?sub) (fun p hp => hp) ?kI ?kk ?ks ?kp ?km)
       (case kF => assumption)
       (case kN => assumption)
       (case kk => kst_all)
       (case sub => walk_at "sub1")
       (case kI => dsimp only; exact ⟨by assumption, by walk_at "fresh"⟩)
       (case ks => walk_at "sameC")
       (case kp => (dsimp only; first
         | exact ⟨by omega, by omega, by simp only [List.length_append, List.length_cons, List.length_nil]; omega, tl_bare (by assumption) p4 (by assumption) (by assumption) p5⟩
         | exact ⟨by omega, by omega, by simp only [List.length_append]; omega, tl_esc (by assumption) p4 (by assumption) (by assumption) (by assumption) (by omega) p5⟩))
       (case km => dsimp only; omega))
    | (refine' hret _ (_ ++ news) _ _ (by assumption) (cb_drop (by assumption) ?sub) ⟨_, rfl, tellV_bad ?esc⟩
       (case esc => first | exact tl_sign (by assumption) p4 (by assumption) p5 | exact tl_bad (by assumption) p4 (by assumption) (by assumption) (by assumption) p5)
       (case sub => walk_at "sub2"))
    | (refine' hret _ (_ ++ news) _ _ (by assumption) (cb_drop (by assumption) ?sub) ⟨_, rfl, tellV_told ?esc ?qi hFr⟩
       (case esc => exact tl_end (by assumption) p5)
       (case sub => walk_at "sub2")
       (case qi => assumption))
end
section
open PySem.Spec Builtin Builtin.ObjectAttr
theorem lines9 : True := by
  k_with_none
  (k_with "room" => (first | (simp only [depth_under_make, depth_under_kw, depth_in1, depth_deeper, depth_caller, recursionLimit]; omega) | ((try simp only [depth_under_make, depth_under_kw, depth_in1, depth_deeper, depth_caller, recursionLimit] at *); (try dsimp only [ktrTop] at *); omega)))
  (k_with "units" => (first | (simp only [units_in1, units_deeper, Around.mark_units, units_caller, cLine_is]; omega) | ((try simp only [units_in1, units_deeper, Around.mark_units, units_caller] at *); (try dsimp only [ktrTop] at *); omega)))
  (k_with "enterdef" => (refine' code_def ?k1 ?k2 ?k3 ?k4 ?k5 ?kA ?kF ?kK ?k6 ?k7 ?k8 ?k9 ?kB ?_ ?c2 ?c3 ?c4 ?c5; (case kA => exact rfl); (case kF => exact rfl); (case kK => first | exact rfl | assumption); (case k1 => k_asm); (case k2 => k_asm); (case k3 => k_asm); (case k4 => k_asm); (case k5 => k_asm); (case k6 => k_is); (case k7 => k_is); (case k8 => walk_at "room"); (case k9 => exact BindsTo.of_eq rfl); (case c5 => decide); (case kB => exact locs rfl); (case c2 => exact rfl); (case c3 => exact rfl); (case c4 => exact rfl); k_whole; intro g' L' h' FG' F' N' B' X' T'; (try dsimp only); (try k_fold)))
  (k_with "exec While BoolOp cons nil" => (refine Halt.go ?_))
  (k_with "exec While Compare cons nil" => (refine Halt.go ?_))
  (k_with "exec While UnaryOp cons nil" => (refine Halt.go ?_))
  (k_with "KswEnd" => (refine Halt.go ?_))
  (k_with "same1" => (intro z h2 h3; (have a1 := h2 _ (.head _)); dsimp only at a1; simp only [kstB, if_neg a1, List.contains_nil, Bool.false_eq_true, if_false]))
  (k_with "same2" => (intro z h2 h3; (have a1 := h2 _ (.head _)); (have a2 := h2 _ (.tail _ (.head _))); dsimp only at a1 a2; simp only [kstB, if_neg a1, if_neg a2, List.contains_nil, Bool.false_eq_true, if_false]))
  (k_with "compareOp NotEq ref ref" => (k_here; (with_unfolding_all refine' ne_slice1 ?k1 ?k2 ?k3 ?k4 ?k5 ?h0 ?h1 ?hc ?_; (case k1 => is_list); (case k2 => l_ints); (case k3 => is_list); (case k4 => l_ints); (case k5 => walk_at "units"); (case h0 => omega); (case h1 => omega); (case hc => decide); k_whole)))
  (k_with "compareOp Eq ref ref" => (k_here; (with_unfolding_all refine' eq_slice1 ?k1 ?k2 ?k3 ?k4 ?k5 ?h0 ?h1 ?hc ?_; (case k1 => is_list); (case k2 => l_ints); (case k3 => is_list); (case k4 => l_ints); (case k5 => walk_at "units"); (case h0 => omega); (case h1 => omega); (case hc => decide); k_whole)))
  (k_with "sameC" => (intro z h2 h3; (have a1 := h2 _ (.head _)); (have a2 := h2 _ (.tail _ (.head _))); dsimp only at a1 a2; (simp only [List.contains_cons, List.contains_nil, Bool.or_false, Bool.or_eq_false_iff, beq_eq_false_iff_ne, ne_eq] at h3); simp only [kstB, if_neg a1, if_neg a2, if_neg h3.1, if_neg h3.2, List.contains_cons, List.contains_nil, beq_eq_false_iff_ne.mpr h3.1, beq_eq_false_iff_ne.mpr h3.2, Bool.or_false, Bool.false_eq_true, if_false]))
  (k_with "sub2" => (refine List.forall_mem_cons.mpr ⟨?a, List.forall_mem_cons.mpr ⟨?b, ?c⟩⟩; (case a => k_mem); (case b => k_mem); (case c => (intro p hp; (repeat refine List.mem_cons_of_mem _ ?_); exact hp))))
  (k_with "sub1" => (refine List.forall_mem_cons.mpr ⟨?a, ?c⟩; (case a => k_mem); (case c => (intro p hp; (repeat refine List.mem_cons_of_mem _ ?_); exact hp))))
  (k_with "eval Call" => (k_here; k_dflt (refine Call_ ?_)))
  (k_with "compareOp In int ref" => (k_here; (with_unfolding_all refine' in_list_ints ?k1 ?k2 ?_; (case k1 => is_list); (case k2 => l_ints); k_whole)))
  (k_with "same21" => (intro z h2 h3; (have a1 := h2 _ (.head _)); (have a2 := h2 _ (.tail _ (.head _))); dsimp only at a1 a2; (simp only [List.contains_cons, List.contains_nil, Bool.or_false, beq_eq_false_iff_ne, ne_eq] at h3); simp only [kstB, if_neg a1, if_neg a2, if_neg h3, List.contains_cons, List.contains_nil, beq_eq_false_iff_ne.mpr h3, Bool.or_false, Bool.false_eq_true, if_false]))
  (k_with "call ref" => (k_here; (with_reducible show wpAny _ _ (call (Value.ref 75) _) _ _ _); (k_dflt (refine' escape_digit_ok _ _ _ _ _ _ _ _ _ _ _ _ _ _ _ _ _ ?kB ?kF ?kX ?kN ?kT ?kK ?kd ?ku ?_; (case kB => k_asm); (case kF => k_asm); (case kX => k_asm); (case kT => k_asm); (case kK => first | exact rfl | assumption); (case kd => walk_at "room"); (case ku => walk_at "units"))); (case kN => k_asm); intro r9 n9 h9 tk9 F9 N9 P9; obtain ⟨e9, e9'⟩ := P9; subst e9; (try dsimp only); (try k_fold)))
  (k_with "call ref" => (k_here; (with_reducible show wpAny _ _ (call (Value.ref 54) _) _ _ _); (k_dflt (refine' is_code_ok _ _ _ _ _ _ _ _ _ _ _ _ _ _ _ _ _ ?kB ?kF ?kX ?kN ?kT ?kK ?kd ?ku ?_; (case kB => k_asm); (case kF => k_asm); (case kX => k_asm); (case kT => k_asm); (case kK => first | exact rfl | assumption); (case kd => walk_at "room"); (case ku => walk_at "units"))); (case kN => k_asm); intro r9 n9 h9 tk9 F9 N9 P9; obtain ⟨e9, e9'⟩ := P9; subst e9 e9'; (try dsimp only); (try k_fold)))
  (k_with "call ref" => (k_here; (with_reducible show wpAny _ _ (call (Value.ref 61) _) _ _ _); (k_dflt (refine' is_surrogate_ok _ _ _ _ _ _ _ _ _ _ _ _ _ _ _ _ _ ?kB ?kF ?kX ?kN ?kT ?kK ?kd ?ku ?_; (case kB => k_asm); (case kF => k_asm); (case kX => k_asm); (case kT => k_asm); (case kK => first | exact rfl | assumption); (case kd => walk_at "room"); (case ku => walk_at "units"))); (case kN => k_asm); intro r9 n9 h9 tk9 F9 N9 P9; obtain ⟨e9, e9'⟩ := P9; subst e9 e9'; (try dsimp only); (try k_fold)))
  (k_with "call ref" => (k_here; (with_reducible show wpAny _ _ (call (Value.ref 96) _) _ _ _); (k_dflt (refine' (is_over_ok ?hx ?hdd ?hr ?hi ?h2) _ _ _ _ _ _ _ _ _ _ _ _ _ _ _ _ _ ?kB ?kF ?kX ?kN ?kT ?kK ?kd ?ku ?_; (case kB => k_asm); (case kF => k_asm); (case kX => k_asm); (case kT => k_asm); (case kK => first | exact rfl | assumption); (case kd => walk_at "room"); (case ku => walk_at "units"))); (case kN => k_asm); (case hx => k_mem); (case hdd => k_mem); (case hr => k_mem); (case hi => l_ints); (case h2 => omega); intro r9 n9 h9 tk9 F9 N9 P9; obtain ⟨e9, e9'⟩ := P9; subst e9 e9'; (try dsimp only); (try k_fold)))
  (k_with "call ref" => (k_here; (with_reducible show wpAny _ _ (call (Value.ref 103) _) _ _ _); (k_dflt (refine' (sign_ok ?hx ?hdd ?hr ?hi ?h0 ?h1 ?h2) _ _ _ _ _ _ _ _ _ _ _ _ _ _ _ _ _ ?kB ?kF ?kX ?kN ?kT ?kK ?kd ?ku ?_; (case kB => k_asm); (case kF => k_asm); (case kX => k_asm); (case kT => k_asm); (case kK => first | exact rfl | assumption); (case kd => walk_at "room"); (case ku => walk_at "units"))); (case kN => k_asm); (case hx => k_mem); (case hdd => k_mem); (case hr => k_mem); (case hi => l_ints); (case h0 => omega); (case h1 => omega); (case h2 => omega); intro r9 n9 h9 tk9 F9 N9 P9; obtain ⟨e9, t9, e9'⟩ := P9; subst e9 e9'; (try dsimp only); (try k_fold)))
  (k_with "call ref" => (k_here; (with_reducible show wpAny _ _ (call (Value.ref 68) _) _ _ _); (k_dflt (refine' is_scalar_ok _ _ _ _ _ _ _ _ _ _ _ _ _ _ _ _ _ ?kB ?kF ?kX ?kN ?kT ?kK ?kd ?ku ?_; (case kB => k_asm); (case kF => k_asm); (case kX => k_asm); (case kT => k_asm); (case kK => first | exact rfl | assumption); (case kd => walk_at "room"); (case ku => walk_at "units"))); (case kN => k_asm); intro r9 n9 h9 tk9 F9 N9 P9; obtain ⟨e9, e9'⟩ := P9; subst e9 e9'; (try dsimp only); (try k_fold)))
  (k_with "call ref" => (k_here; (with_reducible show wpAny _ _ (call (Value.ref 167) _) _ _ _); (k_dflt (refine' (law_value_ok ?hc ?hb) _ _ _ _ _ _ _ _ _ _ _ _ _ _ _ _ _ ?kB ?kF ?kX ?kN ?kT ?kK ?kd ?ku ?_; (case kB => k_asm); (case kF => k_asm); (case kX => k_asm); (case kT => k_asm); (case kK => first | exact rfl | assumption); (case kd => walk_at "room"); (case ku => walk_at "units"))); (case kN => k_asm); (case hc => first | assumption | (apply menu_at <;> first | assumption | omega)); (case hb => assumption); intro r9 n9 h9 tk9 F9 N9 P9; obtain ⟨e9, e9'⟩ := P9; subst e9; (rcases optV_cases e9' with ⟨q9, e9''⟩ | ⟨k9, t9, q9, e9''⟩ <;> (subst e9''; (try (have b9 := figB_bnd q9)); (try (exfalso; exact fig_clash (by assumption) (by assumption))); (try dsimp only); (try k_fold)))))
  (k_with "call ref" => (k_here; (with_reducible show wpAny _ _ (call (Value.ref 174) _) _ _ _); (k_dflt (refine' (figures_ok ?hr ?hi ?h2 ?hm ?hb ?h0 ?h1 ?m0 ?m1 ?l0 ?l1) _ _ _ _ _ _ _ _ _ _ _ _ _ _ _ _ _ ?kB ?kF ?kX ?kN ?kT ?kK ?kd ?ku ?_; (case kB => k_asm); (case kF => k_asm); (case kX => k_asm); (case kT => k_asm); (case kK => first | exact rfl | assumption); (case kd => walk_at "room"); (case ku => walk_at "units"))); (case kN => k_asm); (case hr => k_mem); (case hi => l_ints); (case h2 => assumption); (case hm => assumption); (case hb => first | exact .inl rfl | exact .inr rfl); (case h0 => omega); (case h1 => first | omega | ((have g9 := getD_lt (by assumption) (by decide)); omega)); (case m0 => decide); (case m1 => decide); (case l0 => decide); (case l1 => decide); intro r9 n9 h9 tk9 F9 N9 P9; (try simp only [Int.reduceToNat] at P9); (rcases fig_casesB P9 (by first | omega | ((have g9 := getD_lt (by assumption) (by decide)); omega)) with ⟨b9, c9, e9, e9'⟩ | ⟨b9, c9, t9, u9, u9', e9, e9'⟩); (all_goals (clear P9; subst e9 e9'; (try dsimp only); (try k_fold)))))
  (k_with "call ref" => (k_here; (with_reducible show wpAny _ _ (call (Value.ref 181) _) _ _ _); (k_dflt (refine' (braces_ok ?hr ?hi ?h2 ?hm ?h0 ?h1) _ _ _ _ _ _ _ _ _ _ _ _ _ _ _ _ _ ?kB ?kF ?kX ?kN ?kT ?kK ?kd ?ku ?_; (case kB => k_asm); (case kF => k_asm); (case kX => k_asm); (case kT => k_asm); (case kK => first | exact rfl | assumption); (case kd => walk_at "room"); (case ku => walk_at "units"))); (case kN => k_asm); (case hr => k_mem); (case hi => assumption); (case h2 => assumption); (case hm => assumption); (case h0 => omega); (case h1 => omega); intro r9 n9 h9 tk9 F9 N9 P9; obtain ⟨new9, e9, V9⟩ := P9; subst e9; (try dsimp only); (try k_fold)))
  (k_with "call ref" => (k_here; (with_reducible show wpAny _ _ (call (Value.ref 188) _) _ _ _); (k_dflt (refine' (escape_ok ?hr ?hi ?h2 ?hm ?h0 ?h1) _ _ _ _ _ _ _ _ _ _ _ _ _ _ _ _ _ ?kB ?kF ?kX ?kN ?kT ?kK ?kd ?ku ?_; (case kB => k_asm); (case kF => k_asm); (case kX => k_asm); (case kT => k_asm); (case kK => first | exact rfl | assumption); (case kd => walk_at "room"); (case ku => walk_at "units"))); (case kN => k_asm); (case hr => k_mem); (case hi => assumption); (case h2 => assumption); (case hm => assumption); (case h0 => omega); (case h1 => omega); intro r9 n9 h9 tk9 F9 N9 P9; obtain ⟨new9, e9, V9⟩ := P9; (rcases escV_cases V9 with ⟨wd9, t9, t9', u9, u9', u9'', q9, e9', e9''⟩ | ⟨co9, p9, t9, l9, us9, c9, u9, q9, hI9, e9', e9''⟩); (all_goals (clear V9; subst e9'' e9' e9; (try have b9 := escN_le (by omega) q9 (by omega)); (try simp only [List.cons_append, List.nil_append] at N9); (try dsimp only); (try k_fold)))))
  (k_with "call ref" => (k_here; (with_reducible show wpAny _ _ (call (Value.ref 195) _) _ _ _); (k_dflt (refine' (told_ok ?hr ?hi ?h2 ?hm) _ _ _ _ _ _ _ _ _ _ _ _ _ _ _ _ _ ?kB ?kF ?kX ?kN ?kT ?kK ?kd ?ku ?_; (case kB => k_asm); (case kF => k_asm); (case kX => k_asm); (case kT => k_asm); (case kK => first | exact rfl | assumption); (case kd => walk_at "room"); (case ku => walk_at "units"))); (case kN => k_asm); (case hr => k_mem); (case hi => assumption); (case h2 => assumption); (case hm => assumption); intro r9 n9 h9 tk9 F9 N9 P9; obtain ⟨new9, e9, V9⟩ := P9; subst e9; (try dsimp only); (try k_fold)))
  exact trivial
theorem pass_exc (self : Value) : refuseLoop self "__setattr__" [.type "Exception", .type "BaseException", .type "object"] = pure () := by
  kernel_rfl
abbrev bmBad : List Value := [.ref 32, .type "Exception", .type "BaseException", .type "object"]
abbrev excO (od : Option Addr) (ta : Addr) : Obj := { cls := .ref 45, dict := od, data := .fields #[.ref ta, .none, .none, .none, .bool false, .none] }
abbrev toldD (w : World) (v : Value) (tk : Tok) : Obj := dictOf [⟨PyData.keyHash w.params "told", .str "told" tk, v⟩] 1
theorem cls45 (P : Params) : ∃ nm q bs sn sub ab col dd k0 k1 k2 k3 k5, List.lookup 45 (hd.heap_39 P) = some (excClassObj nm q 45 44 bs bmBad true sn sub ab col dd k0 k1 k2 k3 k5 "Exception.__new__") := by
  exact ⟨_, _, _, _, _, _, _, _, _, _, _, _, _, by k_is⟩
variable {w : World} {A : Around} {E : Value → Shared → Prop} {s : Shared} {h₀ : Heap} {L : Addr} {m : Str → Option Value} {news : List (Addr × Obj)}
theorem set_told {e ta : Addr} {v : Value} {Q : Unit → Shared → Prop} (F : Fr h₀ L s.heap m) (X₀ : (hd.heap_39 w.params).In h₀) (N : News h₀ L s.heap ((e, excO none ta) :: news)) (hne : ∀ p ∈ news, p.1 ≠ e)
    (h : ∀ d h' t tk', Fr h₀ L h' m → News h₀ L h' ((e, excO (some d) ta) :: (d, toldD w v t) :: news) → (∀ p ∈ (e, excO none ta) :: news, p.1 < d) → Q () { s with heap := h', toks := tk' }) :
    wpAny (model PG w) A (setAttr (.ref e) "told" v) Q E s := by
  obtain ⟨hh, g, dr, t, os⟩ := s
  dsimp only at F N
  have X : (hd.heap_39 w.params).In hh := X₀.keeps F.keep
  have hx := (N _ (.head _)).1
  have I : InstAt hh e (excO none ta) 45 none := ⟨hx, rfl, rfl, trivial⟩
  obtain ⟨nm, q, bs, sn, sub, ab, col, dd, k0, k1, k2, k3, k5, hl⟩ := cls45 w.params
  have hC := X _ _ hl
  refine set_plain X I ?hs ?_
  case hs => k_is
  have SF := PySem.F.store_object
  have isT : Looks (model PG w) hh (isInstance (.ref e) (.type "object")) true := I.type.andThen (looks_mroIn X (by k_is))
  have hcd : Looks (model PG w) hh (classData 45) { name := nm, bases := bs, mro := .ref 45 :: bmBad, ns := 44, qualname := q, hasDict := true, slotNames := sn, subclasses := sub, abstract := ab, collection := col, hasDel := false } := (Looks.ld (part := none) hC).andThen .now
  have hm : Looks (model PG w) hh (mroOf (.ref 45)) (.ref 45 :: bmBad) := hcd.andThen .now
  have ha : Looks (model PG w) hh (typeLookup (.ref 45) "told") none := looks_findIn X (by k_is)
  have h3 : Looks (model PG w) hh (storeTaker? none) none := .now
  have ht : Looks (model PG w) hh (typeOf (.ref e)) (.ref 45) := I.type
  refine codeAny_call_builtin SF.slot.plain SF.entry (@check_slot (model PG w) _ _ ⟨hh, g, dr, t + 1, os⟩ "object.__setattr__" "object" "__setattr__" (.ref e) [.str "told" t, v] [] _ SF.kind SF.split isT (SF.args (.ref e) (.str "told" t) v) ?_)
  rw [osa_eq, refuse_eq]
  refine wpAny_bind (wpAny_bind (ht.at (wpAny_bind (hm.at ?_))))
  rw [refuseLoop_ref, refuseLoop_ref, pass_exc]
  refine wpAny_pure (wpAny_bind (ht.at (wpAny_bind (ha.at (wpAny_bind (h3.at ?_))))))
  have hxs : e ≠ hh.objs.size := Nat.ne_of_lt (Heap.lt_size hx)
  have hx₁ : (hh.push emptyDict).get? e = some (excO none ta) := Heap.get?_push_of_some _ hx
  unfold storeInOwnDict ownDictForStores instanceDict
  refine wpAny_bind (wpAny_pure (wpAny_bind ?_))
  refine wpAny_bind (wpAny_loadPart hx (wpAny_bind (hcd.at ?_)))
  refine wpAny_bind (wpAny_alloc' ?_)
  refine wpAny_bind (wpAny_update' hx₁ ?_)
  refine wpAny_pure ?_
  show wpAny _ _ (storeInDict hh.objs.size (.str "told" t) "told" v) _ _ _
  unfold storeInDict newKeyGuard nsSet
  refine wpAny_bind (wpAny_pure (wpAny_bind ?_))
  have F1 := F.push emptyDict
  have N1 := N.push F emptyDict
  have lt : ∀ p ∈ (e, excO none ta) :: news, p.1 < hh.objs.size := fun p hp => Heap.lt_size (N p hp).1
  obtain ⟨F2, N2⟩ := news_upd (pre := [(hh.objs.size, emptyDict)]) (post := news) (o := excO none ta) (o' := excO (some hh.objs.size) ta) (f := fun o => { o with dict := some hh.objs.size }) F1 N1 (fun p hp => by rw [List.mem_singleton.mp hp]; exact hxs.symm) hne rfl rfl
  obtain ⟨F3, N3⟩ := news_upd (pre := []) (post := (e, excO (some hh.objs.size) ta) :: news) (o := emptyDict) (o' := toldD w v (t + 1)) (f := Obj.putName "told" (PyData.keyHash w.params "told") (.str "told" (t + 1)) v) F2 N2 (fun p hp => nomatch hp)
    (fun p hp => by
      rcases List.mem_cons.mp hp with rfl | hp
      · exact hxs
      · exact Nat.ne_of_lt (lt p (.tail _ hp))) rfl rfl
  have D := (N2 (hh.objs.size, emptyDict) (.head _)).1
  have D3 := (N3 (hh.objs.size, toldD w v (t + 1)) (.head _)).1
  refine wpAny_bind (wpAny_bind (wpAny_askSetting (wpAny_pure (wpAny_bind (wpAny_mkText (wpAny_bind (wpAny_loadPart D ?_)))))))
  dsimp only
  have c0 : aRefKeyMayBeTheName "told" #[] = false := by rw [aRefKeyMayBeTheName_at, ← Array.any_toList, ← Array.any_toList]; rfl
  rw [c0]
  refine wpAny_updatePart D ?_
  refine wpAny_bind (wpAny_lookBehind D3 (by exact pastItsLine_dict (by show (1 : Nat) ≤ _; rw [sizeLine_eq]; omega)) ?_)
  refine wpAny_pure (h hh.objs.size _ (t + 1) _ F3 (fun p hp => ?_) lt)
  rcases List.mem_cons.mp hp with rfl | hp
  · exact N3 _ (.tail _ (.head _))
  · rcases List.mem_cons.mp hp with rfl | hp
    · exact N3 _ (.head _)
    · exact N3 _ (.tail _ (.tail _ hp))
end
section
open PySem.Spec
variable {w : World} {p : Program} {loose : List Str} {mean : ExcName → Option Value} {mg mb : Str → Option Value} {news : List (Addr × Obj)}
theorem lines10 : True := by
  (k_with "enterdefd" => (refine' code_def ?k1 ?k2 ?k3 ?k4 ?k5 ?kA ?kF ?kK ?k6 ?k7 ?k8 ?k9 ?kB ?_ ?c2 ?c3 ?c4 ?c5; (case kA => exact rfl); (case kF => exact rfl); (case kK => first | exact rfl | assumption); (case k1 => k_asm); (case k2 => k_asm); (case k3 => k_asm); (case k4 => k_asm); (case k5 => k_asm); (case k6 => k_is); (case k7 => k_is); (case k8 => walk_at "room"); (case k9 => exact binds_K (by k_in) rfl (by k_is) rfl rfl rfl); (case c5 => decide); (case kB => exact locs rfl); (case c2 => exact rfl); (case c3 => exact rfl); (case c4 => exact rfl); k_whole; intro g' L' h' FG' F' N' B' X' T'; (try dsimp only); (try k_fold)))
  (k_with "setAttr ref" => (k_here; (with_reducible show wpAny _ _ (setAttr (Value.ref _) ("told" : Str) _) _ _ _); k_dflt (refine' set_told ?k1 ?k2 ?k3 ?k4 ?_; (case k1 => k_asm); (case k2 => k_asm); (case k3 => k_asm); (case k4 => assumption)); intro d' h' t' tk' F' N' l1; (try k_sweep)))
  exact trivial
theorem init_ok {e ta : Addr} {v : Value} (hne : ∀ p ∈ news, p.1 ≠ e) :
  CallOk w p loose mean mg mb 29 [.ref e, v] 1 ((e, excO none ta) :: news) (fun r news' => r = .none ∧ ∃ d t, news' = (e, excO (some d) ta) :: (d, toldD w v t) :: news ∧ ∀ p ∈ (e, excO none ta) :: news, p.1 < d) := by
  intro dp un gd cn cs a ccd cl outer A₀ base' h₀ L m s Q E B F X N T hk hdp hun hret
  refine wpAny_call ?_
  k_dflt (walk_at "enterdefd")
  k_steps
  all_goals exact hret _ _ _ _ (by assumption) (by assumption) ⟨rfl, _, _, rfl, by assumption⟩
end
section
open PySem.Spec
variable {prog : Program} {w : World} {A : Around} {R : Result → Shared → Prop} {E : Value → Shared → Prop} {h : Heap} {g : Array GenState} {d : Drawn} {t : Nat} {os : OsState}
variable {nm q : Str} {C N : Addr} {bs bm : List Value} {hdct : Bool} {sn : List Str} {sub : List Value} {ab : Bool} {col : Option Bool} {dd : Option Addr} {k0 k1 k2 k3 k5 : Option Value}
theorem lines11 : True := by
  k_with_none
  (k_with "room" => (first | (simp only [depth_under_make, depth_under_kw, depth_in1, depth_deeper, depth_caller, recursionLimit]; omega) | ((try simp only [depth_under_make, depth_under_kw, depth_in1, depth_deeper, depth_caller, recursionLimit] at *); (try dsimp only [ktrTop] at *); omega)))
  (k_with "units" => (first | (simp only [units_in1, units_deeper, Around.mark_units, units_caller, cLine_is]; omega) | ((try simp only [units_in1, units_deeper, Around.mark_units, units_caller] at *); (try dsimp only [ktrTop] at *); omega)))
  (k_with "enterdef" => (refine' code_def ?k1 ?k2 ?k3 ?k4 ?k5 ?kA ?kF ?kK ?k6 ?k7 ?k8 ?k9 ?kB ?_ ?c2 ?c3 ?c4 ?c5; (case kA => exact rfl); (case kF => exact rfl); (case kK => first | exact rfl | assumption); (case k1 => k_asm); (case k2 => k_asm); (case k3 => k_asm); (case k4 => k_asm); (case k5 => k_asm); (case k6 => k_is); (case k7 => k_is); (case k8 => walk_at "room"); (case k9 => exact BindsTo.of_eq rfl); (case c5 => decide); (case kB => exact locs rfl); (case c2 => exact rfl); (case c3 => exact rfl); (case c4 => exact rfl); k_whole; intro g' L' h' FG' F' N' B' X' T'; (try dsimp only); (try k_fold)))
  (k_with "exec While BoolOp cons nil" => (refine Halt.go ?_))
  (k_with "exec While Compare cons nil" => (refine Halt.go ?_))
  (k_with "exec While UnaryOp cons nil" => (refine Halt.go ?_))
  (k_with "KswEnd" => (refine Halt.go ?_))
  (k_with "same1" => (intro z h2 h3; (have a1 := h2 _ (.head _)); dsimp only at a1; simp only [kstB, if_neg a1, List.contains_nil, Bool.false_eq_true, if_false]))
  (k_with "same2" => (intro z h2 h3; (have a1 := h2 _ (.head _)); (have a2 := h2 _ (.tail _ (.head _))); dsimp only at a1 a2; simp only [kstB, if_neg a1, if_neg a2, List.contains_nil, Bool.false_eq_true, if_false]))
  (k_with "compareOp NotEq ref ref" => (k_here; (with_unfolding_all refine' ne_slice1 ?k1 ?k2 ?k3 ?k4 ?k5 ?h0 ?h1 ?hc ?_; (case k1 => is_list); (case k2 => l_ints); (case k3 => is_list); (case k4 => l_ints); (case k5 => walk_at "units"); (case h0 => omega); (case h1 => omega); (case hc => decide); k_whole)))
  (k_with "compareOp Eq ref ref" => (k_here; (with_unfolding_all refine' eq_slice1 ?k1 ?k2 ?k3 ?k4 ?k5 ?h0 ?h1 ?hc ?_; (case k1 => is_list); (case k2 => l_ints); (case k3 => is_list); (case k4 => l_ints); (case k5 => walk_at "units"); (case h0 => omega); (case h1 => omega); (case hc => decide); k_whole)))
  (k_with "sameC" => (intro z h2 h3; (have a1 := h2 _ (.head _)); (have a2 := h2 _ (.tail _ (.head _))); dsimp only at a1 a2; (simp only [List.contains_cons, List.contains_nil, Bool.or_false, Bool.or_eq_false_iff, beq_eq_false_iff_ne, ne_eq] at h3); simp only [kstB, if_neg a1, if_neg a2, if_neg h3.1, if_neg h3.2, List.contains_cons, List.contains_nil, beq_eq_false_iff_ne.mpr h3.1, beq_eq_false_iff_ne.mpr h3.2, Bool.or_false, Bool.false_eq_true, if_false]))
  (k_with "sub2" => (refine List.forall_mem_cons.mpr ⟨?a, List.forall_mem_cons.mpr ⟨?b, ?c⟩⟩; (case a => k_mem); (case b => k_mem); (case c => (intro p hp; (repeat refine List.mem_cons_of_mem _ ?_); exact hp))))
  (k_with "sub1" => (refine List.forall_mem_cons.mpr ⟨?a, ?c⟩; (case a => k_mem); (case c => (intro p hp; (repeat refine List.mem_cons_of_mem _ ?_); exact hp))))
  (k_with "eval Call" => (k_here; k_dflt (refine Call_ ?_)))
  (k_with "compareOp In int ref" => (k_here; (with_unfolding_all refine' in_list_ints ?k1 ?k2 ?_; (case k1 => is_list); (case k2 => l_ints); k_whole)))
  (k_with "same21" => (intro z h2 h3; (have a1 := h2 _ (.head _)); (have a2 := h2 _ (.tail _ (.head _))); dsimp only at a1 a2; (simp only [List.contains_cons, List.contains_nil, Bool.or_false, beq_eq_false_iff_ne, ne_eq] at h3); simp only [kstB, if_neg a1, if_neg a2, if_neg h3, List.contains_cons, List.contains_nil, beq_eq_false_iff_ne.mpr h3, Bool.or_false, Bool.false_eq_true, if_false]))
  (k_with "call ref" => (k_here; (with_reducible show wpAny _ _ (call (Value.ref 75) _) _ _ _); (k_dflt (refine' escape_digit_ok _ _ _ _ _ _ _ _ _ _ _ _ _ _ _ _ _ ?kB ?kF ?kX ?kN ?kT ?kK ?kd ?ku ?_; (case kB => k_asm); (case kF => k_asm); (case kX => k_asm); (case kT => k_asm); (case kK => first | exact rfl | assumption); (case kd => walk_at "room"); (case ku => walk_at "units"))); (case kN => k_asm); intro r9 n9 h9 tk9 F9 N9 P9; obtain ⟨e9, e9'⟩ := P9; subst e9; (try dsimp only); (try k_fold)))
  (k_with "call ref" => (k_here; (with_reducible show wpAny _ _ (call (Value.ref 54) _) _ _ _); (k_dflt (refine' is_code_ok _ _ _ _ _ _ _ _ _ _ _ _ _ _ _ _ _ ?kB ?kF ?kX ?kN ?kT ?kK ?kd ?ku ?_; (case kB => k_asm); (case kF => k_asm); (case kX => k_asm); (case kT => k_asm); (case kK => first | exact rfl | assumption); (case kd => walk_at "room"); (case ku => walk_at "units"))); (case kN => k_asm); intro r9 n9 h9 tk9 F9 N9 P9; obtain ⟨e9, e9'⟩ := P9; subst e9 e9'; (try dsimp only); (try k_fold)))
  (k_with "call ref" => (k_here; (with_reducible show wpAny _ _ (call (Value.ref 61) _) _ _ _); (k_dflt (refine' is_surrogate_ok _ _ _ _ _ _ _ _ _ _ _ _ _ _ _ _ _ ?kB ?kF ?kX ?kN ?kT ?kK ?kd ?ku ?_; (case kB => k_asm); (case kF => k_asm); (case kX => k_asm); (case kT => k_asm); (case kK => first | exact rfl | assumption); (case kd => walk_at "room"); (case ku => walk_at "units"))); (case kN => k_asm); intro r9 n9 h9 tk9 F9 N9 P9; obtain ⟨e9, e9'⟩ := P9; subst e9 e9'; (try dsimp only); (try k_fold)))
  (k_with "call ref" => (k_here; (with_reducible show wpAny _ _ (call (Value.ref 96) _) _ _ _); (k_dflt (refine' (is_over_ok ?hx ?hdd ?hr ?hi ?h2) _ _ _ _ _ _ _ _ _ _ _ _ _ _ _ _ _ ?kB ?kF ?kX ?kN ?kT ?kK ?kd ?ku ?_; (case kB => k_asm); (case kF => k_asm); (case kX => k_asm); (case kT => k_asm); (case kK => first | exact rfl | assumption); (case kd => walk_at "room"); (case ku => walk_at "units"))); (case kN => k_asm); (case hx => k_mem); (case hdd => k_mem); (case hr => k_mem); (case hi => l_ints); (case h2 => omega); intro r9 n9 h9 tk9 F9 N9 P9; obtain ⟨e9, e9'⟩ := P9; subst e9 e9'; (try dsimp only); (try k_fold)))
  (k_with "call ref" => (k_here; (with_reducible show wpAny _ _ (call (Value.ref 103) _) _ _ _); (k_dflt (refine' (sign_ok ?hx ?hdd ?hr ?hi ?h0 ?h1 ?h2) _ _ _ _ _ _ _ _ _ _ _ _ _ _ _ _ _ ?kB ?kF ?kX ?kN ?kT ?kK ?kd ?ku ?_; (case kB => k_asm); (case kF => k_asm); (case kX => k_asm); (case kT => k_asm); (case kK => first | exact rfl | assumption); (case kd => walk_at "room"); (case ku => walk_at "units"))); (case kN => k_asm); (case hx => k_mem); (case hdd => k_mem); (case hr => k_mem); (case hi => l_ints); (case h0 => omega); (case h1 => omega); (case h2 => omega); intro r9 n9 h9 tk9 F9 N9 P9; obtain ⟨e9, t9, e9'⟩ := P9; subst e9 e9'; (try dsimp only); (try k_fold)))
  (k_with "call ref" => (k_here; (with_reducible show wpAny _ _ (call (Value.ref 68) _) _ _ _); (k_dflt (refine' is_scalar_ok _ _ _ _ _ _ _ _ _ _ _ _ _ _ _ _ _ ?kB ?kF ?kX ?kN ?kT ?kK ?kd ?ku ?_; (case kB => k_asm); (case kF => k_asm); (case kX => k_asm); (case kT => k_asm); (case kK => first | exact rfl | assumption); (case kd => walk_at "room"); (case ku => walk_at "units"))); (case kN => k_asm); intro r9 n9 h9 tk9 F9 N9 P9; obtain ⟨e9, e9'⟩ := P9; subst e9 e9'; (try dsimp only); (try k_fold)))
  (k_with "call ref" => (k_here; (with_reducible show wpAny _ _ (call (Value.ref 167) _) _ _ _); (k_dflt (refine' (law_value_ok ?hc ?hb) _ _ _ _ _ _ _ _ _ _ _ _ _ _ _ _ _ ?kB ?kF ?kX ?kN ?kT ?kK ?kd ?ku ?_; (case kB => k_asm); (case kF => k_asm); (case kX => k_asm); (case kT => k_asm); (case kK => first | exact rfl | assumption); (case kd => walk_at "room"); (case ku => walk_at "units"))); (case kN => k_asm); (case hc => first | assumption | (apply menu_at <;> first | assumption | omega)); (case hb => assumption); intro r9 n9 h9 tk9 F9 N9 P9; obtain ⟨e9, e9'⟩ := P9; subst e9; (rcases optV_cases e9' with ⟨q9, e9''⟩ | ⟨k9, t9, q9, e9''⟩ <;> (subst e9''; (try (have b9 := figB_bnd q9)); (try (exfalso; exact fig_clash (by assumption) (by assumption))); (try dsimp only); (try k_fold)))))
  (k_with "call ref" => (k_here; (with_reducible show wpAny _ _ (call (Value.ref 174) _) _ _ _); (k_dflt (refine' (figures_ok ?hr ?hi ?h2 ?hm ?hb ?h0 ?h1 ?m0 ?m1 ?l0 ?l1) _ _ _ _ _ _ _ _ _ _ _ _ _ _ _ _ _ ?kB ?kF ?kX ?kN ?kT ?kK ?kd ?ku ?_; (case kB => k_asm); (case kF => k_asm); (case kX => k_asm); (case kT => k_asm); (case kK => first | exact rfl | assumption); (case kd => walk_at "room"); (case ku => walk_at "units"))); (case kN => k_asm); (case hr => k_mem); (case hi => l_ints); (case h2 => assumption); (case hm => assumption); (case hb => first | exact .inl rfl | exact .inr rfl); (case h0 => omega); (case h1 => first | omega | ((have g9 := getD_lt (by assumption) (by decide)); omega)); (case m0 => decide); (case m1 => decide); (case l0 => decide); (case l1 => decide); intro r9 n9 h9 tk9 F9 N9 P9; (try simp only [Int.reduceToNat] at P9); (rcases fig_casesB P9 (by first | omega | ((have g9 := getD_lt (by assumption) (by decide)); omega)) with ⟨b9, c9, e9, e9'⟩ | ⟨b9, c9, t9, u9, u9', e9, e9'⟩); (all_goals (clear P9; subst e9 e9'; (try dsimp only); (try k_fold)))))
  (k_with "call ref" => (k_here; (with_reducible show wpAny _ _ (call (Value.ref 181) _) _ _ _); (k_dflt (refine' (braces_ok ?hr ?hi ?h2 ?hm ?h0 ?h1) _ _ _ _ _ _ _ _ _ _ _ _ _ _ _ _ _ ?kB ?kF ?kX ?kN ?kT ?kK ?kd ?ku ?_; (case kB => k_asm); (case kF => k_asm); (case kX => k_asm); (case kT => k_asm); (case kK => first | exact rfl | assumption); (case kd => walk_at "room"); (case ku => walk_at "units"))); (case kN => k_asm); (case hr => k_mem); (case hi => assumption); (case h2 => assumption); (case hm => assumption); (case h0 => omega); (case h1 => omega); intro r9 n9 h9 tk9 F9 N9 P9; obtain ⟨new9, e9, V9⟩ := P9; subst e9; (try dsimp only); (try k_fold)))
  (k_with "call ref" => (k_here; (with_reducible show wpAny _ _ (call (Value.ref 188) _) _ _ _); (k_dflt (refine' (escape_ok ?hr ?hi ?h2 ?hm ?h0 ?h1) _ _ _ _ _ _ _ _ _ _ _ _ _ _ _ _ _ ?kB ?kF ?kX ?kN ?kT ?kK ?kd ?ku ?_; (case kB => k_asm); (case kF => k_asm); (case kX => k_asm); (case kT => k_asm); (case kK => first | exact rfl | assumption); (case kd => walk_at "room"); (case ku => walk_at "units"))); (case kN => k_asm); (case hr => k_mem); (case hi => assumption); (case h2 => assumption); (case hm => assumption); (case h0 => omega); (case h1 => omega); intro r9 n9 h9 tk9 F9 N9 P9; obtain ⟨new9, e9, V9⟩ := P9; (rcases escV_cases V9 with ⟨wd9, t9, t9', u9, u9', u9'', q9, e9', e9''⟩ | ⟨co9, p9, t9, l9, us9, c9, u9, q9, hI9, e9', e9''⟩); (all_goals (clear V9; subst e9'' e9' e9; (try have b9 := escN_le (by omega) q9 (by omega)); (try simp only [List.cons_append, List.nil_append] at N9); (try dsimp only); (try k_fold)))))
  (k_with "call ref" => (k_here; (with_reducible show wpAny _ _ (call (Value.ref 195) _) _ _ _); (k_dflt (refine' (told_ok ?hr ?hi ?h2 ?hm) _ _ _ _ _ _ _ _ _ _ _ _ _ _ _ _ _ ?kB ?kF ?kX ?kN ?kT ?kK ?kd ?ku ?_; (case kB => k_asm); (case kF => k_asm); (case kX => k_asm); (case kT => k_asm); (case kK => first | exact rfl | assumption); (case kd => walk_at "room"); (case ku => walk_at "units"))); (case kN => k_asm); (case hr => k_mem); (case hi => assumption); (case h2 => assumption); (case hm => assumption); intro r9 n9 h9 tk9 F9 N9 P9; obtain ⟨new9, e9, V9⟩ := P9; subst e9; (try dsimp only); (try k_fold)))
  exact trivial
theorem bad_new {rest : List Value} (h1 : bm.contains (.type "Exception") = true) (h2 : bm.contains (.type "AttributeError") = false) (h3 : bm.contains (.type "NameError") = false) (hC : h.get? C = some (excClassObj nm q C N bs bm hdct sn sub ab col dd k0 k1 k2 k3 k5 "Exception.__new__"))
    (hq : R (.ok (.ret (.ref (h.objs.size + 1)))) ⟨(h.push { cls := .type "tuple", data := .seq rest.toArray }).push { cls := .ref C, data := .fields #[.ref h.objs.size, .none, .none, .none, .bool false, .none] }, g, d, t, os⟩) (hrest : rest.length ≤ sizeLine := by size_fits) :
    codeAny (model prog w) A (.builtin "Exception.__new__" ⟨.ref C :: rest, []⟩) R ⟨h, g, d, t, os⟩ := by
  have Fn := PySem.F.excBase_Exception
  have hends := Fn.ends
  have hcB : (Value.ref C :: bm).contains (.type "Exception") = true := by rw [List.contains_cons, h1, Bool.or_true]
  have hcA : (Value.ref C :: bm).contains (.type "AttributeError") = false := by rw [List.contains_cons, h2]; rfl
  have hcN : (Value.ref C :: bm).contains (.type "NameError") = false := by rw [List.contains_cons, h3]; rfl
  refine codeAny_builtinAt Fn.entry ?_
  unfold Builtin.«BaseException.__new__»
  refine PySem.wpAt_bind ?_
  show PySem.wpAt _ _ _ (stack >>= _) _ _ _
  refine PySem.wpAt_bind (PySem.wpAt_stack fun p below => PySem.wpAt_of_wpAny ?_)
  wp_walk
  refine PySem.wpAt_of_wpAny ?_
  rw [Fn.owner]
  repeat (first | with_reducible refine wpAny_madeHere_exc Fn.canon hC ?_ | with_reducible refine wpAny_loadPart_at hC ?_ | (with_reducible refine wpAny_isSubtype_exc hC ?_; first | rw [hcB] | rw [hcA] | rw [hcN]) | wp_step)
  show R _ _
  rw [Heap.size_push]
  exact hq
end
section
open PySem.Spec
variable {w : World} {A : Around} {E : Value → Shared → Prop} {h : Heap} {g : Array GenState} {d : Drawn} {t : Nat} {os : OsState}
abbrev hpBad (h : Heap) (v : Value) : Heap := (h.push (tupO [v])).push (excO none h.objs.size)
theorem bad_type_call {v : Value} {Q : PySem.Fin → Shared → Prop} (X : (hd.heap_39 w.params).In h)
    (hq : wpAny (model PG w) A (call (.ref 29) [.ref (h.objs.size + 1), v]) (fun r s' => r = .none ∧ Q (.done (.ret (.ref (h.objs.size + 1)))) s') E ⟨hpBad h v, g, d, t, os⟩) :
    wpAny (model PG w) A (Builtin.«type.__call__» ⟨.ref 45 :: [v], []⟩) Q E ⟨h, g, d, t, os⟩ := by
  obtain ⟨nm, q, bs, sn, sub, ab, col, dd, k0, k1, k2, k3, k5, hl⟩ := cls45 w.params
  have hC := X _ _ hl
  have F := PySem.F.excBase_Exception
  repeat (first | with_reducible refine wpAny_loadPart_at hC ?_ | with_reducible refine wpAny_madeBy_exc hC ?_ | wp_step)
  refine codeAny_call_builtin_code (Code.quiet_builtin _ F.quiet) (wpAny_check_new_subU (bmB := bmBad) F (by decide +kernel) .base hC ?_)
  refine bad_new (by decide +kernel) (by decide +kernel) (by decide +kernel) hC ?_ (by show (1 : Nat) ≤ _; rw [sizeLine_eq]; omega)
  show wpAny _ _ _ _ _ _
  have X₁ : (hd.heap_39 w.params).In (hpBad h v) := X.keeps fun b o e => Heap.get?_push_of_some _ (Heap.get?_push_of_some _ e)
  have hC₁ := X₁ _ _ hl
  have hget : (hpBad h v).get? (h.objs.size + 1) = some (excO none h.objs.size) := Heap.get?_push_at (by simp only [Heap.size_push]) rfl
  have hcC : (Value.ref 45 :: bmBad).contains (.ref 45) = true := by decide +kernel
  unfold isInstance
  repeat (first | with_reducible refine wpAny_loadPart_at hget ?_ | (with_reducible refine wpAny_isSubtype_exc hC₁ ?_; rw [hcC]) | wp_step)
  show wpAny _ _ (typeLookup (.ref 45) _) _ _ _
  refine (looks_findIn X₁ (r := some (.ref 29)) (by k_is)).at ?_
  refine wpAny_holding (wpAny_bind ?_)
  refine (bind_fn X₁ _ (by k_is)).at ?_
  refine wpAny_bind (wpAny_mono hq (fun r s' hr => ?_) fun _ _ x => x)
  obtain ⟨rfl, hQ⟩ := hr
  wp_walk
  exact hQ
theorem bad_call {v : Value} {Q : Value → Shared → Prop} (X : (hd.heap_39 w.params).In h)
    (hq : wpAny (model PG w) (A.under (.builtin "type.__call__" ⟨.ref 45 :: [v], []⟩)) (call (.ref 29) [.ref (h.objs.size + 1), v]) (fun r s' => r = .none ∧ Q (.ref (h.objs.size + 1)) s') E ⟨hpBad h v, g, d, t, os⟩) :
    wpAny (model PG w) A (call (.ref 45) [v]) Q E ⟨h, g, d, t, os⟩ := by
  obtain ⟨nm, q, bs, sn, sub, ab, col, dd, k0, k1, k2, k3, k5, hl⟩ := cls45 w.params
  have hC := X _ _ hl
  have f1 := tc_lookup
  have f2 := tc_bind (.ref 45)
  have hT : (⟨h, g, d, t, os⟩ : Shared).TypeIs (.ref 45) "type" := ⟨_, hC, rfl⟩
  refine wpAny_call (codeAny_of_tree ?_)
  show wpAny _ _ (callAny (.ref 45) _) _ _ _
  repeat (any_goals (first | assumption | with_reducible refine wpAny_loadPart_at hC ?_ | wp_step))
  refine ⟨rfl, ?_⟩
  exact codeAny_call_builtin_at (Code.quiet_builtin _ (by decide +kernel)) entry_typeCall (wpAny_check_type_call_sub hC (bad_type_call X hq))
end
section
variable {w : World} {p : Program} {loose : List Str} {mean : ExcName → Option Value} {mg mb : Str → Option Value} {news : List (Addr × Obj)}
/-- BadEncoding(v): the exception, its dict, its args -/
theorem bad_made {v : Value} : CallOk w p loose mean mg mb 45 [v] 4 news (fun r news' => ∃ e d ta t, r = .ref e ∧ news' = (e, excO (some d) ta) :: (d, toldD w v t) :: (ta, tupO [v]) :: news ∧ (∀ q ∈ (d, toldD w v t) :: (ta, tupO [v]) :: news, q.1 ≠ e)) := by
  intro dp un gd cn cs a ccd cl outer A₀ base' h₀ L m s Q E B F X N T hk hdp hun hret
  obtain ⟨hh, g, dr, t, os⟩ := s
  dsimp only at F N hret
  have X1 : (hd.heap_39 w.params).In hh := X.keeps F.keep
  refine bad_call X1 ?_
  have F1 := (F.push (tupO [v])).push (excO none hh.objs.size)
  have N1 := (N.push F (tupO [v])).push (F.push _) (excO none hh.objs.size)
  rw [Heap.size_push] at N1
  have lt : ∀ q ∈ news, q.1 < hh.objs.size := fun q hq => Heap.lt_size (N q hq).1
  have ne : ∀ q ∈ (hh.objs.size, tupO [v]) :: news, q.1 ≠ hh.objs.size + 1 := fun q hq => by
    rcases List.mem_cons.mp hq with rfl | hq
    · exact Nat.ne_of_lt (Nat.lt_succ_self _)
    · exact Nat.ne_of_lt (Nat.lt_succ_of_lt (lt q hq))
  refine init_ok (w := w) ne _ _ _ _ _ _ _ _ _ _ _ _ _ _ ⟨hpBad hh v, g, dr, t, os⟩ _ _ B F1 X N1 T hk ?_ ?_ ?_
  · rw [show (Code.builtin "type.__call__" ⟨[.ref 45, v], []⟩).weight = 1 from rfl]
    dsimp only [ktrTop]
    omega
  · rw [show (Code.builtin "type.__call__" ⟨[.ref 45, v], []⟩).cUnits = 1 from rfl]
    dsimp only [ktrTop]
    omega
  · rintro r news' h' tk' F2 N2 ⟨rfl, d, t2, rfl, l2⟩
    refine ⟨rfl, hret _ _ _ _ F2 N2 ⟨_, _, _, _, rfl, rfl, fun q hq => ?_⟩⟩
    rcases List.mem_cons.mp hq with rfl | hq
    · exact Nat.ne_of_gt (l2 _ (.head _))
    · exact ne q hq
end
section
open PySem.Spec
/-- an exception of ours under way: its dict stays -/
structure FlyD (B : Heap) (l : List Env) (e d : Addr) (fl : Value) (h : Heap) : Prop where
  stays : B.StaysIn h
  new : B.get? e = none
  frames : h.FunFrames B l
  exc : ∃ vs T oT ts sl, h.get? e = some ⟨.ref 45, some d, .fields vs, sl⟩ ∧ vs[1]? = some (.ref T) ∧ B.get? T = none ∧ T ≠ e ∧ h.get? T = some oT ∧ oT.data = .fields ts ∧ ts[3]? = some fl
variable {M : Model} {A : Around} {E : Value → Shared → Prop} {s : Shared} {B : Heap} {env : Env} {outer : List Env} {L e d : Addr} {Q : Unit → Shared → Prop}
theorem entry_d {vs : Array Value} {sl : Array (Option Value)} {head : Value} {hadNext : Bool} (hfr : A.frames = some (env :: outer)) (hl : s.heap.FunFrames B (env :: outer)) (hf : env.frame = some L)
    (he : s.heap.get? e = some ⟨.ref 45, some d, .fields vs, sl⟩) (hkb : B.StaysIn s.heap) (hen : B.get? e = none) (hsz : 1 < vs.size)
    (h : ∀ h', FlyD B (env :: outer) e d (rawInt L) h' → s.heap.UpToSlots h' → Q () { s with heap := h' }) :
    wpAny M A (do let a ← frameOf env; let pl ← entryPlaceOf L hadNext; let b ← EntryCells.newEntry head a .none (rawInt L) .none pl; setField (.ref e) 1 b) Q E s := by
  have hene : e ∉ (env :: outer).filterMap (·.frame) := fun hm => by
    obtain ⟨_, o, ho, hnf⟩ := hl.mem hm
    rw [he] at ho
    cases ho
    exact hnf vs rfl
  refine wpAny_bind (wpAny_frameOf_fun hfr hl hf fun h₁ hs₁ => ?_)
  refine wpAny_bind (wpAny_entryPlaceOf fun pl hpl => ?_)
  unfold EntryCells.newEntry newFields
  refine wpAny_bind (wpAny_newObj_type ?_ (hpl.sizeOk5 _ _ _ _ _))
  have he₁ := (hs₁.2.1 e hene).trans he
  generalize htb : ({ cls := .type "traceback", dict := none, data := .fields ([head, .ref L, .none, rawInt L, .none] ++ (if pl.isEmpty then List.replicate 6 Value.none else pl)).toArray } : Obj) = tb
  have htf : tb.isFreed = false := by subst htb; rfl
  have he₂ := Heap.get?_push_of_some tb he₁
  have hTe : h₁.objs.size ≠ e := Nat.ne_of_gt (Heap.lt_size he₁)
  refine wpAny_setField he₂ rfl hsz (h _ ?_ ?_)
  · have keep : ∀ b o, b ≠ e → h₁.get? b = some o → ((h₁.push tb).update e (Obj.mapFields (·.setIfInBounds 1 (Value.ref h₁.objs.size)))).get? b = some o := fun b o hbe hb => by
      rw [Heap.get?_update_other _ _ (Ne.symm hbe)]
      exact Heap.get?_push_of_some _ hb
    have kb : ∀ b o, B.get? b = some o → h₁.get? b = some o := fun b o q => (hs₁.2.1 b fun hm => by rw [(hl.mem hm).1] at q; cases q).trans (hkb b o q)
    refine ⟨fun b o q => keep b o (fun z => by rw [z, hen] at q; cases q) (kb b o q), hen, hl.of_keeps fun b o hb hnf => ?_, ?_⟩
    · obtain ⟨sl', hs⟩ := hs₁.2.2 b o hb
      exact ⟨_, keep b _ (fun z => by rw [z, he] at hb; cases hb; exact hnf vs rfl) hs, rfl⟩
    · refine ⟨vs.setIfInBounds 1 (.ref h₁.objs.size), h₁.objs.size, tb, _, sl, Heap.get?_update_self _ he₂ rfl, by simp [hsz], ?_, hTe, ?_, by subst htb; rfl, ?_⟩
      · cases q : B.get? h₁.objs.size with
        | none => rfl
        | some o => exact absurd (Heap.lt_size (kb _ o q)) (Nat.lt_irrefl _)
      · rw [Heap.get?_update_other _ _ (Ne.symm hTe)]
        exact Heap.get?_push_size _ htf
      · simp
  · intro b o hb hnf
    obtain ⟨sl', hs⟩ := hs₁.2.2 b o hb
    refine ⟨sl', ?_⟩
    rw [Heap.get?_update_other _ _ (fun z : e = b => by subst z; rw [he] at hb; cases hb; exact hnf vs rfl)]
    exact Heap.get?_push_of_some _ hs
theorem flight_d {l : List Env} {fl : Value} (R : FlyD B l e d fl s.heap) (h : ∀ h', FlyD B l e d .none h' → s.heap.UpToSlots h' → Q () { s with heap := h' }) : wpAny M A (setFlight (.ref e) none) Q E s := by
  obtain ⟨k1, k2, k3, vs, T, oT, ts, sl, he, h1, hnT, hTe, hT, hdT, h3⟩ := R
  have hsz3 : 3 < ts.size := (Array.getElem?_eq_some_iff.mp h3).1
  have other : ∀ b, b ≠ T → (s.heap.update T (Obj.mapFields (·.setIfInBounds 3 Value.none))).get? b = s.heap.get? b := fun b hb => Heap.get?_update_other _ _ (Ne.symm hb)
  have notT : ∀ b o, s.heap.get? b = some o → (∀ vs, o.data ≠ .fields vs) → b ≠ T := fun b o hb hnf q => by
    rw [q, hT] at hb; cases hb; exact hnf ts hdT
  unfold setFlight
  refine wpAny_bind (wpAny_field he rfl h1 ?_)
  rw [if_pos (show (Value.ref T != Value.none) = true from by simp)]
  refine wpAny_setField hT hdT hsz3 (h _ ⟨fun b o q => (other b fun z => by rw [z, hnT] at q; cases q).trans (k1 b o q), k2, k3.of_keeps fun b o hb hnf => ⟨o, (other b (notT b o hb hnf)).trans hb, rfl⟩, ?_⟩ fun b o hb hnf => ⟨o.slots, (other b (notT b o hb hnf)).trans hb⟩)
  exact ⟨vs, T, _, _, sl, (other e (Ne.symm hTe)).trans he, h1, hnT, hTe, Heap.get?_update_self _ hT (Obj.isFreed_of_fields (Obj.data_mapFields hdT _)), Obj.data_mapFields hdT _, by simp [hsz3]⟩
theorem note_next_d (hfr : A.frames = some (env :: outer)) (hf : env.frame = some L) (R : FlyD B (env :: outer) e d .none s.heap)
    (h : ∀ h', FlyD B (env :: outer) e d (rawInt L) h' → s.heap.UpToSlots h' → Q () { s with heap := h' }) : wpAny M A (noteFrame (.ref e) env) Q E s := by
  obtain ⟨k1, k2, k3, vs, T, oT, ts, sl, he, h1, hnT, hTe, hT, hdT, h3⟩ := R
  have other : ∀ b, b ≠ T → (s.heap.update T (Obj.mapFields (·.setIfInBounds 3 Value.none))).get? b = s.heap.get? b := fun b hb => Heap.get?_update_other _ _ (Ne.symm hb)
  have notT : ∀ b o, s.heap.get? b = some o → (∀ vs, o.data ≠ .fields vs) → b ≠ T := fun b o hb hnf q => by
    rw [q, hT] at hb; cases hb; exact hnf ts hdT
  unfold noteFrame
  simp only [hf]
  refine wpAny_bind (wpAny_field he rfl h1 ?_)
  rw [if_pos (show (Value.ref T != Value.none) = true from by simp)]
  refine wpAny_bind (wpAny_field hT hdT h3 ?_)
  rw [if_neg (show ¬ ((Value.none == rawInt L) = true) from by simp [rawInt])]
  refine wpAny_bind (wpAny_setField hT hdT (Array.getElem?_eq_some_iff.mp h3).1 ?_)
  refine entry_d (s := { s with heap := s.heap.update T (Obj.mapFields (·.setIfInBounds 3 Value.none)) }) hfr (k3.of_keeps fun b o hb hnf => ⟨o, (other b (notT b o hb hnf)).trans hb, rfl⟩) hf ((other e (Ne.symm hTe)).trans he)
    (fun b o q => (other b fun z => by rw [z, hnT] at q; cases q).trans (k1 b o q)) k2 (Array.getElem?_eq_some_iff.mp h1).1 fun h' x1 x2 => h h' x1 ?_
  exact Heap.UpToSlots.trans (fun b o hb hnf => ⟨o.slots, (other b (notT b o hb hnf)).trans hb⟩) x2
theorem note_first_d {ta : Addr} (hfr : A.frames = some (env :: outer)) (hl : s.heap.FunFrames B (env :: outer)) (hf : env.frame = some L) (he : s.heap.get? e = some (excO (some d) ta)) (hkb : B.StaysIn s.heap) (hen : B.get? e = none)
    (h : ∀ h', FlyD B (env :: outer) e d (rawInt L) h' → s.heap.UpToSlots h' → Q () { s with heap := h' }) : wpAny M A (noteFrame (.ref e) env) Q E s := by
  unfold noteFrame
  simp only [hf]
  refine wpAny_bind (wpAny_field (x := .none) he rfl rfl ?_)
  rw [if_neg (by decide)]
  exact entry_d hfr hl hf he hkb hen (by show 1 < 6; decide) h
theorem FlyD.pop {fl : Value} {h : Heap} (R : FlyD B (env :: outer) e d fl h) : FlyD B outer e d fl h := ⟨R.stays, R.new, R.frames.2.2, R.exc⟩
theorem leave_next_d (hfr : A.frames = some (env :: outer)) (hf : env.frame = some L) (R : FlyD B (env :: outer) e d .none s.heap)
    (h : ∀ h', FlyD B outer e d .none h' → s.heap.UpToSlots h' → Q () { s with heap := h' }) : wpAny M A (leaving env (.ref e)) Q E s := by
  unfold leaving
  exact wpAny_bind (note_next_d hfr hf R fun h' R' u => flight_d (s := { s with heap := h' }) R' fun h'' R'' u' => h h'' R''.pop (u.trans u'))
theorem leave_first_d {ta : Addr} (hfr : A.frames = some (env :: outer)) (hl : s.heap.FunFrames B (env :: outer)) (hf : env.frame = some L) (he : s.heap.get? e = some (excO (some d) ta)) (hkb : B.StaysIn s.heap) (hen : B.get? e = none)
    (h : ∀ h', FlyD B outer e d .none h' → s.heap.UpToSlots h' → Q () { s with heap := h' }) : wpAny M A (leaving env (.ref e)) Q E s := by
  unfold leaving
  exact wpAny_bind (note_first_d hfr hl hf he hkb hen fun h' R' u => flight_d (s := { s with heap := h' }) R' fun h'' R'' u' => h h'' R''.pop (u.trans u'))
end
/-- an exception of ours, on its way out of frames; the ledger as it stood -/
def RaisedD (base : Heap) (l : List Env) (e d : Addr) (news : List (Addr × Obj)) (h : Heap) : Prop :=
  ∃ B, base.StaysIn B ∧ (∀ q ∈ news, B.get? q.1 = some q.2 ∧ base.get? q.1 = none) ∧ FlyD B l e d .none h
section
open PySem.Spec
variable {M : Model} {A : Around} {E : Value → Shared → Prop} {s' : Shared} {base g g₂ : Heap} {env : Env} {outer : List Env} {L e d : Addr} {m : Str → Option Value} {Q : Unit → Shared → Prop} {news : List (Addr × Obj)}
theorem leave_raiseD {ta : Addr} (K : Below A base outer g) (F : Fr g L s'.heap m) (N : News g L s'.heap ((e, excO (some d) ta) :: news)) (hne : ∀ q ∈ news, q.1 ≠ e)
    (hQ : ∀ h', RaisedD base outer e d news h' → g.UpToSlots h' → Q () { s' with heap := h' }) (hf : env.frame = some L := by rfl) (hk : env.scope.kind = .function := by rfl) :
    wpAny M (A.deeper env) (leaving env (.ref e)) Q E s' := by
  have K' := pushX K F hf hk
  have hin : ∀ env' ∈ (env :: outer), ∀ b, env'.frame = some b → b ∈ e :: (env :: outer).filterMap (·.frame) := fun env' he b hb => .tail _ (List.mem_filterMap.mpr ⟨env', he, hb⟩)
  have be : base.get? e = none := fresh_of_stays K.stays (N _ (.head _)).2.2
  have st : base.StaysIn (hideAll s'.heap (e :: (env :: outer).filterMap (·.frame))) := fun b o q => hideAll_get _ (K'.stays b o q) fun hm => by
    rcases List.mem_cons.mp hm with rfl | hm
    · rw [be] at q; cases q
    · rw [(K'.frames.mem hm).1] at q; cases q
  have hl : ∀ q ∈ news, (hideAll s'.heap (e :: (env :: outer).filterMap (·.frame))).get? q.1 = some q.2 ∧ base.get? q.1 = none := fun q hq => by
    have n := N q (.tail _ hq)
    refine ⟨hideAll_get _ n.1 fun hm => ?_, fresh_of_stays K.stays n.2.2⟩
    rcases List.mem_cons.mp hm with z | hm
    · exact hne q hq z
    · obtain ⟨env', he, hf'⟩ := List.mem_filterMap.mp hm
      rcases List.mem_cons.mp he with rfl | he
      · rw [hf] at hf'; exact n.2.1 (Option.some.inj hf').symm
      · obtain ⟨o, ho, _⟩ := (K.frames.mem (List.mem_filterMap.mpr ⟨env', he, hf'⟩)).2
        rw [n.2.2] at ho; cases ho
  exact leave_first_d K'.stack (funFrames_hide K'.frames hin) hf (N _ (.head _)).1 (fun b o q => of_hideAll _ q) (hideAll_none _ (.head _)) fun h' R u => hQ h' ⟨_, st, hl, R⟩ ((Heap.UpToSlots.of_keeps F.keep).trans u)
theorem leave_onD (K : Below A base outer g) (F : Fr g L g₂ m) (R : RaisedD base (env :: outer) e d news s'.heap) (hsm : g₂.UpToSlots s'.heap)
    (hQ : ∀ h', RaisedD base outer e d news h' → g.UpToSlots h' → Q () { s' with heap := h' }) (hf : env.frame = some L := by rfl) :
    wpAny M (A.deeper env) (leaving env (.ref e)) Q E s' := by
  obtain ⟨B, hB, hl, R⟩ := R
  exact leave_next_d (Around.frames_deeper K.stack) hf R fun h' x u => hQ h' ⟨B, hB, hl, x⟩ ((Heap.UpToSlots.of_keeps F.keep).trans (hsm.trans u))
end
/-- what a raise hands on -/
def RaiseB (w : World) (E : Value → Shared → Prop) (v : Value) (s : Shared) : Prop := ∃ e d ta, v = .ref e ∧ (hd.heap_39 w.params).In s.heap ∧ s.heap.get? e = some (excO (some d) ta) ∧ E (.ref e) s
theorem raiseB_of {w : World} {E : Value → Shared → Prop} {s : Shared} {h₀ : Heap} {L : Addr} {m : Str → Option Value} {e d ta : Addr} {news : List (Addr × Obj)} (F : Fr h₀ L s.heap m) (X : (hd.heap_39 w.params).In h₀) (N : News h₀ L s.heap ((e, excO (some d) ta) :: news)) (h : E (.ref e) s) : RaiseB w E (.ref e) s :=
  ⟨e, d, ta, rfl, X.keeps F.keep, (N _ (.head _)).1, h⟩
theorem raise_B {w : World} {A : Around} {E : Value → Shared → Prop} {s : Shared} {env : Env} {x : Expr} {pos : Pos} {Q : Flow → Shared → Prop} (hh : A.handled = none)
    (h : wpAny (model PG w) A (eval x env) (RaiseB w E) E s) : wpAny (model PG w) A (exec (.Raise (some x) none pos) env) Q E s := by
  show wpAny _ A (do standAt pos; raiseStmt env (some (do let v ← eval x env; standAt pos; pure v)) none) Q E s
  refine wpAny_bind (wpAny_standAt ?_)
  unfold raiseStmt
  refine wpAny_bind (wpAny_bind (wpAny_mono h (fun v s₁ h₁ => wpAny_bind (wpAny_standAt (wpAny_pure ?_))) fun _ _ x => x))
  obtain ⟨e, d, ta, rfl, X, he, hE⟩ := h₁
  obtain ⟨nm, q, bs, sn, sub, ab, col, dd, k0, k1, k2, k3, k5, hl⟩ := cls45 w.params
  have hC := X _ _ hl
  obtain ⟨hp, g, dr, tk, os⟩ := s₁
  have hcB : (Value.ref 45 :: bmBad).contains (.type "BaseException") = true := by decide +kernel
  repeat (first | with_reducible refine wpAny_loadPart_at he ?_ | with_reducible refine wpAny_loadPart_at hC ?_ | (with_reducible refine wpAny_isSubtype_exc hC ?_; rw [hcB]) | wp_step)
  exact wpAny_raiseNew_none hh hE
/-- what a call of a def does, where it may raise -/
abbrev CallOkE (w : World) (p : Program) (loose : List Str) (mean : ExcName → Option Value) (mg mb : Str → Option Value) (f : Addr) (vs : List Value) (nd : Nat) (news : List (Addr × Obj)) (Post : Value → List (Addr × Obj) → Prop) (PostE : Addr → List (Addr × Obj) → Prop) : Prop :=
  ∀ (dp un : Nat) (gd : Option (List Code)) (cn : Str) (cs : Scope) (a : Addr) (ccd : Value) (cl : List (Str × Addr)) (outer : List Env) (A₀ : Around) (base h₀ : Heap) (L : Addr) (m : Str → Option Value) (s : Shared) (Q E : Value → Shared → Prop),
    Below A₀ base outer h₀ → Fr h₀ L s.heap m → (hd.heap_39 w.params).In h₀ → News h₀ L s.heap news → Top p loose mean mg mb h₀ → cs.kind = .function →
    dp + nd < 900 → un + 8 * nd + 200 < cLine →
    (∀ r news' h' tk', Fr h₀ L h' m → News h₀ L h' news' → Post r news' → Q r { s with heap := h', toks := tk' }) →
    (∀ g e d news' h' tk', Fr h₀ L g m → RaisedD base (envX cn cs L a ccd cl :: outer) e d news' h' → g.UpToSlots h' → PostE d news' → E (.ref e) { s with heap := h', toks := tk' }) →
    wpAny (model PG w) (ktrTop dp un gd cn cs L a ccd cl outer) (call (.ref f) vs) Q E s
/-- the exception tells (begin, word) -/
def BadAt (w : World) (begin : Int) (word : Str) (d : Addr) (news : List (Addr × Obj)) : Prop := ∃ tp t u1 u2, (d, toldD w (.ref tp) t) ∈ news ∧ (tp, tupO [.int begin u1, .str word u2]) ∈ news
theorem badAt_mk {w : World} {begin : Int} {word : Str} {d tp : Addr} {t u1 u2 : Tok} {news : List (Addr × Obj)} (h1 : (d, toldD w (.ref tp) t) ∈ news) (h2 : (tp, tupO [.int begin u1, .str word u2]) ∈ news) : BadAt w begin word d news := ⟨_, _, _, _, h1, h2⟩
local macro_rules | `(tactic| k_all) => `(tactic| (refine List.forall_mem_cons.mpr ⟨?a, ?b⟩; (case a => assumption); (case b => k_all)))
local macro_rules | `(tactic| k_all) => `(tactic| assumption)
theorem lines12 : True := by
  (k_with "exec Raise some none" => (k_here; k_dflt (refine raise_B rfl ?_)))
  (k_with "call ref" => (k_here; (with_reducible show wpAny _ _ (call (Value.ref 45) _) _ _ _); (k_dflt (refine' bad_made _ _ _ _ _ _ _ _ _ _ _ _ _ _ _ _ _ ?kB ?kF ?kX ?kN ?kT ?kK ?kd ?ku ?_; (case kB => k_asm); (case kF => k_asm); (case kX => k_asm); (case kT => k_asm); (case kK => first | exact rfl | assumption); (case kd => walk_at "room"); (case ku => walk_at "units"))); (case kN => k_asm); intro r9 n9 h9 tk9 F9 N9 P9; obtain ⟨e9, d9, ta9, t9, e9', e9'', ne9⟩ := P9; subst e9'' e9'; (try dsimp only); (try k_fold)))
  (k_with "RaiseB" => (k_here; refine' raiseB_of ?hF ?hX ?hN ?_; (case hF => assumption); (case hX => assumption); (case hN => assumption); (try dsimp only)))
  (k_with "leaving ref" => (k_here; first
  | (k_dflt (refine' leave_raiseD ?hK ?hF ?hN ?hne ?_; (case hK => k_asm); (case hF => k_asm); (case hN => assumption); (case hne => assumption)); intro h9 R9 U9; (try dsimp only))
  | (k_dflt (refine' leave_onD ?hK ?hF ?hR ?hU ?_; (case hR => assumption); (case hU => assumption); (case hK => k_asm); (case hF => k_asm)); intro h9 R9 U9; (try dsimp only))))
  (k_with "badat" => (refine ⟨badAt_mk (.head _) (.tail _ (.tail _ (.head _))), ?_⟩; intro p hp; (repeat refine List.mem_cons_of_mem _ ?_); exact hp))
  exact trivial
theorem add11 (b : Int) : b + 1 + 1 = b + 2 := by omega
section
open PySem.Spec
variable {w : World} {p : Program} {loose : List Str} {mean : ExcName → Option Value} {mg mb : Str → Option Value} {x d r : Addr} {t1 t2 t3 : Tok} {row : List Int} {vs : List Value} {nr : Nat} {pl : Int} {rest : List (Addr × Obj)}
theorem take_ok {begin : Int} {tb : Tok} (hx : (x, instObj 134 d) ∈ rest) (hr : (r, listOf vs.toArray nr) ∈ rest) (hne : ∀ q ∈ rest, q.1 ≠ d) (hi : IntsAre vs row) (h0 : 0 ≤ pl) (h1 : pl ≤ row.length) (h2 : row.length ≤ 18) :
  CallOkE w p loose mean mg mb 110 [.ref x, .int begin tb] 6 ((d, scanD w r pl t1 t2 t3) :: rest)
    (fun v news' => pl < row.length ∧ (∃ t, v = .int (row.getD pl.toNat 0) t) ∧ ∃ t3', news' = (d, scanD w r (pl + 1) t1 t2 t3') :: rest)
    (fun dd news' => pl = row.length ∧ BadAt w begin "end" dd news' ∧ ∀ q ∈ rest, q ∈ news') := by
  intro dp un gd cn cs a ccd cl outer A₀ base' h₀ L m s Q E B F X N T hk hdp hun hret hexc
  refine wpAny_call ?_
  k_dflt (walk_at "enterdef")
  k_steps
  · refine hexc _ _ _ _ _ _ (by assumption) (by assumption) (by assumption) ⟨by omega, ?_⟩
    walk_at "badat"
  · exact hret _ _ _ _ (by assumption) (by assumption) ⟨by omega, ⟨_, by rw [show pl + 1 - 1 = pl by omega]⟩, _, rfl⟩
end
theorem lines13 : True := by
  (k_with "call ref" => (k_here; (with_reducible show wpAny _ _ (call (Value.ref 110) _) _ _ _); (k_dflt (refine' (take_ok ?hx ?hr ?hne ?hi ?h0 ?h1 ?h2) _ _ _ _ _ _ _ _ _ _ _ _ _ _ _ _ _ ?kB ?kF ?kX ?kN ?kT ?kK ?kd ?ku ?_ ?_; (case kB => k_asm); (case kF => k_asm); (case kX => k_asm); (case kT => k_asm); (case kK => first | exact rfl | assumption); (case kd => walk_at "room"); (case ku => walk_at "units"))); (case kN => k_asm); (case hx => k_mem); (case hr => k_mem); (case hne => k_all); (case hi => l_ints); (case h0 => omega); (case h1 => omega); (case h2 => omega); rotate_left; (intro g9 e9 d9 n9 h9 tk9 F9 R9 U9 P9; obtain ⟨a9, b9, s9⟩ := P9; (try dsimp only); (try k_fold)); rotate_left; (intro r9 n9 h9 tk9 F9 N9 P9; obtain ⟨a9, ⟨t9, e9⟩, t9', e9'⟩ := P9; subst e9 e9'; (try simp only [add11] at N9); (try dsimp only); (try k_fold))))
  (k_with "call ref" => (k_here; (with_reducible show wpAny _ _ (call (Value.ref 75) _) _ _ _); (k_dflt (refine' escape_digit_ok _ _ _ _ _ _ _ _ _ _ _ _ _ _ _ _ _ ?kB ?kF ?kX ?kN ?kT ?kK ?kd ?ku ?_; (case kB => k_asm); (case kF => k_asm); (case kX => k_asm); (case kT => k_asm); (case kK => first | exact rfl | assumption); (case kd => walk_at "room"); (case ku => walk_at "units"))); (case kN => k_asm); intro r9 n9 h9 tk9 F9 N9 P9; obtain ⟨e9, e9'⟩ := P9; subst e9; (rcases optV_cases e9' with ⟨q9, e9''⟩ | ⟨k9, t9, q9, e9''⟩ <;> (subst e9''; (try (have b9 := dig_bnd q9)); (try dsimp only); (try k_fold)))))
  exact trivial
theorem skip_exit1 {row : List Int} {at1 : Int} {R : Nat} (h0 : 0 ≤ at1) (h1 : at1 ≤ row.length) (e : skipN row (row.length - at1.toNat) at1.toNat = R) (hx : ([32, 10].any fun x => x == row.getD at1.toNat (-1)) = false) : (R : Int) = at1 := by
  refine skip_exit h0 h1 e ?_
  by_cases q : at1 < row.length
  · exact .inr (by rw [getD_in (b := -1) (by omega)]; exact hx)
  · exact .inl q
theorem skip_turn1 {row : List Int} {at1 : Int} {R : Nat} (h0 : 0 ≤ at1) (e : skipN row (row.length - at1.toNat) at1.toNat = R) (hx : ([32, 10].any fun x => x == row.getD at1.toNat (-1)) = true) : at1 < row.length ∧ skipN row (row.length - (at1 + 1).toNat) (at1 + 1).toNat = R := by
  have q : at1 < row.length := by
    rcases any2.mp hx with g | g
    · have := getD_lt g (by decide); omega
    · have := getD_lt g (by decide); omega
  exact ⟨q, skip_turn h0 q e (by rw [getD_in (b := -1) (by omega)]; exact hx)⟩
theorem figB_no {bs c : Int} (h : dig c = none ∨ ∃ k, dig c = some k ∧ bs ≤ k) : figB bs c = none := by
  unfold figB
  rcases h with h | ⟨k, h, g⟩
  · rw [h]; rfl
  · rw [h]; simp only [Option.filter_eq_none_iff, Option.some.injEq, decide_eq_true_eq]; intro a e; omega
theorem figB_yes {bs c k : Int} (h : dig c = some k) (g : k < bs) : figB bs c = some k := by
  unfold figB; rw [h]; simp only [Option.filter_some, decide_eq_true_eq, if_pos g]
theorem scanN_most {row : List Int} (base : Int) : ∀ (k p : Nat) (v : Int), (scanN row base k p v).2 ≤ p + k
  | 0, p, v => Nat.le_refl _
  | k + 1, p, v => by
    rw [scanN]
    split
    · exact Nat.le_add_right _ _
    · exact Nat.le_trans (scanN_most (row := row) base k (p + 1) _) (by omega)
theorem scanN_in {row : List Int} {base most pl : Int} (h0 : 0 ≤ pl) (h1 : pl ≤ row.length) (hm : 0 ≤ most) : pl ≤ ((scanN row base most.toNat pl.toNat 0).2 : Int) ∧ ((scanN row base most.toNat pl.toNat 0).2 : Int) ≤ row.length ∧ ((scanN row base most.toNat pl.toNat 0).2 : Int) ≤ pl + most := by
  have a := scanN_le (row := row) base most.toNat pl.toNat 0 (by omega)
  have b := scanN_most (row := row) base most.toNat pl.toNat 0
  omega
theorem num_exit {row : List Int} {bs most at1 my pl v : Int} {R : Int × Nat} (h0 : 0 ≤ pl) (p3 : pl ≤ at1) (p8 : scanN row bs (most - my).toNat at1.toNat v = R) (hx : ¬ my < most ∨ dig (row.getD at1.toNat (-1)) = none ∨ ∃ k, dig (row.getD at1.toNat (-1)) = some k ∧ bs ≤ k) : R = (v, at1.toNat) := by
  rw [← p8]
  rcases hx with hx | hx
  · rw [show (most - my).toNat = 0 by omega]; rfl
  · exact scanN_none (figB_no hx)
theorem num_turn {row : List Int} {bs most at1 my pl v k : Int} {R : Int × Nat} (h0 : 0 ≤ pl) (p3 : pl ≤ at1) (p5 : my = at1 - pl) (hb : bs = 8 ∨ bs = 16) (p1 : 0 ≤ v) (p2 : v < 16 ^ (at1 - pl).toNat) (p8 : scanN row bs (most - my).toNat at1.toNat v = R)
    (a2 : my < most) (q : dig (row.getD at1.toNat (-1)) = some k) (g : k < bs) :
    at1 < row.length ∧ 0 ≤ v * bs + k ∧ v * bs + k < 16 ^ (at1 + 1 - pl).toNat ∧ pl ≤ at1 + 1 ∧ at1 + 1 ≤ row.length ∧ my + 1 = at1 + 1 - pl ∧ my + 1 ≤ most ∧ scanN row bs (most - (my + 1)).toNat (at1 + 1).toNat (v * bs + k) = R := by
  have b := dig_bnd q
  have f := figB_yes q g
  have l : at1.toNat < row.length := by
    by_cases z : at1.toNat < row.length
    · exact z
    · rw [getD_out (by omega)] at q; cases q
  obtain ⟨s1, s2⟩ := pow_step p1 p2 hb b.1 b.2
  rw [show (most - my).toNat = (most - (my + 1)).toNat + 1 by omega, scanN_some f] at p8
  refine ⟨by omega, s1, ?_, by omega, by omega, by omega, by omega, ?_⟩
  · rw [show (at1 + 1 - pl).toNat = (at1 - pl).toNat + 1 by omega]; exact s2
  · rw [show (at1 + 1).toNat = at1.toNat + 1 by omega]; exact p8
section
open PySem.Spec
variable {w : World} {p : Program} {loose : List Str} {mean : ExcName → Option Value} {mg mb : Str → Option Value} {x d r : Addr} {t1 t2 t3 : Tok} {row : List Int} {vs : List Value} {nr : Nat} {pl : Int} {rest : List (Addr × Obj)}
theorem due_ok {code begin : Int} {tc tb : Tok} {word : Str} {tw : Tok} (hx : (x, instObj 134 d) ∈ rest) (hr : (r, listOf vs.toArray nr) ∈ rest) (hne : ∀ q ∈ rest, q.1 ≠ d) (hi : IntsAre vs row) (h0 : 0 ≤ pl) (h1 : pl ≤ row.length) (h2 : row.length ≤ 18) (hc : code ≠ -1) :
  CallOkE w p loose mean mg mb 117 [.ref x, .int code tc, .int begin tb, .str word tw] 6 ((d, scanD w r pl t1 t2 t3) :: rest)
    (fun v news' => row.getD pl.toNat (-1) = code ∧ v = .none ∧ ∃ t3', news' = (d, scanD w r (pl + 1) t1 t2 t3') :: rest)
    (fun dd news' => row.getD pl.toNat (-1) ≠ code ∧ BadAt w begin word dd news' ∧ ∀ q ∈ rest, q ∈ news') := by
  intro dp un gd cn cs a ccd cl outer A₀ base' h₀ L m s Q E B F X N T hk hdp hun hret hexc
  refine wpAny_call ?_
  k_dflt (walk_at "enterdef")
  k_steps
  · refine hexc _ _ _ _ _ _ (by assumption) (by assumption) (by assumption) ⟨by assumption, ?_⟩
    walk_at "badat"
  · have g9 := getD_lt (by assumption) (by assumption)
    exact hret _ _ _ _ (by assumption) (by assumption) ⟨by omega, rfl, _, rfl⟩
theorem scalar_ok {v begin : Int} {tv tb : Tok} {news : List (Addr × Obj)} :
  CallOkE w p loose mean mg mb 145 [.int v tv, .int begin tb] 6 news
    (fun r news' => (0 ≤ v ∧ v ≤ 1114111 ∧ ¬ (55296 ≤ v ∧ v ≤ 57343)) ∧ (∃ t, r = .int v t) ∧ news' = news)
    (fun dd news' => ¬ (0 ≤ v ∧ v ≤ 1114111 ∧ ¬ (55296 ≤ v ∧ v ≤ 57343)) ∧ BadAt w begin "code" dd news' ∧ ∀ q ∈ news, q ∈ news') := by
  intro dp un gd cn cs a ccd cl outer A₀ base' h₀ L m s Q E B F X N T hk hdp hun hret hexc
  refine wpAny_call ?_
  k_dflt (walk_at "enterdef")
  k_steps
  · exact hret _ _ _ _ (by assumption) (by assumption) ⟨by omega, ⟨_, rfl⟩, rfl⟩
  · refine hexc _ _ _ _ _ _ (by assumption) (by assumption) (by assumption) ⟨by omega, ?_⟩
    walk_at "badat"
theorem pass_all_ok {l : Addr} {us : List Value} {c : Nat} (hx : (x, instObj 134 d) ∈ rest) (hr : (r, listOf vs.toArray nr) ∈ rest) (hl : (l, listOf us.toArray c) ∈ rest) (hne : ∀ q ∈ rest, q.1 ≠ d) (hi : IntsAre vs row) (hj : IntsAre us [32, 10]) (h0 : 0 ≤ pl) (h1 : pl ≤ row.length) (h2 : row.length ≤ 18) :
  CallOk w p loose mean mg mb 131 [.ref x, .ref l] 2 ((d, scanD w r pl t1 t2 t3) :: rest)
    (fun v news' => (v = .none ∧ pl ≤ (skipN row (row.length - pl.toNat) pl.toNat : Int) ∧ (skipN row (row.length - pl.toNat) pl.toNat : Int) ≤ row.length) ∧ ∃ t3', news' = (d, scanD w r (skipN row (row.length - pl.toNat) pl.toNat) t1 t2 t3') :: rest) := by
  intro dp un gd cn cs a ccd cl outer A₀ base' h₀ L m s Q E B F X N T hk hdp hun hret
  refine wpAny_call ?_
  k_dflt (walk_at "enterdef")
  k_steps
  refine Halt.mk ?_
  refine ksw_while (σ := Int × Tok) (fun c => (d, scanD w r c.1 t1 t2 c.2) :: rest) (fun c => []) (fun _ => True) []
    (fun c => 0 ≤ c.1 ∧ c.1 ≤ row.length ∧ skipN row (row.length - c.1.toNat) c.1.toNat = skipN row (row.length - pl.toNat) pl.toNat)
    (fun c => ((row.length : Int) - c.1).toNat) (pl, t3) (by assumption) (by assumption) trivial (by kst_all) ?_ ?_ (by with_unfolding_all passes_own)
  · exact ⟨h0, h1, rfl⟩
  rintro ⟨at1, ta1⟩ u h tk - ⟨p1, p2, p3⟩ F2 N2
  dsimp only at *
  k_steps
  all_goals first
    | (refine Halt.mk (ksw_end (_, _) (by assumption) (by assumption) (fun p hp => hp) trivial (by kst_all) (by intro z h2 h3; rfl) ?_ ?_)
       · have z := skip_turn1 (by omega) p3 (by assumption)
         exact ⟨by omega, by omega, z.2⟩
       · have z := skip_turn1 (by omega) p3 (by assumption)
         dsimp only; omega)
    | (have e := skip_exit1 (by omega) p2 p3 (by assumption)
       exact hret _ _ _ _ (by assumption) (by assumption) ⟨⟨rfl, by have z := skipN_le (row := row) (row.length - pl.toNat) pl.toNat (by omega); omega⟩, _, by rw [e]⟩)
theorem number_ok {bs least most begin : Int} {ta tb tl tm : Tok} (hx : (x, instObj 134 d) ∈ rest) (hr : (r, listOf vs.toArray nr) ∈ rest) (hne : ∀ q ∈ rest, q.1 ≠ d) (hi : IntsAre vs row) (h0 : 0 ≤ pl) (h1 : pl ≤ row.length) (h2 : row.length ≤ 18) (hb : bs = 8 ∨ bs = 16) (hm0 : 0 ≤ most) (hm1 : most ≤ 6) (hl0 : 0 ≤ least) (hl1 : least ≤ 6) :
  CallOkE w p loose mean mg mb 124 [.ref x, .int bs ta, .int least tl, .int most tm, .int begin tb] 6 ((d, scanD w r pl t1 t2 t3) :: rest)
    (fun v news' => (¬ ((scanN row bs most.toNat pl.toNat 0).2 : Int) - pl < least ∧ pl ≤ ((scanN row bs most.toNat pl.toNat 0).2 : Int) ∧ ((scanN row bs most.toNat pl.toNat 0).2 : Int) ≤ row.length ∧ ((scanN row bs most.toNat pl.toNat 0).2 : Int) ≤ pl + most) ∧ (∃ t, v = .int (scanN row bs most.toNat pl.toNat 0).1 t) ∧ ∃ t3', news' = (d, scanD w r (scanN row bs most.toNat pl.toNat 0).2 t1 t2 t3') :: rest)
    (fun dd news' => ((scanN row bs most.toNat pl.toNat 0).2 : Int) - pl < least ∧ BadAt w begin "digits" dd news' ∧ ∀ q ∈ rest, q ∈ news') := by
  intro dp un gd cn cs a ccd cl outer A₀ base' h₀ L m s Q E B F X N T hk hdp hun hret hexc
  refine wpAny_call ?_
  k_dflt (walk_at "enterdef")
  k_steps
  refine Halt.mk ?_
  refine ksw_while (σ := Int × Tok × Int × Tok × Int × Tok) (fun c => (d, scanD w r c.2.2.2.2.1 t1 t2 c.2.2.2.2.2) :: rest) (fun c => [("value", .int c.1 c.2.1), ("many", .int c.2.2.1 c.2.2.2.1)]) (fun _ => True) ["digit"]
    (fun c => 0 ≤ c.1 ∧ c.1 < 16 ^ (c.2.2.2.2.1 - pl).toNat ∧ pl ≤ c.2.2.2.2.1 ∧ c.2.2.2.2.1 ≤ row.length ∧ c.2.2.1 = c.2.2.2.2.1 - pl ∧ c.2.2.1 ≤ most ∧ scanN row bs (most - c.2.2.1).toNat c.2.2.2.2.1.toNat c.1 = scanN row bs most.toNat pl.toNat 0)
    (fun c => ((row.length : Int) - c.2.2.2.2.1).toNat) (0, _, 0, _, pl, t3) (by assumption) (cb_drop (by assumption) fun p hp => List.mem_cons_of_mem _ hp) trivial (by kst_all) ?_ ?_ (by with_unfolding_all passes_own)
  · dsimp only; refine ⟨by omega, ?_, by omega, by omega, by omega, by omega, ?_⟩
    · rw [show (pl - pl).toNat = 0 by omega]; decide
    · rw [show (most - 0) = most by omega]
  rintro ⟨v, tv, my, tmy, at1, ta1⟩ u h tk - ⟨p1, p2, p3, p4, p5, p6, p8⟩ F2 N2
  dsimp only at *
  have p7 : v < 16777216 := Int.lt_of_lt_of_le p2 (pow_le6 (by omega))
  k_steps
  all_goals first
    | (refine Halt.mk (ksw_end (_, _, _, _, _, _) (by assumption) (by assumption) (fun p hp => hp) trivial (by kst_all) ?_ ?_ ?_)
       · walk_at "same21"
       · exact (num_turn h0 p3 p5 hb p1 p2 p8 (by assumption) (by assumption) (by omega)).2
       · have z := (num_turn h0 p3 p5 hb p1 p2 p8 (by assumption) (by assumption) (by omega)).1
         dsimp only; omega)
    | (have e := num_exit h0 p3 p8 (by first | exact .inl (by omega) | exact .inr (.inl (by assumption)) | exact .inr (.inr ⟨_, by assumption, by omega⟩))
       first
       | (refine hexc _ _ _ _ _ _ (by assumption) (by assumption) (by assumption) ⟨by rw [e]; dsimp only; omega, ?_⟩
          walk_at "badat")
       | exact hret _ _ _ _ (by assumption) (by assumption) ⟨⟨by rw [e]; dsimp only; omega, scanN_in h0 h1 hm0⟩, ⟨_, by rw [e]⟩, _, by rw [e, Int.toNat_of_nonneg (by omega)]⟩)
end
theorem lines14 : True := by
  (k_with "call ref" => (k_here; (with_reducible show wpAny _ _ (call (Value.ref 117) _) _ _ _); (k_dflt (refine' (due_ok ?hx ?hr ?hne ?hi ?h0 ?h1 ?h2 ?hc) _ _ _ _ _ _ _ _ _ _ _ _ _ _ _ _ _ ?kB ?kF ?kX ?kN ?kT ?kK ?kd ?ku ?_ ?_; (case kB => k_asm); (case kF => k_asm); (case kX => k_asm); (case kT => k_asm); (case kK => first | exact rfl | assumption); (case kd => walk_at "room"); (case ku => walk_at "units"))); (case kN => k_asm); (case hx => k_mem); (case hr => k_mem); (case hne => k_all); (case hi => l_ints); (case h0 => omega); (case h1 => omega); (case h2 => omega); (case hc => decide); rotate_left; (intro g9 e9 d9 n9 h9 tk9 F9 R9 U9 P9; obtain ⟨a9, b9, s9⟩ := P9; (try dsimp only); (try k_fold)); rotate_left; (intro r9 n9 h9 tk9 F9 N9 P9; obtain ⟨a9, e9, t9', e9'⟩ := P9; subst e9 e9'; (have z9 := getD_lt a9 (by decide)); (try dsimp only); (try k_fold))))
  (k_with "call ref" => (k_here; (with_reducible show wpAny _ _ (call (Value.ref 145) _) _ _ _); (k_dflt (refine' scalar_ok _ _ _ _ _ _ _ _ _ _ _ _ _ _ _ _ _ ?kB ?kF ?kX ?kN ?kT ?kK ?kd ?ku ?_ ?_; (case kB => k_asm); (case kF => k_asm); (case kX => k_asm); (case kT => k_asm); (case kK => first | exact rfl | assumption); (case kd => walk_at "room"); (case ku => walk_at "units"))); (case kN => k_asm); rotate_left; (intro g9 e9 d9 n9 h9 tk9 F9 R9 U9 P9; obtain ⟨a9, b9, s9⟩ := P9; (try dsimp only); (try k_fold)); rotate_left; (intro r9 n9 h9 tk9 F9 N9 P9; obtain ⟨a9, ⟨t9', e9⟩, e9'⟩ := P9; subst e9 e9'; (try dsimp only); (try k_fold))))
  (k_with "call ref" => (k_here; (with_reducible show wpAny _ _ (call (Value.ref 131) _) _ _ _); (k_dflt (refine' (pass_all_ok ?hx ?hr ?hl ?hne ?hi ?hj ?h0 ?h1 ?h2) _ _ _ _ _ _ _ _ _ _ _ _ _ _ _ _ _ ?kB ?kF ?kX ?kN ?kT ?kK ?kd ?ku ?_; (case kB => k_asm); (case kF => k_asm); (case kX => k_asm); (case kT => k_asm); (case kK => first | exact rfl | assumption); (case kd => walk_at "room"); (case ku => walk_at "units"))); (case kN => k_asm); (case hx => k_mem); (case hr => k_mem); (case hl => k_mem); (case hne => k_all); (case hi => l_ints); (case hj => l_ints); (case h0 => omega); (case h1 => omega); (case h2 => omega); (intro r9 n9 h9 tk9 F9 N9 P9; obtain ⟨⟨e9, z9⟩, t9', e9'⟩ := P9; subst e9 e9'; (try dsimp only); (try k_fold))))
  (k_with "call ref" => (k_here; (with_reducible show wpAny _ _ (call (Value.ref 124) _) _ _ _); (k_dflt (refine' (number_ok ?hx ?hr ?hne ?hi ?h0 ?h1 ?h2 ?hb ?m0 ?m1 ?l0 ?l1) _ _ _ _ _ _ _ _ _ _ _ _ _ _ _ _ _ ?kB ?kF ?kX ?kN ?kT ?kK ?kd ?ku ?_ ?_; (case kB => k_asm); (case kF => k_asm); (case kX => k_asm); (case kT => k_asm); (case kK => first | exact rfl | assumption); (case kd => walk_at "room"); (case ku => walk_at "units"))); (case kN => k_asm); (case hx => k_mem); (case hr => k_mem); (case hne => k_all); (case hi => l_ints); (case h0 => omega); (case h1 => omega); (case h2 => omega); (case hb => first | exact .inl rfl | exact .inr rfl); (case m0 => decide); (case m1 => decide); (case l0 => decide); (case l1 => decide); rotate_left; (intro g9 e9 d9 n9 h9 tk9 F9 R9 U9 P9; (try simp only [Int.reduceToNat] at P9); obtain ⟨a9, b9, s9⟩ := P9; (try dsimp only); (try k_fold)); rotate_left; (intro r9 n9 h9 tk9 F9 N9 P9; (try simp only [Int.reduceToNat] at P9); obtain ⟨a9, ⟨t9, e9⟩, t9', e9'⟩ := P9; subst e9 e9'; (try dsimp only); (try k_fold))))
  exact trivial
theorem upd_at {d : Addr} {o o' : Obj} {post : List (Addr × Obj)} : ∀ {pre : List (Addr × Obj)}, (∀ p ∈ pre, p.1 ≠ d) → (∀ p ∈ post, p.1 ≠ d) → Upd d o o' (pre ++ (d, o) :: post) (pre ++ (d, o') :: post)
  | [], _, b => .head b
  | p :: _, a, b => .tail (a p (.head _)) (upd_at (fun q hq => a q (.tail _ hq)) b)
section
open PyProof.V PySem.Spec
variable {prog : Program} {w : World} {A : Around} {E : Value → Shared → Prop} {s : Shared} {h₀ h : Heap} {L D b : Addr} {m : Str → Option Value} {news news' : List (Addr × Obj)} {us cs : List Value} {n n2 : Nat} {g : Obj → List (Addr × Obj)}
/-- a list of unknown length, extended by another -/
theorem ext_K {Q : Value → Shared → Prop} (F : Fr h₀ L s.heap m) (N : News h₀ L s.heap news) (hb : (b, listOf cs.toArray n2) ∈ news) (U : UpdF D (listOf us.toArray n) news g) (hz : us.length + cs.length ≤ 1000)
    (h : ∀ h' n', Fr h₀ L h' m → News h₀ L h' (g (listOf (us ++ cs).toArray n')) → Q .none { s with heap := h' }) : wpAny (model prog w) A (call (.builtin "list.extend") [.ref D, .ref b]) Q E s := by
  obtain ⟨pre, post, rfl, hg, a, c⟩ := U.split
  have z := N (D, listOf us.toArray n) (List.mem_append.mpr (.inr (.head _)))
  have hd : ¬(!us.toArray.isEmpty && Builtin.List.listTooLong (us.toArray.size + cs.toArray.size)) = true := by
    simp only [Builtin.List.listTooLong, List.size_toArray, Bool.and_eq_true, decide_eq_true_eq, sizeLine_eq]; omega
  have hz1 : us.toArray.toList.length ≤ sizeLine := by rw [sizeLine_eq]; simp only [List.toList_toArray]; omega
  have hz2 : us.toArray.size + cs.toArray.size ≤ sizeLine + 1 := by rw [sizeLine_eq]; simp only [List.size_toArray]; omega
  cases cs with
  | nil => exact kxn_extend F N hb rfl (upd_at a c) hd hz1 hz2 fun h' F' N' => h h' n F' (by rw [hg, List.append_nil]; exact N')
  | cons c0 cs => exact kl_extend F N hb rfl (Nat.succ_ne_zero _) (upd_at a c) hd hz1 hz2 fun h' F' N' => h h' (n + 1) F' (by rw [hg]; exact N')
theorem list_K {Q : Value → Shared → Prop} (F : Fr h₀ L s.heap m) (N : News h₀ L s.heap news) (hb : (b, listOf cs.toArray n2) ∈ news) (hz : cs.length ≤ 1000)
    (h : ∀ D c h', Fr h₀ L h' m → News h₀ L h' ((D, listOf cs.toArray c) :: news) → (∀ q ∈ news, q.1 < D) → Q (.ref D) { s with heap := h' }) : wpAny (model prog w) A (call (.type "list") [.ref b]) Q E s :=
  kup_listOf F N hb rfl h (by rw [sizeLine_eq]; simp only [List.toList_toArray]; omega)
end
section
variable {prog : Program} {w : World} {A : Around} {E : Value → Shared → Prop} {s : Shared} {h₀ h : Heap} {L D b : Addr} {m : Str → Option Value} {news news2 : List (Addr × Obj)} {us cs : List Value} {n n2 : Nat} {g : Obj → List (Addr × Obj)}
/-- the same; the list that is taken in leaves the ledger (it may be the same list) -/
theorem ext_drop {Q : Value → Shared → Prop} (F : Fr h₀ L s.heap m) (N : News h₀ L s.heap ((b, listOf cs.toArray n2) :: news)) (U : UpdF D (listOf us.toArray n) news g) (hz : us.length + cs.length ≤ 1000)
    (h : ∀ h' n', Fr h₀ L h' m → News h₀ L h' (g (listOf (us ++ cs).toArray n')) → Q .none { s with heap := h' }) : wpAny (model prog w) A (call (.builtin "list.extend") [.ref D, .ref b]) Q E s := by
  obtain ⟨pre, post, rfl, hg, a, c⟩ := U.split
  have hb := (N _ (.head _)).1
  have N2 : News h₀ L s.heap (pre ++ (D, listOf us.toArray n) :: post) := fun q hq => N q (.tail _ hq)
  have z := N2 (D, listOf us.toArray n) (List.mem_append.mpr (.inr (.head _)))
  have hd : ¬(!us.toArray.isEmpty && Builtin.List.listTooLong (us.toArray.size + cs.toArray.size)) = true := by
    simp only [Builtin.List.listTooLong, List.size_toArray, Bool.and_eq_true, decide_eq_true_eq, sizeLine_eq]; omega
  have hz1 : us.toArray.size ≤ sizeLine := by rw [sizeLine_eq]; simp only [List.size_toArray]; omega
  have hz2 : us.toArray.size + cs.toArray.size ≤ sizeLine + 1 := by rw [sizeLine_eq]; simp only [List.size_toArray]; omega
  cases cs with
  | nil =>
    refine call_meets PySem.F.slot_list_extend ⟨_, z.1, rfl⟩ PySem.F.entry_list_extend (PySem.F.args_list_extend_2 _ _) (PySem.AutoSeq1.list_extend_list_list_0 D _ n b _ n2 hd hz1 hz2) ⟨z.1, hb, h _ n (F.change (Heap.SameBut.update ..) z.2.1 z.2.2) ?_⟩
    rw [hg, List.append_nil]
    exact kl_turn0 (fun x => x ++ #[]) N2 a c (by simp) rfl
  | cons c0 cs =>
    refine call_meets PySem.F.slot_list_extend ⟨_, z.1, rfl⟩ PySem.F.entry_list_extend (PySem.F.args_list_extend_2 _ _) (PySem.AutoSeq1.list_extend_list_list_0 D _ n b _ n2 hd hz1 hz2) ⟨z.1, hb, h _ (n + 1) (F.change (Heap.SameBut.update ..) z.2.1 z.2.2) ?_⟩
    rw [hg]
    exact kl_turn (fun x => x ++ (c0 :: cs).toArray) N2 a c (by simp) (by simp)
end
/-- the reader that the law hands on, as its def makes it -/
noncomputable def readerFn (P : Params) (cl : List (Str × Addr)) (doc pm : Value) (c' : Addr) (ctv : Value) : Obj :=
  match (hd.heap_39 P).lookup 200 with
  | some ⟨_, _, .func fd, _⟩ => match fd.body with
    | .stmts (_ :: _ :: .FunctionDef name params body _ _ _ scope _ _ _ :: _) => fnMade name "law.<locals>._law_reader" params body scope cl doc pm c' ctv
    | _ => default
  | _ => default
theorem news_ne {h₀ h : Heap} {L a b : Addr} {o o' : Obj} {news : List (Addr × Obj)} (N : News h₀ L h news) (h1 : (a, o) ∈ news) (h2 : (b, o') ∈ news) (hc : o.cls ≠ o'.cls) : a ≠ b := fun e => by
  have e1 := (N _ h1).1
  have e2 := (N _ h2).1
  dsimp only at e1 e2
  rw [e, e2] at e1
  cases e1; exact hc rfl
theorem mem_tail {a : Addr × Obj} {l n : List (Addr × Obj)} (h : ∀ q ∈ a :: l, q ∈ n) : ∀ q ∈ l, q ∈ n := fun q hq => h q (.tail _ hq)
theorem tl_ne : Value.type "tuple" ≠ Value.type "list" := fun e => absurd (Value.type.inj e) (by decide)
theorem news_swap {h₀ h : Heap} {L : Addr} {a b : Addr × Obj} {r : List (Addr × Obj)} (N : News h₀ L h (a :: b :: r)) : News h₀ L h (b :: a :: r) := fun q hq => by
  rcases List.mem_cons.mp hq with rfl | hq
  · exact N _ (.tail _ (.head _))
  · rcases List.mem_cons.mp hq with rfl | hq
    · exact N _ (.head _)
    · exact N _ (.tail _ (.tail _ hq))
theorem scanN_nonneg {row : List Int} {base : Int} (hb : 0 ≤ base) : ∀ (k p : Nat) (v : Int), 0 ≤ v → 0 ≤ (scanN row base k p v).1
  | 0, _, _, h => h
  | k + 1, p, v, h => by
    rw [scanN]
    split
    · exact h
    · rename_i c q
      exact scanN_nonneg hb k (p + 1) _ (Int.add_nonneg (Int.mul_nonneg h hb) (figB_bnd q).1)
theorem br4b {row : List Int} {k : Int} (h : row.getD k.toNat (-1) = 123) (c : ¬ ((scanN row 16 6 (k + 1).toNat 0).2 : Int) - (k + 1) < 1) (g : row.getD ((scanN row 16 6 (k + 1).toNat 0).2 : Int).toNat (-1) = 125)
    (q : ¬ (0 ≤ (scanN row 16 6 (k + 1).toNat 0).1 ∧ (scanN row 16 6 (k + 1).toNat 0).1 ≤ 1114111 ∧ ¬ (55296 ≤ (scanN row 16 6 (k + 1).toNat 0).1 ∧ (scanN row 16 6 (k + 1).toNat 0).1 ≤ 57343))) : bracesN row k = .bad "code" :=
  br4 h c g (by have z := scanN_nonneg (row := row) (base := 16) (by decide) 6 (k + 1).toNat 0 (by decide); omega)
theorem true_snoc {us : List Value} {b : Bool} (h : ∀ v ∈ us, v = .bool true) (hb : b = true) : ∀ v ∈ us ++ [.bool b], v = .bool true := fun v hv => by
  rcases List.mem_append.mp hv with hv | hv
  · exact h v hv
  · rw [List.mem_singleton.mp hv, hb]
theorem same_dec (a b : Int) : (decide (a = b) == (a == b)) = true := by
  by_cases h : a = b <;> simp [h]
theorem es6 {row : List Int} {begin : Int} (h : ¬ (row.length : Int) < begin + 2) (k : row.getD (begin + 1).toNat 0 = 111) : escN row begin = figEsc (scanN row 8 3 (begin + 2).toNat 0) (begin + 2) 1 := by
  unfold escN; rw [if_neg h, if_neg (by omega), if_neg (by omega), if_pos k]
theorem es10b {row : List Int} {begin : Int} (h : ¬ (row.length : Int) < begin + 2) (k0 : row.getD (begin + 1).toNat 0 ≠ 110) (k1 : row.getD (begin + 1).toNat 0 ≠ 120) (k2 : row.getD (begin + 1).toNat 0 ≠ 111) (k3 : row.getD (begin + 1).toNat 0 ≠ 117) (k4 : row.getD (begin + 1).toNat 0 ≠ 119) (k5 : row.getD (begin + 1).toNat 0 ≠ 10) : escN row begin = .bad "escape" := by
  unfold escN; rw [if_neg h, if_neg k0, if_neg k1, if_neg k2, if_neg k3, if_neg k4, if_neg k5]
theorem ifexp_join {M : Model} {A : Around} {t : Sem Value} {Q E : Value → Shared → Prop} {s : Shared} (c : Int) (h : wpAny M A t (fun v s' => Halt (∃ u tk, v = .int c u ∧ s' = { s with toks := tk })) E s) (k : ∀ u tk, Q (.int c u) { s with toks := tk }) : wpAny M A t Q E s :=
  wpAny_mono h (by rintro v s' ⟨u, tk, rfl, rfl⟩; exact k u tk) (fun _ _ h => h)
section
open PySem.Spec
local macro_rules | `(tactic| k_ne) => `(tactic| first | assumption | (show (_ : Addr) ≠ _; exact news_ne (by assumption) (.head _) (.tail _ (.tail _ (.head _))) tl_ne))
variable {w : World} {p : Program} {loose : List Str} {mean : ExcName → Option Value} {mg mb : Str → Option Value} {x d r : Addr} {t1 t2 t3 : Tok} {row : List Int} {vs : List Value} {nr : Nat} {pl : Int} {rest : List (Addr × Obj)}
theorem lines15 : True := by
  (k_with "eval IfExp" => (k_here; (refine ifexp_join (row.getD (begin + 2).toNat (-1)) ?_ ?_); (focus k_dflt (refine IfExp_ ?_; k_steps; all_goals (exact Halt.mk ⟨_, _, congrArg (fun z => Value.int z _) (by first | rfl | exact getD_in (by omega) | exact (getD_out (by omega)).symm), rfl⟩))); (intro u9 tk9; (try dsimp only); (try k_fold))))
  (k_with "enternest" => (refine' code_nest ?k1 ?k2 ?k3 ?k4 ?k5 ?kA ?kF ?kK ?k6 ?k7 ?k8 ?k9 ?kB ?_ ?c2 ?c3 ?c4 ?c5; (case kA => exact rfl); (case kF => exact rfl); (case kK => first | exact rfl | assumption); (case k1 => k_asm); (case k2 => k_asm); (case k3 => k_asm); (case k4 => k_asm); (case k5 => k_asm); (case k6 => assumption); (case k7 => exact codeRec_news (by k_asm) (by k_mem) (by assumption) (by assumption)); (case k8 => walk_at "room"); (case k9 => exact BindsTo.of_eq rfl); (case c5 => decide); (case kB => exact locs rfl); (case c2 => exact rfl); (case c3 => exact rfl); (case c4 => exact rfl); k_whole; intro g' L' h' FG' F' N' B' X' T'; (try dsimp only); (try k_fold)))
  (k_with "eval Name" => (k_here; kc_free; k_dflt (refine' nameX_F ?N ?c ?m ?d ?_ ?a ?b; (case a => rfl); (case b => rfl); (case N => k_asm); (case c => rfl); (case m => k_mem); (case d => assumption); k_whole)))
  (k_with "ite" => (k_here; k_openite; first | (refine ite_pos (by ((simp only [beq_iff_eq, decide_eq_true_eq, bne_iff_ne]) <;> omega)) ?_) | (refine ite_neg (by ((simp only [beq_iff_eq, decide_eq_true_eq, bne_iff_ne]) <;> omega)) ?_)))
  (k_with "call builtin:list.append" => (k_here; (with_reducible show wpAny _ _ (call (Value.builtin _) [Value.ref _, _]) _ _ _); k_dflt (refine' append_K ?k1 ?k2 ?k3 ?_ ?z; (case k1 => k_asm); (case k2 => k_asm); (case k3 => k_upd); (case z => (rw [sizeLine_eq]; simp only [List.size_toArray, List.length_append, List.length_cons, List.length_nil]; omega)); k_whole); intro h' F' N'; (try simp only [List.push_toArray] at N'); (try k_sweep)))
  (k_with "call ref" => (k_here; (with_reducible show wpAny _ _ (call (Value.ref 174) _) _ _ _); (k_dflt (refine' (figures_ok ?hr ?hi ?h2 ?hm ?hb ?h0 ?h1 ?m0 ?m1 ?l0 ?l1) _ _ _ _ _ _ _ _ _ _ _ _ _ _ _ _ _ ?kB ?kF ?kX ?kN ?kT ?kK ?kd ?ku ?_; (case kB => k_asm); (case kF => k_asm); (case kX => k_asm); (case kT => k_asm); (case kK => first | exact rfl | assumption); (case kd => walk_at "room"); (case ku => walk_at "units"))); (case kN => k_asm); (case hr => k_mem); (case hi => l_ints); (case h2 => assumption); (case hm => assumption); (case hb => first | exact .inl rfl | exact .inr rfl); (case h0 => omega); (case h1 => omega); (case m0 => decide); (case m1 => decide); (case l0 => decide); (case l1 => decide); intro r9 n9 h9 tk9 F9 N9 P9; (try simp only [Int.reduceToNat] at P9); (rw [if_neg (by omega)] at P9); obtain ⟨t9, u9, u9', e9, e9'⟩ := P9; subst e9 e9'; (have z9 := news_ne N9 (.head _) (.tail _ (.tail _ (.head _))) tl_ne); (try dsimp only); (try k_fold)))
  (k_with "call ref" => (k_here; (with_reducible show wpAny _ _ (call (Value.ref 131) _) _ _ _); (k_dflt (refine' (pass_all_ok ?hx ?hr ?hl ?hne ?hi ?hj ?h0 ?h1 ?h2) _ _ _ _ _ _ _ _ _ _ _ _ _ _ _ _ _ ?kB ?kF ?kX ?kN ?kT ?kK ?kd ?ku ?_; (case kB => k_asm); (case kF => k_asm); (case kX => k_asm); (case kT => k_asm); (case kK => first | exact rfl | assumption); (case kd => walk_at "room"); (case ku => walk_at "units"))); (case kN => exact news_swap (by assumption)); (case hx => k_mem); (case hr => k_mem); (case hl => k_mem); (case hne => (refine List.forall_mem_cons.mpr ⟨?a, ?b⟩; (case a => k_ne); (case b => k_all))); (case hi => l_ints); (case hj => l_ints); (case h0 => omega); (case h1 => omega); (case h2 => omega); (intro r9 n9 h9 tk9 F9 N9 P9; obtain ⟨⟨e9, z9⟩, t9', e9'⟩ := P9; subst e9 e9'; (try dsimp only); (try k_fold))))
  (k_with "sub3" => (refine List.forall_mem_cons.mpr ⟨?a, List.forall_mem_cons.mpr ⟨?b, List.forall_mem_cons.mpr ⟨?e, ?c⟩⟩⟩; (case a => k_mem); (case b => k_mem); (case e => k_mem); (case c => (intro p hp; (repeat refine List.mem_cons_of_mem _ ?_); exact hp))))
  (k_with "alltrue" => (repeat refine true_snoc ?_ ?_) <;> first | assumption | rfl | exact same_dec _ _ | ((simp only [beq_iff_eq, decide_eq_true_eq]) <;> first | omega | exact getD_in (by omega) | exact getD_out (by omega)))
  (k_with "lens" => ((try simp only [List.length_append, List.length_cons, List.length_nil]); omega))
  (k_with "escbad" => first | exact es1 (by omega) | exact (es34 (by omega) (by assumption)).trans (figEsc_bad (by omega)) | exact (es6 (by omega) (by assumption)).trans (figEsc_bad (by omega)) | exact es9 (by omega) (by assumption) (by assumption) | exact es10b (by omega) (by assumption) (by assumption) (by assumption) (by assumption) (by assumption) (by assumption) | exact (es7 (by omega) (by assumption)).trans (br1 (by assumption)) | exact (es7 (by omega) (by assumption)).trans (br2 (by assumption) (by omega)) | exact (es7 (by omega) (by assumption)).trans (br3 (by assumption) (by omega) (by assumption)) | exact (es7 (by omega) (by assumption)).trans (br4b (by assumption) (by omega) (by assumption) (by assumption)))
  exact trivial
theorem reader_ok {f c' sl cr cs' : Addr} {doc pm ctv : Value} {oc ocr ocs : Obj} {ovs : Array Value} {ot : Tok} {us : List Value} {n : Nat} {begin : Int} {tb : Tok} (hf : (f, readerFn w.params [("seen", cs'), ("row", cr)] doc pm c' ctv) ∈ rest) (hc' : (c', oc) ∈ rest) (hoc : oc.data = .fields ovs) (hov : ovs[1]? = some (.str "law.<locals>._law_reader" ot))
  (hcr : (cr, ocr) ∈ rest) (hocr : ocr.data = .cell (some (.ref r))) (hcs : (cs', ocs) ∈ rest) (hocs : ocs.data = .cell (some (.ref sl)))
  (hx : (x, instObj 134 d) ∈ rest) (hr : (r, listOf vs.toArray nr) ∈ rest) (hne : ∀ q ∈ rest, q.1 ≠ d) (hns : ∀ q ∈ rest, q.1 ≠ sl) (hsd : sl ≠ d) (hi : IntsAre vs row) (h0 : 0 ≤ begin) (h1 : begin < row.length) (h2 : row.length ≤ 18) (hm : ∀ c ∈ row, Menu c) (hus : us.length ≤ 100) (hut : ∀ v ∈ us, v = .bool true) (h92 : row.getD begin.toNat 0 = 92) :
  CallOkE w p loose mean mg mb f [.ref x, .int begin tb] 12 ((d, scanD w r (begin + 1) t1 t2 t3) :: (sl, listOf us.toArray n) :: rest)
    (fun v news' => ∃ (l : Addr) (codes : List Int) (pp : Int) (cs us' : List Value) (n' : Nat) (t3' : Tok) (c : Nat), escN row begin = .ok codes pp ∧ v = .ref l ∧ news' = (l, listOf cs.toArray c) :: (d, scanD w r pp t1 t2 t3') :: (sl, listOf us'.toArray n') :: rest ∧ IntsAre cs codes ∧ (∀ v ∈ us', v = .bool true) ∧ us'.length ≤ us.length + 3)
    (fun dd news' => ∃ (wd : Str) (us' : List Value) (n' : Nat), escN row begin = .bad wd ∧ BadAt w begin wd dd news' ∧ (∀ q ∈ (sl, listOf us'.toArray n') :: rest, q ∈ news') ∧ (∀ v ∈ us', v = .bool true) ∧ us'.length ≤ us.length + 3) := by
  intro dp un gd cn cs a ccd cl outer A₀ base' h₀ L m s Q E B F X N T hk hdp hun hret hexc
  refine wpAny_call ?_
  have hds := hsd.symm
  conv at hf => arg 2; arg 2; whnf
  have hf2 := List.mem_cons_of_mem (d, scanD w r (begin + 1) t1 t2 t3) (List.mem_cons_of_mem (sl, listOf us.toArray n) hf)
  k_dflt (walk_at "enternest")
  k_steps
  all_goals first
    | (refine' hret _ _ _ _ (by assumption) (cb_drop (by assumption) ?sub) ⟨_, _, _, _, _, _, _, _, (by first | exact es2 (by omega) (by assumption) | exact (es34 (by omega) (by assumption)).trans (figEsc_ok (by omega)) | exact (es6 (by omega) (by assumption)).trans (figEsc_ok (by omega)) | exact es8 (by omega) (by assumption) (by assumption) | exact es11 (by omega) (by assumption) | exact (es7 (by omega) (by assumption)).trans (br5 (by assumption) (by omega) (by assumption) (by omega))), rfl, rfl, ?qi, ?qt, ?ql⟩
       (case sub => walk_at "sub3")
       (case qi => l_ints)
       (case qt => walk_at "alltrue")
       (case ql => walk_at "lens"))
    | (refine' hexc _ _ _ _ _ _ (by assumption) (by assumption) (by assumption) ⟨_, _, _, ?esc, ?bad, ?mem, ?qt, ?ql⟩
       (case bad => assumption)
       (case mem => first | assumption | exact mem_tail (by assumption))
       (case qt => walk_at "alltrue")
       (case ql => walk_at "lens")
       (case esc => walk_at "escbad"))
    | (refine hexc _ _ _ _ _ _ (by assumption) (by assumption) (by assumption) ?_
       exact ⟨_, _, _, (by walk_at "escbad"), badAt_mk (.head _) (.tail _ (.tail _ (.head _))), fun p hp => .tail _ (.tail _ (.tail _ (.tail _ hp))), (by walk_at "alltrue"), (by walk_at "lens")⟩)
    | (exfalso; omega)
end
/-- the reader's contract, as the caller knows it -/
structure ReadC (w : World) (p : Program) (loose : List Str) (mean : ExcName → Option Value) (mg mb : Str → Option Value) (f sl r : Addr) (row : List Int) (rest : List (Addr × Obj)) : Prop where
  use : ∀ {d x : Addr} {t1 t2 t3 : Tok} {us : List Value} {n : Nat} {begin : Int} {tb : Tok} {rest' : List (Addr × Obj)}, (∀ q ∈ rest, q ∈ rest') → (x, instObj 134 d) ∈ rest' → (∀ q ∈ rest', q.1 ≠ d) → (∀ q ∈ rest', q.1 ≠ sl) → sl ≠ d → 0 ≤ begin → begin < row.length → us.length ≤ 100 → (∀ v ∈ us, v = .bool true) → row.getD begin.toNat 0 = 92 →
    CallOkE w p loose mean mg mb f [.ref x, .int begin tb] 12 ((d, scanD w r (begin + 1) t1 t2 t3) :: (sl, listOf us.toArray n) :: rest')
      (fun v news' => ∃ (l : Addr) (codes : List Int) (pp : Int) (cs us' : List Value) (n' : Nat) (t3' : Tok) (c : Nat), escN row begin = .ok codes pp ∧ v = .ref l ∧ news' = (l, listOf cs.toArray c) :: (d, scanD w r pp t1 t2 t3') :: (sl, listOf us'.toArray n') :: rest' ∧ IntsAre cs codes ∧ (∀ v ∈ us', v = .bool true) ∧ us'.length ≤ us.length + 3)
      (fun dd news' => ∃ (wd : Str) (us' : List Value) (n' : Nat), escN row begin = .bad wd ∧ BadAt w begin wd dd news' ∧ (∀ q ∈ (sl, listOf us'.toArray n') :: rest', q ∈ news') ∧ (∀ v ∈ us', v = .bool true) ∧ us'.length ≤ us.length + 3)
/-- the contract of the lambda that tells a bare sign -/
structure BareC (w : World) (p : Program) (loose : List Str) (mean : ExcName → Option Value) (mg mb : Str → Option Value) (lm : Addr) (rest : List (Addr × Obj)) : Prop where
  use : ∀ {c : Int} {tc : Tok} {news' : List (Addr × Obj)}, (∀ q ∈ rest, q ∈ news') → CallOk w p loose mean mg mb lm [.int c tc] 2 news' (fun v n' => n' = news' ∧ v = .bool (decide (c ≠ 34)))
theorem lines16 : True := by
  k_with_none
  (k_with "room" => (first | (simp only [depth_under_make, depth_under_kw, depth_in1, depth_deeper, depth_caller, recursionLimit]; omega) | ((try simp only [depth_under_make, depth_under_kw, depth_in1, depth_deeper, depth_caller, recursionLimit] at *); (try dsimp only [ktrTop] at *); omega)))
  (k_with "units" => (first | (simp only [units_in1, units_deeper, Around.mark_units, units_caller, cLine_is]; omega) | ((try simp only [units_in1, units_deeper, Around.mark_units, units_caller] at *); (try dsimp only [ktrTop] at *); omega)))
  (k_with "enterdef" => (refine' code_def ?k1 ?k2 ?k3 ?k4 ?k5 ?kA ?kF ?kK ?k6 ?k7 ?k8 ?k9 ?kB ?_ ?c2 ?c3 ?c4 ?c5; (case kA => exact rfl); (case kF => exact rfl); (case kK => first | exact rfl | assumption); (case k1 => k_asm); (case k2 => k_asm); (case k3 => k_asm); (case k4 => k_asm); (case k5 => k_asm); (case k6 => k_is); (case k7 => k_is); (case k8 => walk_at "room"); (case k9 => exact BindsTo.of_eq rfl); (case c5 => decide); (case kB => exact locs rfl); (case c2 => exact rfl); (case c3 => exact rfl); (case c4 => exact rfl); k_whole; intro g' L' h' FG' F' N' B' X' T'; (try dsimp only); (try k_fold)))
  (k_with "exec While BoolOp cons nil" => (refine Halt.go ?_))
  (k_with "exec While Compare cons nil" => (refine Halt.go ?_))
  (k_with "exec While UnaryOp cons nil" => (refine Halt.go ?_))
  (k_with "KswEnd" => (refine Halt.go ?_))
  (k_with "same1" => (intro z h2 h3; (have a1 := h2 _ (.head _)); dsimp only at a1; simp only [kstB, if_neg a1, List.contains_nil, Bool.false_eq_true, if_false]))
  (k_with "same2" => (intro z h2 h3; (have a1 := h2 _ (.head _)); (have a2 := h2 _ (.tail _ (.head _))); dsimp only at a1 a2; simp only [kstB, if_neg a1, if_neg a2, List.contains_nil, Bool.false_eq_true, if_false]))
  (k_with "compareOp NotEq ref ref" => (k_here; (with_unfolding_all refine' ne_slice1 ?k1 ?k2 ?k3 ?k4 ?k5 ?h0 ?h1 ?hc ?_; (case k1 => is_list); (case k2 => l_ints); (case k3 => is_list); (case k4 => l_ints); (case k5 => walk_at "units"); (case h0 => omega); (case h1 => omega); (case hc => decide); k_whole)))
  (k_with "compareOp Eq ref ref" => (k_here; (with_unfolding_all refine' eq_slice1 ?k1 ?k2 ?k3 ?k4 ?k5 ?h0 ?h1 ?hc ?_; (case k1 => is_list); (case k2 => l_ints); (case k3 => is_list); (case k4 => l_ints); (case k5 => walk_at "units"); (case h0 => omega); (case h1 => omega); (case hc => decide); k_whole)))
  (k_with "sameC" => (intro z h2 h3; (have a1 := h2 _ (.head _)); (have a2 := h2 _ (.tail _ (.head _))); dsimp only at a1 a2; (simp only [List.contains_cons, List.contains_nil, Bool.or_false, Bool.or_eq_false_iff, beq_eq_false_iff_ne, ne_eq] at h3); simp only [kstB, if_neg a1, if_neg a2, if_neg h3.1, if_neg h3.2, List.contains_cons, List.contains_nil, beq_eq_false_iff_ne.mpr h3.1, beq_eq_false_iff_ne.mpr h3.2, Bool.or_false, Bool.false_eq_true, if_false]))
  (k_with "sub2" => (refine List.forall_mem_cons.mpr ⟨?a, List.forall_mem_cons.mpr ⟨?b, ?c⟩⟩; (case a => k_mem); (case b => k_mem); (case c => (intro p hp; (repeat refine List.mem_cons_of_mem _ ?_); exact hp))))
  (k_with "sub1" => (refine List.forall_mem_cons.mpr ⟨?a, ?c⟩; (case a => k_mem); (case c => (intro p hp; (repeat refine List.mem_cons_of_mem _ ?_); exact hp))))
  (k_with "eval Call" => (k_here; k_dflt (refine Call_ ?_)))
  (k_with "compareOp In int ref" => (k_here; (with_unfolding_all refine' in_list_ints ?k1 ?k2 ?_; (case k1 => is_list); (case k2 => l_ints); k_whole)))
  (k_with "same21" => (intro z h2 h3; (have a1 := h2 _ (.head _)); (have a2 := h2 _ (.tail _ (.head _))); dsimp only at a1 a2; (simp only [List.contains_cons, List.contains_nil, Bool.or_false, beq_eq_false_iff_ne, ne_eq] at h3); simp only [kstB, if_neg a1, if_neg a2, if_neg h3, List.contains_cons, List.contains_nil, beq_eq_false_iff_ne.mpr h3, Bool.or_false, Bool.false_eq_true, if_false]))
  (k_with "call ref" => (k_here; (with_reducible show wpAny _ _ (call (Value.ref 75) _) _ _ _); (k_dflt (refine' escape_digit_ok _ _ _ _ _ _ _ _ _ _ _ _ _ _ _ _ _ ?kB ?kF ?kX ?kN ?kT ?kK ?kd ?ku ?_; (case kB => k_asm); (case kF => k_asm); (case kX => k_asm); (case kT => k_asm); (case kK => first | exact rfl | assumption); (case kd => walk_at "room"); (case ku => walk_at "units"))); (case kN => k_asm); intro r9 n9 h9 tk9 F9 N9 P9; obtain ⟨e9, e9'⟩ := P9; subst e9; (try dsimp only); (try k_fold)))
  (k_with "call ref" => (k_here; (with_reducible show wpAny _ _ (call (Value.ref 54) _) _ _ _); (k_dflt (refine' is_code_ok _ _ _ _ _ _ _ _ _ _ _ _ _ _ _ _ _ ?kB ?kF ?kX ?kN ?kT ?kK ?kd ?ku ?_; (case kB => k_asm); (case kF => k_asm); (case kX => k_asm); (case kT => k_asm); (case kK => first | exact rfl | assumption); (case kd => walk_at "room"); (case ku => walk_at "units"))); (case kN => k_asm); intro r9 n9 h9 tk9 F9 N9 P9; obtain ⟨e9, e9'⟩ := P9; subst e9 e9'; (try dsimp only); (try k_fold)))
  (k_with "call ref" => (k_here; (with_reducible show wpAny _ _ (call (Value.ref 61) _) _ _ _); (k_dflt (refine' is_surrogate_ok _ _ _ _ _ _ _ _ _ _ _ _ _ _ _ _ _ ?kB ?kF ?kX ?kN ?kT ?kK ?kd ?ku ?_; (case kB => k_asm); (case kF => k_asm); (case kX => k_asm); (case kT => k_asm); (case kK => first | exact rfl | assumption); (case kd => walk_at "room"); (case ku => walk_at "units"))); (case kN => k_asm); intro r9 n9 h9 tk9 F9 N9 P9; obtain ⟨e9, e9'⟩ := P9; subst e9 e9'; (try dsimp only); (try k_fold)))
  (k_with "call ref" => (k_here; (with_reducible show wpAny _ _ (call (Value.ref 96) _) _ _ _); (k_dflt (refine' (is_over_ok ?hx ?hdd ?hr ?hi ?h2) _ _ _ _ _ _ _ _ _ _ _ _ _ _ _ _ _ ?kB ?kF ?kX ?kN ?kT ?kK ?kd ?ku ?_; (case kB => k_asm); (case kF => k_asm); (case kX => k_asm); (case kT => k_asm); (case kK => first | exact rfl | assumption); (case kd => walk_at "room"); (case ku => walk_at "units"))); (case kN => k_asm); (case hx => k_mem); (case hdd => k_mem); (case hr => k_mem); (case hi => l_ints); (case h2 => omega); intro r9 n9 h9 tk9 F9 N9 P9; obtain ⟨e9, e9'⟩ := P9; subst e9 e9'; (try dsimp only); (try k_fold)))
  (k_with "call ref" => (k_here; (with_reducible show wpAny _ _ (call (Value.ref 103) _) _ _ _); (k_dflt (refine' (sign_ok ?hx ?hdd ?hr ?hi ?h0 ?h1 ?h2) _ _ _ _ _ _ _ _ _ _ _ _ _ _ _ _ _ ?kB ?kF ?kX ?kN ?kT ?kK ?kd ?ku ?_; (case kB => k_asm); (case kF => k_asm); (case kX => k_asm); (case kT => k_asm); (case kK => first | exact rfl | assumption); (case kd => walk_at "room"); (case ku => walk_at "units"))); (case kN => k_asm); (case hx => k_mem); (case hdd => k_mem); (case hr => k_mem); (case hi => l_ints); (case h0 => omega); (case h1 => omega); (case h2 => omega); intro r9 n9 h9 tk9 F9 N9 P9; obtain ⟨e9, t9, e9'⟩ := P9; subst e9 e9'; (try dsimp only); (try k_fold)))
  (k_with "call ref" => (k_here; (with_reducible show wpAny _ _ (call (Value.ref 68) _) _ _ _); (k_dflt (refine' is_scalar_ok _ _ _ _ _ _ _ _ _ _ _ _ _ _ _ _ _ ?kB ?kF ?kX ?kN ?kT ?kK ?kd ?ku ?_; (case kB => k_asm); (case kF => k_asm); (case kX => k_asm); (case kT => k_asm); (case kK => first | exact rfl | assumption); (case kd => walk_at "room"); (case ku => walk_at "units"))); (case kN => k_asm); intro r9 n9 h9 tk9 F9 N9 P9; obtain ⟨e9, e9'⟩ := P9; subst e9 e9'; (try dsimp only); (try k_fold)))
  (k_with "call ref" => (k_here; (with_reducible show wpAny _ _ (call (Value.ref 167) _) _ _ _); (k_dflt (refine' (law_value_ok ?hc ?hb) _ _ _ _ _ _ _ _ _ _ _ _ _ _ _ _ _ ?kB ?kF ?kX ?kN ?kT ?kK ?kd ?ku ?_; (case kB => k_asm); (case kF => k_asm); (case kX => k_asm); (case kT => k_asm); (case kK => first | exact rfl | assumption); (case kd => walk_at "room"); (case ku => walk_at "units"))); (case kN => k_asm); (case hc => first | assumption | (apply menu_at <;> first | assumption | omega)); (case hb => assumption); intro r9 n9 h9 tk9 F9 N9 P9; obtain ⟨e9, e9'⟩ := P9; subst e9; (rcases optV_cases e9' with ⟨q9, e9''⟩ | ⟨k9, t9, q9, e9''⟩ <;> (subst e9''; (try (have b9 := figB_bnd q9)); (try (exfalso; exact fig_clash (by assumption) (by assumption))); (try dsimp only); (try k_fold)))))
  (k_with "call ref" => (k_here; (with_reducible show wpAny _ _ (call (Value.ref 174) _) _ _ _); (k_dflt (refine' (figures_ok ?hr ?hi ?h2 ?hm ?hb ?h0 ?h1 ?m0 ?m1 ?l0 ?l1) _ _ _ _ _ _ _ _ _ _ _ _ _ _ _ _ _ ?kB ?kF ?kX ?kN ?kT ?kK ?kd ?ku ?_; (case kB => k_asm); (case kF => k_asm); (case kX => k_asm); (case kT => k_asm); (case kK => first | exact rfl | assumption); (case kd => walk_at "room"); (case ku => walk_at "units"))); (case kN => k_asm); (case hr => k_mem); (case hi => l_ints); (case h2 => assumption); (case hm => assumption); (case hb => first | exact .inl rfl | exact .inr rfl); (case h0 => omega); (case h1 => first | omega | ((have g9 := getD_lt (by assumption) (by decide)); omega)); (case m0 => decide); (case m1 => decide); (case l0 => decide); (case l1 => decide); intro r9 n9 h9 tk9 F9 N9 P9; (try simp only [Int.reduceToNat] at P9); (rcases fig_casesB P9 (by first | omega | ((have g9 := getD_lt (by assumption) (by decide)); omega)) with ⟨b9, c9, e9, e9'⟩ | ⟨b9, c9, t9, u9, u9', e9, e9'⟩); (all_goals (clear P9; subst e9 e9'; (try dsimp only); (try k_fold)))))
  (k_with "call ref" => (k_here; (with_reducible show wpAny _ _ (call (Value.ref 181) _) _ _ _); (k_dflt (refine' (braces_ok ?hr ?hi ?h2 ?hm ?h0 ?h1) _ _ _ _ _ _ _ _ _ _ _ _ _ _ _ _ _ ?kB ?kF ?kX ?kN ?kT ?kK ?kd ?ku ?_; (case kB => k_asm); (case kF => k_asm); (case kX => k_asm); (case kT => k_asm); (case kK => first | exact rfl | assumption); (case kd => walk_at "room"); (case ku => walk_at "units"))); (case kN => k_asm); (case hr => k_mem); (case hi => assumption); (case h2 => assumption); (case hm => assumption); (case h0 => omega); (case h1 => omega); intro r9 n9 h9 tk9 F9 N9 P9; obtain ⟨new9, e9, V9⟩ := P9; subst e9; (try dsimp only); (try k_fold)))
  (k_with "call ref" => (k_here; (with_reducible show wpAny _ _ (call (Value.ref 188) _) _ _ _); (k_dflt (refine' (escape_ok ?hr ?hi ?h2 ?hm ?h0 ?h1) _ _ _ _ _ _ _ _ _ _ _ _ _ _ _ _ _ ?kB ?kF ?kX ?kN ?kT ?kK ?kd ?ku ?_; (case kB => k_asm); (case kF => k_asm); (case kX => k_asm); (case kT => k_asm); (case kK => first | exact rfl | assumption); (case kd => walk_at "room"); (case ku => walk_at "units"))); (case kN => k_asm); (case hr => k_mem); (case hi => assumption); (case h2 => assumption); (case hm => assumption); (case h0 => omega); (case h1 => omega); intro r9 n9 h9 tk9 F9 N9 P9; obtain ⟨new9, e9, V9⟩ := P9; (rcases escV_cases V9 with ⟨wd9, t9, t9', u9, u9', u9'', q9, e9', e9''⟩ | ⟨co9, p9, t9, l9, us9, c9, u9, q9, hI9, e9', e9''⟩); (all_goals (clear V9; subst e9'' e9' e9; (try have b9 := escN_le (by omega) q9 (by omega)); (try simp only [List.cons_append, List.nil_append] at N9); (try dsimp only); (try k_fold)))))
  (k_with "call ref" => (k_here; (with_reducible show wpAny _ _ (call (Value.ref 195) _) _ _ _); (k_dflt (refine' (told_ok ?hr ?hi ?h2 ?hm) _ _ _ _ _ _ _ _ _ _ _ _ _ _ _ _ _ ?kB ?kF ?kX ?kN ?kT ?kK ?kd ?ku ?_; (case kB => k_asm); (case kF => k_asm); (case kX => k_asm); (case kT => k_asm); (case kK => first | exact rfl | assumption); (case kd => walk_at "room"); (case ku => walk_at "units"))); (case kN => k_asm); (case hr => k_mem); (case hi => assumption); (case h2 => assumption); (case hm => assumption); intro r9 n9 h9 tk9 F9 N9 P9; obtain ⟨new9, e9, V9⟩ := P9; subst e9; (try dsimp only); (try k_fold)))
  (k_with "exec Raise some none" => (k_here; k_dflt (refine raise_B rfl ?_)))
  (k_with "call ref" => (k_here; (with_reducible show wpAny _ _ (call (Value.ref 45) _) _ _ _); (k_dflt (refine' bad_made _ _ _ _ _ _ _ _ _ _ _ _ _ _ _ _ _ ?kB ?kF ?kX ?kN ?kT ?kK ?kd ?ku ?_; (case kB => k_asm); (case kF => k_asm); (case kX => k_asm); (case kT => k_asm); (case kK => first | exact rfl | assumption); (case kd => walk_at "room"); (case ku => walk_at "units"))); (case kN => k_asm); intro r9 n9 h9 tk9 F9 N9 P9; obtain ⟨e9, d9, ta9, t9, e9', e9'', ne9⟩ := P9; subst e9'' e9'; (try dsimp only); (try k_fold)))
  (k_with "RaiseB" => (k_here; refine' raiseB_of ?hF ?hX ?hN ?_; (case hF => assumption); (case hX => assumption); (case hN => assumption); (try dsimp only)))
  (k_with "leaving ref" => (k_here; first
  | (k_dflt (refine' leave_raiseD ?hK ?hF ?hN ?hne ?_; (case hK => k_asm); (case hF => k_asm); (case hN => assumption); (case hne => assumption)); intro h9 R9 U9; (try dsimp only))
  | (k_dflt (refine' leave_onD ?hK ?hF ?hR ?hU ?_; (case hR => assumption); (case hU => assumption); (case hK => k_asm); (case hF => k_asm)); intro h9 R9 U9; (try dsimp only))))
  (k_with "badat" => (refine ⟨badAt_mk (.head _) (.tail _ (.tail _ (.head _))), ?_⟩; intro p hp; (repeat refine List.mem_cons_of_mem _ ?_); exact hp))
  (k_with "call ref" => (k_here; (with_reducible show wpAny _ _ (call (Value.ref 110) _) _ _ _); (k_dflt (refine' (take_ok ?hx ?hr ?hne ?hi ?h0 ?h1 ?h2) _ _ _ _ _ _ _ _ _ _ _ _ _ _ _ _ _ ?kB ?kF ?kX ?kN ?kT ?kK ?kd ?ku ?_ ?_; (case kB => k_asm); (case kF => k_asm); (case kX => k_asm); (case kT => k_asm); (case kK => first | exact rfl | assumption); (case kd => walk_at "room"); (case ku => walk_at "units"))); (case kN => k_asm); (case hx => k_mem); (case hr => k_mem); (case hne => k_all); (case hi => l_ints); (case h0 => omega); (case h1 => omega); (case h2 => omega); rotate_left; (intro g9 e9 d9 n9 h9 tk9 F9 R9 U9 P9; obtain ⟨a9, b9, s9⟩ := P9; (try dsimp only); (try k_fold)); rotate_left; (intro r9 n9 h9 tk9 F9 N9 P9; obtain ⟨a9, ⟨t9, e9⟩, t9', e9'⟩ := P9; subst e9 e9'; (try simp only [add11] at N9); (try dsimp only); (try k_fold))))
  (k_with "call ref" => (k_here; (with_reducible show wpAny _ _ (call (Value.ref 75) _) _ _ _); (k_dflt (refine' escape_digit_ok _ _ _ _ _ _ _ _ _ _ _ _ _ _ _ _ _ ?kB ?kF ?kX ?kN ?kT ?kK ?kd ?ku ?_; (case kB => k_asm); (case kF => k_asm); (case kX => k_asm); (case kT => k_asm); (case kK => first | exact rfl | assumption); (case kd => walk_at "room"); (case ku => walk_at "units"))); (case kN => k_asm); intro r9 n9 h9 tk9 F9 N9 P9; obtain ⟨e9, e9'⟩ := P9; subst e9; (rcases optV_cases e9' with ⟨q9, e9''⟩ | ⟨k9, t9, q9, e9''⟩ <;> (subst e9''; (try (have b9 := dig_bnd q9)); (try dsimp only); (try k_fold)))))
  (k_with "call ref" => (k_here; (with_reducible show wpAny _ _ (call (Value.ref 117) _) _ _ _); (k_dflt (refine' (due_ok ?hx ?hr ?hne ?hi ?h0 ?h1 ?h2 ?hc) _ _ _ _ _ _ _ _ _ _ _ _ _ _ _ _ _ ?kB ?kF ?kX ?kN ?kT ?kK ?kd ?ku ?_ ?_; (case kB => k_asm); (case kF => k_asm); (case kX => k_asm); (case kT => k_asm); (case kK => first | exact rfl | assumption); (case kd => walk_at "room"); (case ku => walk_at "units"))); (case kN => k_asm); (case hx => k_mem); (case hr => k_mem); (case hne => k_all); (case hi => l_ints); (case h0 => omega); (case h1 => omega); (case h2 => omega); (case hc => decide); rotate_left; (intro g9 e9 d9 n9 h9 tk9 F9 R9 U9 P9; obtain ⟨a9, b9, s9⟩ := P9; (try dsimp only); (try k_fold)); rotate_left; (intro r9 n9 h9 tk9 F9 N9 P9; obtain ⟨a9, e9, t9', e9'⟩ := P9; subst e9 e9'; (have z9 := getD_lt a9 (by decide)); (try dsimp only); (try k_fold))))
  (k_with "call ref" => (k_here; (with_reducible show wpAny _ _ (call (Value.ref 145) _) _ _ _); (k_dflt (refine' scalar_ok _ _ _ _ _ _ _ _ _ _ _ _ _ _ _ _ _ ?kB ?kF ?kX ?kN ?kT ?kK ?kd ?ku ?_ ?_; (case kB => k_asm); (case kF => k_asm); (case kX => k_asm); (case kT => k_asm); (case kK => first | exact rfl | assumption); (case kd => walk_at "room"); (case ku => walk_at "units"))); (case kN => k_asm); rotate_left; (intro g9 e9 d9 n9 h9 tk9 F9 R9 U9 P9; obtain ⟨a9, b9, s9⟩ := P9; (try dsimp only); (try k_fold)); rotate_left; (intro r9 n9 h9 tk9 F9 N9 P9; obtain ⟨a9, ⟨t9', e9⟩, e9'⟩ := P9; subst e9 e9'; (try dsimp only); (try k_fold))))
  (k_with "call ref" => (k_here; (with_reducible show wpAny _ _ (call (Value.ref 131) _) _ _ _); (k_dflt (refine' (pass_all_ok ?hx ?hr ?hl ?hne ?hi ?hj ?h0 ?h1 ?h2) _ _ _ _ _ _ _ _ _ _ _ _ _ _ _ _ _ ?kB ?kF ?kX ?kN ?kT ?kK ?kd ?ku ?_; (case kB => k_asm); (case kF => k_asm); (case kX => k_asm); (case kT => k_asm); (case kK => first | exact rfl | assumption); (case kd => walk_at "room"); (case ku => walk_at "units"))); (case kN => k_asm); (case hx => k_mem); (case hr => k_mem); (case hl => k_mem); (case hne => k_all); (case hi => l_ints); (case hj => l_ints); (case h0 => omega); (case h1 => omega); (case h2 => omega); (intro r9 n9 h9 tk9 F9 N9 P9; obtain ⟨⟨e9, z9⟩, t9', e9'⟩ := P9; subst e9 e9'; (try dsimp only); (try k_fold))))
  (k_with "call ref" => (k_here; (with_reducible show wpAny _ _ (call (Value.ref 124) _) _ _ _); (k_dflt (refine' (number_ok ?hx ?hr ?hne ?hi ?h0 ?h1 ?h2 ?hb ?m0 ?m1 ?l0 ?l1) _ _ _ _ _ _ _ _ _ _ _ _ _ _ _ _ _ ?kB ?kF ?kX ?kN ?kT ?kK ?kd ?ku ?_ ?_; (case kB => k_asm); (case kF => k_asm); (case kX => k_asm); (case kT => k_asm); (case kK => first | exact rfl | assumption); (case kd => walk_at "room"); (case ku => walk_at "units"))); (case kN => k_asm); (case hx => k_mem); (case hr => k_mem); (case hne => k_all); (case hi => l_ints); (case h0 => omega); (case h1 => omega); (case h2 => omega); (case hb => first | exact .inl rfl | exact .inr rfl); (case m0 => decide); (case m1 => decide); (case l0 => decide); (case l1 => decide); rotate_left; (intro g9 e9 d9 n9 h9 tk9 F9 R9 U9 P9; (try simp only [Int.reduceToNat] at P9); obtain ⟨a9, b9, s9⟩ := P9; (try dsimp only); (try k_fold)); rotate_left; (intro r9 n9 h9 tk9 F9 N9 P9; (try simp only [Int.reduceToNat] at P9); obtain ⟨a9, ⟨t9, e9⟩, t9', e9'⟩ := P9; subst e9 e9'; (try dsimp only); (try k_fold))))
  exact trivial
theorem sub_trans {α : Type} {l1 l2 l3 : List α} (h : ∀ q ∈ l2, q ∈ l3) (h' : ∀ q ∈ l1, q ∈ l2) : ∀ q ∈ l1, q ∈ l3 := fun q hq => h q (h' q hq)
theorem ne_lt {a b : Addr} (h : @LT.lt Nat _ a b) : a ≠ b ∧ b ≠ a := ⟨Nat.ne_of_lt h, Nat.ne_of_gt h⟩
section
open PySem.Spec
variable {w : World} {p : Program} {loose : List Str} {mean : ExcName → Option Value} {mg mb : Str → Option Value} {r : Addr} {row : List Int} {vs : List Value} {nr : Nat} {rest : List (Addr × Obj)}
theorem lines17 : True := by
  (k_with "callWith ref" => (k_here; k_dflt (refine' callWith_F ?k1 ?_; (case k1 => exact FnAt.of (by k_asm) (by k_mem)); k_whole)))
  (k_with "call ref" => (k_here; (with_reducible show wpAny _ _ (call (Value.ref 134) _) _ _ _); k_dflt (refine' call_cls ?k1 ?k2 ?k3 ?k4 ?k5 ?k6 ?_; (case k1 => k_asm); (case k2 => k_asm); (case k3 => k_asm); (case k4 => k_is); (case k5 => k_is); (case k6 => k_is); k_whole; intro x1 d1 h' F' N' l1 l2; (try k_lt l1); (try k_lt2 l2); (try k_sweep); (walk_at "enterdef"))))
  (k_with "call ref" => (k_here; (with_reducible show wpAny _ _ (call (Value.ref _) [Value.int _ _]) _ _ _); (k_dflt (refine' (BareC.use (by assumption) ?hs) _ _ _ _ _ _ _ _ _ _ _ _ _ _ _ _ _ ?kB ?kF ?kX ?kN ?kT ?kK ?kd ?ku ?_; (case kB => k_asm); (case kF => k_asm); (case kX => k_asm); (case kT => k_asm); (case kK => first | exact rfl | assumption); (case kd => walk_at "room"); (case ku => walk_at "units"))); (case kN => k_asm); (case hs => (intro p hp; (repeat refine List.mem_cons_of_mem _ ?_); exact hp)); intro r9 n9 h9 tk9 F9 N9 P9; obtain ⟨e9, e9'⟩ := P9; subst e9 e9'; (try dsimp only); (try k_fold)))
  (k_with "call ref" => (k_here; (with_reducible show wpAny _ _ (call (Value.ref _) [Value.ref _, Value.int _ _]) _ _ _); (k_dflt (refine' (ReadC.use (by assumption) ?hs ?hx ?hd ?hl ?hsd ?h0 ?h1 ?hz ?ht ?h92) _ _ _ _ _ _ _ _ _ _ _ _ _ _ _ _ _ ?kB ?kF ?kX ?kN ?kT ?kK ?kd ?ku ?_ ?_; (case kB => k_asm); (case kF => k_asm); (case kX => k_asm); (case kT => k_asm); (case kK => first | exact rfl | assumption); (case kd => walk_at "room"); (case ku => walk_at "units"))); (case kN => k_asm); (case hs => (intro p hp; (repeat refine List.mem_cons_of_mem _ ?_); exact hp)); (case hx => k_mem); (case hd => k_all); (case hl => k_all); (case hsd => assumption); (case h0 => omega); (case h1 => omega); (case hz => omega); (case ht => assumption); (case h92 => assumption); rotate_left; (intro g9 e9 d9 n9 h9 tk9 F9 R9 U9 P9; obtain ⟨wd9, us9, m9, a9, b9, s9, t9, l9⟩ := P9; (try dsimp only); (try k_fold)); rotate_left; (intro r9 n9 h9 tk9 F9 N9 P9; obtain ⟨ll9, co9, pp9, cs9, us9, m9, t9, c9, a9, e9, e9', hI9, ht9, hl9⟩ := P9; subst e9 e9'; (have z9 := escN_le (by omega) a9 (by omega)); (have y9 := hI9.length); (try dsimp only); (try k_fold))))
  (k_with "call builtin:list.append" => (k_here; (with_reducible show wpAny _ _ (call (Value.builtin _) [Value.ref _, _]) _ _ _); k_dflt (refine' append_K ?k1 ?k2 ?k3 ?_ ?z; (case k1 => k_asm); (case k2 => k_asm); (case k3 => k_upd); (case z => (rw [sizeLine_eq]; simp only [List.size_toArray, List.length_append, List.length_cons, List.length_nil]; omega)); k_whole); intro h' F' N'; (try simp only [List.push_toArray] at N'); (try k_sweep)))
  (k_with "call builtin:list.extend" => (k_here; (with_reducible show wpAny _ _ (call (Value.builtin _) [Value.ref _, Value.ref _]) _ _ _); k_dflt (refine' ext_drop ?k1 ?k2 ?k3 ?z ?_; (case k1 => k_asm); (case k2 => k_asm); (case k3 => k_updF); (case z => omega); k_whole); intro h' n' F' N'; (try k_sweep)))
  (k_with "sub4" => (refine List.forall_mem_cons.mpr ⟨?a, List.forall_mem_cons.mpr ⟨?b, List.forall_mem_cons.mpr ⟨?e, List.forall_mem_cons.mpr ⟨?f, ?c⟩⟩⟩⟩; (case a => k_mem); (case b => k_mem); (case e => k_mem); (case f => k_mem); (case c => (intro p hp; (repeat refine List.mem_cons_of_mem _ ?_); exact hp))))
  (k_with "same02" => (intro z h2 h3; (simp only [List.contains_cons, List.contains_nil, Bool.or_false, Bool.or_eq_false_iff, beq_eq_false_iff_ne, ne_eq] at h3); simp only [kstB, if_neg h3.1, if_neg h3.2, List.contains_cons, List.contains_nil, beq_eq_false_iff_ne.mpr h3.1, beq_eq_false_iff_ne.mpr h3.2, Bool.or_false, Bool.false_eq_true, if_false]))
  exact trivial
theorem read_ok {f sl lm : Addr} {n : Nat} {fc lc : Value} {fo lo : Option Addr} {fd ld : FuncData} {fs' ls' : Array (Option Value)} (hf : (f, (⟨fc, fo, .func fd, fs'⟩ : Obj)) ∈ rest) (hlm : (lm, (⟨lc, lo, .func ld, ls'⟩ : Obj)) ∈ rest) (hread : ReadC w p loose mean mg mb f sl r row rest) (hbare : BareC w p loose mean mg mb lm rest)
  (hr : (r, listOf vs.toArray nr) ∈ rest) (hns : ∀ q ∈ rest, q.1 ≠ sl) (hi : IntsAre vs row) (h2 : row.length ≤ 18) :
  CallOkE w p loose mean mg mb 152 [.ref r, .ref f, .ref lm] 16 ((sl, listOf [].toArray n) :: rest)
    (fun v news' => ∃ (l : Addr) (codes : List Int) (cs us' : List Value) (n' c : Nat), tellN row row.length 0 [] = .told codes ∧ v = .ref l ∧ IntsAre cs codes ∧ cs.length ≤ 100 ∧ (l, listOf cs.toArray c) ∈ news' ∧ (∀ q ∈ (sl, listOf us'.toArray n') :: rest, q ∈ news') ∧ (∀ v ∈ us', v = .bool true) ∧ us'.length ≤ 100)
    (fun dd news' => ∃ (q : Int) (wd : Str) (us' : List Value) (n' : Nat), tellN row row.length 0 [] = .bad q wd ∧ BadAt w q wd dd news' ∧ (∀ q ∈ (sl, listOf us'.toArray n') :: rest, q ∈ news') ∧ (∀ v ∈ us', v = .bool true) ∧ us'.length ≤ 100) := by
  intro dp un gd cn cs a ccd cl outer A₀ base' h₀ L m s Q E B F X N T hk hdp hun hret hexc
  refine wpAny_call ?_
  k_dflt (walk_at "enterdef")
  k_steps
  refine Halt.mk ?_
  rename_i lF _ l3 _ _ l4 _ _ _ F1 N1
  obtain ⟨q1a, q1b⟩ := ne_lt l1.1
  obtain ⟨q2a, q2b⟩ := ne_lt l2
  have q3 := allLt_ne l1.2
  obtain ⟨q4a, q4b⟩ := ne_lt l3.1
  obtain ⟨q5a, q5b⟩ := ne_lt l3.2.1
  obtain ⟨q6a, q6b⟩ := ne_lt l3.2.2.1
  have q7 := allLt_ne l3.2.2.2
  have l5 : sl < x1 := Nat.lt_trans l1.1 l2
  obtain ⟨q8a, q8b⟩ := ne_lt l5
  obtain ⟨ta, tb, tc, N2⟩ : ∃ ta tb tc, News _ _ _ ((d1, scanD w r 0 ta tb tc) :: (sl, listOf [].toArray n) :: (lF, listOf [].toArray 0) :: (x1, instObj 134 d1) :: rest) := ⟨_, _, _, cb_drop N1 (by walk_at "sub4")⟩
  refine ksw_while (σ := List Value × List Int × Nat × Int × Tok × List Value × Nat) (fun c => (d1, scanD w r c.2.2.2.1 ta tb c.2.2.2.2.1) :: (sl, listOf c.2.2.2.2.2.1.toArray c.2.2.2.2.2.2) :: (lF, listOf c.1.toArray c.2.2.1) :: (x1, instObj 134 d1) :: rest) (fun c => []) (fun c => IntsAre c.1 c.2.1) ["begin", "code"]
    (fun c => 0 ≤ c.2.2.2.1 ∧ c.2.2.2.1 ≤ row.length ∧ (c.2.1.length : Int) ≤ c.2.2.2.1 ∧ (∀ v ∈ c.2.2.2.2.2.1, v = .bool true) ∧ (c.2.2.2.2.2.1.length : Int) ≤ 3 * c.2.2.2.1 ∧ ∃ k : Nat, (row.length : Int) - c.2.2.2.1 ≤ k ∧ tellN row k c.2.2.2.1 c.2.1 = tellN row row.length 0 [])
    (fun c => ((row.length : Int) - c.2.2.2.1).toNat) ([], [], 0, 0, tc, [], n) (by assumption) N2 IntsAre.nil (by kst_all) ?_ ?_ (by with_unfolding_all passes_own)
  · exact ⟨Int.le_refl _, by dsimp only; omega, Int.le_refl _, fun v hv => (nomatch hv), Int.le_refl _, row.length, by dsimp only; omega, rfl⟩
  rintro ⟨us, fs, c, pl, t3, us', n'⟩ u h tk hF ⟨p1, p2, p3, p4, p5, k, p6, p7⟩ F2 N2
  have p8 := hF.length
  dsimp only at *
  k_steps
  all_goals first
    | (refine' hret _ _ _ _ (by assumption) (by assumption) ⟨_, _, _, _, _, _, tl_end (by omega) p7, rfl, hF, (by omega), (by k_mem), ?sub, p4, (by omega)⟩
       (case sub => walk_at "sub1"))
    | (refine' Halt.mk (ksw_end (_, _, _, _, _, _, _) ?kF (cb_drop ?kN ?sub) (fun p hp => hp) ?kI ?kk ?ks ?kp ?km)
       (case kF => assumption)
       (case kN => assumption)
       (case sub => walk_at "sub4")
       (case kI => first | exact hF.append (by assumption) | exact hF.append (.cons _ _ .nil))
       (case kk => kst_all)
       (case ks => walk_at "same02")
       (case kp => (dsimp only; first
         | exact ⟨by omega, by omega, by simp only [List.length_append, List.length_cons, List.length_nil]; omega, p4, by omega, tl_bare (by assumption) p6 (by assumption) (by assumption) p7⟩
         | exact ⟨by omega, by omega, by simp only [List.length_append]; omega, (by assumption), by omega, tl_esc (by assumption) p6 (by omega) (by assumption) (by assumption) (by omega) p7⟩))
       (case km => dsimp only; omega))
    | (exfalso; omega)
    | (refine' hexc _ _ _ _ _ _ (by assumption) (by assumption) (by assumption) ⟨_, _, _, _, tl_bad (by assumption) p6 (by omega) (by assumption) (by assumption) p7, (by assumption), ?mem, (by assumption), (by omega)⟩
       (case mem => exact sub_trans (by assumption) (by walk_at "sub1")))
    | (refine' hexc _ _ _ _ _ _ (by assumption) (by assumption) (by assumption) ⟨_, _, _, _, tl_sign (by assumption) p6 (by omega) p7, badAt_mk (.head _) (.tail _ (.tail _ (.head _))), ?mem, p4, (by omega)⟩
       (case mem => walk_at "sub1"))
end
section
variable {w : World} {p : Program} {loose : List Str} {mean : ExcName → Option Value} {mg mb : Str → Option Value} {r : Addr} {row : List Int} {vs : List Value} {nr : Nat} {rest : List (Addr × Obj)}
theorem lines18 : True := by
  k_with_none
  (k_with "room" => (first | (simp only [depth_under_make, depth_under_kw, depth_in1, depth_deeper, depth_caller, recursionLimit]; omega) | ((try simp only [depth_under_make, depth_under_kw, depth_in1, depth_deeper, depth_caller, recursionLimit] at *); (try dsimp only [ktrTop] at *); omega)))
  (k_with "units" => (first | (simp only [units_in1, units_deeper, Around.mark_units, units_caller, cLine_is]; omega) | ((try simp only [units_in1, units_deeper, Around.mark_units, units_caller] at *); (try dsimp only [ktrTop] at *); omega)))
  (k_with "enterdef" => (refine' code_def ?k1 ?k2 ?k3 ?k4 ?k5 ?kA ?kF ?kK ?k6 ?k7 ?k8 ?k9 ?kB ?_ ?c2 ?c3 ?c4 ?c5; (case kA => exact rfl); (case kF => exact rfl); (case kK => first | exact rfl | assumption); (case k1 => k_asm); (case k2 => k_asm); (case k3 => k_asm); (case k4 => k_asm); (case k5 => k_asm); (case k6 => k_is); (case k7 => k_is); (case k8 => walk_at "room"); (case k9 => exact BindsTo.of_eq rfl); (case c5 => decide); (case kB => exact locs rfl); (case c2 => exact rfl); (case c3 => exact rfl); (case c4 => exact rfl); k_whole; intro g' L' h' FG' F' N' B' X' T'; (try dsimp only); (try k_fold)))
  (k_with "exec While BoolOp cons nil" => (refine Halt.go ?_))
  (k_with "exec While Compare cons nil" => (refine Halt.go ?_))
  (k_with "exec While UnaryOp cons nil" => (refine Halt.go ?_))
  (k_with "KswEnd" => (refine Halt.go ?_))
  (k_with "same1" => (intro z h2 h3; (have a1 := h2 _ (.head _)); dsimp only at a1; simp only [kstB, if_neg a1, List.contains_nil, Bool.false_eq_true, if_false]))
  (k_with "same2" => (intro z h2 h3; (have a1 := h2 _ (.head _)); (have a2 := h2 _ (.tail _ (.head _))); dsimp only at a1 a2; simp only [kstB, if_neg a1, if_neg a2, List.contains_nil, Bool.false_eq_true, if_false]))
  (k_with "compareOp NotEq ref ref" => (k_here; (with_unfolding_all refine' ne_slice1 ?k1 ?k2 ?k3 ?k4 ?k5 ?h0 ?h1 ?hc ?_; (case k1 => is_list); (case k2 => l_ints); (case k3 => is_list); (case k4 => l_ints); (case k5 => walk_at "units"); (case h0 => omega); (case h1 => omega); (case hc => decide); k_whole)))
  (k_with "compareOp Eq ref ref" => (k_here; (with_unfolding_all refine' eq_slice1 ?k1 ?k2 ?k3 ?k4 ?k5 ?h0 ?h1 ?hc ?_; (case k1 => is_list); (case k2 => l_ints); (case k3 => is_list); (case k4 => l_ints); (case k5 => walk_at "units"); (case h0 => omega); (case h1 => omega); (case hc => decide); k_whole)))
  (k_with "sameC" => (intro z h2 h3; (have a1 := h2 _ (.head _)); (have a2 := h2 _ (.tail _ (.head _))); dsimp only at a1 a2; (simp only [List.contains_cons, List.contains_nil, Bool.or_false, Bool.or_eq_false_iff, beq_eq_false_iff_ne, ne_eq] at h3); simp only [kstB, if_neg a1, if_neg a2, if_neg h3.1, if_neg h3.2, List.contains_cons, List.contains_nil, beq_eq_false_iff_ne.mpr h3.1, beq_eq_false_iff_ne.mpr h3.2, Bool.or_false, Bool.false_eq_true, if_false]))
  (k_with "sub2" => (refine List.forall_mem_cons.mpr ⟨?a, List.forall_mem_cons.mpr ⟨?b, ?c⟩⟩; (case a => k_mem); (case b => k_mem); (case c => (intro p hp; (repeat refine List.mem_cons_of_mem _ ?_); exact hp))))
  (k_with "sub1" => (refine List.forall_mem_cons.mpr ⟨?a, ?c⟩; (case a => k_mem); (case c => (intro p hp; (repeat refine List.mem_cons_of_mem _ ?_); exact hp))))
  (k_with "eval Call" => (k_here; k_dflt (refine Call_ ?_)))
  (k_with "compareOp In int ref" => (k_here; (with_unfolding_all refine' in_list_ints ?k1 ?k2 ?_; (case k1 => is_list); (case k2 => l_ints); k_whole)))
  (k_with "same21" => (intro z h2 h3; (have a1 := h2 _ (.head _)); (have a2 := h2 _ (.tail _ (.head _))); dsimp only at a1 a2; (simp only [List.contains_cons, List.contains_nil, Bool.or_false, beq_eq_false_iff_ne, ne_eq] at h3); simp only [kstB, if_neg a1, if_neg a2, if_neg h3, List.contains_cons, List.contains_nil, beq_eq_false_iff_ne.mpr h3, Bool.or_false, Bool.false_eq_true, if_false]))
  (k_with "call ref" => (k_here; (with_reducible show wpAny _ _ (call (Value.ref 75) _) _ _ _); (k_dflt (refine' escape_digit_ok _ _ _ _ _ _ _ _ _ _ _ _ _ _ _ _ _ ?kB ?kF ?kX ?kN ?kT ?kK ?kd ?ku ?_; (case kB => k_asm); (case kF => k_asm); (case kX => k_asm); (case kT => k_asm); (case kK => first | exact rfl | assumption); (case kd => walk_at "room"); (case ku => walk_at "units"))); (case kN => k_asm); intro r9 n9 h9 tk9 F9 N9 P9; obtain ⟨e9, e9'⟩ := P9; subst e9; (try dsimp only); (try k_fold)))
  (k_with "call ref" => (k_here; (with_reducible show wpAny _ _ (call (Value.ref 54) _) _ _ _); (k_dflt (refine' is_code_ok _ _ _ _ _ _ _ _ _ _ _ _ _ _ _ _ _ ?kB ?kF ?kX ?kN ?kT ?kK ?kd ?ku ?_; (case kB => k_asm); (case kF => k_asm); (case kX => k_asm); (case kT => k_asm); (case kK => first | exact rfl | assumption); (case kd => walk_at "room"); (case ku => walk_at "units"))); (case kN => k_asm); intro r9 n9 h9 tk9 F9 N9 P9; obtain ⟨e9, e9'⟩ := P9; subst e9 e9'; (try dsimp only); (try k_fold)))
  (k_with "call ref" => (k_here; (with_reducible show wpAny _ _ (call (Value.ref 61) _) _ _ _); (k_dflt (refine' is_surrogate_ok _ _ _ _ _ _ _ _ _ _ _ _ _ _ _ _ _ ?kB ?kF ?kX ?kN ?kT ?kK ?kd ?ku ?_; (case kB => k_asm); (case kF => k_asm); (case kX => k_asm); (case kT => k_asm); (case kK => first | exact rfl | assumption); (case kd => walk_at "room"); (case ku => walk_at "units"))); (case kN => k_asm); intro r9 n9 h9 tk9 F9 N9 P9; obtain ⟨e9, e9'⟩ := P9; subst e9 e9'; (try dsimp only); (try k_fold)))
  (k_with "call ref" => (k_here; (with_reducible show wpAny _ _ (call (Value.ref 96) _) _ _ _); (k_dflt (refine' (is_over_ok ?hx ?hdd ?hr ?hi ?h2) _ _ _ _ _ _ _ _ _ _ _ _ _ _ _ _ _ ?kB ?kF ?kX ?kN ?kT ?kK ?kd ?ku ?_; (case kB => k_asm); (case kF => k_asm); (case kX => k_asm); (case kT => k_asm); (case kK => first | exact rfl | assumption); (case kd => walk_at "room"); (case ku => walk_at "units"))); (case kN => k_asm); (case hx => k_mem); (case hdd => k_mem); (case hr => k_mem); (case hi => l_ints); (case h2 => omega); intro r9 n9 h9 tk9 F9 N9 P9; obtain ⟨e9, e9'⟩ := P9; subst e9 e9'; (try dsimp only); (try k_fold)))
  (k_with "call ref" => (k_here; (with_reducible show wpAny _ _ (call (Value.ref 103) _) _ _ _); (k_dflt (refine' (sign_ok ?hx ?hdd ?hr ?hi ?h0 ?h1 ?h2) _ _ _ _ _ _ _ _ _ _ _ _ _ _ _ _ _ ?kB ?kF ?kX ?kN ?kT ?kK ?kd ?ku ?_; (case kB => k_asm); (case kF => k_asm); (case kX => k_asm); (case kT => k_asm); (case kK => first | exact rfl | assumption); (case kd => walk_at "room"); (case ku => walk_at "units"))); (case kN => k_asm); (case hx => k_mem); (case hdd => k_mem); (case hr => k_mem); (case hi => l_ints); (case h0 => omega); (case h1 => omega); (case h2 => omega); intro r9 n9 h9 tk9 F9 N9 P9; obtain ⟨e9, t9, e9'⟩ := P9; subst e9 e9'; (try dsimp only); (try k_fold)))
  (k_with "call ref" => (k_here; (with_reducible show wpAny _ _ (call (Value.ref 68) _) _ _ _); (k_dflt (refine' is_scalar_ok _ _ _ _ _ _ _ _ _ _ _ _ _ _ _ _ _ ?kB ?kF ?kX ?kN ?kT ?kK ?kd ?ku ?_; (case kB => k_asm); (case kF => k_asm); (case kX => k_asm); (case kT => k_asm); (case kK => first | exact rfl | assumption); (case kd => walk_at "room"); (case ku => walk_at "units"))); (case kN => k_asm); intro r9 n9 h9 tk9 F9 N9 P9; obtain ⟨e9, e9'⟩ := P9; subst e9 e9'; (try dsimp only); (try k_fold)))
  (k_with "call ref" => (k_here; (with_reducible show wpAny _ _ (call (Value.ref 167) _) _ _ _); (k_dflt (refine' (law_value_ok ?hc ?hb) _ _ _ _ _ _ _ _ _ _ _ _ _ _ _ _ _ ?kB ?kF ?kX ?kN ?kT ?kK ?kd ?ku ?_; (case kB => k_asm); (case kF => k_asm); (case kX => k_asm); (case kT => k_asm); (case kK => first | exact rfl | assumption); (case kd => walk_at "room"); (case ku => walk_at "units"))); (case kN => k_asm); (case hc => first | assumption | (apply menu_at <;> first | assumption | omega)); (case hb => assumption); intro r9 n9 h9 tk9 F9 N9 P9; obtain ⟨e9, e9'⟩ := P9; subst e9; (rcases optV_cases e9' with ⟨q9, e9''⟩ | ⟨k9, t9, q9, e9''⟩ <;> (subst e9''; (try (have b9 := figB_bnd q9)); (try (exfalso; exact fig_clash (by assumption) (by assumption))); (try dsimp only); (try k_fold)))))
  (k_with "call ref" => (k_here; (with_reducible show wpAny _ _ (call (Value.ref 174) _) _ _ _); (k_dflt (refine' (figures_ok ?hr ?hi ?h2 ?hm ?hb ?h0 ?h1 ?m0 ?m1 ?l0 ?l1) _ _ _ _ _ _ _ _ _ _ _ _ _ _ _ _ _ ?kB ?kF ?kX ?kN ?kT ?kK ?kd ?ku ?_; (case kB => k_asm); (case kF => k_asm); (case kX => k_asm); (case kT => k_asm); (case kK => first | exact rfl | assumption); (case kd => walk_at "room"); (case ku => walk_at "units"))); (case kN => k_asm); (case hr => k_mem); (case hi => l_ints); (case h2 => assumption); (case hm => assumption); (case hb => first | exact .inl rfl | exact .inr rfl); (case h0 => omega); (case h1 => first | omega | ((have g9 := getD_lt (by assumption) (by decide)); omega)); (case m0 => decide); (case m1 => decide); (case l0 => decide); (case l1 => decide); intro r9 n9 h9 tk9 F9 N9 P9; (try simp only [Int.reduceToNat] at P9); (rcases fig_casesB P9 (by first | omega | ((have g9 := getD_lt (by assumption) (by decide)); omega)) with ⟨b9, c9, e9, e9'⟩ | ⟨b9, c9, t9, u9, u9', e9, e9'⟩); (all_goals (clear P9; subst e9 e9'; (try dsimp only); (try k_fold)))))
  (k_with "call ref" => (k_here; (with_reducible show wpAny _ _ (call (Value.ref 181) _) _ _ _); (k_dflt (refine' (braces_ok ?hr ?hi ?h2 ?hm ?h0 ?h1) _ _ _ _ _ _ _ _ _ _ _ _ _ _ _ _ _ ?kB ?kF ?kX ?kN ?kT ?kK ?kd ?ku ?_; (case kB => k_asm); (case kF => k_asm); (case kX => k_asm); (case kT => k_asm); (case kK => first | exact rfl | assumption); (case kd => walk_at "room"); (case ku => walk_at "units"))); (case kN => k_asm); (case hr => k_mem); (case hi => assumption); (case h2 => assumption); (case hm => assumption); (case h0 => omega); (case h1 => omega); intro r9 n9 h9 tk9 F9 N9 P9; obtain ⟨new9, e9, V9⟩ := P9; subst e9; (try dsimp only); (try k_fold)))
  (k_with "call ref" => (k_here; (with_reducible show wpAny _ _ (call (Value.ref 188) _) _ _ _); (k_dflt (refine' (escape_ok ?hr ?hi ?h2 ?hm ?h0 ?h1) _ _ _ _ _ _ _ _ _ _ _ _ _ _ _ _ _ ?kB ?kF ?kX ?kN ?kT ?kK ?kd ?ku ?_; (case kB => k_asm); (case kF => k_asm); (case kX => k_asm); (case kT => k_asm); (case kK => first | exact rfl | assumption); (case kd => walk_at "room"); (case ku => walk_at "units"))); (case kN => k_asm); (case hr => k_mem); (case hi => assumption); (case h2 => assumption); (case hm => assumption); (case h0 => omega); (case h1 => omega); intro r9 n9 h9 tk9 F9 N9 P9; obtain ⟨new9, e9, V9⟩ := P9; (rcases escV_cases V9 with ⟨wd9, t9, t9', u9, u9', u9'', q9, e9', e9''⟩ | ⟨co9, p9, t9, l9, us9, c9, u9, q9, hI9, e9', e9''⟩); (all_goals (clear V9; subst e9'' e9' e9; (try have b9 := escN_le (by omega) q9 (by omega)); (try simp only [List.cons_append, List.nil_append] at N9); (try dsimp only); (try k_fold)))))
  (k_with "call ref" => (k_here; (with_reducible show wpAny _ _ (call (Value.ref 195) _) _ _ _); (k_dflt (refine' (told_ok ?hr ?hi ?h2 ?hm) _ _ _ _ _ _ _ _ _ _ _ _ _ _ _ _ _ ?kB ?kF ?kX ?kN ?kT ?kK ?kd ?ku ?_; (case kB => k_asm); (case kF => k_asm); (case kX => k_asm); (case kT => k_asm); (case kK => first | exact rfl | assumption); (case kd => walk_at "room"); (case ku => walk_at "units"))); (case kN => k_asm); (case hr => k_mem); (case hi => assumption); (case h2 => assumption); (case hm => assumption); intro r9 n9 h9 tk9 F9 N9 P9; obtain ⟨new9, e9, V9⟩ := P9; subst e9; (try dsimp only); (try k_fold)))
  (k_with "exec Raise some none" => (k_here; k_dflt (refine raise_B rfl ?_)))
  (k_with "call ref" => (k_here; (with_reducible show wpAny _ _ (call (Value.ref 45) _) _ _ _); (k_dflt (refine' bad_made _ _ _ _ _ _ _ _ _ _ _ _ _ _ _ _ _ ?kB ?kF ?kX ?kN ?kT ?kK ?kd ?ku ?_; (case kB => k_asm); (case kF => k_asm); (case kX => k_asm); (case kT => k_asm); (case kK => first | exact rfl | assumption); (case kd => walk_at "room"); (case ku => walk_at "units"))); (case kN => k_asm); intro r9 n9 h9 tk9 F9 N9 P9; obtain ⟨e9, d9, ta9, t9, e9', e9'', ne9⟩ := P9; subst e9'' e9'; (try dsimp only); (try k_fold)))
  (k_with "RaiseB" => (k_here; refine' raiseB_of ?hF ?hX ?hN ?_; (case hF => assumption); (case hX => assumption); (case hN => assumption); (try dsimp only)))
  (k_with "leaving ref" => (k_here; first
  | (k_dflt (refine' leave_raiseD ?hK ?hF ?hN ?hne ?_; (case hK => k_asm); (case hF => k_asm); (case hN => assumption); (case hne => assumption)); intro h9 R9 U9; (try dsimp only))
  | (k_dflt (refine' leave_onD ?hK ?hF ?hR ?hU ?_; (case hR => assumption); (case hU => assumption); (case hK => k_asm); (case hF => k_asm)); intro h9 R9 U9; (try dsimp only))))
  (k_with "badat" => (refine ⟨badAt_mk (.head _) (.tail _ (.tail _ (.head _))), ?_⟩; intro p hp; (repeat refine List.mem_cons_of_mem _ ?_); exact hp))
  (k_with "call ref" => (k_here; (with_reducible show wpAny _ _ (call (Value.ref 110) _) _ _ _); (k_dflt (refine' (take_ok ?hx ?hr ?hne ?hi ?h0 ?h1 ?h2) _ _ _ _ _ _ _ _ _ _ _ _ _ _ _ _ _ ?kB ?kF ?kX ?kN ?kT ?kK ?kd ?ku ?_ ?_; (case kB => k_asm); (case kF => k_asm); (case kX => k_asm); (case kT => k_asm); (case kK => first | exact rfl | assumption); (case kd => walk_at "room"); (case ku => walk_at "units"))); (case kN => k_asm); (case hx => k_mem); (case hr => k_mem); (case hne => k_all); (case hi => l_ints); (case h0 => omega); (case h1 => omega); (case h2 => omega); rotate_left; (intro g9 e9 d9 n9 h9 tk9 F9 R9 U9 P9; obtain ⟨a9, b9, s9⟩ := P9; (try dsimp only); (try k_fold)); rotate_left; (intro r9 n9 h9 tk9 F9 N9 P9; obtain ⟨a9, ⟨t9, e9⟩, t9', e9'⟩ := P9; subst e9 e9'; (try simp only [add11] at N9); (try dsimp only); (try k_fold))))
  (k_with "call ref" => (k_here; (with_reducible show wpAny _ _ (call (Value.ref 75) _) _ _ _); (k_dflt (refine' escape_digit_ok _ _ _ _ _ _ _ _ _ _ _ _ _ _ _ _ _ ?kB ?kF ?kX ?kN ?kT ?kK ?kd ?ku ?_; (case kB => k_asm); (case kF => k_asm); (case kX => k_asm); (case kT => k_asm); (case kK => first | exact rfl | assumption); (case kd => walk_at "room"); (case ku => walk_at "units"))); (case kN => k_asm); intro r9 n9 h9 tk9 F9 N9 P9; obtain ⟨e9, e9'⟩ := P9; subst e9; (rcases optV_cases e9' with ⟨q9, e9''⟩ | ⟨k9, t9, q9, e9''⟩ <;> (subst e9''; (try (have b9 := dig_bnd q9)); (try dsimp only); (try k_fold)))))
  (k_with "call ref" => (k_here; (with_reducible show wpAny _ _ (call (Value.ref 117) _) _ _ _); (k_dflt (refine' (due_ok ?hx ?hr ?hne ?hi ?h0 ?h1 ?h2 ?hc) _ _ _ _ _ _ _ _ _ _ _ _ _ _ _ _ _ ?kB ?kF ?kX ?kN ?kT ?kK ?kd ?ku ?_ ?_; (case kB => k_asm); (case kF => k_asm); (case kX => k_asm); (case kT => k_asm); (case kK => first | exact rfl | assumption); (case kd => walk_at "room"); (case ku => walk_at "units"))); (case kN => k_asm); (case hx => k_mem); (case hr => k_mem); (case hne => k_all); (case hi => l_ints); (case h0 => omega); (case h1 => omega); (case h2 => omega); (case hc => decide); rotate_left; (intro g9 e9 d9 n9 h9 tk9 F9 R9 U9 P9; obtain ⟨a9, b9, s9⟩ := P9; (try dsimp only); (try k_fold)); rotate_left; (intro r9 n9 h9 tk9 F9 N9 P9; obtain ⟨a9, e9, t9', e9'⟩ := P9; subst e9 e9'; (have z9 := getD_lt a9 (by decide)); (try dsimp only); (try k_fold))))
  (k_with "call ref" => (k_here; (with_reducible show wpAny _ _ (call (Value.ref 145) _) _ _ _); (k_dflt (refine' scalar_ok _ _ _ _ _ _ _ _ _ _ _ _ _ _ _ _ _ ?kB ?kF ?kX ?kN ?kT ?kK ?kd ?ku ?_ ?_; (case kB => k_asm); (case kF => k_asm); (case kX => k_asm); (case kT => k_asm); (case kK => first | exact rfl | assumption); (case kd => walk_at "room"); (case ku => walk_at "units"))); (case kN => k_asm); rotate_left; (intro g9 e9 d9 n9 h9 tk9 F9 R9 U9 P9; obtain ⟨a9, b9, s9⟩ := P9; (try dsimp only); (try k_fold)); rotate_left; (intro r9 n9 h9 tk9 F9 N9 P9; obtain ⟨a9, ⟨t9', e9⟩, e9'⟩ := P9; subst e9 e9'; (try dsimp only); (try k_fold))))
  (k_with "call ref" => (k_here; (with_reducible show wpAny _ _ (call (Value.ref 131) _) _ _ _); (k_dflt (refine' (pass_all_ok ?hx ?hr ?hl ?hne ?hi ?hj ?h0 ?h1 ?h2) _ _ _ _ _ _ _ _ _ _ _ _ _ _ _ _ _ ?kB ?kF ?kX ?kN ?kT ?kK ?kd ?ku ?_; (case kB => k_asm); (case kF => k_asm); (case kX => k_asm); (case kT => k_asm); (case kK => first | exact rfl | assumption); (case kd => walk_at "room"); (case ku => walk_at "units"))); (case kN => k_asm); (case hx => k_mem); (case hr => k_mem); (case hl => k_mem); (case hne => k_all); (case hi => l_ints); (case hj => l_ints); (case h0 => omega); (case h1 => omega); (case h2 => omega); (intro r9 n9 h9 tk9 F9 N9 P9; obtain ⟨⟨e9, z9⟩, t9', e9'⟩ := P9; subst e9 e9'; (try dsimp only); (try k_fold))))
  (k_with "call ref" => (k_here; (with_reducible show wpAny _ _ (call (Value.ref 124) _) _ _ _); (k_dflt (refine' (number_ok ?hx ?hr ?hne ?hi ?h0 ?h1 ?h2 ?hb ?m0 ?m1 ?l0 ?l1) _ _ _ _ _ _ _ _ _ _ _ _ _ _ _ _ _ ?kB ?kF ?kX ?kN ?kT ?kK ?kd ?ku ?_ ?_; (case kB => k_asm); (case kF => k_asm); (case kX => k_asm); (case kT => k_asm); (case kK => first | exact rfl | assumption); (case kd => walk_at "room"); (case ku => walk_at "units"))); (case kN => k_asm); (case hx => k_mem); (case hr => k_mem); (case hne => k_all); (case hi => l_ints); (case h0 => omega); (case h1 => omega); (case h2 => omega); (case hb => first | exact .inl rfl | exact .inr rfl); (case m0 => decide); (case m1 => decide); (case l0 => decide); (case l1 => decide); rotate_left; (intro g9 e9 d9 n9 h9 tk9 F9 R9 U9 P9; (try simp only [Int.reduceToNat] at P9); obtain ⟨a9, b9, s9⟩ := P9; (try dsimp only); (try k_fold)); rotate_left; (intro r9 n9 h9 tk9 F9 N9 P9; (try simp only [Int.reduceToNat] at P9); obtain ⟨a9, ⟨t9, e9⟩, t9', e9'⟩ := P9; subst e9 e9'; (try dsimp only); (try k_fold))))
  exact trivial
theorem readC_of {f c' sl cr cs' : Addr} {doc pm ctv : Value} {oc ocr ocs : Obj} {ovs : Array Value} {ot : Tok} (hf : (f, readerFn w.params [("seen", cs'), ("row", cr)] doc pm c' ctv) ∈ rest) (hc' : (c', oc) ∈ rest) (hoc : oc.data = .fields ovs) (hov : ovs[1]? = some (.str "law.<locals>._law_reader" ot))
  (hcr : (cr, ocr) ∈ rest) (hocr : ocr.data = .cell (some (.ref r))) (hcs : (cs', ocs) ∈ rest) (hocs : ocs.data = .cell (some (.ref sl))) (hr : (r, listOf vs.toArray nr) ∈ rest) (hi : IntsAre vs row) (h2 : row.length ≤ 18) (hm : ∀ c ∈ row, Menu c) :
  ReadC w p loose mean mg mb f sl r row rest :=
  ⟨fun h1 hx h3 h4 h5 h6 h7 h8 h9 hA => reader_ok (h1 _ hf) (h1 _ hc') hoc hov (h1 _ hcr) hocr (h1 _ hcs) hocs hx (h1 _ hr) h3 h4 h5 hi h6 h7 h2 hm h8 h9 hA⟩
end
theorem tell_two {e : Tell} {v : Value} {new news : List (Addr × Obj)} {h₀ h : Heap} {L sl P : Addr} {osl op : Obj} (V : TellV e v new news) (N : News h₀ L h (new ++ news)) (h1 : (sl, osl) ∈ news) (c1 : osl.cls = .type "list") (h2 : (P, op) ∈ news) (c2 : op.cls = .none) :
    ∃ t a2 o1 o2, v = .ref t ∧ new = [(t, o1), (a2, o2)] ∧ @Ne Nat t P ∧ @Ne Nat a2 P ∧ @Ne Nat t sl ∧ @Ne Nat a2 sl := by
  have tn : Value.type "tuple" ≠ Value.none := fun h => nomatch h
  have ln : Value.type "list" ≠ Value.none := fun h => nomatch h
  have m1 : (sl, osl) ∈ new ++ news := List.mem_append_right _ h1
  have m2 : (P, op) ∈ new ++ news := List.mem_append_right _ h2
  cases e with
  | bad q wd =>
    obtain ⟨t, t2, u1, u2, u3, rfl, rfl⟩ := V
    refine ⟨t, t2, _, _, rfl, rfl, ?_, ?_, ?_, ?_⟩
    · exact news_ne N (.head _) m2 (by rw [c2]; exact tn)
    · exact news_ne N (.tail _ (.head _)) m2 (by rw [c2]; exact tn)
    · exact news_ne N (.head _) m1 (by rw [c1]; exact tl_ne)
    · exact news_ne N (.tail _ (.head _)) m1 (by rw [c1]; exact tl_ne)
  | told codes =>
    obtain ⟨t, l, us, c, u, rfl, _, rfl, hl⟩ := V
    refine ⟨t, l, _, _, rfl, rfl, ?_, ?_, ?_, ?_⟩
    · exact news_ne N (.head _) m2 (by rw [c2]; exact tn)
    · exact news_ne N (.tail _ (.head _)) m2 (by rw [c2]; exact ln)
    · exact news_ne N (.head _) m1 (by rw [c1]; exact tl_ne)
    · exact (hl _ h1).symm
theorem bools_true : ∀ {us : List Value}, (∀ v ∈ us, v = .bool true) → LSm.BoolsAre us (us.map fun _ => true)
  | [], _ => .nil
  | v :: us, h => by
    rw [h v (.head _)]
    exact .cons true (bools_true fun v hv => h v (.tail _ hv))
theorem bools_all {us : List Value} : (us.map fun _ => true).all id = true := by
  rw [List.all_map]; exact List.all_eq_true.mpr fun _ _ => rfl
theorem news_front {h₀ h : Heap} {L : Addr} {pre post : List (Addr × Obj)} {a : Addr × Obj} (N : News h₀ L h (pre ++ a :: post)) : News h₀ L h (a :: (pre ++ post)) := fun q hq => by
  rcases List.mem_cons.mp hq with rfl | hq
  · exact N _ (List.mem_append_right _ (.head _))
  · rcases List.mem_append.mp hq with hq | hq
    · exact N _ (List.mem_append_left _ hq)
    · exact N _ (List.mem_append_right _ (.tail _ hq))
section
open PySem.Spec
abbrev excOb (d : Addr) (vs : Array Value) (sl : Array (Option Value)) : Obj := ⟨.ref 45, some d, .fields vs, sl⟩
variable {w : World} {A : Around} {E : Value → Shared → Prop} {s' : Shared} {base g : Heap} {outer : List Env} {L a e d : Addr} {m : Str → Option Value} {name : Str} {scope : Scope} {cd : Value} {cl : List (Str × Addr)}
  {n : Str} {b₀ : Stmt} {suite : List Stmt} {pos np : Pos} {rest : List ExceptHandler} {Q : Flow → Shared → Prop} {news : List (Addr × Obj)} {p : Program} {loose : List Str} {mean : ExcName → Option Value} {mg mb : Str → Option Value}
theorem caught_D (hfr : A.frames = some (envX name scope L a cd cl :: outer)) (F : Fr base L g m) (hsm : g.UpToSlots s'.heap) (R : RaisedD base (envX name scope L a cd cl :: outer) e d news s'.heap)
    (X : (hd.heap_39 w.params).In base) (T : TopRead p loose mg mb base)
    (k : ∀ h' vs sl tk, Fr base L h' (fun y => if y = n then some (.ref e) else m y) → News base L h' ((e, excOb d vs sl) :: news) →
      wpAny (model PG w) (A.mark (some (.ref e))) (execs (b₀ :: suite) (envX name scope L a cd cl))
        (fun f s₄ => wpAny (model PG w) A (do bindName (envX name scope L a cd cl) n .none; unbindBehindTheSuite (envX name scope L a cd cl) n pos) (fun _ s₅ => Q f s₅) E s₄)
        (AsSuiteRaised (model PG w) (A.mark (some (.ref e))) (envX name scope L a cd cl) n pos (notedBy (model PG w) (A.mark (some (.ref e))) (envX name scope L a cd cl) (cameBackBy (model PG w) A (envX name scope L a cd cl) E)))
        { s' with heap := h', toks := tk })
    (hk : scope.kind = .function := by rfl) (hlo : (envX name scope L a cd cl).kindOf n = some .local := by rfl) (hx : (envX name scope L a cd cl).kindOf "BadEncoding" = some .globalImplicit := by rfl) :
    wpAny (model PG w) A (noteFrame (.ref e) (envX name scope L a cd cl))
      (fun _ s₂ => wpAny (model PG w) A (setFlight (.ref e) none) (fun _ s₃ =>
        wpAny (model PG w) A (handleBy (.ref e) (envX name scope L a cd cl) (.ExceptHandler (some (.Name "BadEncoding" np)) (some n) (b₀ :: suite) pos :: rest)) Q E s₃) E s₂) E s' := by
  obtain ⟨B, hB, hl, hf⟩ := R
  have hL : B.get? L = none := by
    obtain ⟨_, ⟨L', _, hf', hn', _⟩, _⟩ := hf.frames
    obtain rfl : L = L' := Option.some.inj hf'
    exact hn'
  refine note_next_d hfr rfl hf fun h₄ f₄ u₄ => ?_
  refine flight_d (s := { s' with heap := h₄ }) f₄ fun h₅ f₅ u₅ => ?_
  have st₅ : base.StaysIn h₅ := fun b o q => f₅.stays b o (hB b o q)
  have F₅ := F.of_stays st₅ ((hsm.trans u₄).trans u₅)
  refine wpAny_handleBy_cons (codeAny_handlers_test (nameX_K F₅ X T (v := .ref 45) (by k_is) ?_ hk hx (by decide))) (by intro q; cases q)
  obtain ⟨vs, T', oT, ts, sl, he, _⟩ := f₅.exc
  obtain ⟨nm, q, bs, sn, sub, ab, col, dd, k0, k1, k2, k3, k5, hC⟩ := cls45 w.params
  refine wpAny_excMatches_sub_self (X.keeps st₅ _ _ hC) he rfl (by decide +kernel) (codeAny_handlers_suite_as ?_)
  refine flight_d (s := ⟨h₅, s'.gens, s'.drawn, s'.toks, s'.os⟩) f₅ fun h₆ f₆ u₆ => ?_
  have st₆ : base.StaysIn h₆ := fun b o q => f₆.stays b o (hB b o q)
  have F₆ := F.of_stays st₆ (((hsm.trans u₄).trans u₅).trans u₆)
  obtain ⟨vs, T', oT, ts, sl, he, _⟩ := f₆.exc
  have Nl : News base L h₆ news := fun q hq => ⟨f₆.stays _ _ (hl q hq).1, (fun z => by have := (hl q hq).1; rw [z, hL] at this; cases this), (hl q hq).2⟩
  have N₆ := News.more F₆ Nl he (fun es n q => by cases q) (fresh_of_stays hB f₆.new)
  exact storeX_L F₆ N₆ (fun h₇ F₇ N₇ => k h₇ vs sl _ F₇ N₇) hk hlo
end
section
open PySem.Spec PyProof.V PySem.SeqAt
variable {prog : Program} {w : World} {A : Around} {E : Value → Shared → Prop} {s : Shared} {h₀ h : Heap} {L : Addr} {news : List (Addr × Obj)} {Q : Value → Shared → Prop}
theorem eq_sameD {a b : Value} {d : PyData} (ra : ∃ as, Reads s.heap a d as) (rb : ∃ bs, Reads s.heap b d bs) (hs : shaped d = true) (hu : A.units + 64 < cLine) (hq : Q (.bool true) s) : wpAny (model prog w) A (compareOp .Eq a b) Q E s := by
  obtain ⟨_, ra⟩ := ra
  obtain ⟨_, rb⟩ := rb
  exact eq_dataH ra rb hs hs hu (by rw [eqv_refl d (canLay_of_shaped hs)]; exact hq)
theorem reads_told {a l : Addr} {u : Tok} {us : List Value} {c : Nat} {codes : List Int} (N : News h₀ L h news) (ha : (a, tupO [.str "told" u, .ref l]) ∈ news) (hl : (l, listOf us.toArray c) ∈ news) (hi : IntsAre us codes) :
    ∃ as, Reads h (.ref a) (.tuple [.str "told", .list (codes.map PyData.int)]) as :=
  ⟨_, reads_tuple_at (N.get ha) rfl rfl (ReadsAll.cons (Reads.str _ _) (ReadsAll.cons (reads_of_ints (N.isList hl) hi) ReadsAll.nil))⟩
theorem reads_bad {a t2 : Addr} {u1 u2 u3 : Tok} {p : Int} {wd : Str} (N : News h₀ L h news) (ha : (a, tupO [.str "bad" u1, .ref t2]) ∈ news) (hl : (t2, tupO [.int p u2, .str wd u3]) ∈ news) :
    ∃ as, Reads h (.ref a) (.tuple [.str "bad", .tuple [.int p, .str wd]]) as :=
  ⟨_, reads_tuple_at (N.get ha) rfl rfl (ReadsAll.cons (Reads.str _ _) (ReadsAll.cons (reads_tuple_at (N.get hl) rfl rfl (ReadsAll.cons (Reads.int _ _) (ReadsAll.cons (Reads.str _ _) ReadsAll.nil))) ReadsAll.nil))⟩
theorem shaped_told (codes : List Int) : shaped (.tuple [.str "told", .list (codes.map PyData.int)]) = true := by
  have h1 := PySem.W.depthAll_ints codes
  have h2 : PyData.depth (.tuple [.str "told", .list (codes.map PyData.int)]) ≤ 64 := by simp only [PyData.depth, PyData.depthAll]; omega
  show (PyData.canLay0 (.tuple [.str "told", .list (codes.map PyData.int)]) && decide (PyData.depth (.tuple [.str "told", .list (codes.map PyData.int)]) ≤ 64)) = true
  rw [Bool.and_eq_true]
  refine ⟨?_, decide_eq_true h2⟩
  simp only [PyData.canLay0, PyData.canLayAll0, canLayAll0_ints, Bool.and_true]
  decide +kernel
theorem shaped_bad {p : Int} {wd : Str} (h : PyData.strOk wd = true) : shaped (.tuple [.str "bad", .tuple [.int p, .str wd]]) = true := by
  have h2 : PyData.depth (.tuple [.str "bad", .tuple [.int p, .str wd]]) ≤ 64 := by simp only [PyData.depth, PyData.depthAll]; omega
  show (PyData.canLay0 (.tuple [.str "bad", .tuple [.int p, .str wd]]) && decide (PyData.depth (.tuple [.str "bad", .tuple [.int p, .str wd]]) ≤ 64)) = true
  rw [Bool.and_eq_true]
  refine ⟨?_, decide_eq_true h2⟩
  simp only [PyData.canLay0, PyData.canLayAll0, h, Bool.and_true]
  decide +kernel
theorem figEsc_word {vp : Int × Nat} {b l : Int} {wd : Str} (h : figEsc vp b l = .bad wd) : PyData.strOk wd = true := by
  unfold figEsc at h
  split at h
  · cases h; decide +kernel
  · cases h
theorem braces_word {row : List Int} {k : Int} {wd : Str} (h : bracesN row k = .bad wd) : PyData.strOk wd = true := by
  unfold bracesN at h
  dsimp only at h
  repeat' split at h
  all_goals (cases h; try decide +kernel)
theorem escN_word {row : List Int} {b : Int} {wd : Str} (h : escN row b = .bad wd) : PyData.strOk wd = true := by
  unfold escN at h
  repeat' split at h
  all_goals first
    | exact figEsc_word h
    | exact braces_word h
    | (cases h; decide +kernel)
    | cases h
theorem tellN_word {row : List Int} {p : Int} {wd : Str} : ∀ (k : Nat) (q : Int) (fs : List Int), tellN row k q fs = .bad p wd → PyData.strOk wd = true
  | 0, _, _, h => by rw [tellN] at h; cases h
  | k + 1, q, fs, h => by
    rw [tellN] at h
    split at h
    · split at h
      · cases h; decide +kernel
      · split at h
        · split at h
          · rename_i e; cases h; exact escN_word e
          · exact tellN_word k _ _ h
        · exact tellN_word k _ _ h
    · cases h
end
section
open PySem.Spec
variable {w : World} {A : Around} {E : Value → Shared → Prop} {s : Shared} {h₀ : Heap} {L e d tp : Addr} {m : Str → Option Value} {news : List (Addr × Obj)} {Q : Value → Shared → Prop} {vs : Array Value} {sl : Array (Option Value)} {tk : Tok} {expr : Bool}
theorem get_told (F : Fr h₀ L s.heap m) (X₀ : (hd.heap_39 w.params).In h₀) (N : News h₀ L s.heap news) (he : (e, excOb d vs sl) ∈ news) (hd' : (d, toldD w (.ref tp) tk) ∈ news) (h : Q (.ref tp) { s with toks := s.toks + 1 }) :
    wpAny (model PG w) A (getAttr (.ref e) "told" expr) Q E s := by
  obtain ⟨hh, g, dr, t, os⟩ := s
  dsimp only at F N h
  have X : (hd.heap_39 w.params).In hh := X₀.keeps F.keep
  have hx : hh.get? e = some (excOb d vs sl) := (N _ he).1
  have I : InstAt hh e (excOb d vs sl) 45 (some (toldD w (.ref tp) tk)) := ⟨hx, rfl, rfl, (N _ hd').1⟩
  obtain ⟨nm, q, bs, sn, sub, ab, col, dd, k0, k1, k2, k3, k5, hl⟩ := cls45 w.params
  have hC := X _ _ hl
  have L0 := I.type (M := model PG w)
  have L1 : Looks (model PG w) hh (typeLookup (.ref 45) "__getattribute__") (some (.builtin "BaseException.__getattribute__")) := looks_findIn X (by k_is)
  have L2 : Looks (model PG w) hh (typeLookup (.ref 45) "__getattr__") none := looks_findIn X (by k_is)
  have L3 := looks_find (M := model PG w) (name := "told") X I (findObj_own (attr := none) (v := .ref tp) (by k_is) (by k_is) (by k_is) rfl)
  have f3 := PySem.F.attr_Exception.ga.bind (.ref e)
  have hx0 : (expr && onTheHeap (Value.builtin "BaseException.__getattribute__")) = false := by cases expr <;> rfl
  have hx2 : (Value.builtin "BaseException.__getattribute__" == Value.builtin "object.__getattribute__") = false := by decide +kernel
  have hx1 : (onTheHeap (Value.ref 45) && Value.builtin "BaseException.__getattribute__" == Value.builtin "object.__getattribute__") = false := by rw [hx2]; rfl
  unfold getAttr getAttrBy
  refine wpAny_bind (wpAny_mkText (wpAny_holding (wpAny_bind (L0.at (wpAny_bind (L1.at ?_))))))
  dsimp only
  rw [hx1]
  unfold getAttrByItsOwn
  repeat (any_goals (first | assumption | with_reducible refine L2.at ?_ | wp_step))
  have hk : builtinKind "BaseException.__getattribute__" = some .slot := by decide +kernel
  have hsplit : splitId "BaseException.__getattribute__" = some ("BaseException", "__getattribute__") := by decide +kernel
  have hcB : (Value.ref 45 :: bmBad).contains (.type "BaseException") = true := by decide +kernel
  have ha := PySem.F.args_bexc_ga (.ref e) (.str "told" t)
  refine codeAny_call_builtin PySem.F.attr_Exception.ga.plain PySem.F.entry_bexc_ga ?_
  show wpAny _ _ (checkBuiltinCall _ ⟨[.ref e, .str "told" t], []⟩) _ _ _
  simp only [checkBuiltinCall, hk, hsplit]
  refine wpAny_bind ?_
  unfold isInstance
  repeat (any_goals (first | assumption | with_reducible refine L3.at ?_ | with_reducible refine wpAny_loadPart_at hx ?_ | (with_reducible refine wpAny_isSubtype_exc hC ?_; rw [hcB]) | wp_step))
end
section
variable {M : Model} {A : Around} {E : Value → Shared → Prop} {s : Shared} {name : Str} {scope : Scope} {L a : Addr} {cd : Value} {cl : List (Str × Addr)} {h₀ : Heap} {m : Str → Option Value} {news : List (Addr × Obj)}
theorem nameX_goes {n : Str} {pos : Pos} {Q : Unit → Shared → Prop} (F : Fr h₀ L s.heap m) (N : News h₀ L s.heap news)
    (h : ∀ h' v, Fr h₀ L h' (fun x => if x = n then v else m x) → News h₀ L h' news → Q () { s with heap := h', toks := s.toks + 1 })
    (hk : scope.kind = .function := by rfl) (hl : (envX name scope L a cd cl).kindOf n = some .local := by rfl) :
    wpAny M A (do bindName (envX name scope L a cd cl) n .none; unbindBehindTheSuite (envX name scope L a cd cl) n pos) Q E s :=
  wpAny_nameGoes_keeps hl F.ns (by show (scope.kind == .class || (scope.kind == .module && L != mainGlobals)) = false; rw [hk]; rfl) fun h' v hn hs => h h' v (F.set hn hs) (N.set hs)
end
theorem law_row {ys : List Value} {w : List Int} {F : Int → Int} (h : IntsAre ys (List.map F (List.take 18 w))) (hF : ∀ k, Menu (F k)) : ∃ row : List Int, IntsAre ys row ∧ row.length ≤ 18 ∧ ∀ c ∈ row, Menu c :=
  ⟨_, h, by rw [List.length_map, List.length_take]; omega, fun c hc => by
    obtain ⟨k, _, rfl⟩ := List.mem_map.mp hc
    exact hF k⟩
theorem menu_tab : ∀ j < 16, Menu ([92, 110, 120, 117, 123, 125, 55, 65, 102, 68, 111, 119, 32, 10, 34, 233].getD j 0) := by
  unfold Menu; decide
theorem menu_cell (k : Int) : Menu (if 0 ≤ k.fmod 16 ∧ k.fmod 16 < 16 then [92, 110, 120, 117, 123, 125, 55, 65, 102, 68, 111, 119, 32, 10, 34, 233].getD (k.fmod 16).toNat 0 else k) := by
  have h0 : 0 ≤ k.fmod 16 := Int.fmod_nonneg_of_pos k (by decide)
  have h1 : k.fmod 16 < 16 := Int.fmod_lt_of_pos k (by decide)
  rw [if_pos ⟨h0, h1⟩]
  exact menu_tab _ (by omega)
theorem tellV_told_inv {codes : List Int} {t a : Addr} {o1 o2 : Obj} {news : List (Addr × Obj)} (V : TellV (.told codes) (.ref t) [(t, o1), (a, o2)] news) : ∃ us c u, IntsAre us codes ∧ o1 = tupO [.str "told" u, .ref a] ∧ o2 = listOf us.toArray c := by
  obtain ⟨t', l, us, c, u, _, hi, e, _⟩ := V
  simp only [List.cons.injEq, Prod.mk.injEq, and_true] at e
  obtain ⟨⟨_, rfl⟩, rfl, rfl⟩ := e
  exact ⟨us, c, u, hi, rfl, rfl⟩
theorem tellV_bad_inv {p : Int} {wd : Str} {t a : Addr} {o1 o2 : Obj} {news : List (Addr × Obj)} (V : TellV (.bad p wd) (.ref t) [(t, o1), (a, o2)] news) : ∃ u1 u2 u3, o1 = tupO [.str "bad" u1, .ref a] ∧ o2 = tupO [.int p u2, .str wd u3] := by
  obtain ⟨t', t2, u1, u2, u3, _, e⟩ := V
  simp only [List.cons.injEq, Prod.mk.injEq, and_true] at e
  obtain ⟨⟨_, rfl⟩, rfl, rfl⟩ := e
  exact ⟨u1, u2, u3, rfl, rfl⟩
theorem lines19 : True := by
  (k_with "compareOp Eq ref ref" => (k_here; (refine Halt.go ?_)))
  (k_with "call builtin:all" => (k_here; (with_reducible show wpAny _ _ (call (Value.builtin "all") [Value.ref _]) _ _ _); k_dflt (refine' LSm.all_bools ?k1 ?k2 ?k3 ?k4 ?k5 ?_; (case k1 => k_asm); (case k2 => k_asm); (case k3 => rfl); (case k4 => exact News.isList (by k_asm) (by k_mem)); (case k5 => exact bools_true (by assumption))); intro h' tk' F' N'; (rw [bools_all])))
  (k_with "getAttr ref" => (k_here; (with_reducible show wpAny _ _ (getAttr (Value.ref _) ("told" : Str) _) _ _ _); k_dflt (refine' get_told ?k1 ?k2 ?k3 ?k4 ?k5 ?_; (case k1 => k_asm); (case k2 => k_asm); (case k3 => k_asm); (case k4 => k_mem); (case k5 => k_mem); k_whole)))
  (k_with "bind" => (k_here; (with_reducible show wpAny _ _ (do bindName _ _ Value.none; unbindBehindTheSuite _ _ _) _ _ _); k_dflt (refine' nameX_goes ?k1 ?k2 ?_; (case k1 => k_asm); (case k2 => k_asm); k_whole); intro h' v' F' N'; (try dsimp only)))
  (k_with "call type:list" => (k_here; (with_reducible show wpAny _ _ (call (Value.type _) [Value.ref _]) _ _ _); k_dflt (refine' list_K ?k1 ?k2 ?k3 ?z ?_; (case k1 => k_asm); (case k2 => k_asm); (case k3 => k_mem); (case z => omega); k_whole); intro D' n' h' F' N' l1; (try k_lt l1); (try k_sweep)))
  exact trivial
theorem bne_eq_dec {c k : Int} : (c != k) = decide (c ≠ k) := by
  by_cases h : c = k <;> simp [h]
theorem lines20 : True := by
  (k_with "enterlam" => (refine' kla_code ?k1 ?k2 ?k3 ?k4 ?k5 ?kA ?kF ?kK ?k6 ?k7 ?k8 ?k9 ?kB ?_ ?c2 ?c3 ?c4 ?c5; (case kA => exact rfl); (case kF => exact rfl); (case kK => first | exact rfl | assumption); (case k1 => k_asm); (case k2 => k_asm); (case k3 => k_asm); (case k4 => k_asm); (case k5 => k_asm); (case k6 => assumption); (case k7 => exact codeRec_news (by k_asm) (by assumption) (by assumption) (by assumption)); (case k8 => walk_at "roomA"); (case k9 => exact rfl); (case c5 => decide); (case kB => exact locs rfl); (case c2 => exact rfl); (case c3 => exact rfl); (case c4 => exact rfl); k_whole; intro g' L' h' FG' F' N' B' X' T'; (try dsimp only); (try k_fold)))
  (k_with "roomA" => ((try dsimp only [ktrTop]); (try simp only [recursionLimit]); omega))
  exact trivial
theorem qual_law {env : Env} (h1 : (env.kindOf "_law_reader" == some .globalExplicit) = false) (h2 : env.qual = "law.<locals>.") : qualnameIn env "_law_reader" "_law_reader" = "law.<locals>._law_reader" := by
  unfold qualnameIn; rw [h1, h2]; rfl
theorem mem_ne {l a : Addr} {o : Obj} {news : List (Addr × Obj)} (h : ∀ p ∈ news, p.1 ≠ l) (hm : (a, o) ∈ news) : l ≠ a := (h _ hm).symm
local macro_rules | `(tactic| k_ne) => `(tactic| assumption)
theorem lines21 : True := by
  (k_with "exec Try" => (k_here; (refine wpAny_Try_except ?_)))
  (k_with "call ref" => (k_here; (with_reducible show wpAny _ _ (call (Value.ref 152) _) _ _ _); (refine Halt.go ?_)))
  (k_with "call ref" => (k_here; (with_reducible show wpAny _ _ (call (Value.ref 195) _) _ _ _); (refine Halt.go ?_)))
  exact trivial
theorem law_holds : PySem.Challenge.rw_on0357_01.Holds := hd (by
  k_go0
  all_goals try k_fold
  k_steps
  refine Halt.mk ?_
  rename World => w0
  obtain ⟨row, hi, h2, hm⟩ := law_row (by assumption) menu_cell
  rename_i DR _ _ oR _ ocr dcr _ sl _ lS _ ocs dcs f c' oc' vs' t' ct' dc' _ _ d1' d2' l1 l2 _ F' N'
  (k_dflt (refine' (told_ok ?hr hi h2 hm) _ _ _ _ _ _ _ _ _ _ _ _ _ _ _ _ _ ?kB ?kF ?kX ?kN ?kT ?kK ?kd ?ku ?_; (case kB => k_asm); (case kF => k_asm); (case kX => k_asm); (case kT => k_asm); (case kK => first | exact rfl | assumption); (case kd => walk_at "room"); (case ku => walk_at "units")))
  case kN => k_asm
  case hr => k_mem
  intro r9 n9 h9 tk9 F9 N9 P9
  obtain ⟨new9, e9, V9⟩ := P9
  subst e9
  obtain ⟨t1, a2, o1, o2, e9', e9'', z1, z2, z3, z4⟩ := tell_two (sl := sl) (P := 197) V9 N9 (by k_mem) rfl (by k_mem) rfl
  subst e9' e9''
  simp only [List.cons_append, List.nil_append] at N9
  try dsimp only
  try k_fold
  k_steps
  refine Halt.mk ?_
  rename_i fl cL ocL vsL tL ctL _ _ FL NL dL1 dL2 lL1 lL2
  rw [qual_law] at NL
  rotate_left
  · rfl
  · rfl
  rw [qual_law] at d2'
  rotate_left
  · rfl
  · rfl
  obtain ⟨rest, N2, hf0, hf, hc, hcr, hcs, hr, hlm, hlc, ht1, ht2, htab, hns⟩ : ∃ rest, News _ _ _ ((sl, listOf [].toArray 0) :: rest) ∧ (f, _) ∈ rest ∧ (f, readerFn w0.params [("seen", _), ("row", _)] dc' _ c' ct') ∈ rest ∧ (c', oc') ∈ rest ∧ (_, ocr) ∈ rest ∧ (_, ocs) ∈ rest ∧ (DR, listOf _ _) ∈ rest ∧ (fl, _) ∈ rest ∧ (cL, ocL) ∈ rest ∧ (t1, o1) ∈ rest ∧ (a2, o2) ∈ rest ∧ (197, tabObj _) ∈ rest ∧ ∀ q ∈ rest, q.1 ≠ sl :=
    ⟨_, news_front (pre := [_, _, _, _, _, _]) NL, by k_mem, by k_dflt k_mem, by k_mem, by k_mem, by k_mem, by k_mem, by k_mem, by k_mem, by k_mem, by k_mem, by k_mem, by first | k_all | fail⟩
  (k_dflt (refine' (read_ok hf0 hlm (readC_of hf hc d1' d2' hcr dcr hcs dcs hr hi h2 hm) ?hb hr hns hi h2) _ _ _ _ _ _ _ _ _ _ _ _ _ _ _ _ _ ?kB ?kF ?kX ?kN ?kT ?kK ?kd ?ku ?kr ?ke; (case kB => k_asm); (case kF => k_asm); (case kX => k_asm); (case kT => k_asm); (case kK => first | exact rfl | assumption); (case kd => walk_at "room"); (case ku => walk_at "units")))
  case kN => exact N2
  case hb =>
    refine ⟨fun {c tc news'} hsub => ?_⟩
    intro dp un gd cn cs a ccd cl outer A₀ base h₀ L m s Q E B F X N T hk hdp hun hret
    refine wpAny_call ?_
    have hl2 := hsub _ hlm
    have hc2 := hsub _ hlc
    k_dflt (walk_at "enterlam")
    k_steps
    exact hret _ _ _ _ (by assumption) (by assumption) ⟨rfl, congrArg Value.bool (by rw [bne_eq_dec])⟩
  case kr =>
    intro r8 n8 h8 tk8 F8 N8 P8
    obtain ⟨lF, codes, cs, us', n', cc, hT, e8, hI8, hz8, m8, s8, ht8, hl8⟩ := P8
    subst e8
    rw [hT] at V9
    obtain ⟨us, cu, u, hI9, eo1, eo2⟩ := tellV_told_inv V9
    subst eo1 eo2
    have N7 : News _ _ _ [(lF, listOf cs.toArray cc), (sl, listOf us'.toArray n'), (t1, tupO [.str "told" u, .ref a2]), (a2, listOf us.toArray cu), (_, ocs), (197, tabObj _)] := cb_drop N8 (List.forall_mem_cons.mpr ⟨m8, List.forall_mem_cons.mpr ⟨s8 _ (.head _), List.forall_mem_cons.mpr ⟨s8 _ (.tail _ ht1), List.forall_mem_cons.mpr ⟨s8 _ (.tail _ ht2), List.forall_mem_cons.mpr ⟨s8 _ (.tail _ hcs), List.forall_mem_cons.mpr ⟨s8 _ (.tail _ htab), List.forall_mem_nil _⟩⟩⟩⟩⟩⟩)
    clear N8 m8 s8 V9 N2 hf0 hf hc hcr hcs hr hlm hlc ht1 ht2 htab hns
    try dsimp only
    try k_fold
    k_steps
    refine Halt.mk ?_
    refine eq_sameD (reads_told (by assumption) (by k_mem) (by k_mem) hI8) (reads_told (by assumption) (by k_mem) (by k_mem) hI9) (shaped_told _) (by walk_at "units") ?_
    k_steps
  case ke =>
    intro g8 e8 d8 n8 h8 tk8 F8 R8 U8 P8
    obtain ⟨pq, wd, us', n', hT, ⟨tp, tt, v1, v2, mb1, mb2⟩, s8, ht8, hl8⟩ := P8
    rw [hT] at V9
    have hw := tellN_word _ _ _ hT
    obtain ⟨u1, u2, u3, eo1, eo2⟩ := tellV_bad_inv V9
    subst eo1 eo2
    k_dflt (refine' caught_D ?hfr9 F8 U8 R8 ?X9 ?T9 ?k9)
    case hfr9 => rfl
    case X9 => k_asm
    case T9 => k_asm
    case k9 =>
      intro h7 vs7 sl7 tk7 F7 N7
      have N6 : News _ _ _ [(e8, excOb d8 vs7 sl7), (d8, toldD w0 (.ref tp) tt), (tp, tupO [.int pq v1, .str wd v2]), (sl, listOf us'.toArray n'), (t1, tupO [.str "bad" u1, .ref a2]), (a2, tupO [.int pq u2, .str wd u3]), (_, ocs), (197, tabObj _)] :=
        cb_drop N7 (List.forall_mem_cons.mpr ⟨.head _, List.forall_mem_cons.mpr ⟨.tail _ mb1, List.forall_mem_cons.mpr ⟨.tail _ mb2, List.forall_mem_cons.mpr ⟨.tail _ (s8 _ (.head _)), List.forall_mem_cons.mpr ⟨.tail _ (s8 _ (.tail _ ht1)), List.forall_mem_cons.mpr ⟨.tail _ (s8 _ (.tail _ ht2)), List.forall_mem_cons.mpr ⟨.tail _ (s8 _ (.tail _ hcs)), List.forall_mem_cons.mpr ⟨.tail _ (s8 _ (.tail _ htab)), List.forall_mem_nil _⟩⟩⟩⟩⟩⟩⟩⟩)
      clear N7 mb1 mb2 s8 V9 N2 hf0 hf hc hcr hcs hr hlm hlc ht1 ht2 htab hns R8 U8 F8
      try dsimp only
      try k_fold
      k_steps
      refine Halt.mk ?_
      refine eq_sameD (reads_bad (by assumption) (by k_mem) (by k_mem)) (reads_bad (by assumption) (by k_mem) (by k_mem)) (shaped_bad hw) (by walk_at "units") ?_
      k_steps
      )
end Mine
theorem PySem.Challenge.cw_on0357_01_holds : PySem.Challenge.rw_on0357_01.Holds :=
  Mine.law_holds
