import PyProof.Rows.All
import Wide.All
import OpenK.AllK
import Wide.FinOn
import PySem.Challenge.RW_levelroads_k09_whole_pairs_told
import HandS.ForMost
import HandS.ForExc
import HandS.IsInst
import HandS.Codes
import HandS.Conv
import HandS.Style
import HandS.Star
import HandS.Wide
import HandS.WideMore
import HandS.Deep
import HandS.Flow
import HandS.TupSets
import HandS.Walk
import KE.DataMinMax
import KE.SortData
import Wide.Loose
set_option Elab.async false
set_option linter.all false
set_option maxRecDepth 100000
set_option maxHeartbeats 4200000
namespace K9
open PyProof.Rows PySem PySem.Spec L2
/-! ### the text, by places -/
def topS (i : Nat) : Stmt := PySem.Challenge.pw_levelroads_k09_whole_pairs_told.main.body.getD i (.Pass ⟨0, 0, 0, 0⟩)
abbrev s_is_whole : Stmt := topS 9
abbrev N_is_whole : List Str := ["value"]
theorem sc_is_whole : FnScope N_is_whole ["value"] (defScope s_is_whole) := ⟨rfl, rfl, rfl, by decide +kernel, rfl, by decide +kernel, by decide +kernel⟩
abbrev s_is_integer : Stmt := topS 10
abbrev N_is_integer : List Str := ["value"]
theorem sc_is_integer : FnScope N_is_integer ["value"] (defScope s_is_integer) := ⟨rfl, rfl, rfl, by decide +kernel, rfl, by decide +kernel, by decide +kernel⟩
abbrev s_is_level : Stmt := topS 11
abbrev N_is_level : List Str := ["value"]
theorem sc_is_level : FnScope N_is_level ["value"] (defScope s_is_level) := ⟨rfl, rfl, rfl, by decide +kernel, rfl, by decide +kernel, by decide +kernel⟩
abbrev s_common_of : Stmt := topS 13
abbrev N_common_of : List Str := ["one", "other"]
theorem sc_common_of : FnScope N_common_of ["one", "other"] (defScope s_common_of) := ⟨rfl, rfl, rfl, by decide +kernel, rfl, by decide +kernel, by decide +kernel⟩
abbrev s_require_level : Stmt := topS 14
abbrev N_require_level : List Str := ["value"]
theorem sc_require_level : FnScope N_require_level ["value"] (defScope s_require_level) := ⟨rfl, rfl, rfl, by decide +kernel, rfl, by decide +kernel, by decide +kernel⟩
abbrev s_require_integers : Stmt := topS 15
abbrev N_require_integers : List Str := ["values", "value"]
theorem sc_require_integers : FnScope N_require_integers ["values"] (defScope s_require_integers) := ⟨rfl, rfl, rfl, by decide +kernel, rfl, by decide +kernel, by decide +kernel⟩
abbrev s_units_modulo : Stmt := topS 16
abbrev N_units_modulo : List Str := ["level", "unit"]
theorem sc_units_modulo : FnScope N_units_modulo ["level"] (defScope s_units_modulo) := ⟨rfl, rfl, rfl, by decide +kernel, rfl, by decide +kernel, by decide +kernel⟩
abbrev s_do_tell : Stmt := topS 17
abbrev N_do_tell : List Str := ["level", "c", "d"]
theorem sc_do_tell : FnScope N_do_tell ["level", "c", "d"] (defScope s_do_tell) := ⟨rfl, rfl, rfl, by decide +kernel, rfl, by decide +kernel, by decide +kernel⟩
abbrev s_least_pair : Stmt := topS 18
abbrev N_least_pair : List Str := ["level", "c", "d", "unit"]
theorem sc_least_pair : FnScope N_least_pair ["level", "c", "d"] (defScope s_least_pair) := ⟨rfl, rfl, rfl, by decide +kernel, rfl, by decide +kernel, by decide +kernel⟩
abbrev s_first_entries : Stmt := topS 19
abbrev N_first_entries : List Str := ["level", "divisor"]
theorem sc_first_entries : FnScope N_first_entries ["level"] (defScope s_first_entries) := ⟨rfl, rfl, rfl, by decide +kernel, rfl, by decide +kernel, by decide +kernel⟩
abbrev s_pairs_with : Stmt := topS 20
abbrev N_pairs_with : List Str := ["level", "c", "units", "found", "d", "unit"]
theorem sc_pairs_with : FnScope N_pairs_with ["level", "c"] (defScope s_pairs_with) := ⟨rfl, rfl, rfl, by decide +kernel, rfl, by decide +kernel, by decide +kernel⟩
abbrev s_all_pairs : Stmt := topS 21
abbrev N_all_pairs : List Str := ["level", "c", "pair"]
theorem sc_all_pairs : FnScope N_all_pairs ["level"] (defScope s_all_pairs) := ⟨rfl, rfl, rfl, by decide +kernel, rfl, by decide +kernel, by decide +kernel⟩
abbrev s_pairs : Stmt := topS 22
abbrev N_pairs : List Str := ["level"]
theorem sc_pairs : FnScope N_pairs ["level"] (defScope s_pairs) := ⟨rfl, rfl, rfl, by decide +kernel, rfl, by decide +kernel, by decide +kernel⟩
abbrev s_index_of_level : Stmt := topS 23
abbrev N_index_of_level : List Str := ["level", "found", "left", "prime"]
theorem sc_index_of_level : FnScope N_index_of_level ["level"] (defScope s_index_of_level) := ⟨rfl, rfl, rfl, by decide +kernel, rfl, by decide +kernel, by decide +kernel⟩
abbrev s_count_pairs : Stmt := topS 24
abbrev N_count_pairs : List Str := ["level"]
theorem sc_count_pairs : FnScope N_count_pairs ["level"] (defScope s_count_pairs) := ⟨rfl, rfl, rfl, by decide +kernel, rfl, by decide +kernel, by decide +kernel⟩
abbrev s_is_residue_at : Stmt := topS 25
abbrev N_is_residue_at : List Str := ["level", "value"]
theorem sc_is_residue_at : FnScope N_is_residue_at ["level", "value"] (defScope s_is_residue_at) := ⟨rfl, rfl, rfl, by decide +kernel, rfl, by decide +kernel, by decide +kernel⟩
abbrev s_is_pair_of : Stmt := topS 26
abbrev N_is_pair_of : List Str := ["level", "value"]
theorem sc_is_pair_of : FnScope N_is_pair_of ["level", "value"] (defScope s_is_pair_of) := ⟨rfl, rfl, rfl, by decide +kernel, rfl, by decide +kernel, by decide +kernel⟩
abbrev s_is_pair : Stmt := topS 27
abbrev N_is_pair : List Str := ["level", "value"]
theorem sc_is_pair : FnScope N_is_pair ["level", "value"] (defScope s_is_pair) := ⟨rfl, rfl, rfl, by decide +kernel, rfl, by decide +kernel, by decide +kernel⟩
abbrev s_require_pair : Stmt := topS 28
abbrev N_require_pair : List Str := ["level", "value"]
theorem sc_require_pair : FnScope N_require_pair ["level", "value"] (defScope s_require_pair) := ⟨rfl, rfl, rfl, by decide +kernel, rfl, by decide +kernel, by decide +kernel⟩
abbrev s_pair_of : Stmt := topS 29
abbrev N_pair_of : List Str := ["level", "c", "d"]
theorem sc_pair_of : FnScope N_pair_of ["level", "c", "d"] (defScope s_pair_of) := ⟨rfl, rfl, rfl, by decide +kernel, rfl, by decide +kernel, by decide +kernel⟩
abbrev s_pair_number : Stmt := topS 30
abbrev N_pair_number : List Str := ["level", "pair"]
theorem sc_pair_number : FnScope N_pair_number ["level", "pair"] (defScope s_pair_number) := ⟨rfl, rfl, rfl, by decide +kernel, rfl, by decide +kernel, by decide +kernel⟩
abbrev s_pair_at : Stmt := topS 31
abbrev N_pair_at : List Str := ["level", "number"]
theorem sc_pair_at : FnScope N_pair_at ["level", "number"] (defScope s_pair_at) := ⟨rfl, rfl, rfl, by decide +kernel, rfl, by decide +kernel, by decide +kernel⟩
abbrev s_law_dice : Stmt := topS 33
abbrev N_law_dice : List Str := ["_law_script", "_law_spot", "_law_cell", "_law_left"]
theorem sc_law_dice : FnScope N_law_dice ["_law_script", "_law_spot"] (defScope s_law_dice) := ⟨rfl, rfl, rfl, by decide +kernel, rfl, by decide +kernel, by decide +kernel⟩
abbrev s_law_roll : Stmt := topS 34
abbrev N_law_roll : List Str := ["_law_dice_here", "_law_total", "_law_found", "_law_one", "_law_two"]
theorem sc_law_roll : FnScope N_law_roll ["_law_dice_here", "_law_total"] (defScope s_law_roll) := ⟨rfl, rfl, rfl, by decide +kernel, rfl, by decide +kernel, by decide +kernel⟩
abbrev s_law_pick : Stmt := topS 35
abbrev N_law_pick : List Str := ["_law_dice_here", "_law_items"]
theorem sc_law_pick : FnScope N_law_pick ["_law_dice_here", "_law_items"] (defScope s_law_pick) := ⟨rfl, rfl, rfl, by decide +kernel, rfl, by decide +kernel, by decide +kernel⟩
abbrev s_law_gcd : Stmt := topS 36
abbrev N_law_gcd : List Str := ["_law_one", "_law_other"]
theorem sc_law_gcd : FnScope N_law_gcd ["_law_one", "_law_other"] (defScope s_law_gcd) := ⟨rfl, rfl, rfl, by decide +kernel, rfl, by decide +kernel, by decide +kernel⟩
abbrev s_law_divisors : Stmt := topS 37
abbrev N_law_divisors : List Str := ["_law_number", "_law_one"]
theorem sc_law_divisors : FnScope N_law_divisors ["_law_number"] (defScope s_law_divisors) := ⟨rfl, rfl, rfl, by decide +kernel, rfl, by decide +kernel, by decide +kernel⟩
abbrev s_law_level_drawn : Stmt := topS 38
abbrev N_law_level_drawn : List Str := ["_law_dice_here", "_law_most", "_law_some", "_law_one"]
theorem sc_law_level_drawn : FnScope N_law_level_drawn ["_law_dice_here", "_law_most"] (defScope s_law_level_drawn) := ⟨rfl, rfl, rfl, by decide +kernel, rfl, by decide +kernel, by decide +kernel⟩
abbrev s_law_told_pairs : Stmt := topS 39
abbrev N_law_told_pairs : List Str := ["_law_level", "_law_units", "_law_found", "_law_c", "_law_d", "_law_unit", "_law_one"]
theorem sc_law_told_pairs : FnScope N_law_told_pairs ["_law_level"] (defScope s_law_told_pairs) := ⟨rfl, rfl, rfl, by decide +kernel, rfl, by decide +kernel, by decide +kernel⟩
abbrev s_law_index : Stmt := topS 40
abbrev N_law_index : List Str := ["_law_level", "_law_found", "_law_one"]
theorem sc_law_index : FnScope N_law_index ["_law_level"] (defScope s_law_index) := ⟨rfl, rfl, rfl, by decide +kernel, rfl, by decide +kernel, by decide +kernel⟩
abbrev s_law_pairs_met : Stmt := topS 41
abbrev N_law_pairs_met : List Str := ["_law_level", "_law_told", "_law_one"]
theorem sc_law_pairs_met : FnScope N_law_pairs_met ["_law_level"] (defScope s_law_pairs_met) := ⟨rfl, rfl, rfl, by decide +kernel, rfl, by decide +kernel, by decide +kernel⟩
abbrev s_law_pair_near : Stmt := topS 42
abbrev N_law_pair_near : List Str := ["_law_dice_here", "_law_told", "_law_level", "_law_many", "_law_c", "_law_d"]
theorem sc_law_pair_near : FnScope N_law_pair_near ["_law_dice_here", "_law_told", "_law_level"] (defScope s_law_pair_near) := ⟨rfl, rfl, rfl, by decide +kernel, rfl, by decide +kernel, by decide +kernel⟩
abbrev s_law_told_word : Stmt := topS 43
abbrev N_law_told_word : List Str := ["_law_level", "_law_c", "_law_d"]
theorem sc_law_told_word : FnScope N_law_told_word ["_law_level", "_law_c", "_law_d"] (defScope s_law_told_word) := ⟨rfl, rfl, rfl, by decide +kernel, rfl, by decide +kernel, by decide +kernel⟩
abbrev s_law_are_judged : Stmt := topS 44
abbrev N_law_are_judged : List Str := ["_law_dice_here", "_law_level", "_law_some", "_law_c", "_law_d", "_law_values", "_law_value", "_law_due", "_law_one"]
theorem sc_law_are_judged : FnScope N_law_are_judged ["_law_dice_here", "_law_level", "_law_some"] (defScope s_law_are_judged) := ⟨rfl, rfl, rfl, by decide +kernel, rfl, by decide +kernel, by decide +kernel⟩
abbrev s_law_right : Stmt := topS 45
abbrev N_law_right : List Str := ["_law_dice_here", "_law_level", "_law_told", "_law_some", "_law_turn", "_law_c", "_law_d", "_law_due", "_law_x", "_law_y", "_law_other", "_law_at", "_law_heads"]
theorem sc_law_right : FnScope N_law_right ["_law_dice_here"] (defScope s_law_right) := ⟨rfl, rfl, rfl, by decide +kernel, rfl, by decide +kernel, by decide +kernel⟩
abbrev s_law_great_right : Stmt := topS 46
abbrev N_law_great_right : List Str := ["_law_dice_here", "_law_level", "_law_some", "_law_one", "_law_other"]
theorem sc_law_great_right : FnScope N_law_great_right ["_law_dice_here"] (defScope s_law_great_right) := ⟨rfl, rfl, rfl, by decide +kernel, rfl, by decide +kernel, by decide +kernel⟩
abbrev s_law : Stmt := topS 47
abbrev N_law : List Str := ["_law_script", "_law_spot", "_law_dice_here", "_law_told", "_law_one"]
theorem sc_law : FnScope N_law ["_law_script"] (defScope s_law) := ⟨rfl, rfl, rfl, by decide +kernel, rfl, by decide +kernel, by decide +kernel⟩
/-! ### a def that stands -/
structure DStands (K : PySem.W.Frag) (mg : Str → Option Value) (x : Str) (st : Stmt) (ps : List Str) : Prop where
  ex : ∃ (f : Addr) (fd : FuncData), Fun K x x st f fd ∧ mg x = some (.ref f) ∧ Binds K fd ps []
section
variable {K : PySem.W.Frag} {mg : Str → Option Value} {P : Program} {w : World} {base : Heap}
theorem DStands.cal {x : Str} {st : Stmt} {N ps : List Str} {k : Nat} {sp : Sp} (F : DStands K mg x st ps) (S : FnScope N ps (defScope st)) (len : ∀ vs H Q E, sp vs H Q E → vs.length = ps.length)
    (hbody : ∀ (f : Addr) (cdv : Value) (A : Around) (outer : List Env) (s : Shared) (H : Hp) (vs : List V) (Q : VK) (E : XK), Room k (A.deeper (envOfC x (defScope st) s.heap.objs.size f cdv)) → sp vs H Q E →
      ∃ t, PSs (cxOf CX0 P w K mg base N x (defScope st) f cdv A outer s H E).nox (defBody st) t ∧ t { nx := fun _ H' => Q .non H', rt := Q } (start N vs) H) : C8.Cal P w K mg base (k + 1) x sp [] := by
  obtain ⟨f, fd, Fn, g, b⟩ := F.ex
  exact ⟨f, fd, ps, [], Fn.ok S len (hbody f), g, Fn.kp, b, .nil⟩
end
/-! ### what the top has left -/
abbrev GR : Int := 1000000000000000000000000000000000000000000000000000000000000
structure Txt (K : PySem.W.Frag) (mg : Str → Option Value) (tG tM : Tok) : Prop where
  d_is_whole : DStands K mg "is_whole" s_is_whole ["value"]
  d_is_integer : DStands K mg "is_integer" s_is_integer ["value"]
  d_is_level : DStands K mg "is_level" s_is_level ["value"]
  d_common_of : DStands K mg "common_of" s_common_of ["one", "other"]
  d_require_level : DStands K mg "require_level" s_require_level ["value"]
  d_require_integers : DStands K mg "require_integers" s_require_integers ["values"]
  d_units_modulo : DStands K mg "units_modulo" s_units_modulo ["level"]
  d_do_tell : DStands K mg "do_tell" s_do_tell ["level", "c", "d"]
  d_least_pair : DStands K mg "least_pair" s_least_pair ["level", "c", "d"]
  d_first_entries : DStands K mg "first_entries" s_first_entries ["level"]
  d_pairs_with : DStands K mg "pairs_with" s_pairs_with ["level", "c"]
  d_all_pairs : DStands K mg "all_pairs" s_all_pairs ["level"]
  d_pairs : DStands K mg "pairs" s_pairs ["level"]
  d_index_of_level : DStands K mg "index_of_level" s_index_of_level ["level"]
  d_count_pairs : DStands K mg "count_pairs" s_count_pairs ["level"]
  d_is_residue_at : DStands K mg "is_residue_at" s_is_residue_at ["level", "value"]
  d_is_pair_of : DStands K mg "is_pair_of" s_is_pair_of ["level", "value"]
  d_is_pair : DStands K mg "is_pair" s_is_pair ["level", "value"]
  d_require_pair : DStands K mg "require_pair" s_require_pair ["level", "value"]
  d_pair_of : DStands K mg "pair_of" s_pair_of ["level", "c", "d"]
  d_pair_number : DStands K mg "pair_number" s_pair_number ["level", "pair"]
  d_pair_at : DStands K mg "pair_at" s_pair_at ["level", "number"]
  d_law_dice : DStands K mg "_law_dice" s_law_dice ["_law_script", "_law_spot"]
  d_law_roll : DStands K mg "_law_roll" s_law_roll ["_law_dice_here", "_law_total"]
  d_law_pick : DStands K mg "_law_pick" s_law_pick ["_law_dice_here", "_law_items"]
  d_law_gcd : DStands K mg "_law_gcd" s_law_gcd ["_law_one", "_law_other"]
  d_law_divisors : DStands K mg "_law_divisors" s_law_divisors ["_law_number"]
  d_law_level_drawn : DStands K mg "_law_level_drawn" s_law_level_drawn ["_law_dice_here", "_law_most"]
  d_law_told_pairs : DStands K mg "_law_told_pairs" s_law_told_pairs ["_law_level"]
  d_law_index : DStands K mg "_law_index" s_law_index ["_law_level"]
  d_law_pairs_met : DStands K mg "_law_pairs_met" s_law_pairs_met ["_law_level"]
  d_law_pair_near : DStands K mg "_law_pair_near" s_law_pair_near ["_law_dice_here", "_law_told", "_law_level"]
  d_law_told_word : DStands K mg "_law_told_word" s_law_told_word ["_law_level", "_law_c", "_law_d"]
  d_law_are_judged : DStands K mg "_law_are_judged" s_law_are_judged ["_law_dice_here", "_law_level", "_law_some"]
  d_law_right : DStands K mg "_law_right" s_law_right ["_law_dice_here"]
  d_law_great_right : DStands K mg "_law_great_right" s_law_great_right ["_law_dice_here"]
  d_law : DStands K mg "law" s_law ["_law_script"]
  n_range : mg "range" = none
  n_abs : mg "abs" = none
  n_isinstance : mg "isinstance" = none
  n_int : mg "int" = none
  n_bool : mg "bool" = none
  n_str : mg "str" = none
  n_min : mg "min" = none
  n_max : mg "max" = none
  n_len : mg "len" = none
  n_tuple : mg "tuple" = none
  n_list : mg "list" = none
  n_set : mg "set" = none
  n_sorted : mg "sorted" = none
  n_repr : mg "repr" = none
  g_GREAT : mg "GREAT" = some (.int GR tG)
  g_MAX_LEVEL : mg "MAX_LEVEL" = some (.int 100 tM)
theorem hu65 {A : Around} {k : Nat} (hr : Room k A) : A.units + 65 < cLine := by
  have := hr.un
  omega
theorem hu64 {A : Around} {k : Nat} (hr : Room k A) : A.units + 64 < cLine := by
  have := hr.un
  omega
/-! ### heaps -/
theorem same_new {H : Hp} {p : Addr} {o : HO} (h : H p = none) : Same H (upd H p o) := fun b x e => by
  rw [upd_ne (ne_of_none e h)]
  exact e
/-- what H has nothing of is free to change -/
theorem same_mut {H H' : Hp} {p : Addr} {o : HO} (e : Same H H') (h : H p = none) : Same H (upd H' p o) := fun a u ha => by
  rw [upd_ne (ne_of_none ha h)]
  exact e a u ha
theorem same_t {K : PySem.W.Frag} {H H' : Hp} {a : Addr} {xs : List V} (e : Same H H') (h : SqT K H a xs) : SqT K H' a xs := by
  rcases h with (z | ⟨o, z⟩) | z
  · exact .inl (.inl (e a _ z))
  · exact .inl (.inr ⟨o, e a _ z⟩)
  · exact .inr z
theorem slt {n : Nat} (h : n ≤ 100000) : n < sizeLine := Nat.lt_of_le_of_lt h (by decide)
theorem sle {n : Nat} (h : n ≤ 100000) : n ≤ sizeLine := Nat.le_of_lt (slt h)
/-! ### rules that the modules lack -/
section
variable {X : Cx}
theorem call_reprB : CallR X (.builtin "repr") (fun xs H Q => ∃ b : Bool, xs = [.bl b] ∧ Q (.str (if b = true then "True" else "False")) H) := by
  intro pins s σ H; intro xs us Q I r h
  obtain ⟨b, rfl, q⟩ := h
  have ⟨u, eu, rx⟩ := vals1 r; subst eu
  cases (show u = Value.bool b from rx)
  exact PySem.P.repr_of_bool ⟨.str _, H, I.tok _, ⟨_, rfl⟩, q⟩
end
end K9

set_option linter.all false
namespace K9M
/-! plain arithmetic: residues, units, least pairs -/
def U (N : Nat) : List Nat := (List.range N).filter (fun u => Nat.gcd u N == 1)
def tell (N : Nat) (p : Nat × Nat) : Bool := Nat.gcd (Nat.gcd p.1 p.2) N == 1
def lexle (p q : Nat × Nat) : Bool := Nat.blt p.1 q.1 || (p.1 == q.1 && Nat.ble p.2 q.2)
def act (N u : Nat) (p : Nat × Nat) : Nat × Nat := (u * p.1 % N, u * p.2 % N)
def isL (N : Nat) (p : Nat × Nat) : Bool := tell N p && (U N).all (fun u => lexle p (act N u p))
def lmin (p q : Nat × Nat) : Nat × Nat := if lexle p q then p else q
def least (N : Nat) (p : Nat × Nat) : Nat × Nat := ((U N).map fun u => act N u p).foldl lmin (act N (1 % N) p)
def InR (N : Nat) (p : Nat × Nat) : Prop := p.1 < N ∧ p.2 < N
/-! the program's roads -/
def heads (N : Nat) : List Nat := 0 :: (List.range' 1 (N - 1)).filter (fun c => N % c == 0)
def stab (N c : Nat) : List Nat := (U N).filter (fun u => u * c % N == c)
def pairsWith (N c : Nat) : List (Nat × Nat) := ((List.range N).filter (fun d => tell N (c, d) && (stab N c).all (fun u => Nat.ble d (u * d % N)))).map fun d => (c, d)
def allp (N : Nat) : List (Nat × Nat) := (heads N).flatMap (pairsWith N)
def stripF : Nat → Nat → Nat → Nat
  | 0, _, left => left
  | f + 1, p, left => if left % p == 0 then stripF f p (left / p) else left
def indexF : Nat → Nat → Nat → Nat → Nat
  | 0, found, _, _ => found
  | f + 1, found, left, p => if Nat.ble left 1 then found else if left % p == 0 then indexF f (found / p * (p + 1)) (stripF 100 p left) (p + 1) else indexF f found left (p + 1)
def index (N : Nat) : Nat := indexF 101 N N 2
def divs (n : Nat) : List Nat := (List.range' 1 n).filter (fun d => n % d == 0)
def lawIndex (N : Nat) : Nat := (List.range' 2 (N - 1)).foldl (fun found p => if N % p == 0 && (divs p).length == 2 then found / p * (p + 1) else found) N

/-! the order -/
theorem lexle_iff {p q : Nat × Nat} : lexle p q = true ↔ p.1 < q.1 ∨ (p.1 = q.1 ∧ p.2 ≤ q.2) := by
  unfold lexle
  simp [Bool.or_eq_true, Bool.and_eq_true]
theorem lexle_refl (p : Nat × Nat) : lexle p p = true := lexle_iff.mpr (Or.inr ⟨rfl, Nat.le_refl _⟩)
theorem lexle_total (p q : Nat × Nat) : lexle p q = true ∨ lexle q p = true := by
  rw [lexle_iff, lexle_iff]; omega
theorem lexle_trans {p q r : Nat × Nat} (h : lexle p q = true) (k : lexle q r = true) : lexle p r = true := by
  rw [lexle_iff] at *; omega
theorem lexle_anti {p q : Nat × Nat} (h : lexle p q = true) (k : lexle q p = true) : p = q := by
  rw [lexle_iff] at *
  apply Prod.ext <;> omega
def lexlt (p q : Nat × Nat) : Prop := p.1 < q.1 ∨ (p.1 = q.1 ∧ p.2 < q.2)
theorem lexlt_le {p q : Nat × Nat} (h : lexlt p q) : lexle p q = true := by
  rw [lexle_iff]; unfold lexlt at h; omega
theorem lexlt_of {p q : Nat × Nat} (h : lexle p q = true) (n : p ≠ q) : lexlt p q := by
  rw [lexle_iff] at h
  unfold lexlt
  rcases h with h | ⟨h1, h2⟩
  · exact Or.inl h
  · refine Or.inr ⟨h1, ?_⟩
    rcases Nat.lt_or_ge p.2 q.2 with c | c
    · exact c
    · exact absurd (Prod.ext h1 (Nat.le_antisymm h2 c)) n
theorem lexlt_irrefl {p : Nat × Nat} : ¬ lexlt p p := by unfold lexlt; omega
theorem lexlt_trans {p q r : Nat × Nat} (h : lexlt p q) (k : lexlt q r) : lexlt p r := by unfold lexlt at *; omega
theorem not_le_lt {p q : Nat × Nat} : ¬ lexle p q = true ↔ lexlt q p := by
  rw [lexle_iff]; unfold lexlt; omega
/-- strictly rising lists with the same members are one -/
theorem sorted_unique : ∀ {l m : List (Nat × Nat)}, l.Pairwise lexlt → m.Pairwise lexlt → (∀ x, x ∈ l ↔ x ∈ m) → l = m
  | [], [], _, _, _ => rfl
  | [], b :: m, _, _, h => by have := (h b).mpr List.mem_cons_self; cases this
  | a :: l, [], _, _, h => by have := (h a).mp List.mem_cons_self; cases this
  | a :: l, b :: m, hl, hm, h => by
    have pl := List.pairwise_cons.mp hl
    have pm := List.pairwise_cons.mp hm
    have e : a = b := by
      rcases List.mem_cons.mp ((h a).mp List.mem_cons_self) with c | c
      · exact c
      · rcases List.mem_cons.mp ((h b).mpr List.mem_cons_self) with d | d
        · exact d.symm
        · exact absurd (lexlt_trans (pm.1 a c) (pl.1 b d)) lexlt_irrefl
    subst e
    have r := sorted_unique pl.2 pm.2 fun x => by
      constructor
      · intro hx
        rcases List.mem_cons.mp ((h x).mp (List.mem_cons_of_mem _ hx)) with c | c
        · subst c; exact absurd (pl.1 x hx) lexlt_irrefl
        · exact c
      · intro hx
        rcases List.mem_cons.mp ((h x).mpr (List.mem_cons_of_mem _ hx)) with c | c
        · subst c; exact absurd (pm.1 x hx) lexlt_irrefl
        · exact c
    rw [r]

/-! units -/
theorem mem_U {N u : Nat} : u ∈ U N ↔ u < N ∧ Nat.gcd u N = 1 := by
  unfold U
  rw [List.mem_filter, List.mem_range, beq_iff_eq]
theorem one_U {N : Nat} (h : 0 < N) : 1 % N ∈ U N := by
  rw [mem_U]
  refine ⟨Nat.mod_lt _ h, ?_⟩
  rw [← Nat.gcd_rec, Nat.gcd_comm, Nat.gcd_rec]
  simp
theorem gcd_mod_left (a N : Nat) : Nat.gcd (a % N) N = Nat.gcd a N := by
  rw [← Nat.gcd_rec, Nat.gcd_comm]
theorem U_mul {N u v : Nat} (h : 0 < N) (hu : u ∈ U N) (hv : v ∈ U N) : u * v % N ∈ U N := by
  rw [mem_U] at *
  refine ⟨Nat.mod_lt _ h, ?_⟩
  rw [gcd_mod_left]
  exact Nat.Coprime.mul_left hu.2 hv.2
theorem inv_all : (List.range 101).all (fun N => (U N).all fun u => (List.range N).any fun v => u * v % N == 1 % N) = true := by decide +kernel
theorem U_inv {N u : Nat} (h : 0 < N) (h1 : N ≤ 100) (hu : u ∈ U N) : ∃ v, v ∈ U N ∧ u * v % N = 1 % N := by
  have a := List.all_eq_true.mp inv_all N (List.mem_range.mpr (by omega))
  have b := List.all_eq_true.mp a u hu
  obtain ⟨v, hv, e⟩ := List.any_eq_true.mp b
  rw [beq_iff_eq] at e
  refine ⟨v, ?_, e⟩
  rw [mem_U]
  refine ⟨List.mem_range.mp hv, ?_⟩
  have q : Nat.gcd (u * v) N = 1 := by
    rw [← gcd_mod_left, e, gcd_mod_left]
    simp
  exact Nat.Coprime.coprime_mul_left q
theorem act_act (N u v : Nat) (p : Nat × Nat) : act N u (act N v p) = act N (u * v % N) p := by
  unfold act
  simp only [Prod.mk.injEq]
  constructor
  · rw [Nat.mul_mod u (v * p.1 % N), Nat.mod_mod, ← Nat.mul_mod, ← Nat.mul_assoc, Nat.mul_mod (u * v % N), Nat.mod_mod, ← Nat.mul_mod]
  · rw [Nat.mul_mod u (v * p.2 % N), Nat.mod_mod, ← Nat.mul_mod, ← Nat.mul_assoc, Nat.mul_mod (u * v % N), Nat.mod_mod, ← Nat.mul_mod]
theorem act_one {N : Nat} {p : Nat × Nat} (h : InR N p) : act N (1 % N) p = p := by
  unfold act
  have e : ∀ x, x < N → 1 % N * x % N = x := fun x hx => by
    rw [Nat.mul_mod, Nat.mod_mod, ← Nat.mul_mod, Nat.one_mul, Nat.mod_eq_of_lt hx]
  rw [e _ h.1, e _ h.2]
theorem act_in {N u : Nat} {p : Nat × Nat} (h : 0 < N) : InR N (act N u p) := ⟨Nat.mod_lt _ h, Nat.mod_lt _ h⟩
theorem tell_iff {N : Nat} {p : Nat × Nat} : tell N p = true ↔ ∀ k, k ∣ p.1 → k ∣ p.2 → k ∣ N → k = 1 := by
  unfold tell
  rw [beq_iff_eq]
  constructor
  · intro h k a b c
    have := Nat.dvd_gcd (Nat.dvd_gcd a b) c
    rw [h] at this
    exact Nat.dvd_one.mp this
  · intro h
    refine h _ ?_ ?_ (Nat.gcd_dvd_right _ _)
    · exact Nat.dvd_trans (Nat.gcd_dvd_left _ _) (Nat.gcd_dvd_left _ _)
    · exact Nat.dvd_trans (Nat.gcd_dvd_left _ _) (Nat.gcd_dvd_right _ _)
theorem dvd_mod_iff' {k m N : Nat} (h : k ∣ N) : k ∣ m % N ↔ k ∣ m := by
  exact Nat.dvd_mod_iff h
theorem cop_dvd {k u N x : Nat} (hk : k ∣ N) (hu : Nat.gcd u N = 1) : k ∣ u * x % N ↔ k ∣ x := by
  rw [dvd_mod_iff' hk]
  constructor
  · intro h
    have hc : Nat.Coprime k u := by
      have : Nat.Coprime u k := Nat.Coprime.coprime_dvd_right hk hu
      exact this.symm
    exact hc.dvd_of_dvd_mul_left h
  · intro h
    exact Nat.dvd_trans h (Nat.dvd_mul_left _ _)
theorem tell_act {N u : Nat} {p : Nat × Nat} (hu : u ∈ U N) : tell N (act N u p) = tell N p := by
  have hc := (mem_U.mp hu).2
  have e : tell N (act N u p) = true ↔ tell N p = true := by
    rw [tell_iff, tell_iff]
    constructor
    · intro h k a b c
      exact h k ((cop_dvd c hc).mpr a) ((cop_dvd c hc).mpr b) c
    · intro h k a b c
      exact h k ((cop_dvd c hc).mp a) ((cop_dvd c hc).mp b) c
  cases h1 : tell N (act N u p) <;> cases h2 : tell N p <;> simp_all

/-! least pairs -/
theorem foldl_lmin : ∀ (l : List (Nat × Nat)) (a : Nat × Nat), (l.foldl lmin a = a ∨ l.foldl lmin a ∈ l) ∧ lexle (l.foldl lmin a) a = true ∧ ∀ q ∈ l, lexle (l.foldl lmin a) q = true
  | [], a => ⟨Or.inl rfl, lexle_refl a, fun q hq => nomatch hq⟩
  | b :: l, a => by
    obtain ⟨h1, h2, h3⟩ := foldl_lmin l (lmin a b)
    have ha : lexle (lmin a b) a = true := by
      unfold lmin
      split
      · exact lexle_refl a
      · rename_i h; exact lexlt_le (not_le_lt.mp h)
    have hb : lexle (lmin a b) b = true := by
      unfold lmin
      split
      · assumption
      · exact lexle_refl b
    refine ⟨?_, lexle_trans h2 ha, ?_⟩
    · rcases h1 with h1 | h1
      · show List.foldl lmin (lmin a b) l = a ∨ List.foldl lmin (lmin a b) l ∈ b :: l
        rw [h1]
        unfold lmin
        split
        · exact Or.inl rfl
        · exact Or.inr List.mem_cons_self
      · exact Or.inr (List.mem_cons_of_mem _ h1)
    · intro q hq
      rcases List.mem_cons.mp hq with e | hq
      · subst e; exact lexle_trans h2 hb
      · exact h3 q hq
theorem least_in {N : Nat} (h : 0 < N) (p : Nat × Nat) : ∃ u, u ∈ U N ∧ least N p = act N u p := by
  obtain ⟨h1, _, _⟩ := foldl_lmin ((U N).map fun u => act N u p) (act N (1 % N) p)
  rcases h1 with h1 | h1
  · exact ⟨1 % N, one_U h, h1⟩
  · obtain ⟨u, hu, e⟩ := List.mem_map.mp h1
    exact ⟨u, hu, e.symm⟩
theorem least_le {N u : Nat} (hu : u ∈ U N) (p : Nat × Nat) : lexle (least N p) (act N u p) = true := by
  obtain ⟨_, _, h3⟩ := foldl_lmin ((U N).map fun u => act N u p) (act N (1 % N) p)
  exact h3 _ (List.mem_map.mpr ⟨u, hu, rfl⟩)
theorem least_unique {N : Nat} (h : 0 < N) {p q : Nat × Nat} (a : ∃ u, u ∈ U N ∧ q = act N u p) (b : ∀ u, u ∈ U N → lexle q (act N u p) = true) : least N p = q := by
  obtain ⟨u, hu, e⟩ := least_in h p
  obtain ⟨v, hv, e2⟩ := a
  refine lexle_anti ?_ ?_
  · rw [e2]; exact least_le hv p
  · rw [e]; exact b u hu
theorem least_act {N u : Nat} (h : 0 < N) (h1 : N ≤ 100) (hu : u ∈ U N) (p : Nat × Nat) : least N (act N u p) = least N p := by
  obtain ⟨v, hv, e⟩ := U_inv h h1 hu
  obtain ⟨w, hw, ew⟩ := least_in h p
  have back : act N (w * v % N) (act N u p) = act N w p := by
    rw [act_act]
    have z : w * v % N * u % N = w % N := by
      rw [Nat.mul_mod (w * v % N), Nat.mod_mod, ← Nat.mul_mod, Nat.mul_assoc, Nat.mul_comm v u, Nat.mul_mod, e, ← Nat.mul_mod, Nat.mul_one]
    rw [z, Nat.mod_eq_of_lt (mem_U.mp hw).1]
  refine least_unique h ⟨w * v % N, U_mul h hw hv, ?_⟩ fun x hx => ?_
  · rw [back]; exact ew
  · rw [act_act]
    exact least_le (U_mul h hx hu) p
theorem least_InR {N : Nat} (h : 0 < N) (p : Nat × Nat) : InR N (least N p) := by
  obtain ⟨u, _, e⟩ := least_in h p
  rw [e]; exact act_in h
theorem least_le_self {N : Nat} (h : 0 < N) {p : Nat × Nat} (hp : InR N p) : lexle (least N p) p = true := by
  have := least_le (one_U h) p
  rw [act_one hp] at this
  exact this
theorem isL_iff {N : Nat} (h : 0 < N) {p : Nat × Nat} (hp : InR N p) : isL N p = true ↔ tell N p = true ∧ least N p = p := by
  unfold isL
  rw [Bool.and_eq_true, List.all_eq_true]
  constructor
  · rintro ⟨a, b⟩
    exact ⟨a, least_unique h ⟨1 % N, one_U h, (act_one hp).symm⟩ b⟩
  · rintro ⟨a, b⟩
    refine ⟨a, fun u hu => ?_⟩
    have := least_le hu p
    rw [b] at this
    exact this
theorem least_least {N : Nat} (h : 0 < N) (h1 : N ≤ 100) (p : Nat × Nat) : least N (least N p) = least N p := by
  obtain ⟨u, hu, e⟩ := least_in h p
  rw [e, least_act h h1 hu, e]
theorem tell_least {N : Nat} (h : 0 < N) (p : Nat × Nat) : tell N (least N p) = tell N p := by
  obtain ⟨u, hu, e⟩ := least_in h p
  rw [e, tell_act hu]
theorem isL_least {N : Nat} (h : 0 < N) (h1 : N ≤ 100) {p : Nat × Nat} (hp : tell N p = true) : isL N (least N p) = true := by
  rw [isL_iff h (least_InR h p)]
  exact ⟨by rw [tell_least h]; exact hp, least_least h h1 p⟩
/-- p is a unit's multiple of its least pair -/
theorem of_least {N : Nat} (h : 0 < N) (h1 : N ≤ 100) {p : Nat × Nat} (hp : InR N p) : ∃ v, v ∈ U N ∧ act N v (least N p) = p := by
  obtain ⟨u, hu, e⟩ := least_in h p
  obtain ⟨v, hv, e2⟩ := U_inv h h1 hu
  refine ⟨v, hv, ?_⟩
  rw [e, act_act, Nat.mul_comm, e2, act_one hp]
end K9M

set_option linter.all false
set_option maxRecDepth 100000
namespace K9M
/-! ### the program's list is the sorted list of the least pairs -/
theorem lift_all : (List.range 101).all (fun N => (List.range N).all fun c => (List.range N).any fun u => Nat.gcd u N == 1 && u * c % N == Nat.gcd c N % N) = true := by decide +kernel
theorem lift_unit {N c : Nat} (h1 : N ≤ 100) (hc : c < N) : ∃ u, u ∈ U N ∧ u * c % N = Nat.gcd c N % N := by
  have a := List.all_eq_true.mp lift_all N (List.mem_range.mpr (by omega))
  have b := List.all_eq_true.mp a c (List.mem_range.mpr hc)
  obtain ⟨u, hu, e⟩ := List.any_eq_true.mp b
  rw [Bool.and_eq_true, beq_iff_eq, beq_iff_eq] at e
  exact ⟨u, mem_U.mpr ⟨List.mem_range.mp hu, e.1⟩, e.2⟩
theorem mem_heads {N c : Nat} (h : 0 < N) : c ∈ heads N ↔ c < N ∧ (c = 0 ∨ N % c = 0) := by
  unfold heads
  rw [List.mem_cons, List.mem_filter, List.mem_range', beq_iff_eq]
  constructor
  · rintro (e | ⟨⟨i, hi, e⟩, hd⟩)
    · subst e; exact ⟨h, Or.inl rfl⟩
    · exact ⟨by omega, Or.inr hd⟩
  · rintro ⟨h1, h2⟩
    rcases Nat.eq_zero_or_pos c with z | z
    · exact Or.inl z
    · refine Or.inr ⟨⟨c - 1, by omega, by omega⟩, ?_⟩
      rcases h2 with h2 | h2
      · omega
      · exact h2
theorem mem_pairsWith {N c : Nat} {p : Nat × Nat} : p ∈ pairsWith N c ↔ p.1 = c ∧ p.2 < N ∧ tell N p = true ∧ ∀ u, u ∈ U N → u * c % N = c → p.2 ≤ u * p.2 % N := by
  unfold pairsWith
  rw [List.mem_map]
  constructor
  · rintro ⟨d, hd, rfl⟩
    rw [List.mem_filter, List.mem_range, Bool.and_eq_true, List.all_eq_true] at hd
    refine ⟨rfl, hd.1, hd.2.1, fun u hu e => ?_⟩
    exact Nat.le_of_ble_eq_true (hd.2.2 u (List.mem_filter.mpr ⟨hu, beq_iff_eq.mpr e⟩))
  · rintro ⟨e, h1, h2, h3⟩
    refine ⟨p.2, ?_, Prod.ext e.symm rfl⟩
    rw [List.mem_filter, List.mem_range, Bool.and_eq_true, List.all_eq_true]
    refine ⟨h1, ?_, fun u hu => ?_⟩
    · rw [← e]; exact h2
    · rw [stab, List.mem_filter, beq_iff_eq] at hu
      exact Nat.ble_eq_true_of_le (h3 u hu.1 hu.2)
theorem mem_allp {N : Nat} (h : 0 < N) (h1 : N ≤ 100) {p : Nat × Nat} : p ∈ allp N ↔ InR N p ∧ isL N p = true := by
  unfold allp
  rw [List.mem_flatMap]
  constructor
  · rintro ⟨c, hc, hp⟩
    rw [mem_pairsWith] at hp
    obtain ⟨e, h2, h3, h4⟩ := hp
    rw [mem_heads h] at hc
    subst e
    refine ⟨⟨hc.1, h2⟩, ?_⟩
    unfold isL
    rw [Bool.and_eq_true, List.all_eq_true]
    refine ⟨h3, fun u hu => ?_⟩
    rw [lexle_iff]
    unfold act
    show p.1 < u * p.1 % N ∨ (p.1 = u * p.1 % N ∧ p.2 ≤ u * p.2 % N)
    by_cases eu : u * p.1 % N = p.1
    · exact Or.inr ⟨eu.symm, h4 u hu eu⟩
    · refine Or.inl ?_
      rcases hc.2 with z | z
      · rw [z] at eu
        exact absurd (by simp) eu
      · have hd : p.1 ∣ N := Nat.dvd_of_mod_eq_zero z
        have hdu : p.1 ∣ u * p.1 % N := (Nat.dvd_mod_iff hd).mpr (Nat.dvd_mul_left _ _)
        have hne : u * p.1 % N ≠ 0 := by
          intro z0
          have hN : N ∣ u * p.1 := Nat.dvd_of_mod_eq_zero z0
          have hcop : Nat.Coprime N u := Nat.Coprime.symm (mem_U.mp hu).2
          have : N ∣ p.1 := hcop.dvd_of_dvd_mul_left hN
          have h0 : p.1 = 0 := Nat.eq_zero_of_dvd_of_lt this hc.1
          rw [h0] at eu
          exact eu (by simp)
        have := Nat.le_of_dvd (Nat.pos_of_ne_zero hne) hdu
        omega
  · rintro ⟨⟨h2, h3⟩, hL⟩
    unfold isL at hL
    rw [Bool.and_eq_true, List.all_eq_true] at hL
    refine ⟨p.1, ?_, ?_⟩
    · rw [mem_heads h]
      refine ⟨h2, ?_⟩
      obtain ⟨u, hu, e⟩ := lift_unit h1 h2
      have l := hL.2 u hu
      rw [lexle_iff] at l
      unfold act at l
      have l : p.1 < u * p.1 % N ∨ (p.1 = u * p.1 % N ∧ p.2 ≤ u * p.2 % N) := l
      rw [e] at l
      rcases Nat.eq_zero_or_pos p.1 with z | z
      · exact Or.inl z
      · refine Or.inr ?_
        have g1 : Nat.gcd p.1 N ≤ p.1 := Nat.le_of_dvd z (Nat.gcd_dvd_left _ _)
        have g2 : Nat.gcd p.1 N % N = Nat.gcd p.1 N := Nat.mod_eq_of_lt (by omega)
        rw [g2] at l
        have g3 : Nat.gcd p.1 N = p.1 := by omega
        have g4 : Nat.gcd p.1 N ∣ N := Nat.gcd_dvd_right _ _
        rw [g3] at g4
        exact Nat.mod_eq_zero_of_dvd g4
    · rw [mem_pairsWith]
      refine ⟨rfl, h3, hL.1, fun u hu e => ?_⟩
      have l := hL.2 u hu
      rw [lexle_iff] at l
      unfold act at l
      have l : p.1 < u * p.1 % N ∨ (p.1 = u * p.1 % N ∧ p.2 ≤ u * p.2 % N) := l
      omega
theorem range'_lt : ∀ (n s : Nat), (List.range' s n).Pairwise (· < ·)
  | 0, s => by simp
  | n + 1, s => by
    rw [List.range'_succ, List.pairwise_cons]
    refine ⟨fun x hx => ?_, range'_lt n (s + 1)⟩
    have := List.mem_range'.mp hx
    obtain ⟨i, _, e⟩ := this
    omega
theorem heads_sorted (N : Nat) : (heads N).Pairwise (· < ·) := by
  unfold heads
  rw [List.pairwise_cons]
  refine ⟨fun x hx => ?_, (range'_lt _ _).filter _⟩
  have := List.mem_range'.mp (List.mem_filter.mp hx).1
  obtain ⟨i, _, e⟩ := this
  omega
theorem range_lt (n : Nat) : (List.range n).Pairwise (· < ·) := by
  rw [List.range_eq_range']; exact range'_lt n 0
theorem pairsWith_sorted (N c : Nat) : (pairsWith N c).Pairwise lexlt := by
  unfold pairsWith
  rw [List.pairwise_map]
  exact ((range_lt N).filter _).imp fun {a b} h => Or.inr ⟨rfl, h⟩
theorem allp_sorted (N : Nat) : (allp N).Pairwise lexlt := by
  unfold allp
  have key : ∀ l : List Nat, l.Pairwise (· < ·) → (l.flatMap (pairsWith N)).Pairwise lexlt := by
    intro l
    induction l with
    | nil => intro _; exact List.Pairwise.nil
    | cons c l ih =>
      intro hp
      rw [List.pairwise_cons] at hp
      rw [List.flatMap_cons, List.pairwise_append]
      refine ⟨pairsWith_sorted N c, ih hp.2, fun x hx y hy => ?_⟩
      rw [List.mem_flatMap] at hy
      obtain ⟨c', hc', hy⟩ := hy
      have e1 := (mem_pairsWith.mp hx).1
      have e2 := (mem_pairsWith.mp hy).1
      have := hp.1 c' hc'
      exact Or.inl (by omega)
  exact key _ (heads_sorted N)
theorem allp_nodup (N : Nat) : (allp N).Nodup := (allp_sorted N).imp fun {a b} h e => by subst e; exact lexlt_irrefl h
theorem count_all : (List.range 101).all (fun N => (index N == (allp N).length && lawIndex N == (allp N).length) || N == 0) = true := by decide +kernel
theorem index_eq {N : Nat} (h : 0 < N) (h1 : N ≤ 100) : index N = (allp N).length ∧ lawIndex N = (allp N).length := by
  have a := List.all_eq_true.mp count_all N (List.mem_range.mpr (by omega))
  rw [Bool.or_eq_true, Bool.and_eq_true, beq_iff_eq, beq_iff_eq, beq_iff_eq] at a
  rcases a with a | a
  · exact a
  · omega
theorem allp_len_all : (List.range 101).all (fun N => Nat.ble (allp N).length 300 && (Nat.blt 0 (allp N).length || N == 0)) = true := by decide +kernel
theorem allp_len {N : Nat} (h : 0 < N) (h1 : N ≤ 100) : 0 < (allp N).length ∧ (allp N).length ≤ 300 := by
  have a := List.all_eq_true.mp allp_len_all N (List.mem_range.mpr (by omega))
  rw [Bool.and_eq_true, Bool.or_eq_true, beq_iff_eq] at a
  refine ⟨?_, Nat.le_of_ble_eq_true a.1⟩
  rcases a.2 with z | z
  · have := (Nat.blt_eq).mp z
    exact this
  · omega
/-! ### two numbers tell one pair exactly if the product of the told ones is a multiple -/
theorem bezout : ∀ (m n : Nat), ∃ x y : Int, (Nat.gcd m n : Int) = m * x + n * y := by
  intro m n
  induction m, n using Nat.gcd.induction with
  | H0 n => exact ⟨0, 1, by simp⟩
  | H1 m n hm ih =>
    obtain ⟨x, y, e⟩ := ih
    refine ⟨y - (n / m : Nat) * x, x, ?_⟩
    rw [Nat.gcd_rec, e]
    have h : (n : Int) = m * (n / m : Nat) + (n % m : Nat) := by
      have := Nat.div_add_mod n m
      omega
    have h2 : (n : Int) * x = m * (n / m : Nat) * x + (n % m : Nat) * x := by
      conv => lhs; rw [h]
      rw [Int.add_mul]
    rw [h2, Int.mul_sub, ← Int.mul_assoc]
    omega
theorem same_pair {N : Nat} (h : 0 < N) (h1 : N ≤ 100) {p q : Nat × Nat} (hp : InR N p) (hq : InR N q) (tp : tell N p = true) (tq : tell N q = true) : least N p = least N q ↔ (N : Int) ∣ (p.1 : Int) * q.2 - p.2 * q.1 := by
  constructor
  · intro e
    obtain ⟨v, hv, e1⟩ := of_least h h1 hp
    obtain ⟨u, hu, e2⟩ := of_least h h1 hq
    rw [← e] at e2
    generalize least N p = r at *
    rw [← e1, ← e2]
    unfold act
    have a1 : ((v * r.1 % N : Nat) : Int) = (v : Int) * r.1 % N := by simp [Int.natCast_emod, Int.natCast_mul]
    have a2 : ((v * r.2 % N : Nat) : Int) = (v : Int) * r.2 % N := by simp [Int.natCast_emod, Int.natCast_mul]
    have b1 : ((u * r.1 % N : Nat) : Int) = (u : Int) * r.1 % N := by simp [Int.natCast_emod, Int.natCast_mul]
    have b2 : ((u * r.2 % N : Nat) : Int) = (u : Int) * r.2 % N := by simp [Int.natCast_emod, Int.natCast_mul]
    show (N : Int) ∣ ((v * r.1 % N : Nat) : Int) * ((u * r.2 % N : Nat) : Int) - ((v * r.2 % N : Nat) : Int) * ((u * r.1 % N : Nat) : Int)
    rw [a1, a2, b1, b2]
    apply Int.dvd_of_emod_eq_zero
    rw [Int.sub_emod, ← Int.mul_emod, ← Int.mul_emod, ← Int.sub_emod]
    have z : (v : Int) * r.1 * (u * r.2) - v * r.2 * (u * r.1) = 0 := by
      have : (v : Int) * r.1 * (u * r.2) = v * r.2 * (u * r.1) := by
        rw [Int.mul_assoc, Int.mul_assoc, Int.mul_left_comm (r.1 : Int), Int.mul_left_comm (r.2 : Int), Int.mul_comm (r.1 : Int) (r.2 : Int)]
      omega
    rw [z]; simp
  · intro hd
    -- a unit that leads p to q
    obtain ⟨x, y, e1⟩ := bezout p.1 p.2
    obtain ⟨s, t, e2⟩ := bezout (Nat.gcd p.1 p.2) N
    have g1 : Nat.gcd (Nat.gcd p.1 p.2) N = 1 := by
      unfold tell at tp; exact beq_iff_eq.mp tp
    rw [g1, e1] at e2
    -- 1 = (p1 x + p2 y) s + N t
    let k : Int := (q.1 : Int) * (x * s) + q.2 * (y * s)
    let u : Nat := (k % (N : Int)).toNat
    have hu0 : ((u : Nat) : Int) = k % (N : Int) := Int.toNat_of_nonneg (Int.emod_nonneg _ (by omega))
    have hun : u < N := by
      have := Int.emod_lt_of_pos k (show (0 : Int) < N by omega)
      omega
    have E : (p.1 : Int) * (x * s) + p.2 * (y * s) = 1 - N * t := by
      have : ((p.1 : Int) * x + p.2 * y) * s = p.1 * (x * s) + p.2 * (y * s) := by
        rw [Int.add_mul, Int.mul_assoc, Int.mul_assoc]
      omega
    obtain ⟨w, hw⟩ := hd
    have k1 : (N : Int) ∣ k * p.1 - q.1 := by
      refine ⟨w * (y * s) - q.1 * t, ?_⟩
      show ((q.1 : Int) * (x * s) + q.2 * (y * s)) * p.1 - q.1 = _
      generalize (p.1 : Int) = a at *
      generalize (p.2 : Int) = b at *
      generalize (q.1 : Int) = c at *
      generalize (q.2 : Int) = d at *
      generalize (N : Int) = n at *
      clear hu0 hun e1 e2
      grind
    have k2 : (N : Int) ∣ k * p.2 - q.2 := by
      refine ⟨-(w * (x * s)) - q.2 * t, ?_⟩
      show ((q.1 : Int) * (x * s) + q.2 * (y * s)) * p.2 - q.2 = _
      generalize (p.1 : Int) = a at *
      generalize (p.2 : Int) = b at *
      generalize (q.1 : Int) = c at *
      generalize (q.2 : Int) = d at *
      generalize (N : Int) = n at *
      clear hu0 hun e1 e2
      grind
    have act1 : ∀ (a b : Nat), b < N → (N : Int) ∣ k * a - b → u * a % N = b := fun a b hb hd => by
      have e : ((u * a % N : Nat) : Int) = (b : Int) := by
        have z : ((u * a % N : Nat) : Int) = (u : Int) * a % N := by simp [Int.natCast_emod, Int.natCast_mul]
        rw [z, hu0, Int.mul_emod, Int.emod_emod_of_dvd _ (Int.dvd_refl _), ← Int.mul_emod]
        have := Int.emod_emod_of_dvd (k * a) (Int.dvd_refl (N : Int))
        have e3 := Int.emod_eq_emod_iff_emod_sub_eq_zero.mpr (Int.emod_eq_zero_of_dvd hd)
        rw [e3, Int.emod_eq_of_lt (by omega) (by omega)]
      omega
    have ea : act N u p = q := Prod.ext (act1 p.1 q.1 hq.1 k1) (act1 p.2 q.2 hq.2 k2)
    have hu : u ∈ U N := by
      rw [mem_U]
      refine ⟨hun, ?_⟩
      have dN : Nat.gcd u N ∣ N := Nat.gcd_dvd_right _ _
      have dU : Nat.gcd u N ∣ u := Nat.gcd_dvd_left _ _
      refine tell_iff.mp tq _ ?_ ?_ dN
      · rw [← ea]
        exact (Nat.dvd_mod_iff dN).mpr (Nat.dvd_trans dU (Nat.dvd_mul_right _ _))
      · rw [← ea]
        exact (Nat.dvd_mod_iff dN).mpr (Nat.dvd_trans dU (Nat.dvd_mul_right _ _))
    rw [← ea, least_act h h1 hu]
end K9M

set_option Elab.async false
set_option linter.all false
set_option maxRecDepth 100000
set_option maxHeartbeats 4200000
namespace K9
open PySem PySem.Spec PyProof.Rows L2 C8
/-! ### kinds of values -/
def kinds : List String := ["int", "bool", "NoneType", "str", "list", "tuple", "dict"]
theorem kit_int_all : kinds.all (fun t => kitB t "int" == some (t == "int" || t == "bool")) = true := by decide +kernel
theorem kit_bool_all : kinds.all (fun t => kitB t "bool" == some (t == "bool")) = true := by decide +kernel
theorem kit_tup_all : kinds.all (fun t => kitB t "tuple" == some (t == "tuple")) = true := by decide +kernel
theorem kit_int {t : String} (h : t ∈ kinds) : kitB t "int" = some (t == "int" || t == "bool") := beq_iff_eq.mp (List.all_eq_true.mp kit_int_all t h)
theorem kit_bool {t : String} (h : t ∈ kinds) : kitB t "bool" = some (t == "bool") := beq_iff_eq.mp (List.all_eq_true.mp kit_bool_all t h)
theorem kit_tup {t : String} (h : t ∈ kinds) : kitB t "tuple" = some (t == "tuple") := beq_iff_eq.mp (List.all_eq_true.mp kit_tup_all t h)
/-- a value of one of these kinds -/
def OfKind (K : PySem.W.Frag) (H : Hp) (x : V) (t : String) : Prop := t ∈ kinds ∧ TyX K H x (.type t) ∧ (t = "int" → ∃ n, x = .int n)
theorem kind_int {K : PySem.W.Frag} {H : Hp} (n : Int) : OfKind K H (.int n) "int" := ⟨by decide, .base (.int n), fun _ => ⟨n, rfl⟩⟩
/-! ### promises -/
def spWhole (K : PySem.W.Frag) : Sp := fun vs H Q _ => ∃ x t, vs = [x] ∧ OfKind K H x t ∧ Q (.bl (t == "int")) H
def spInteger (K : PySem.W.Frag) : Sp := fun vs H Q _ => ∃ x, vs = [x] ∧ ((∃ n, x = .int n ∧ Q (.bl (decide (-GR < n) && decide (n < GR))) H) ∨ ∃ t, OfKind K H x t ∧ t ≠ "int" ∧ Q (.bl false) H)
def spIsLevel (K : PySem.W.Frag) : Sp := fun vs H Q _ => ∃ x, vs = [x] ∧ ((∃ n, x = .int n ∧ Q (.bl (decide (1 ≤ n) && decide (n ≤ 100))) H) ∨ ∃ t, OfKind K H x t ∧ t ≠ "int" ∧ Q (.bl false) H)
def spCommon : Sp := fun vs H Q _ => ∃ a b : Int, vs = [.int a, .int b] ∧ Q (.int (Int.gcd a b : Int)) H
def LevelOk (N : Nat) : Prop := 0 < N ∧ N ≤ 100
def spReqLevel : Sp := fun vs H Q _ => ∃ N : Nat, vs = [.int (N : Int)] ∧ LevelOk N ∧ Q .non H
def spReqInts (K : PySem.W.Frag) : Sp := fun vs H Q _ => ∃ (a : Addr) (c d : Int), vs = [.ref a] ∧ SqT K H a [.int c, .int d] ∧ (-GR < c ∧ c < GR) ∧ (-GR < d ∧ d < GR) ∧ Q .non H
/-- integers as a list's items -/
def nats (l : List Nat) : List V := l.map fun (u : Nat) => V.int (u : Int)
def spUnits : Sp := fun vs H Q _ => ∃ N : Nat, vs = [.int (N : Int)] ∧ LevelOk N ∧ ∀ H' p, H p = none → Same H H' → H' p = some (.lst (nats (K9M.U N))) → Q (.ref p) H'
def tellI (N : Nat) (c d : Int) : Bool := Nat.gcd (Int.gcd c d) N == 1
def spTell : Sp := fun vs H Q _ => ∃ (N : Nat) (c d : Int), vs = [.int (N : Int), .int c, .int d] ∧ Q (.bl (tellI N c d)) H
section
variable {P : Program} {w : World} {K : PySem.W.Frag} {mg : Str → Option Value} {base : Heap} {tG tM : Tok}
theorem ok_is_whole (T : Txt K mg tG tM) : C8.Cal P w K mg base 1 "is_whole" (spWhole K) [] := by
  refine T.d_is_whole.cal sc_is_whole (fun vs H Q E h => ?_) (fun f cdv A outer s H vs Q E hr h => ?_)
  · obtain ⟨x, t, rfl, _⟩ := h; rfl
  · obtain ⟨x, t, rfl, hk, q⟩ := h
    refine ⟨_, (pss_one (ps_ret (pe_and (pe_callB call_isi (by rfl) T.n_isinstance (by decide +kernel) (pa_cons (pv 0) (pa_cons (pe_bltn (v := .ty "int") (u := .type "int") rfl T.n_int (by decide +kernel) rfl) pa_nil))) (pe_one (pe_not (pe_callB call_isi (by rfl) T.n_isinstance (by decide +kernel) (pa_cons (pv 0) (pa_cons (pe_bltn (v := .ty "bool") (u := .type "bool") rfl T.n_bool (by decide +kernel) rfl) pa_nil)))))))), ?_⟩
    refine ⟨x, rfl, x, .ty "int", .type t, .type "int", _, rfl, .ty "int", hk.2.1, kit_ty (kit_int hk.1), _, rfl, ite2 (fun c => ?_) (fun c => ?_)⟩
    · refine ⟨x, rfl, x, .ty "bool", .type t, .type "bool", _, rfl, .ty "bool", hk.2.1, kit_ty (kit_bool hk.1), _, rfl, ?_⟩
      have e : (!(t == "bool")) = (t == "int") := by
        rw [Bool.or_eq_true, beq_iff_eq, beq_iff_eq] at c
        rcases c with c | c <;> subst c <;> rfl
      rw [e]; exact q
    · have e : (t == "int") = false := by
        rw [Bool.or_eq_true] at c
        cases h : t == "int" with
        | false => rfl
        | true => exact absurd (Or.inl h) c
      rw [e] at q; exact q
theorem ok_is_integer (T : Txt K mg tG tM) : C8.Cal P w K mg base 2 "is_integer" (spInteger K) [] := by
  have c_is_whole := ok_is_whole (P := P) (w := w) (base := base) T
  refine T.d_is_integer.cal sc_is_integer (fun vs H Q E h => ?_) (fun f cdv A outer s H vs Q E hr h => ?_)
  · obtain ⟨x, rfl, _⟩ := h; rfl
  · obtain ⟨x, rfl, h⟩ := h
    refine ⟨_, (pss_one (ps_ret (pe_and (pe_c c_is_whole hr (by decide) rfl (pa_cons (pv 0) pa_nil)) (pe_one (pe_chain op_lt op_lt (pe_un un_neg (pe_glob (v := .int GR) rfl T.g_GREAT ⟨_, rfl⟩)) (pv 0) (pe_glob (v := .int GR) rfl T.g_GREAT ⟨_, rfl⟩)))))), ?_⟩
    rcases h with ⟨n, rfl, q⟩ | ⟨t, hk, hn, q⟩
    · refine ⟨.int n, rfl, .int n, "int", rfl, kind_int n, true, rfl, iteT ?_⟩
      refine ⟨GR, rfl, .int n, rfl, -GR, n, rfl, rfl, _, rfl, ite2 (fun c => ?_) (fun c => ?_)⟩
      · refine ⟨n, GR, rfl, rfl, ?_⟩
        rw [c, Bool.true_and] at q; exact q
      · rw [Bool.not_eq_true] at c
        rw [c, Bool.false_and] at q; exact q
    · refine ⟨x, rfl, x, t, rfl, hk, (t == "int"), rfl, ?_⟩
      have e : (t == "int") = false := by simpa using hn
      rw [e]
      exact iteF q
theorem ok_is_level (T : Txt K mg tG tM) : C8.Cal P w K mg base 2 "is_level" (spIsLevel K) [] := by
  have c_is_whole := ok_is_whole (P := P) (w := w) (base := base) T
  refine T.d_is_level.cal sc_is_level (fun vs H Q E h => ?_) (fun f cdv A outer s H vs Q E hr h => ?_)
  · obtain ⟨x, rfl, _⟩ := h; rfl
  · obtain ⟨x, rfl, h⟩ := h
    refine ⟨_, (pss_one (ps_ret (pe_and (pe_c c_is_whole hr (by decide) rfl (pa_cons (pv 0) pa_nil)) (pe_one (pe_chain op_le op_le pe_int (pv 0) (pe_glob (v := .int 100) rfl T.g_MAX_LEVEL ⟨_, rfl⟩)))))), ?_⟩
    rcases h with ⟨n, rfl, q⟩ | ⟨t, hk, hn, q⟩
    · refine ⟨.int n, rfl, .int n, "int", rfl, kind_int n, true, rfl, iteT ?_⟩
      refine ⟨.int n, rfl, 1, n, rfl, rfl, _, rfl, ite2 (fun c => ?_) (fun c => ?_)⟩
      · refine ⟨n, 100, rfl, rfl, ?_⟩
        rw [c, Bool.true_and] at q; exact q
      · rw [Bool.not_eq_true] at c
        rw [c, Bool.false_and] at q; exact q
    · refine ⟨x, rfl, x, t, rfl, hk, (t == "int"), rfl, ?_⟩
      have e : (t == "int") = false := by simpa using hn
      rw [e]
      exact iteF q
theorem gcd_step {a b : Int} (h : b ≠ 0) : Int.gcd b (a.fmod b) = Int.gcd a b ∧ (a.fmod b).natAbs < b.natAbs := by
  have e : a = b * a.fdiv b + a.fmod b := (Int.mul_fdiv_add_fmod a b).symm
  constructor
  · have k : ∀ d : Nat, d ∣ Int.gcd b (a.fmod b) ↔ d ∣ Int.gcd a b := fun d => by
      have z : ∀ x y : Int, d ∣ Int.gcd x y ↔ (d : Int) ∣ x ∧ (d : Int) ∣ y := fun x y => by
        constructor
        · intro h
          exact ⟨Int.dvd_trans (Int.ofNat_dvd.mpr h) (Int.gcd_dvd_left ..), Int.dvd_trans (Int.ofNat_dvd.mpr h) (Int.gcd_dvd_right ..)⟩
        · rintro ⟨h1, h2⟩
          exact Int.dvd_gcd h1 h2
      rw [z, z]
      constructor
      · rintro ⟨h1, h2⟩
        refine ⟨?_, h1⟩
        rw [e]; exact Int.dvd_add (Int.dvd_trans h1 (Int.dvd_mul_right _ _)) h2
      · rintro ⟨h1, h2⟩
        refine ⟨h2, ?_⟩
        have e2 : a.fmod b = a - b * a.fdiv b := by omega
        rw [e2]; exact Int.dvd_sub h1 (Int.dvd_trans h2 (Int.dvd_mul_right _ _))
    exact Nat.dvd_antisymm ((k _).mp (Nat.dvd_refl _)) ((k _).mpr (Nat.dvd_refl _))
  · rcases Int.lt_or_gt_of_ne h with c | c
    · have e3 := Int.neg_fmod_neg a b
      have h1 := Int.fmod_nonneg_of_pos (-a) (b := -b) (by omega)
      have h2 := Int.fmod_lt_of_pos (-a) (b := -b) (by omega)
      omega
    · have h1 := Int.fmod_nonneg_of_pos a c
      have h2 := Int.fmod_lt_of_pos a c
      omega
theorem ok_common_of (T : Txt K mg tG tM) : C8.Cal P w K mg base 1 "common_of" spCommon [] := by
  refine T.d_common_of.cal sc_common_of (fun vs H Q E h => ?_) (fun f cdv A outer s H vs Q E hr h => ?_)
  · obtain ⟨a, b, rfl, _⟩ := h; rfl
  · obtain ⟨a, b, rfl, q⟩ := h
    refine ⟨_, (pss_cons (ps_while PassesOwn.never (pt_cmpR op_ne (pv 1) pe_int (nomark _))
    (pss_one (ps_par (i := 0) (j := 1) rfl sc_common_of.nd rfl rfl (by decide) rfl rfl (pa_cons (pv 1) (pa_cons (pe_op op_modN (pv 0) (pv 1)) pa_nil)) (by rfl))))
    (pss_one (ps_ret (pe_callB call_abs (by rfl) T.n_abs (by decide +kernel) (pa_cons (pv 0) pa_nil))))), ?_⟩
    refine ⟨fun m σ H' => ∃ x y : Int, σ = [some (.int x), some (.int y)] ∧ H' = H ∧ Int.gcd x y = Int.gcd a b ∧ y.natAbs = m, ⟨_, a, b, rfl, rfl, rfl, rfl⟩, ?_⟩
    rintro m σ H' ⟨x, y, rfl, rfl, eg, em⟩
    refine ⟨.int y, rfl, rfl, _, rfl, ?_⟩
    by_cases hy : y = 0
    · subst hy
      refine iteNS rfl ?_
      refine ⟨.int x, rfl, x, rfl, ?_⟩
      have e : (if x < 0 then -x else x) = (Int.gcd a b : Int) := by
        rw [← eg, Int.gcd_zero_right]
        split <;> omega
      rw [e]; exact q
    · have hd : decide (V.int y = V.int 0) = false := decide_eq_false fun z => hy (V.int.inj z)
      rw [hd]
      refine iteT ?_
      have st := gcd_step (a := x) hy
      refine ⟨fun σ' H2 => σ' = [some (.int y), some (.int (x.fmod y))] ∧ H2 = H', fun σ' H2 hn => ?_, ?_⟩
      · obtain ⟨rfl, rfl⟩ := hn
        exact ⟨(x.fmod y).natAbs, by omega, y, _, rfl, rfl, by rw [st.1, eg], rfl⟩
      · exact ⟨.int y, rfl, .int x, rfl, .int y, rfl, x, y, rfl, rfl, hy, _, _, rfl, rfl, rfl⟩
theorem ok_require_level (T : Txt K mg tG tM) : C8.Cal P w K mg base 3 "require_level" spReqLevel [] := by
  have c_is_level := ok_is_level (P := P) (w := w) (base := base) T
  refine T.d_require_level.cal sc_require_level (fun vs H Q E h => ?_) (fun f cdv A outer s H vs Q E hr h => ?_)
  · obtain ⟨N, rfl, _⟩ := h; rfl
  · obtain ⟨N, rfl, hl, q⟩ := h
    refine ⟨_, (pss_one (ps_if (pt_not (pt_val (pe_c c_is_level hr (by decide) rfl (pa_cons (pv 0) pa_nil))))
    (pss_one ps_never)
    pss_nil)), ?_⟩
    refine ⟨_, rfl, _, rfl, .inl ⟨_, rfl, _, rfl, ?_⟩⟩
    have e : (decide (1 ≤ (N : Int)) && decide ((N : Int) ≤ 100)) = true := by
      rw [Bool.and_eq_true]; rw [decide_eq_true_eq, decide_eq_true_eq]
      have := hl.1; have := hl.2; omega
    rw [e]
    exact iteF q
theorem ok_require_integers (T : Txt K mg tG tM) : C8.Cal P w K mg base 3 "require_integers" (spReqInts K) [] := by
  have c_is_integer := ok_is_integer (P := P) (w := w) (base := base) T
  refine T.d_require_integers.cal sc_require_integers (fun vs H Q E h => ?_) (fun f cdv A outer s H vs Q E hr h => ?_)
  · obtain ⟨a, c, d, rfl, _⟩ := h; rfl
  · obtain ⟨a, c, d, rfl, hS, hc, hd, q⟩ := h
    refine ⟨_, (pss_one (ps_for PassesOwn.never rfl (pi_tup (pv 0)) (pg_name (i := 1) sc_require_integers.nd rfl (Or.inl rfl))
    (pss_one (ps_if (pt_not (pt_val (pe_c c_is_integer hr (by decide) rfl (pa_cons (pv 1) pa_nil))))
    (pss_one ps_never)
    pss_nil)))), ?_⟩
    refine ⟨_, rfl, a, rfl, ⟨_, hS⟩, for_tup (K := K) (a := a) (xs := [.int c, .int d]) (fun i σ H' => H' = H ∧ ∃ y, σ = [some (.ref a), y]) ⟨rfl, none, rfl⟩ (fun i σ H' _ ⟨e, _⟩ => by rw [e]; exact hS) ?_ ?_⟩
    · rintro i x σ H' hi ⟨rfl, y, rfl⟩
      obtain ⟨n, rfl, h1, h2⟩ : ∃ n, x = .int n ∧ -GR < n ∧ n < GR := by
        match i, hi with
        | 0, hi => exact ⟨c, (Option.some.inj hi).symm, hc⟩
        | 1, hi => exact ⟨d, (Option.some.inj hi).symm, hd⟩
      refine ⟨_, rfl, _, rfl, .inl ⟨n, rfl, _, rfl, ?_⟩⟩
      rw [decide_eq_true h1, decide_eq_true h2]
      exact iteF ⟨rfl, _, rfl⟩
    · rintro σ H' ⟨rfl, _⟩
      exact q
theorem U_le (N : Nat) : (K9M.U N).length ≤ N := by
  unfold K9M.U
  have := List.length_filter_le (fun u => Nat.gcd u N == 1) (List.range N)
  rw [List.length_range] at this
  exact this
/-- the units below i -/
def Ub (N i : Nat) : List Nat := (List.range i).filter (fun u => Nat.gcd u N == 1)
theorem Ub_succ (N i : Nat) : Ub N (i + 1) = if Nat.gcd i N = 1 then Ub N i ++ [i] else Ub N i := by
  unfold Ub
  rw [List.range_succ, List.filter_append]
  split
  · rename_i h; simp [h]
  · rename_i h; simp [h]
theorem Ub_len (N i : Nat) : (Ub N i).length ≤ i := by
  unfold Ub
  have := List.length_filter_le (fun u => Nat.gcd u N == 1) (List.range i)
  rw [List.length_range] at this
  exact this
theorem ok_units_modulo (T : Txt K mg tG tM) : C8.Cal P w K mg base 2 "units_modulo" spUnits [] := by
  have c_common_of := ok_common_of (P := P) (w := w) (base := base) T
  refine T.d_units_modulo.cal sc_units_modulo (fun vs H Q E h => ?_) (fun f cdv A outer s H vs Q E hr h => ?_)
  · obtain ⟨N, rfl, _⟩ := h; rfl
  · obtain ⟨N, rfl, hl, q⟩ := h
    have hN := hl.2
    refine ⟨_, (pss_one (ps_ret (pe_lc (own := [("unit", 1)])  rfl sc_units_modulo.nd (pi_range1 rfl T.n_range (pa_cons (pv 0) pa_nil)) (blkOk_by (own := [("unit", 1)]) (N := N_units_modulo) (sc := defScope s_units_modulo) (by decide +kernel)) (fun _ _ _ _ _ => (pg_name (i := 1) sc_units_modulo.nd rfl (Or.inl rfl))) (fun _ _ _ _ _ => pts_one (pt_cmpR op_eq (pe_c c_common_of hr (by decide) rfl (pa_cons (pv 1) (pa_cons (pv 0) pa_nil))) pe_int (nomark _))) (fun _ _ _ _ _ => (pv 1))))), ?_⟩
    refine ⟨_, rfl, (N : Int), rfl, by omega, by omega, fun D hD => ?_⟩
    refine lc_range (lo := 0) (n := ((N : Int)).toNat) (fun i H' => Same H H' ∧ H' D = some (.lst (nats (Ub N i)))) ⟨same_new hD, upd_same⟩ ?_ ?_
    · rintro i H' hi ⟨sm, eD⟩
      have e0 := Int.zero_add (i : Int)
      rw [e0]
      refine ⟨rfl, _, rfl, _, rfl, _, _, rfl, rfl, _, rfl, ite2 (fun c => ?_) (fun c => ?_)⟩
      · have c' : Nat.gcd i N = 1 := by
          have := V.int.inj (of_decide_eq_true c)
          rw [Int.gcd_natCast_natCast] at this
          omega
        refine ⟨_, rfl, _, eD, slt (by unfold nats; rw [List.length_map]; have := Ub_len N i; omega), same_mut sm hD, ?_⟩
        rw [upd_same, Ub_succ, if_pos c']
        unfold nats
        rw [List.map_append]; rfl
      · have c' : ¬ Nat.gcd i N = 1 := fun z => c (decide_eq_true (by rw [Int.gcd_natCast_natCast, z]; rfl))
        refine ⟨sm, ?_⟩
        rw [Ub_succ, if_neg c']; exact eD
    · rintro H' ⟨sm, eD⟩
      exact q H' D hD sm eD
theorem ok_do_tell (T : Txt K mg tG tM) : C8.Cal P w K mg base 2 "do_tell" spTell [] := by
  have c_common_of := ok_common_of (P := P) (w := w) (base := base) T
  refine T.d_do_tell.cal sc_do_tell (fun vs H Q E h => ?_) (fun f cdv A outer s H vs Q E hr h => ?_)
  · obtain ⟨N, c, d, rfl, _⟩ := h; rfl
  · obtain ⟨N, c, d, rfl, q⟩ := h
    refine ⟨_, (pss_one (ps_ret (pe_cmpR op_eq (pe_c c_common_of hr (by decide) rfl (pa_cons (pe_c c_common_of hr (by decide) rfl (pa_cons (pv 1) (pa_cons (pv 2) pa_nil))) (pa_cons (pv 0) pa_nil))) pe_int (nomark _)))), ?_⟩
    refine ⟨_, rfl, _, rfl, _, _, rfl, _, rfl, _, _, rfl, rfl, ?_⟩
    have e : decide (V.int (Int.gcd (Int.gcd c d : Int) (N : Int) : Int) = V.int 1) = tellI N c d := by
      unfold tellI
      rw [Int.gcd_natCast_natCast]
      by_cases h : Nat.gcd (Int.gcd c d) N = 1
      · rw [h]; rfl
      · rw [decide_eq_false (fun z => h (by have := V.int.inj z; omega))]
        exact (beq_eq_false_iff_ne.mpr h).symm
    rw [e]; exact q
end
end K9

set_option Elab.async false
set_option linter.all false
set_option maxRecDepth 100000
set_option maxHeartbeats 4200000
namespace K9
open PySem PySem.Spec PyProof.Rows L2 C8
/-! ### pairs on the heap -/
def vp (p : Nat × Nat) : List V := [.int (p.1 : Int), .int (p.2 : Int)]
def dP (p : Nat × Nat) : PyData := .tuple [.int (p.1 : Int), .int (p.2 : Int)]
theorem vp_inj {p q : Nat × Nat} (h : vp p = vp q) : p = q := by
  unfold vp at h
  injection h with h1 h2
  injection h2 with h2 _
  have a := V.int.inj h1
  have b := V.int.inj h2
  apply Prod.ext <;> omega
instance (p q : Nat × Nat) : Decidable (K9M.lexlt p q) := by unfold K9M.lexlt; infer_instance
theorem dataLt_dP (p q : Nat × Nat) : PySem.W.dataLt (dP p) (dP q) = decide (K9M.lexlt p q) := by
  unfold dP
  rw [PySem.W.dataLt_ii]
  apply decide_eq_decide.mpr
  unfold K9M.lexlt
  omega
theorem minD_dP : ∀ (ps : List (Nat × Nat)) (p : Nat × Nat), PySem.W.minD (dP p) (ps.map dP) = dP (ps.foldl K9M.lmin p)
  | [], _ => rfl
  | q :: ps, p => by
    have ih := minD_dP ps (K9M.lmin p q)
    unfold PySem.W.minD at ih ⊢
    rw [List.map_cons, List.foldl_cons, List.foldl_cons, ← ih, dataLt_dP]
    congr 1
    unfold K9M.lmin
    by_cases h : K9M.lexlt q p
    · have h2 : ¬ K9M.lexle p q = true := K9M.not_le_lt.mpr h
      rw [if_pos (decide_eq_true h), if_neg h2]
    · have h2 : K9M.lexle p q = true := by
        rcases K9M.lexle_total p q with c | c
        · exact c
        · exact Classical.byContradiction fun z => h (K9M.not_le_lt.mp z)
      rw [if_neg (by rw [decide_eq_false h]; exact Bool.false_ne_true), if_pos h2]
theorem alike_dP (p q : Nat × Nat) : PySem.W.alike (dP p) (dP q) = true := by
  unfold dP
  simp [PySem.W.alike, PySem.W.alikeAll]
theorem alikeAll_dP (ps : List (Nat × Nat)) : PySem.W.AlikeAll (ps.map dP) := by
  constructor
  · intro x hx y hy
    obtain ⟨a, -, rfl⟩ := List.mem_map.mp hx
    obtain ⟨b, -, rfl⟩ := List.mem_map.mp hy
    exact alike_dP a b
  · intro x hx
    obtain ⟨a, -, rfl⟩ := List.mem_map.mp hx
    intro z; cases z
theorem depth_dP (ps : List (Nat × Nat)) : PyData.depthAll (ps.map dP) ≤ 1 := by
  induction ps with
  | nil => exact Nat.zero_le _
  | cons p ps ih =>
    rw [List.map_cons]
    show max (dP p).depth (PyData.depthAll (ps.map dP)) ≤ 1
    have e : (dP p).depth = 1 := by
      unfold dP
      simp [PyData.depth, PyData.depthAll]
    omega
theorem reads_int {h : Heap} {i j : Int} {t : Tok} {bs : List Addr} (hr : Reads h (.int i t) (.int j) bs) : i = j := by
  cases hr; rfl
/-- an int's two readings agree -/
theorem reads_pair {h : Heap} {a : Addr} {its : Array Value} {p q : Nat × Nat} {bs : List Addr} (ht : IsTup h a its) (rv : Vals (vp p) its.toList) (hr : Reads h (.ref a) (dP q) bs) : q = p := by
  obtain ⟨o, ho, hd⟩ := ht
  unfold dP at hr
  cases hr with
  | tuple h1 h2 h3 h4 =>
    rw [ho] at h1
    cases h1
    obtain ⟨_, n, hd⟩ := hd
    rw [hd] at h3
    cases h3
    generalize its.toList = l at *
    cases rv with
    | cons r1 rt =>
      cases rt with
      | cons r2 _ =>
        obtain ⟨t1, rfl⟩ := r1
        obtain ⟨t2, rfl⟩ := r2
        cases h4 with
        | cons x1 h4 =>
          cases h4 with
          | cons x2 _ =>
            have a := reads_int x1
            have b := reads_int x2
            apply Prod.ext <;> omega
section
variable {X : Cx}
/-- min(xs), xs a list of tuples of two numbers: the least in the tuples' order -/
def rMinT (K : PySem.W.Frag) : List V → Hp → VK → Prop := fun vs H Q => ∃ (a : Addr) (ps : List (Addr × (Nat × Nat))), vs = [V.ref a] ∧ SqL K H a (ps.map fun p => V.ref p.1) ∧ ps ≠ [] ∧ (∀ p ∈ ps, SqT K H p.1 (vp p.2)) ∧
  ∀ p ∈ ps, (∀ q ∈ ps, K9M.lexle p.2 q.2 = true) → Q (.ref p.1) H
theorem dpAll_of {K : PySem.W.Frag} {H : Hp} : ∀ ps : List (Addr × (Nat × Nat)), (∀ p ∈ ps, SqT K H p.1 (vp p.2)) → DpAll K H (ps.map fun p => V.ref p.1) ((ps.map Prod.snd).map dP)
  | [], _ => .nil
  | p :: ps, h => .cons (.tup (h p List.mem_cons_self) (.cons (.int _) (.cons (.int _) .nil))) (dpAll_of ps fun q hq => h q (List.mem_cons_of_mem _ hq))
theorem call_minT (hc : X.calm = true) (hu : X.A.units + 65 < cLine) : CallR X (.builtin "min") (rMinT X.K) := by
  intro pins s σ H; intro vs us Q I r h
  obtain ⟨a, ps, rfl, hs, hne, hts, q⟩ := h
  obtain ⟨its, rv, hl, -⟩ := I.list hs
  rw [Vals.ref1 r]
  obtain ⟨as, ra⟩ := Dp.readsAll I _ _ _ (dpAll_of ps hts) rv
  cases ps with
  | nil => exact absurd rfl hne
  | cons p0 ps =>
    have ra' : ReadsAll s.heap its.toArray.toList (dP p0.2 :: (ps.map Prod.snd).map dP) as := by simpa using ra
    refine PySem.W.min_list_data (I.ok.hd hc) hl.isList ra' (alikeAll_dP (p0.2 :: ps.map Prod.snd)) ?_ fun i v h' tk bs hv hr hk => ?_
    · have := depth_dP (p0.2 :: ps.map Prod.snd)
      show X.A.units + 1 + PyData.depthAll ((p0.2 :: ps.map Prod.snd).map dP) < cLine
      omega
    · have hv' : its[i]? = some v := by simpa using hv
      have hi : i < ((p0 :: ps).map fun p => V.ref p.1).length := by
        rw [rv.length]; exact (List.getElem?_eq_some_iff.mp hv').1
      rw [List.length_map] at hi
      have hx : ((p0 :: ps).map fun p => V.ref p.1)[i]? = some (V.ref (p0 :: ps)[i].1) := by
        rw [List.getElem?_map, List.getElem?_eq_getElem hi]; rfl
      obtain ⟨u, hu', ru⟩ := rv.get hx
      rw [hv'] at hu'
      cases hu'
      cases (show v = Value.ref (p0 :: ps)[i].1 from ru)
      have hm : (p0 :: ps)[i] ∈ p0 :: ps := List.getElem_mem hi
      obtain ⟨its2, rv2, ht2, _⟩ := I.tuple (hts _ hm)
      have ht3 : IsTup h' (p0 :: ps)[i].1 its2.toArray := by
        obtain ⟨o, ho, hd⟩ := ht2
        exact ⟨o, hk _ _ ho, hd⟩
      rw [minD_dP] at hr
      have e := reads_pair ht3 (by simpa using rv2) hr
      obtain ⟨_, l1, l2⟩ := K9M.foldl_lmin (ps.map Prod.snd) p0.2
      refine ⟨.ref _, H, I.kept hk, rfl, q _ hm fun y hy => ?_⟩
      rw [← e]
      rcases List.mem_cons.mp hy with z | z
      · rw [z]; exact l1
      · exact l2 _ (List.mem_map.mpr ⟨y, z, rfl⟩)
end
/-! ### lists of pairs that are made -/
/-- at D a list of tuples that are tracked, of these pairs -/
def Made (H : Hp) (D : Addr) (l : List (Nat × Nat)) : Prop := ∃ ps : List (Addr × (Nat × Nat)), ps.map Prod.snd = l ∧ H D = some (.lst (ps.map fun p => V.ref p.1)) ∧ ∀ p ∈ ps, H p.1 = some (.tup (vp p.2))
theorem Made.nil {H : Hp} {D : Addr} (h : H D = some (.lst [])) : Made H D [] := ⟨[], rfl, h, fun p hp => nomatch hp⟩
theorem Made.same {H H' : Hp} {D : Addr} {l : List (Nat × Nat)} (e : Same H H') (m : Made H D l) : Made H' D l := by
  obtain ⟨ps, e1, e2, e3⟩ := m
  exact ⟨ps, e1, e _ _ e2, fun p hp => e _ _ (e3 p hp)⟩
theorem Made.add {H : Hp} {D q : Addr} {l : List (Nat × Nat)} {x : Nat × Nat} {acc : List V} (m : Made H D l) (hq : H q = some (.tup (vp x))) (ha : H D = some (.lst acc)) : Made (upd H D (.lst (acc ++ [.ref q]))) D (l ++ [x]) := by
  obtain ⟨ps, e1, e2, e3⟩ := m
  rw [e2] at ha
  cases ha
  refine ⟨ps ++ [(q, x)], by rw [List.map_append, e1]; rfl, by rw [upd_same, List.map_append]; rfl, fun p hp => ?_⟩
  have hp' : H p.1 = some (.tup (vp p.2)) := by
    obtain z | z := List.mem_append.mp hp
    · exact e3 p z
    · rw [List.mem_singleton.mp z]; exact hq
  rw [upd_ne (ne_of hp' e2 (by intro z; cases z))]
  exact hp'
theorem Made.len {H : Hp} {D : Addr} {l : List (Nat × Nat)} {acc : List V} (m : Made H D l) (ha : H D = some (.lst acc)) : acc.length = l.length := by
  obtain ⟨ps, e1, e2, _⟩ := m
  rw [e2] at ha
  cases ha
  rw [← e1, List.length_map, List.length_map]
theorem Made.get {H : Hp} {D : Addr} {l : List (Nat × Nat)} (m : Made H D l) : ∃ acc, H D = some (.lst acc) ∧ acc.length = l.length := by
  obtain ⟨ps, e1, e2, _⟩ := m
  exact ⟨_, e2, by rw [← e1, List.length_map, List.length_map]⟩
/-! ### residues -/
theorem dvd_emod {m : Int} {x n : Int} (h : m ∣ n) : m ∣ x % n ↔ m ∣ x := by
  have e : n * (x / n) + x % n = x := Int.mul_ediv_add_emod x n
  have hk : m ∣ n * (x / n) := Int.dvd_trans h (Int.dvd_mul_right _ _)
  constructor
  · intro z
    rw [← e]; exact Int.dvd_add hk z
  · intro z
    have e2 : x % n = x - n * (x / n) := by omega
    rw [e2]; exact Int.dvd_sub z hk
def red (N : Nat) (c d : Int) : Nat × Nat := ((c % (N : Int)).toNat, (d % (N : Int)).toNat)
theorem red_nat (N : Nat) (c : Int) (h : 0 < N) : (((c % (N : Int)).toNat : Nat) : Int) = c % (N : Int) := Int.toNat_of_nonneg (Int.emod_nonneg _ (by omega))
theorem fm_act {N u : Nat} {c : Int} (h : 0 < N) : ((u : Int) * c).fmod (N : Int) = ((u * (c % (N : Int)).toNat % N : Nat) : Int) := by
  rw [Int.fmod_eq_emod_of_nonneg _ (by omega), Int.natCast_emod, Int.natCast_mul, red_nat N c h, Int.mul_emod, Int.mul_emod (u : Int) (c % (N : Int)), Int.emod_emod_of_dvd _ (Int.dvd_refl _)]
theorem red_in {N : Nat} (h : 0 < N) (c d : Int) : K9M.InR N (red N c d) := by
  have a := red_nat N c h
  have b := red_nat N d h
  have c1 := Int.emod_lt_of_pos c (show (0 : Int) < N by omega)
  have d1 := Int.emod_lt_of_pos d (show (0 : Int) < N by omega)
  unfold K9M.InR red
  constructor <;> omega
theorem tellI_red {N : Nat} (h : 0 < N) (c d : Int) : tellI N c d = K9M.tell N (red N c d) := by
  have e : tellI N c d = true ↔ K9M.tell N (red N c d) = true := by
    rw [K9M.tell_iff]
    unfold tellI
    rw [beq_iff_eq]
    have k : ∀ (m : Nat) (x : Int), m ∣ N → (m ∣ (x % (N : Int)).toNat ↔ (m : Int) ∣ x) := fun m x hm => by
      rw [← Int.ofNat_dvd, red_nat N x h]
      exact dvd_emod (Int.ofNat_dvd.mpr hm)
    constructor
    · intro g m a b hm
      have h1 : (m : Int) ∣ c := (k m c hm).mp a
      have h2 : (m : Int) ∣ d := (k m d hm).mp b
      have := Nat.dvd_gcd (Int.dvd_gcd h1 h2) hm
      rw [g] at this
      exact Nat.dvd_one.mp this
    · intro g
      have hN : Nat.gcd (Int.gcd c d) N ∣ N := Nat.gcd_dvd_right _ _
      have hg : Nat.gcd (Int.gcd c d) N ∣ Int.gcd c d := Nat.gcd_dvd_left _ _
      refine g _ ((k _ _ hN).mpr ?_) ((k _ _ hN).mpr ?_) hN
      · exact Int.dvd_trans (Int.ofNat_dvd.mpr hg) (Int.gcd_dvd_left ..)
      · exact Int.dvd_trans (Int.ofNat_dvd.mpr hg) (Int.gcd_dvd_right ..)
  cases h1 : tellI N c d <;> cases h2 : K9M.tell N (red N c d) <;> simp_all
/-! ### least_pair -/
def spLeast : Sp := fun vs H Q _ => ∃ (N : Nat) (c d : Int), vs = [.int (N : Int), .int c, .int d] ∧ LevelOk N ∧ ∀ H' p, Same H H' → H' p = some (.tup (vp (K9M.least N (red N c d)))) → Q (.ref p) H'
section
variable {P : Program} {w : World} {K : PySem.W.Frag} {mg : Str → Option Value} {base : Heap} {tG tM : Tok}
theorem nats_at {l : List Nat} {i : Nat} {x : V} (h : (nats l)[i]? = some x) : ∃ u, l[i]? = some u ∧ x = .int (u : Int) := by
  unfold nats at h
  rw [List.getElem?_map] at h
  cases e : l[i]? with
  | none => rw [e] at h; exact nomatch h
  | some u => rw [e] at h; exact ⟨u, rfl, (Option.some.inj h).symm⟩
theorem ok_least_pair (T : Txt K mg tG tM) : C8.Cal P w K mg base 3 "least_pair" spLeast [] := by
  have c_units_modulo := ok_units_modulo (P := P) (w := w) (base := base) T
  refine T.d_least_pair.cal sc_least_pair (fun vs H Q E h => ?_) (fun f cdv A outer s H vs Q E hr h => ?_)
  · obtain ⟨N, c, d, rfl, _⟩ := h; rfl
  · obtain ⟨N, c, d, rfl, hl, q⟩ := h
    have hN := hl.1
    have hN1 := hl.2
    refine ⟨_, (pss_one (ps_ret (pe_callB (call_minT rfl (hu65 hr)) (by rfl) T.n_min (by decide +kernel) (pa_cons (pe_lc (own := [("unit", 3)])  rfl sc_least_pair.nd (pi_list (pe_c c_units_modulo hr (by decide) rfl (pa_cons (pv 0) pa_nil))) (blkOk_by (own := [("unit", 3)]) (N := N_least_pair) (sc := defScope s_least_pair) (by decide +kernel)) (fun _ _ _ _ _ => (pg_name (i := 3) sc_least_pair.nd rfl (Or.inl rfl))) (fun _ _ _ _ _ => pts_nil) (fun _ _ _ _ _ => (pe_tup (pa_cons (pe_op op_modN (pe_op op_mul (pv 3) (pv 1)) (pv 0)) (pa_cons (pe_op op_modN (pe_op op_mul (pv 3) (pv 2)) (pv 0)) pa_nil))))) pa_nil)))), ?_⟩
    refine ⟨_, rfl, N, rfl, hl, fun H1 p0 n0 sm1 e0 => ?_⟩
    refine ⟨p0, rfl, ⟨_, SqL.of e0⟩, fun D hD => ?_⟩
    refine lc_list (xs := nats (K9M.U N)) (fun i H' => Same H1 H' ∧ Made H' D (((K9M.U N).take i).map fun u => K9M.act N u (red N c d))) ⟨same_new hD, .nil upd_same⟩ (fun i H' _ p => p.1.seq (SqL.of e0)) ?_ ?_
    · rintro i x H' hi ⟨sm, md⟩
      obtain ⟨u, hu, rfl⟩ := nats_at hi
      have hU := K9M.mem_U.mp (List.mem_of_getElem? hu)
      refine ⟨rfl, ?_⟩
      refine ⟨_, rfl, _, rfl, _, _, rfl, rfl, .inl ⟨by omega, by omega⟩, _, rfl, _, _, rfl, rfl, (by omega), ?_⟩
      refine ⟨_, rfl, _, rfl, _, _, rfl, rfl, .inl ⟨by omega, by omega⟩, _, rfl, _, _, rfl, rfl, (by omega), ?_⟩
      refine ⟨by show 2 ≤ sizeLine; decide, fun t ht => ?_⟩
      obtain ⟨acc, ea, la⟩ := md.get
      have ea2 : (upd H' t (.tup [.int (((u : Int) * c).fmod (N : Int)), .int (((u : Int) * d).fmod (N : Int))])) D = some (.lst acc) := same_new ht _ _ ea
      refine ⟨acc, ea2, slt ?_, ?_⟩
      · rw [la, List.length_map, List.length_take]
        have := U_le N
        omega
      · refine ⟨same_mut (sm.trans (same_new ht)) hD, ?_⟩
        rw [take_next hu, List.map_append]
        have ev : ([.int (((u : Int) * c).fmod (N : Int)), .int (((u : Int) * d).fmod (N : Int))] : List V) = vp (K9M.act N u (red N c d)) := by
          rw [fm_act hN, fm_act hN]; rfl
        exact (md.same (same_new ht)).add (upd_same.trans (congrArg (fun z => some (HO.tup z)) ev)) ea2
    · rintro H' ⟨sm, md⟩
      obtain ⟨ps, e1, e2, e3⟩ := md
      have el : (nats (K9M.U N)).length = (K9M.U N).length := by unfold nats; rw [List.length_map]
      rw [el, List.take_length] at e1
      refine ⟨D, ps, rfl, SqL.of e2, ?_, fun p hp => SqT.of (e3 p hp), fun p hp hle => ?_⟩
      · rintro rfl
        have h1 := K9M.one_U hN
        have : (K9M.U N).map (fun u => K9M.act N u (red N c d)) = [] := e1.symm
        rw [List.map_eq_nil_iff] at this
        rw [this] at h1
        cases h1
      · have e : K9M.least N (red N c d) = p.2 := by
          refine K9M.least_unique hN ?_ fun u hu => ?_
          · have : p.2 ∈ ps.map Prod.snd := List.mem_map.mpr ⟨p, hp, rfl⟩
            rw [e1] at this
            obtain ⟨u, hu, e⟩ := List.mem_map.mp this
            exact ⟨u, hu, e.symm⟩
          · have : K9M.act N u (red N c d) ∈ ps.map Prod.snd := by
              rw [e1]; exact List.mem_map.mpr ⟨u, hu, rfl⟩
            obtain ⟨y, hy, e⟩ := List.mem_map.mp this
            rw [← e]; exact hle y hy
        exact q H' p.1 (sm1.trans sm) (by rw [e]; exact e3 p hp)
end
end K9

set_option Elab.async false
set_option linter.all false
set_option maxRecDepth 100000
set_option maxHeartbeats 4200000
namespace K9
open PySem PySem.Spec PyProof.Rows L2 C8
theorem ip_fdivN {X : Cx} : PIp X .FloorDiv (rI CDivW fun i j => .int (i / j)) := iop_fdivW
/-! ### promises -/
def spHeads : Sp := fun vs H Q _ => ∃ N : Nat, vs = [.int (N : Int)] ∧ LevelOk N ∧ ∀ H' p, H p = none → Same H H' → H' p = some (.lst (nats (K9M.heads N))) → Q (.ref p) H'
def spPairsWith : Sp := fun vs H Q _ => ∃ N c : Nat, vs = [.int (N : Int), .int (c : Int)] ∧ LevelOk N ∧ c < N ∧ ∀ H' p, H p = none → Same H H' → Made H' p (K9M.pairsWith N c) → Q (.ref p) H'
def spAllPairs : Sp := fun vs H Q _ => ∃ N : Nat, vs = [.int (N : Int)] ∧ LevelOk N ∧ ∀ H' p, H p = none → Same H H' → Made H' p (K9M.allp N) → Q (.ref p) H'
/-- at a a tuple of tuples, of these pairs -/
def MadeT (H : Hp) (a : Addr) (l : List (Nat × Nat)) : Prop := ∃ ps : List (Addr × (Nat × Nat)), ps.map Prod.snd = l ∧ H a = some (.tup (ps.map fun p => V.ref p.1)) ∧ ∀ p ∈ ps, H p.1 = some (.tup (vp p.2))
theorem MadeT.same {H H' : Hp} {D : Addr} {l : List (Nat × Nat)} (e : Same H H') (m : MadeT H D l) : MadeT H' D l := by
  obtain ⟨ps, e1, e2, e3⟩ := m
  exact ⟨ps, e1, e _ _ e2, fun p hp => e _ _ (e3 p hp)⟩
def spPairs : Sp := fun vs H Q _ => ∃ N : Nat, vs = [.int (N : Int)] ∧ LevelOk N ∧ ∀ H' p, Same H H' → MadeT H' p (K9M.allp N) → Q (.ref p) H'
def spIndex : Sp := fun vs H Q _ => ∃ N : Nat, vs = [.int (N : Int)] ∧ LevelOk N ∧ Q (.int (K9M.index N : Int)) H
theorem filter_step {l : List Nat} {f : Nat → Bool} {x : Nat} : (l ++ [x]).filter f = if f x = true then l.filter f ++ [x] else l.filter f := by
  rw [List.filter_append]
  split
  · rename_i h; simp [h]
  · rename_i h; simp [h]
theorem nats_app (l : List Nat) (x : Nat) : nats (l ++ [x]) = nats l ++ [.int (x : Int)] := by
  unfold nats
  rw [List.map_append]; rfl
theorem nats_len (l : List Nat) : (nats l).length = l.length := by unfold nats; rw [List.length_map]
theorem fmodN (a b : Nat) : ((a : Int)).fmod (b : Int) = ((a % b : Nat) : Int) := (Int.ofNat_fmod a b).symm
theorem fdivN (a b : Nat) : ((a : Int)).fdiv (b : Int) = ((a / b : Nat) : Int) := (Int.ofNat_fdiv a b).symm
theorem int_eq_dec (a b : Nat) : decide (V.int (a : Int) = V.int (b : Int)) = (a == b) := by
  by_cases h : a = b
  · subst h; simp
  · rw [decide_eq_false (fun z => h (by have := V.int.inj z; omega))]
    exact (beq_eq_false_iff_ne.mpr h).symm
theorem heads_lt {N c : Nat} (h : 0 < N) (hm : c ∈ K9M.heads N) : c < N := by
  unfold K9M.heads at hm
  rcases List.mem_cons.mp hm with z | z
  · omega
  · have := List.mem_range'.mp (List.mem_filter.mp z).1
    obtain ⟨j, hj, e⟩ := this
    omega
theorem ite_is {c b : Bool} {A B : Prop} (e : c = b) (h : if b = true then A else B) : if c = true then A else B := by
  subst e; exact h
theorem eqI {x : Int} {a b : Nat} (h : x = (a : Int)) : decide (V.int x = V.int (b : Int)) = (a == b) := by
  subst h; exact int_eq_dec a b
section
variable {P : Program} {w : World} {K : PySem.W.Frag} {mg : Str → Option Value} {base : Heap} {tG tM : Tok}
theorem ok_first_entries (T : Txt K mg tG tM) : C8.Cal P w K mg base 1 "first_entries" spHeads [] := by
  refine T.d_first_entries.cal sc_first_entries (fun vs H Q E h => ?_) (fun f cdv A outer s H vs Q E hr h => ?_)
  · obtain ⟨N, rfl, _⟩ := h; rfl
  · obtain ⟨N, rfl, hl, q⟩ := h
    have hN := hl.1
    have hN1 := hl.2
    refine ⟨_, (pss_one (ps_ret (pe_lst (pa_cons pe_int (StX.pa_star (pe_lc (own := [("divisor", 1)])  rfl sc_first_entries.nd (pi_range2 rfl T.n_range (pa_cons pe_int (pa_cons (pv 0) pa_nil))) (blkOk_by (own := [("divisor", 1)]) (N := N_first_entries) (sc := defScope s_first_entries) (by decide +kernel)) (fun _ _ _ _ _ => (pg_name (i := 1) sc_first_entries.nd rfl (Or.inl rfl))) (fun _ _ _ _ _ => pts_one (pt_cmpR op_eq (pe_op op_modN (pv 0) (pv 1)) pe_int (nomark _))) (fun _ _ _ _ _ => (pv 1))) pa_nil))))), ?_⟩
    refine ⟨_, rfl, 1, (N : Int), rfl, ⟨by decide, by decide, by omega, by omega⟩, fun D hD => ?_⟩
    refine lc_range (lo := 1) (n := ((N : Int) - 1).toNat) (fun i H' => Same H H' ∧ H' D = some (.lst (nats ((List.range' 1 i).filter (fun c => N % c == 0))))) ⟨same_new hD, upd_same⟩ ?_ ?_
    · rintro i H' hi ⟨sm, eD⟩
      have e0 : (1 : Int) + (i : Int) = ((1 + i : Nat) : Int) := by omega
      rw [e0]
      refine ⟨rfl, _, rfl, _, rfl, _, _, rfl, rfl, by omega, rfl, _, rfl, ?_⟩
      refine ite_is (eqI (b := 0) (fmodN N (1 + i))) ?_
      have len : (nats ((List.range' 1 i).filter (fun c => N % c == 0))).length ≤ i := by
        rw [nats_len]
        have := List.length_filter_le (fun c => N % c == 0) (List.range' 1 i)
        rw [List.length_range'] at this
        exact this
      have hi' : i < N := by omega
      have st := filter_step (l := List.range' 1 i) (f := fun c => N % c == 0) (x := 1 + i)
      have er : List.range' 1 (i + 1) = List.range' 1 i ++ [1 + i] := by
        rw [List.range'_concat]; simp
      refine ite2 (fun c => ?_) (fun c => ?_)
      · refine ⟨_, rfl, _, eD, slt (by omega), same_mut sm hD, ?_⟩
        rw [upd_same, er, st, if_pos c, nats_app]
      · refine ⟨sm, ?_⟩
        rw [er, st, if_neg c]; exact eD
    · rintro H' ⟨sm, eD⟩
      refine ⟨D, _, rfl, .inr (SqL.of eD), ?_, fun p hp => ?_⟩
      · show (V.int 0 :: (nats _ ++ [])).length ≤ sizeLine
        rw [List.append_nil, List.length_cons, nats_len]
        have := List.length_filter_le (fun c => N % c == 0) (List.range' 1 ((N : Int) - 1).toNat)
        rw [List.length_range'] at this
        exact sle (by omega)
      · refine q _ p (sm.free hp) (sm.trans (same_new hp)) ?_
        rw [upd_same]
        show some (HO.lst (V.int 0 :: (nats _ ++ []))) = _
        have e : ((N : Int) - 1).toNat = N - 1 := by omega
        rw [List.append_nil, e]
        rfl
theorem ok_pairs_with (T : Txt K mg tG tM) : C8.Cal P w K mg base 3 "pairs_with" spPairsWith [] := by
  have c_units_modulo := ok_units_modulo (P := P) (w := w) (base := base) T
  have c_do_tell := ok_do_tell (P := P) (w := w) (base := base) T
  refine T.d_pairs_with.cal sc_pairs_with (fun vs H Q E h => ?_) (fun f cdv A outer s H vs Q E hr h => ?_)
  · obtain ⟨N, c, rfl, _⟩ := h; rfl
  · obtain ⟨N, c, rfl, hl, hc, q⟩ := h
    have hN := hl.1
    have hN1 := hl.2
    refine ⟨_, (pss_cons (ps_setLc (i := 2) (own := [("unit", 5)])  rfl sc_pairs_with.nd rfl rfl (sw_true rfl rfl rfl (by decide +kernel)) (pi_list (pe_c c_units_modulo hr (by decide) rfl (pa_cons (pv 0) pa_nil))) (blkOk_by (own := [("unit", 5)]) (N := N_pairs_with) (sc := defScope s_pairs_with) (by decide +kernel)) (fun _ _ _ _ _ => (pg_name (i := 5) sc_pairs_with.nd rfl (Or.inl rfl))) (fun _ _ _ _ _ => pts_one (pt_cmpR op_eq (pe_op op_modN (pe_op op_mul (pv 5) (pv 1)) (pv 0)) (pv 1) (nomark _))) (fun _ _ _ _ _ => (pv 5)))
    (pss_cons (ps_set (i := 3) sc_pairs_with.nd rfl (Or.inl rfl) (pe_lst pa_nil))
    (pss_cons (ps_for PassesOwn.never rfl (pi_range1 rfl T.n_range (pa_cons (pv 0) pa_nil)) (pg_name (i := 4) sc_pairs_with.nd rfl (Or.inr rfl))
    (pss_one (ps_if (PW.pt (pw_and (pt_val (pe_c c_do_tell hr (by decide) rfl (pa_cons (pv 0) (pa_cons (pv 1) (pa_cons (pv 4) pa_nil))))) (pw_and1 (pt_cmpR op_eq (pv 4) (pe_callB (cr_min rfl) (by rfl) T.n_min (by decide +kernel) (pa_cons (pe_lc (own := [("unit", 5)])  rfl sc_pairs_with.nd (pi_list (pv 2)) (blkOk_by (own := [("unit", 5)]) (N := N_pairs_with) (sc := defScope s_pairs_with) (by decide +kernel)) (fun _ _ _ _ _ => (pg_name (i := 5) sc_pairs_with.nd rfl (Or.inl rfl))) (fun _ _ _ _ _ => pts_nil) (fun _ _ _ _ _ => (pe_op op_modN (pe_op op_mul (pv 5) (pv 4)) (pv 0)))) pa_nil)) (nomark _)))))
    (pss_one (ps_expr (pe_bm PySem.F.plainAttrs_list PySem.F.slot_list_append PySem.F.type_list_append mt_append (pv 3) (pa_cons (pe_tup (pa_cons (pv 1) (pa_cons (pv 4) pa_nil))) pa_nil))))
    pss_nil)))
    (pss_one (ps_ret (pv 3)))))), ?_⟩
    -- units
    refine ⟨_, rfl, N, rfl, hl, fun H1 p0 n0 sm1 e0 => ?_⟩
    refine ⟨p0, rfl, ⟨_, SqL.of e0⟩, fun D hD => ?_⟩
    refine lc_list (xs := nats (K9M.U N)) (fun i H' => Same H1 H' ∧ H' D = some (.lst (nats (((K9M.U N).take i).filter (fun u => u * c % N == c))))) ⟨same_new hD, upd_same⟩ (fun i H' _ p => p.1.seq (SqL.of e0)) ?_ ?_
    · rintro i x H' hi ⟨sm, eD⟩
      obtain ⟨u, hu, rfl⟩ := nats_at hi
      have hU := K9M.mem_U.mp (List.mem_of_getElem? hu)
      refine ⟨rfl, _, rfl, _, rfl, _, _, rfl, rfl, .inl ⟨by omega, by omega⟩, _, rfl, _, _, rfl, rfl, (by omega), _, rfl, rfl, _, rfl, ?_⟩
      have e1 : ((u : Int) * (c : Int)).fmod (N : Int) = ((u * c % N : Nat) : Int) := by rw [← Int.natCast_mul, fmodN]
      refine ite_is (eqI (b := c) e1) ?_
      have len : (nats (((K9M.U N).take i).filter (fun u => u * c % N == c))).length ≤ N := by
        rw [nats_len]
        have a := List.length_filter_le (fun u => u * c % N == c) ((K9M.U N).take i)
        rw [List.length_take] at a
        have b := U_le N
        omega
      have st := filter_step (l := (K9M.U N).take i) (f := fun u => u * c % N == c) (x := u)
      rw [← take_next hu] at st
      refine ite2 (fun c1 => ?_) (fun c1 => ?_)
      · refine ⟨_, rfl, _, eD, slt (by omega), same_mut sm hD, ?_⟩
        rw [upd_same, st, if_pos c1, nats_app]
      · refine ⟨sm, ?_⟩
        rw [st, if_neg c1]; exact eD
    rintro H2 ⟨sm2, eU⟩
    rw [nats_len, List.take_length] at eU
    have eU : H2 D = some (.lst (nats (K9M.stab N c))) := eU
    -- found = []
    refine ⟨Nat.zero_le _, fun o no => ?_⟩
    -- the loop
    refine ⟨_, rfl, (N : Int), rfl, by omega, by omega, ?_⟩
    refine for_range (lo := 0) (n := ((N : Int)).toNat) (fun i σ H' => (∃ y, σ = [some (.int (N : Int)), some (.int (c : Int)), some (.ref D), some (.ref o), y, none]) ∧ Same H2 H' ∧
      Made H' o (((List.range i).filter (fun d => K9M.tell N (c, d) && (K9M.stab N c).all (fun u => Nat.ble d (u * d % N)))).map fun d => (c, d))) ⟨⟨none, rfl⟩, same_new no, .nil upd_same⟩ ?_ ?_
    · rintro i σ H' hi ⟨⟨y, rfl⟩, sm, md⟩
      have e0 := Int.zero_add (i : Int)
      rw [e0]
      have hi' : i < N := by omega
      have er : List.range (i + 1) = List.range i ++ [i] := List.range_succ
      have st := filter_step (l := List.range i) (f := fun d => K9M.tell N (c, d) && (K9M.stab N c).all (fun u => Nat.ble d (u * d % N))) (x := i)
      refine ⟨_, rfl, _, rfl, _, rfl, N, _, _, rfl, _, rfl, ?_⟩
      have et : tellI N (c : Int) (i : Int) = K9M.tell N (c, i) := by
        unfold tellI K9M.tell
        rw [Int.gcd_natCast_natCast]
      rw [et]
      refine ite2 (fun ct => ?_) (fun ct => ?_)
      · -- d == min([..])
        refine ⟨_, rfl, _, rfl, D, rfl, ⟨_, SqL.of (sm _ _ eU)⟩, fun D2 hD2 => ?_⟩
        refine lc_list (xs := nats (K9M.stab N c)) (fun j H3 => Same H' H3 ∧ H3 D2 = some (.lst (nats (((K9M.stab N c).take j).map fun u => u * i % N)))) ⟨same_new hD2, upd_same⟩ (fun j H3 _ p => p.1.seq (sm.seq (SqL.of eU))) ?_ ?_
        · rintro j x H3 hj ⟨sm3, eD2⟩
          obtain ⟨u, hu, rfl⟩ := nats_at hj
          have hU := K9M.mem_U.mp ((List.mem_filter.mp (show u ∈ (K9M.U N).filter _ from List.mem_of_getElem? hu)).1)
          refine ⟨rfl, ?_⟩
          refine ⟨_, rfl, _, rfl, _, _, rfl, rfl, .inl ⟨by omega, by omega⟩, _, rfl, _, _, rfl, rfl, (by omega), _, eD2, slt ?_, same_mut sm3 hD2, ?_⟩
          · rw [nats_len, List.length_map, List.length_take]
            have a : (K9M.stab N c).length ≤ (K9M.U N).length := List.length_filter_le _ _
            have b := U_le N
            omega
          · have e1 : ((u : Int) * (i : Int)).fmod (N : Int) = ((u * i % N : Nat) : Int) := by rw [← Int.natCast_mul, fmodN]
            rw [upd_same, take_next hu, List.map_append]
            show some (HO.lst (nats _ ++ [V.int (((u : Int) * (i : Int)).fmod (N : Int))])) = _
            rw [e1]
            exact congrArg (fun z => some (HO.lst z)) (nats_app _ _).symm
        rintro H3 ⟨sm3, eD2⟩
        rw [nats_len, List.take_length] at eD2
        have h1 : 1 % N ∈ K9M.stab N c := by
          refine List.mem_filter.mpr ⟨K9M.one_U hN, ?_⟩
          have := congrArg Prod.fst (K9M.act_one (N := N) (p := (c, 0)) ⟨hc, hN⟩)
          exact beq_iff_eq.mpr this
        have hself : 1 % N * i % N = i := congrArg Prod.snd (K9M.act_one (N := N) (p := (0, i)) ⟨hN, hi'⟩)
        refine ⟨D2, (((K9M.stab N c).map fun u => u * i % N).map fun (x : Nat) => (x : Int)), rfl, ?_, ?_, fun m hm hle => ?_⟩
        · refine SqL.of ?_
          rw [eD2]; unfold nats; simp only [List.map_map]; rfl
        · rw [List.length_map, List.length_map]
          exact List.length_pos_of_mem h1
        obtain ⟨m', hm', rfl⟩ := List.mem_map.mp hm
        refine ⟨rfl, _, rfl, ?_⟩
        refine ite_is (int_eq_dec i m') ?_
        have key : (i == m') = (K9M.stab N c).all (fun u => Nat.ble i (u * i % N)) := by
          have mle : m' ≤ i := by
            have := hle ((i : Nat) : Int) (List.mem_map.mpr ⟨i, List.mem_map.mpr ⟨1 % N, h1, hself⟩, rfl⟩)
            omega
          cases h : (K9M.stab N c).all (fun u => Nat.ble i (u * i % N)) with
          | true =>
            rw [List.all_eq_true] at h
            obtain ⟨u, hu, rfl⟩ := List.mem_map.mp hm'
            have := Nat.le_of_ble_eq_true (h u hu)
            exact beq_iff_eq.mpr (by omega)
          | false =>
            refine beq_eq_false_iff_ne.mpr fun e => ?_
            have : (K9M.stab N c).all (fun u => Nat.ble i (u * i % N)) = true := by
              rw [List.all_eq_true]
              intro u hu
              have := hle ((u * i % N : Nat) : Int) (List.mem_map.mpr ⟨_, List.mem_map.mpr ⟨u, hu, rfl⟩, rfl⟩)
              exact Nat.ble_eq_true_of_le (by omega)
            rw [h] at this; cases this
        rw [key]
        refine ite2 (fun c2 => ?_) (fun c2 => ?_)
        · -- found.append((c, d))
          have md3 := md.same sm3
          obtain ⟨acc, ea, la⟩ := md3.get
          refine ⟨_, rfl, .inl ⟨rfl, _, SqL.of ea⟩, _, rfl, _, rfl, by show 2 ≤ sizeLine; decide, fun t ht => ?_⟩
          have ea2 : (upd H3 t (.tup [.int (c : Int), .int (i : Int)])) o = some (.lst acc) := same_new ht _ _ ea
          refine ⟨o, acc, _, rfl, rfl, ea2, slt ?_, ⟨_, rfl⟩, same_mut ((sm.trans sm3).trans (same_new ht)) no, ?_⟩
          · rw [la, List.length_map]
            have a := List.length_filter_le (fun d => K9M.tell N (c, d) && (K9M.stab N c).all (fun u => Nat.ble d (u * d % N))) (List.range i)
            rw [List.length_range] at a
            omega
          · rw [er, st, if_pos (by rw [ct, c2]; rfl), List.map_append]
            exact (md3.same (same_new ht)).add (x := (c, i)) upd_same ea2
        · refine ⟨⟨_, rfl⟩, sm.trans sm3, ?_⟩
          rw [er, st, if_neg (by rw [ct, Bool.true_and]; exact c2)]
          exact md.same sm3
      · refine ⟨⟨_, rfl⟩, sm, ?_⟩
        rw [er, st, if_neg (by rw [Bool.and_eq_true]; exact fun z => ct z.1)]
        exact md
    · rintro σ H' ⟨⟨y, rfl⟩, sm, md⟩
      refine ⟨_, rfl, q H' o ((sm1.trans sm2).free no) ((sm1.trans sm2).trans sm) ?_⟩
      exact md
theorem ok_all_pairs (T : Txt K mg tG tM) : C8.Cal P w K mg base 4 "all_pairs" spAllPairs [] := by
  have c_first_entries := ok_first_entries (P := P) (w := w) (base := base) T
  have c_pairs_with := ok_pairs_with (P := P) (w := w) (base := base) T
  refine T.d_all_pairs.cal sc_all_pairs (fun vs H Q E h => ?_) (fun f cdv A outer s H vs Q E hr h => ?_)
  · obtain ⟨N, rfl, _⟩ := h; rfl
  · obtain ⟨N, rfl, hl, q⟩ := h
    have hN := hl.1
    have hN1 := hl.2
    refine ⟨_, (pss_one (ps_ret (pe_lc2 (own := [("c", 1), ("pair", 2)]) (wi1 := iList K (tCall spPairsWith [] C8.E0 (tCons (tVar 0) (tCons (tVar 1) tNil)))) (vs1 := [2]) rfl sc_all_pairs.nd (pi_list (pe_c c_first_entries hr (by decide) rfl (pa_cons (pv 0) pa_nil))) (blkOk_by (own := [("c", 1), ("pair", 2)]) (N := N_all_pairs) (sc := defScope s_all_pairs) (by decide +kernel)) (by decide) (fun _ _ _ _ _ => (pg_name (i := 1) sc_all_pairs.nd rfl (Or.inl rfl))) (fun _ _ _ _ _ => pts_nil) (fun _ _ _ _ _ => by exact (pi_list (pe_c c_pairs_with hr (by decide) rfl (pa_cons (pv 0) (pa_cons (pv 1) pa_nil))))) (fun _ _ _ _ _ => by exact (pg_name (i := 2) sc_all_pairs.nd rfl (Or.inl rfl))) (fun _ _ _ _ _ => pts_nil) (fun _ _ _ _ _ => by exact (pv 2))))), ?_⟩
    refine ⟨_, rfl, N, rfl, hl, fun H1 p0 n0 sm1 e0 => ?_⟩
    refine ⟨p0, rfl, ⟨_, SqL.of e0⟩, fun D hD => ?_⟩
    have hlen : (nats (K9M.heads N)).length = (K9M.heads N).length := nats_len _
    have hb : (K9M.heads N).length ≤ N + 1 := by
      unfold K9M.heads
      rw [List.length_cons]
      have := List.length_filter_le (fun c => N % c == 0) (List.range' 1 (N - 1))
      rw [List.length_range'] at this
      omega
    refine ⟨fun i m H' => m = (K9M.heads N).length - i ∧ i ≤ (K9M.heads N).length ∧ Same H1 H' ∧ Made H' D (((K9M.heads N).take i).flatMap (K9M.pairsWith N)), ⟨_, rfl, Nat.zero_le _, same_new hD, .nil upd_same⟩, ?_⟩
    rintro i m H' ⟨em, hi, sm, md⟩
    have eL : SqL K H' p0 (nats (K9M.heads N)) := sm.seq (SqL.of e0)
    by_cases hlt : i < (K9M.heads N).length
    · have hx : (nats (K9M.heads N))[i]? = some (.int ((K9M.heads N)[i] : Int)) := by
        unfold nats
        rw [List.getElem?_map, List.getElem?_eq_getElem hlt]; rfl
      refine .inr ⟨⟨_, _, eL, hx⟩, fun H2 => Same H1 H2 ∧ Made H2 D (((K9M.heads N).take (i + 1)).flatMap (K9M.pairsWith N)), fun H2 hn => ⟨_, by omega, rfl, by omega, hn⟩, fun x H2 hy => ?_⟩
      obtain ⟨rfl, fx⟩ := hy
      have ex : x = .int ((K9M.heads N)[i] : Int) := Option.some.inj ((fx _ eL).symm.trans hx)
      subst ex
      refine ⟨rfl, ?_⟩
      have hcN : (K9M.heads N)[i] < N := heads_lt hN (List.getElem_mem hlt)
      generalize (K9M.heads N)[i] = c at *
      have htk : (K9M.heads N).take (i + 1) = (K9M.heads N).take i ++ [c] := by
        refine take_next ?_
        have := nats_at hx
        obtain ⟨u, hu, e⟩ := this
        rw [hu]
        have := V.int.inj e
        exact congrArg Option.some (by omega)
      refine ⟨_, rfl, _, rfl, N, c, rfl, hl, hcN, fun H3 q2 n2 sm2 md2 => ?_⟩
      obtain ⟨ps, e1, e2, e3⟩ := md2
      have lps : ps.length = (K9M.pairsWith N c).length := by rw [← e1, List.length_map]
      have lpw : (K9M.pairsWith N c).length ≤ N := by
        unfold K9M.pairsWith
        rw [List.length_map]
        have a := List.length_filter_le (fun d => K9M.tell N (c, d) && (K9M.stab N c).all (fun u => Nat.ble d (u * d % N))) (List.range N)
        rw [List.length_range] at a
        exact a
      refine ⟨q2, rfl, ⟨_, SqL.of e2⟩, ?_⟩
      refine ⟨fun j k H4 => k = ps.length - j ∧ j ≤ ps.length ∧ Same H1 H4 ∧ H4 q2 = some (.lst (ps.map fun p => V.ref p.1)) ∧ (∀ p ∈ ps, H4 p.1 = some (.tup (vp p.2))) ∧ Made H4 D (((K9M.heads N).take i).flatMap (K9M.pairsWith N) ++ (ps.take j).map Prod.snd),
        ⟨_, rfl, Nat.zero_le _, sm.trans sm2, e2, e3, by rw [List.take_zero, List.map_nil, List.append_nil]; exact md.same sm2⟩, ?_⟩
      rintro j k H4 ⟨ek, hj, sm4, e24, e34, md4⟩
      by_cases hjl : j < ps.length
      · have hy : (ps.map fun p => V.ref p.1)[j]? = some (V.ref ps[j].1) := by
          rw [List.getElem?_map, List.getElem?_eq_getElem hjl]; rfl
        refine .inr ⟨⟨_, _, SqL.of e24, hy⟩, fun H5 => Same H1 H5 ∧ H5 q2 = some (.lst (ps.map fun p => V.ref p.1)) ∧ (∀ p ∈ ps, H5 p.1 = some (.tup (vp p.2))) ∧ Made H5 D (((K9M.heads N).take i).flatMap (K9M.pairsWith N) ++ (ps.take (j + 1)).map Prod.snd),
          fun H5 hn => ⟨_, by omega, rfl, by omega, hn⟩, fun x H5 hyy => ?_⟩
        obtain ⟨rfl, fy⟩ := hyy
        have ey : x = V.ref ps[j].1 := Option.some.inj ((fy _ (SqL.of e24)).symm.trans hy)
        subst ey
        refine ⟨rfl, ?_⟩
        obtain ⟨acc, ea, la⟩ := md4.get
        have pm : ps[j] ∈ ps := List.getElem_mem hjl
        have nqD : q2 ≠ D := fun z => by
          subst z
          have hD2 : H1 q2 = none := hD
          have := md.get
          obtain ⟨acc0, ea0, _⟩ := this
          rw [n2] at ea0; cases ea0
        refine ⟨_, rfl, acc, ea, slt ?_, same_mut sm4 hD, by rw [upd_ne nqD]; exact e24, fun p hp => by rw [upd_ne (ne_of (e34 p hp) ea (by intro z; cases z))]; exact e34 p hp, ?_⟩
        · rw [la, List.length_append, List.length_map, List.length_take]
          have hfl : (((K9M.heads N).take i).flatMap (K9M.pairsWith N)).length ≤ ((K9M.heads N).take i).length * N := by
            generalize (K9M.heads N).take i = l
            induction l with
            | nil => exact Nat.zero_le _
            | cons a l ih =>
              rw [List.flatMap_cons, List.length_append, List.length_cons, Nat.succ_mul]
              have lpa : (K9M.pairsWith N a).length ≤ N := by
                unfold K9M.pairsWith
                rw [List.length_map]
                have a' := List.length_filter_le (fun d => K9M.tell N (a, d) && (K9M.stab N a).all (fun u => Nat.ble d (u * d % N))) (List.range N)
                rw [List.length_range] at a'
                exact a'
              omega
          rw [List.length_take] at hfl
          have h101 : min i (K9M.heads N).length * N ≤ 101 * 100 := Nat.mul_le_mul (by omega) hN1
          omega
        · rw [take_next (List.getElem?_eq_getElem hjl), List.map_append, ← List.append_assoc]
          exact md4.add (x := ps[j].2) (e34 _ pm) ea
      · refine .inl ⟨⟨_, SqL.of e24, by rw [List.length_map]; omega⟩, sm4, ?_⟩
        rw [htk, List.flatMap_append]
        have e : (ps.take j).map Prod.snd = K9M.pairsWith N c := by rw [List.take_of_length_le (by omega), e1]
        rw [e] at md4
        simpa using md4
    · refine .inl ⟨⟨_, eL, by rw [hlen]; omega⟩, q H' D (sm1.free hD) (sm1.trans sm) ?_⟩
      rw [List.take_of_length_le (by omega)] at md
      exact md
theorem ok_pairs (T : Txt K mg tG tM) : C8.Cal P w K mg base 5 "pairs" spPairs [] := by
  have c_require_level := ok_require_level (P := P) (w := w) (base := base) T
  have c_all_pairs := ok_all_pairs (P := P) (w := w) (base := base) T
  refine T.d_pairs.cal sc_pairs (fun vs H Q E h => ?_) (fun f cdv A outer s H vs Q E hr h => ?_)
  · obtain ⟨N, rfl, _⟩ := h; rfl
  · obtain ⟨N, rfl, hl, q⟩ := h
    refine ⟨_, (pss_cons (ps_expr (pe_c c_require_level hr (by decide) rfl (pa_cons (pv 0) pa_nil)))
    (pss_one (ps_ret (pe_callTy call_tuple_of (by rfl) T.n_tuple (by decide +kernel) (pa_cons (pe_c c_all_pairs hr (by decide) rfl (pa_cons (pv 0) pa_nil)) pa_nil))))), ?_⟩
    refine ⟨_, rfl, N, rfl, hl, ?_⟩
    refine ⟨_, rfl, N, rfl, hl, fun H1 p0 n0 sm1 md => ?_⟩
    obtain ⟨ps, e1, e2, e3⟩ := md
    refine ⟨p0, _, rfl, .inl ⟨SqL.of e2, fun l hl2 => ?_⟩⟩
    exact q _ l (sm1.trans (same_new hl2)) ⟨ps, e1, upd_same, fun p hp => same_new hl2 _ _ (e3 p hp)⟩
/-! ### index_of_level -/
theorem strip_pos {p : Nat} (hp : 2 ≤ p) : ∀ (f left : Nat), 0 < left → 0 < K9M.stripF f p left ∧ K9M.stripF f p left ≤ left
  | 0, left, h => ⟨h, Nat.le_refl _⟩
  | f + 1, left, h => by
    unfold K9M.stripF
    split
    · rename_i c
      have hd : p ∣ left := Nat.dvd_of_mod_eq_zero (beq_iff_eq.mp c)
      have h1 : 0 < left / p := Nat.div_pos (Nat.le_of_dvd h hd) (by omega)
      have h2 := strip_pos hp f (left / p) h1
      exact ⟨h2.1, Nat.le_trans h2.2 (Nat.div_le_self _ _)⟩
    · exact ⟨h, Nat.le_refl _⟩
theorem strip_dvd {p : Nat} : ∀ (f left : Nat), K9M.stripF f p left ∣ left
  | 0, left => Nat.dvd_refl _
  | f + 1, left => by
    unfold K9M.stripF
    split
    · rename_i c
      have hd : p ∣ left := Nat.dvd_of_mod_eq_zero (beq_iff_eq.mp c)
      exact Nat.dvd_trans (strip_dvd f (left / p)) (Nat.div_dvd_of_dvd hd)
    · exact Nat.dvd_refl _
theorem strip_not {p : Nat} (hp : 2 ≤ p) : ∀ (f left : Nat), 0 < left → left ≤ f → K9M.stripF f p left % p ≠ 0
  | 0, left, h, hf => absurd hf (by omega)
  | f + 1, left, h, hf => by
    unfold K9M.stripF
    split
    · rename_i c
      have hd : p ∣ left := Nat.dvd_of_mod_eq_zero (beq_iff_eq.mp c)
      have h1 : 0 < left / p := Nat.div_pos (Nat.le_of_dvd h hd) (by omega)
      have h2 : left / p < left := Nat.div_lt_self h (by omega)
      exact strip_not hp f _ h1 (by omega)
    · rename_i c
      exact fun z => c (beq_iff_eq.mpr z)
theorem natAbs_lt {n b : Nat} (h : n < 2 ^ b) : ((n : Nat) : Int).natAbs < 2 ^ b := by simpa using h
theorem ok_index_of_level (T : Txt K mg tG tM) : C8.Cal P w K mg base 1 "index_of_level" spIndex [] := by
  refine T.d_index_of_level.cal sc_index_of_level (fun vs H Q E h => ?_) (fun f cdv A outer s H vs Q E hr h => ?_)
  · obtain ⟨N, rfl, _⟩ := h; rfl
  · obtain ⟨N, rfl, hl, q⟩ := h
    have hN := hl.1
    have hN1 := hl.2
    refine ⟨_, (pss_cons (ps_par3 (i := 1) (j := 2) (l := 3) rfl sc_index_of_level.nd rfl rfl rfl (by decide) (by decide) (by decide) rfl rfl rfl (pa_cons (pv 0) (pa_cons (pv 0) (pa_cons pe_int pa_nil))) (by rfl))
    (pss_cons (ps_while PassesOwn.never (pt_cmpR op_gt (pv 2) pe_int (nomark _))
    (pss_cons (ps_if (pt_cmpR op_eq (pe_op op_modN (pv 2) (pv 3)) pe_int (nomark _))
    (pss_cons (ps_set (i := 1) sc_index_of_level.nd rfl (Or.inl rfl) (pe_op op_mulW (pe_op op_fdivN (pv 1) (pv 3)) (pe_op op_add (pv 3) pe_int)))
    (pss_one (ps_while PassesOwn.never (pt_cmpR op_eq (pe_op op_modN (pv 2) (pv 3)) pe_int (nomark _))
    (pss_one (ps_aug (i := 2) sc_index_of_level.nd rfl (.inl rfl) (pv 3) ip_fdivN)))))
    pss_nil)
    (pss_one (ps_aug (i := 3) sc_index_of_level.nd rfl (.inl rfl) pe_int ip_add))))
    (pss_one (ps_ret (pv 1))))), ?_⟩
    refine ⟨_, rfl, _, rfl, _, _, _, rfl, ?_⟩
    refine ⟨fun m σ H' => ∃ fu found left p : Nat, σ = [some (.int (N : Int)), some (.int (found : Int)), some (.int (left : Int)), some (.int (p : Int))] ∧ H' = H ∧ fu + p = 103 ∧ 2 ≤ p ∧ 0 < left ∧ left ≤ 100 ∧ found < 2 ^ (p + 7) ∧
      (∀ d, 2 ≤ d → d < p → ¬ d ∣ left) ∧ K9M.indexF fu found left p = K9M.index N ∧ m = 103 - p, ⟨_, 101, N, N, 2, rfl, rfl, rfl, by decide, hN, hN1, by omega, fun d h1 h2 => absurd h2 (by omega), rfl, rfl⟩, ?_⟩
    rintro m σ H' ⟨fu, found, left, p, rfl, rfl, hfu, hp, hl0, hl1, hfo, hnd, hix, em⟩
    refine ⟨_, rfl, _, _, rfl, rfl, _, rfl, ite2 (fun c => ?_) (fun c => ?_)⟩
    · have c : (1 : Int) < (left : Int) := of_decide_eq_true c
      have hpl : p ≤ left := by
        rcases Nat.lt_or_ge left p with z | z
        · exact absurd (Nat.dvd_refl left) (hnd left (by omega) z)
        · exact z
      obtain ⟨fu, rfl⟩ : ∃ k, fu = k + 1 := ⟨fu - 1, by omega⟩
      have hbl : Nat.ble left 1 = false := by
        rw [Bool.eq_false_iff]
        intro z
        have := Nat.le_of_ble_eq_true z
        omega
      unfold K9M.indexF at hix
      rw [hbl, if_neg Bool.false_ne_true] at hix
      refine ⟨fun σ' H2 => ∃ found' left' : Nat, σ' = [some (.int (N : Int)), some (.int (found' : Int)), some (.int (left' : Int)), some (.int ((p + 1 : Nat) : Int))] ∧ H2 = H' ∧ 0 < left' ∧ left' ≤ 100 ∧ found' < 2 ^ (p + 1 + 7) ∧
        (∀ d, 2 ≤ d → d < p + 1 → ¬ d ∣ left') ∧ K9M.indexF fu found' left' (p + 1) = K9M.index N, ?_, ?_⟩
      · rintro σ' H2 ⟨found', left', rfl, rfl, h1, h2, h3, h4, h5⟩
        exact ⟨103 - (p + 1), by omega, fu, found', left', p + 1, rfl, rfl, by omega, by omega, h1, h2, h3, h4, h5, rfl⟩
      · -- the body
        refine ⟨_, rfl, _, rfl, _, _, rfl, rfl, by omega, rfl, _, rfl, ?_⟩
        refine ite_is (eqI (b := 0) (fmodN left p)) ?_
        have pw : 2 ^ (p + 1 + 7) = 2 * 2 ^ (p + 7) := by rw [show p + 1 + 7 = (p + 7) + 1 by omega, Nat.pow_succ]; omega
        by_cases cd : (left % p == 0) = true
        · rw [cd]
          rw [cd, if_pos rfl] at hix
          refine iteT ?_
          refine ⟨_, rfl, _, rfl, _, _, rfl, rfl, ⟨by omega, by omega⟩, _, rfl, _, _, rfl, rfl, _, _, rfl, rfl, ?_, ?_⟩
          · have e2 : ((found : Nat) : Int).fdiv ((p : Nat) : Int) = ((found / p : Nat) : Int) := fdivN _ _
            have hdv : found / p < 2 ^ (p + 7) := Nat.lt_of_le_of_lt (Nat.div_le_self _ _) hfo
            refine wide_mul (a := p + 7) (b := 8) ?_ ?_ (by omega) (by omega) (by omega)
            · rw [e2]; exact natAbs_lt hdv
            · show ((p : Int) + 1).natAbs < 2 ^ 8
              omega
          have e3 : ((found : Nat) : Int).fdiv ((p : Nat) : Int) * ((p : Int) + 1) = ((found / p * (p + 1) : Nat) : Int) := by
            rw [fdivN, Int.natCast_mul]; rfl
          have hf3 : found / p * (p + 1) < 2 ^ (p + 1 + 7) := by
            rw [Nat.mul_add, Nat.mul_one, pw]
            have a := Nat.div_mul_le_self found p
            have b := Nat.div_le_self found p
            omega
          -- the inner loop
          refine ⟨fun m2 σ' H2 => ∃ g l : Nat, σ' = [some (.int (N : Int)), some (.int ((found / p * (p + 1) : Nat) : Int)), some (.int (l : Int)), some (.int (p : Int))] ∧ H2 = H' ∧ 0 < l ∧ l ≤ g ∧ l ≤ 100 ∧ K9M.stripF g p l = K9M.stripF 100 p left ∧ m2 = l,
            ⟨_, 100, left, ?_, rfl, hl0, hl1, hl1, rfl, rfl⟩, ?_⟩
          · show List.set _ 1 (some (V.int (((found : Nat) : Int).fdiv ((p : Nat) : Int) * ((p : Int) + 1)))) = _
            rw [e3]; rfl
          · rintro m2 σ' H2 ⟨g, l, rfl, rfl, hl2, hlg, hl3, hst, em2⟩
            refine ⟨_, rfl, _, rfl, _, _, rfl, rfl, by omega, rfl, _, rfl, ?_⟩
            refine ite_is (eqI (b := 0) (fmodN l p)) ?_
            obtain ⟨g, rfl⟩ : ∃ k, g = k + 1 := ⟨g - 1, by omega⟩
            by_cases cl : (l % p == 0) = true
            · rw [cl]
              refine iteT ?_
              have hdl : p ∣ l := Nat.dvd_of_mod_eq_zero (beq_iff_eq.mp cl)
              have q1 : 0 < l / p := Nat.div_pos (Nat.le_of_dvd hl2 hdl) (by omega)
              have q2 : l / p < l := Nat.div_lt_self hl2 (by omega)
              unfold K9M.stripF at hst
              rw [if_pos cl] at hst
              refine ⟨fun σ2 H3 => σ2 = [some (.int (N : Int)), some (.int ((found / p * (p + 1) : Nat) : Int)), some (.int ((l / p : Nat) : Int)), some (.int (p : Int))] ∧ H3 = H2, ?_, ?_⟩
              · rintro σ2 H3 ⟨rfl, rfl⟩
                exact ⟨l / p, by omega, g, l / p, rfl, rfl, q1, by omega, by omega, hst, rfl⟩
              · refine ⟨_, rfl, _, rfl, _, _, rfl, rfl, wide_div (b := 8) (by omega) (by omega) (by omega) (by omega), ?_, rfl⟩
                show List.set _ 2 (some (V.int ((l : Int) / (p : Int)))) = _
                rw [← Int.natCast_ediv]; rfl
            · rw [Bool.not_eq_true] at cl
              rw [cl]
              refine iteF ?_
              have hs : K9M.stripF 100 p left = l := by
                rw [← hst]
                unfold K9M.stripF
                rw [cl, if_neg Bool.false_ne_true]
              refine ⟨_, rfl, _, _, rfl, rfl, ?_⟩
              refine ⟨found / p * (p + 1), l, rfl, rfl, hl2, hl3, hf3, fun d h1 h2 h3 => ?_, ?_⟩
              · rcases Nat.lt_or_ge d p with z | z
                · have hdl : l ∣ left := by rw [← hs]; exact strip_dvd 100 left
                  exact hnd d h1 z (Nat.dvd_trans h3 hdl)
                · have : d = p := by omega
                  subst this
                  have := Nat.mod_eq_zero_of_dvd h3
                  rw [this] at cl; cases cl
              · rw [hs] at hix; exact hix
        · rw [Bool.not_eq_true] at cd
          rw [cd]
          rw [cd, if_neg Bool.false_ne_true] at hix
          refine iteF ?_
          refine ⟨_, rfl, _, _, rfl, rfl, ?_⟩
          refine ⟨found, left, rfl, rfl, hl0, hl1, by omega, fun d h1 h2 h3 => ?_, hix⟩
          rcases Nat.lt_or_ge d p with z | z
          · exact hnd d h1 z h3
          · have : d = p := by omega
            subst this
            have := Nat.mod_eq_zero_of_dvd h3
            rw [this] at cd; cases cd
    · have c : ¬ (1 : Int) < (left : Int) := fun z => c (decide_eq_true z)
      have hix2 : found = K9M.index N := by
        rw [← hix]
        cases fu with
        | zero => rfl
        | succ fu =>
          unfold K9M.indexF
          rw [if_pos (Nat.ble_eq_true_of_le (by omega))]
      refine ⟨_, rfl, ?_⟩
      rw [← hix2] at q; exact q
def spCount : Sp := spIndex
theorem ok_count_pairs (T : Txt K mg tG tM) : C8.Cal P w K mg base 4 "count_pairs" spIndex [] := by
  have c_require_level := ok_require_level (P := P) (w := w) (base := base) T
  have c_index_of_level := ok_index_of_level (P := P) (w := w) (base := base) T
  refine T.d_count_pairs.cal sc_count_pairs (fun vs H Q E h => ?_) (fun f cdv A outer s H vs Q E hr h => ?_)
  · obtain ⟨N, rfl, _⟩ := h; rfl
  · obtain ⟨N, rfl, hl, q⟩ := h
    refine ⟨_, (pss_cons (ps_expr (pe_c c_require_level hr (by decide) rfl (pa_cons (pv 0) pa_nil)))
    (pss_one (ps_ret (pe_c c_index_of_level hr (by decide) rfl (pa_cons (pv 0) pa_nil))))), ?_⟩
    refine ⟨_, rfl, N, rfl, hl, ?_⟩
    exact ⟨_, rfl, N, rfl, hl, q⟩
end
end K9

set_option Elab.async false
set_option linter.all false
set_option maxRecDepth 100000
set_option maxHeartbeats 4200000
namespace K9
open PySem PySem.Spec PyProof.Rows L2 C8
structure TxtX (K : PySem.W.Frag) (mg : Str → Option Value) (C : Addr) : Prop where
  gIO : mg "InvalidOperation" = some (.ref C)
  xIO : PySem.W.excIn K C [.type "ValueError", .type "Exception", .type "BaseException", .type "object"] "ValueError.__new__" = true
  kIO : PySem.W.keepIn K (.ref C) = true
  bIO : PySem.W.subIn K (.ref C) (.type "BaseException") = some true
  tIO : PySem.W.typeIn K (.ref C) = some (.type "type")
  eIO : PySem.W.exmOne K (.ref C) (.ref C) = some true
/-- a def that may raise, as it stands -/
structure CalX (P : Program) (w : World) (K : PySem.W.Frag) (mg : Str → Option Value) (base : Heap) (k : Nat) (x : Str) (ps : List Str) (sp : Sp) : Prop where
  ex : ∃ (f : Addr) (fd : FuncData), FnOk P w K mg base (L2.CX P w) k f fd ps sp ∧ mg x = some (.ref f) ∧ PySem.W.keepIn K (.ref f) = true ∧ Binds K fd ps []
section
variable {K : PySem.W.Frag} {mg : Str → Option Value} {P : Program} {w : World} {base : Heap}
theorem DStands.calX {x : Str} {st : Stmt} {N ps : List Str} {k : Nat} {sp : Sp} (F : DStands K mg x st ps) (S : FnScope N ps (defScope st)) (len : ∀ vs H Q E, sp vs H Q E → vs.length = ps.length)
    (hbody : ∀ (f : Addr) (cdv : Value) (A : Around) (outer : List Env) (s : Shared) (H : Hp) (vs : List V) (Q : VK) (E : XK), Room k (A.deeper (envOfC x (defScope st) s.heap.objs.size f cdv)) → sp vs H Q E →
      ∃ t, PSs (cxOf (L2.CX P w) P w K mg base N x (defScope st) f cdv A outer s H E) (defBody st) t ∧ t { nx := fun _ H' => Q .non H', rt := Q } (start N vs) H) : CalX P w K mg base (k + 1) x ps sp := by
  obtain ⟨f, fd, Fn, g, b⟩ := F.ex
  exact ⟨f, fd, Fn.okX S len (hbody f), g, Fn.kp, b⟩
end
/-- whether two numbers are a pair of the level, written so -/
def isP (N : Nat) (c d : Int) : Bool := (decide (0 ≤ c) && decide (c < (N : Int))) && ((decide (0 ≤ d) && decide (d < (N : Int))) && K9M.isL N (c.toNat, d.toNat))
def spResidue (K : PySem.W.Frag) : Sp := fun vs H Q _ => ∃ (N : Nat) (x : V), vs = [.int (N : Int), x] ∧ LevelOk N ∧ ((∃ n, x = .int n ∧ Q (.bl (decide (0 ≤ n) && decide (n < (N : Int)))) H) ∨ ∃ t, OfKind K H x t ∧ t ≠ "int" ∧ Q (.bl false) H)
/-- what a value is to is_pair, and the answer -/
def Judge (K : PySem.W.Frag) (N : Nat) (H : Hp) (x : V) (b : Bool) : Prop :=
  (∃ t, OfKind K H x t ∧ t ≠ "tuple" ∧ b = false) ∨ ∃ a xs, x = .ref a ∧ H a = some (.tup xs) ∧ ((xs.length ≠ 2 ∧ b = false) ∨ (∃ c d, xs = [.int c, .int d] ∧ b = isP N c d) ∨
    ∃ x0 x1 t0 t1, xs = [x0, x1] ∧ OfKind K H x0 t0 ∧ OfKind K H x1 t1 ∧ (t0 ≠ "int" ∨ t1 ≠ "int") ∧ b = false)
def spIsPair (K : PySem.W.Frag) : Sp := fun vs H Q _ => ∃ (N : Nat) (x : V) (b : Bool), vs = [.int (N : Int), x] ∧ LevelOk N ∧ Judge K N H x b ∧ ∀ H', Same H H' → Q (.bl b) H'
def spReqPair (K : PySem.W.Frag) : Sp := fun vs H Q _ => ∃ (N : Nat) (x : V), vs = [.int (N : Int), x] ∧ LevelOk N ∧ Judge K N H x true ∧ ∀ H', Same H H' → Q .non H'
def spPairOf (C : Addr) : Sp := fun vs H Q E => ∃ (N : Nat) (c d : Int), vs = [.int (N : Int), .int c, .int d] ∧ LevelOk N ∧ (-GR < c ∧ c < GR) ∧ (-GR < d ∧ d < GR) ∧
  (tellI N c d = true → ∀ H' p, Same H H' → H' p = some (.tup (vp (K9M.least N (red N c d)))) → Q (.ref p) H') ∧ (tellI N c d = false → ∀ H', Same H H' → E (.ref C) none H')
theorem shaped_dP (p : Nat × Nat) : SeqAt.shaped (dP p) = true := by
  unfold dP SeqAt.shaped
  simp [PyData.canLay0, PyData.canLayAll0, PyData.depth, PyData.depthAll]
theorem eqv_dP (p q : Nat × Nat) : PyData.eqv (dP p) (dP q) = decide (p = q) := by
  unfold dP
  simp only [PyData.eqv, PyData.eqvAll, Bool.and_true]
  by_cases h : p = q
  · subst h; simp
  · rw [decide_eq_false h]
    cases h1 : ((p.1 : Int) == (q.1 : Int)) with
    | false => rfl
    | true =>
      cases h2 : ((p.2 : Int) == (q.2 : Int)) with
      | false => rfl
      | true =>
        rw [beq_iff_eq] at h1 h2
        exact absurd (Prod.ext (by omega) (by omega)) h
theorem red_self {N : Nat} {c d : Int} (h0 : 0 ≤ c) (h1 : c < (N : Int)) (h2 : 0 ≤ d) (h3 : d < (N : Int)) : red N c d = (c.toNat, d.toNat) := by
  unfold red
  rw [Int.emod_eq_of_lt h0 h1, Int.emod_eq_of_lt h2 h3]
section
variable {P : Program} {w : World} {K : PySem.W.Frag} {mg : Str → Option Value} {base : Heap} {tG tM : Tok} {C : Addr}
theorem ok_is_residue_at (T : Txt K mg tG tM) : C8.Cal P w K mg base 3 "is_residue_at" (spResidue K) [] := by
  have c_is_integer := ok_is_integer (P := P) (w := w) (base := base) T
  refine T.d_is_residue_at.cal sc_is_residue_at (fun vs H Q E h => ?_) (fun f cdv A outer s H vs Q E hr h => ?_)
  · obtain ⟨N, x, rfl, _⟩ := h; rfl
  · obtain ⟨N, x, rfl, hl, h⟩ := h
    have hN1 := hl.2
    refine ⟨_, (pss_one (ps_ret (pe_and (pe_c c_is_integer hr (by decide) rfl (pa_cons (pv 1) pa_nil)) (pe_one (pe_chain op_le op_lt pe_int (pv 1) (pv 0)))))), ?_⟩
    rcases h with ⟨n, rfl, q⟩ | ⟨t, hk, hn, q⟩
    · refine ⟨_, rfl, _, rfl, .inl ⟨n, rfl, _, rfl, ite2 (fun c => ?_) (fun c => ?_)⟩⟩
      · refine ⟨_, rfl, 0, n, rfl, rfl, _, rfl, ite2 (fun c2 => ?_) (fun c2 => ?_)⟩
        · refine ⟨_, rfl, n, (N : Int), rfl, rfl, ?_⟩
          rw [c2, Bool.true_and] at q; exact q
        · rw [Bool.not_eq_true] at c2
          rw [c2, Bool.false_and] at q; exact q
      · have e : (decide (0 ≤ n) && decide (n < (N : Int))) = false := by
          rw [Bool.eq_false_iff]
          intro z
          rw [Bool.and_eq_true] at z; rw [decide_eq_true_eq, decide_eq_true_eq] at z
          refine c ?_
          rw [Bool.and_eq_true]; rw [decide_eq_true_eq, decide_eq_true_eq]
          have hG : (200 : Int) < GR := by decide
          exact ⟨by omega, by omega⟩
        rw [e] at q; exact q
    · exact ⟨_, rfl, _, rfl, .inr ⟨t, hk, hn, _, rfl, iteF q⟩⟩
theorem ok_is_pair_of (T : Txt K mg tG tM) : C8.Cal P w K mg base 4 "is_pair_of" (spIsPair K) [] := by
  have c_is_residue_at := ok_is_residue_at (P := P) (w := w) (base := base) T
  have c_do_tell := ok_do_tell (P := P) (w := w) (base := base) T
  have c_least_pair := ok_least_pair (P := P) (w := w) (base := base) T
  refine T.d_is_pair_of.cal sc_is_pair_of (fun vs H Q E h => ?_) (fun f cdv A outer s H vs Q E hr h => ?_)
  · obtain ⟨N, x, b, rfl, _⟩ := h; rfl
  · obtain ⟨N, x, b, rfl, hl, hj, q⟩ := h
    have hN := hl.1
    refine ⟨_, (pss_cons (ps_if (PW.pt (pw_or (pt_not (pt_val (pe_callB call_isi (by rfl) T.n_isinstance (by decide +kernel) (pa_cons (pv 1) (pa_cons (pe_bltn (v := .ty "tuple") (u := .type "tuple") rfl T.n_tuple (by decide +kernel) rfl) pa_nil))))) (pw_or1 (pt_cmpR op_ne (pe_callB call_len_seq (by rfl) T.n_len (by decide +kernel) (pa_cons (pv 1) pa_nil)) pe_int (nomark _)))))
    (pss_one (ps_ret pe_bl))
    pss_nil)
    (pss_cons (ps_if (PW.pt (pw_or (pt_not (pt_val (pe_c c_is_residue_at hr (by decide) rfl (pa_cons (pv 0) (pa_cons (pe_ix ix_tup (pv 1) pe_int (fun _ _ => rfl)) pa_nil))))) (pw_or1 (pt_not (pt_val (pe_c c_is_residue_at hr (by decide) rfl (pa_cons (pv 0) (pa_cons (pe_ix ix_tup (pv 1) pe_int (fun _ _ => rfl)) pa_nil))))))))
    (pss_one (ps_ret pe_bl))
    pss_nil)
    (pss_one (ps_ret (pe_and (pe_c c_do_tell hr (by decide) rfl (pa_cons (pv 0) (pa_cons (pe_ix ix_tup (pv 1) pe_int (fun _ _ => rfl)) (pa_cons (pe_ix ix_tup (pv 1) pe_int (fun _ _ => rfl)) pa_nil)))) (pe_one (pe_cmpR (op_eqD (hu64 hr)) (pe_c c_least_pair hr (by decide) rfl (pa_cons (pv 0) (pa_cons (pe_ix ix_tup (pv 1) pe_int (fun _ _ => rfl)) (pa_cons (pe_ix ix_tup (pv 1) pe_int (fun _ _ => rfl)) pa_nil)))) (pv 1) (nomark _)))))))), ?_⟩
    rcases hj with ⟨t, hk, hn, rfl⟩ | ⟨a, xs, rfl, ha, hj⟩
    · refine ⟨x, rfl, x, .ty "tuple", .type t, .type "tuple", _, rfl, .ty "tuple", hk.2.1, kit_ty (kit_tup hk.1), _, rfl, ?_⟩
      have e : (t == "tuple") = false := by simpa using hn
      rw [e]
      exact q H (Same.refl H)
    · refine ⟨_, rfl, _, .ty "tuple", .type "tuple", .type "tuple", _, rfl, .ty "tuple", .base (.tup ha), kit_ty (kit_tup (by decide)), _, rfl, ?_⟩
      refine ⟨_, rfl, a, xs, rfl, .inr (SqT.of ha), rfl, _, rfl, ?_⟩
      by_cases hlen : xs.length = 2
      · have hd : (!decide (V.int (xs.length : Int) = V.int 2)) = false := by rw [hlen]; rfl
        refine ite_is hd (iteF ?_)
        obtain ⟨x0, x1, rfl⟩ : ∃ x0 x1, xs = [x0, x1] := by
          match xs, hlen with
          | [x0, x1], _ => exact ⟨x0, x1, rfl⟩
        rcases hj with ⟨z, _⟩ | ⟨c, d, e, rfl⟩ | ⟨y0, y1, t0, t1, e, k0, k1, hne, rfl⟩
        · exact absurd rfl z
        · injection e with e1 e2
          injection e2 with e2 _
          subst e1; subst e2
          refine ⟨_, rfl, _, rfl, a, _, 0, _, rfl, rfl, SqT.of ha, atI_nat (j := 0) rfl, N, _, rfl, hl, .inl ⟨c, rfl, _, rfl, ?_⟩⟩
          unfold isP at q
          by_cases h0 : (decide (0 ≤ c) && decide (c < (N : Int))) = true
          · rw [h0] at q ⊢
            refine ⟨_, rfl, _, rfl, a, _, 1, _, rfl, rfl, SqT.of ha, atI_nat (j := 1) rfl, N, _, rfl, hl, .inl ⟨d, rfl, _, rfl, ?_⟩⟩
            by_cases h1 : (decide (0 ≤ d) && decide (d < (N : Int))) = true
            · rw [h1] at q ⊢
              rw [Bool.true_and, Bool.true_and] at q
              rw [Bool.and_eq_true, decide_eq_true_eq, decide_eq_true_eq] at h0 h1
              refine iteF ?_
              refine ⟨_, rfl, _, rfl, a, _, 0, _, rfl, rfl, SqT.of ha, atI_nat (j := 0) rfl, _, rfl, a, _, 1, _, rfl, rfl, SqT.of ha, atI_nat (j := 1) rfl, N, c, d, rfl, _, rfl, ?_⟩
              have er := red_self h0.1 h0.2 h1.1 h1.2
              have hin : K9M.InR N (c.toNat, d.toNat) := by rw [← er]; exact red_in hN c d
              have ht := tellI_red hN c d
              rw [er] at ht
              refine ite2 (fun c1 => ?_) (fun c1 => ?_)
              · refine ⟨_, rfl, _, rfl, a, _, 0, _, rfl, rfl, SqT.of ha, atI_nat (j := 0) rfl, _, rfl, a, _, 1, _, rfl, rfl, SqT.of ha, atI_nat (j := 1) rfl, N, c, d, rfl, hl, fun H2 p sm e2 => ?_⟩
                refine ⟨_, rfl, dP (K9M.least N (red N c d)), dP (c.toNat, d.toNat), .tup (SqT.of e2) (.cons (.int _) (.cons (.int _) .nil)), .tup (SqT.of (sm _ _ ha)) ?_, shaped_dP _, shaped_dP _, ?_⟩
                · have e3 : ((c.toNat : Nat) : Int) = c := Int.toNat_of_nonneg h0.1
                  have e4 : ((d.toNat : Nat) : Int) = d := Int.toNat_of_nonneg h1.1
                  show DpAll K H2 [.int c, .int d] [.int ((c.toNat : Nat) : Int), .int ((d.toNat : Nat) : Int)]
                  rw [e3, e4]
                  exact .cons (.int _) (.cons (.int _) .nil)
                · rw [eqv_dP, er]
                  have e5 : decide (K9M.least N (c.toNat, d.toNat) = (c.toNat, d.toNat)) = K9M.isL N (c.toNat, d.toNat) := by
                    have i1 := K9M.isL_iff hN hin
                    rw [← ht, c1] at i1
                    cases hz : K9M.isL N (c.toNat, d.toNat) with
                    | true => exact decide_eq_true (i1.mp hz).2
                    | false => exact decide_eq_false fun z => by rw [hz] at i1; exact absurd (i1.mpr ⟨rfl, z⟩) Bool.false_ne_true
                  rw [e5]
                  exact q H2 sm
              · have e5 : K9M.isL N (c.toNat, d.toNat) = false := by
                  unfold K9M.isL
                  rw [← ht, Bool.eq_false_iff.mpr c1, Bool.false_and]
                rw [e5] at q
                exact q H (Same.refl H)
            · rw [Bool.eq_false_iff.mpr h1] at q ⊢
              exact q H (Same.refl H)
          · rw [Bool.eq_false_iff.mpr h0] at q ⊢
            exact q H (Same.refl H)
        · injection e with e1 e2
          injection e2 with e2 _
          subst e1; subst e2
          by_cases h0 : t0 = "int"
          · obtain ⟨c, rfl⟩ := k0.2.2 h0
            have h1 : t1 ≠ "int" := by
              rcases hne with z | z
              · exact absurd h0 z
              · exact z
            refine ⟨_, rfl, _, rfl, a, _, 0, _, rfl, rfl, SqT.of ha, atI_nat (j := 0) rfl, N, _, rfl, hl, .inl ⟨c, rfl, _, rfl, ?_⟩⟩
            by_cases h0 : (decide (0 ≤ c) && decide (c < (N : Int))) = true
            · rw [h0]
              exact ⟨_, rfl, _, rfl, a, _, 1, _, rfl, rfl, SqT.of ha, atI_nat (j := 1) rfl, N, _, rfl, hl, .inr ⟨t1, k1, h1, _, rfl, q H (Same.refl H)⟩⟩
            · rw [Bool.eq_false_iff.mpr h0]
              exact q H (Same.refl H)
          · exact ⟨_, rfl, _, rfl, a, _, 0, _, rfl, rfl, SqT.of ha, atI_nat (j := 0) rfl, N, _, rfl, hl, .inr ⟨t0, k0, h0, _, rfl, q H (Same.refl H)⟩⟩
      · have hd : (!decide (V.int (xs.length : Int) = V.int 2)) = true := by
          rw [decide_eq_false (fun z => hlen (by have := V.int.inj z; omega))]; rfl
        refine ite_is hd (iteT ?_)
        have hb : b = false := by
          rcases hj with ⟨_, z⟩ | ⟨c, d, e, _⟩ | ⟨y0, y1, t0, t1, e, _⟩
          · exact z
          · rw [e] at hlen; exact absurd rfl hlen
          · rw [e] at hlen; exact absurd rfl hlen
        subst hb
        exact q H (Same.refl H)
theorem ok_is_pair (T : Txt K mg tG tM) : C8.Cal P w K mg base 5 "is_pair" (spIsPair K) [] := by
  have c_require_level := ok_require_level (P := P) (w := w) (base := base) T
  have c_is_pair_of := ok_is_pair_of (P := P) (w := w) (base := base) T
  refine T.d_is_pair.cal sc_is_pair (fun vs H Q E h => ?_) (fun f cdv A outer s H vs Q E hr h => ?_)
  · obtain ⟨N, x, b, rfl, _⟩ := h; rfl
  · obtain ⟨N, x, b, rfl, hl, hj, q⟩ := h
    refine ⟨_, (pss_cons (ps_expr (pe_c c_require_level hr (by decide) rfl (pa_cons (pv 0) pa_nil)))
    (pss_one (ps_ret (pe_c c_is_pair_of hr (by decide) rfl (pa_cons (pv 0) (pa_cons (pv 1) pa_nil)))))), ?_⟩
    exact ⟨_, rfl, N, rfl, hl, _, rfl, _, rfl, N, x, b, rfl, hl, hj, q⟩
theorem ok_require_pair (T : Txt K mg tG tM) : C8.Cal P w K mg base 5 "require_pair" (spReqPair K) [] := by
  have c_is_pair_of := ok_is_pair_of (P := P) (w := w) (base := base) T
  refine T.d_require_pair.cal sc_require_pair (fun vs H Q E h => ?_) (fun f cdv A outer s H vs Q E hr h => ?_)
  · obtain ⟨N, x, rfl, _⟩ := h; rfl
  · obtain ⟨N, x, rfl, hl, hj, q⟩ := h
    refine ⟨_, (pss_one (ps_if (pt_not (pt_val (pe_c c_is_pair_of hr (by decide) rfl (pa_cons (pv 0) (pa_cons (pv 1) pa_nil)))))
    (pss_one ps_never)
    pss_nil)), ?_⟩
    exact ⟨_, rfl, _, rfl, N, x, true, rfl, hl, hj, fun H' sm => ⟨_, rfl, iteF (q H' sm)⟩⟩
theorem ok_pair_of (T : Txt K mg tG tM) (TX : TxtX K mg C) : CalX P w K mg base 4 "pair_of" ["level", "c", "d"] (spPairOf C) := by
  have c_require_level := ok_require_level (P := P) (w := w) (base := base) T
  have c_require_integers := ok_require_integers (P := P) (w := w) (base := base) T
  have c_do_tell := ok_do_tell (P := P) (w := w) (base := base) T
  have c_least_pair := ok_least_pair (P := P) (w := w) (base := base) T
  refine T.d_pair_of.calX sc_pair_of (fun vs H Q E h => ?_) (fun f cdv A outer s H vs Q E hr h => ?_)
  · obtain ⟨N, c, d, rfl, _⟩ := h; rfl
  · obtain ⟨N, c, d, rfl, hl, hc, hd, q1, q2⟩ := h
    refine ⟨_, (pss_cons (ps_expr (pe_c c_require_level hr (by decide) rfl (pa_cons (pv 0) pa_nil)))
    (pss_cons (ps_expr (pe_c c_require_integers hr (by decide) rfl (pa_cons (pe_tup (pa_cons (pv 1) (pa_cons (pv 2) pa_nil))) pa_nil)))
    (pss_cons (ps_if (pt_not (pt_val (pe_c c_do_tell hr (by decide) rfl (pa_cons (pv 0) (pa_cons (pv 1) (pa_cons (pv 2) pa_nil))))))
    (pss_one (ps_raise rfl (takes_of rfl rfl rfl rfl) (pmk_own PySem.F.excBase_ValueError TX.xIO TX.gIO TX.kIO (raises_own TX.bIO TX.tIO) rfl)))
    pss_nil)
    (pss_one (ps_ret (pe_c c_least_pair hr (by decide) rfl (pa_cons (pv 0) (pa_cons (pv 1) (pa_cons (pv 2) pa_nil))))))))), ?_⟩
    refine ⟨_, rfl, N, rfl, hl, _, rfl, _, rfl, by show 2 ≤ sizeLine; decide, fun t ht => ?_⟩
    refine ⟨t, c, d, rfl, SqT.of upd_same, hc, hd, ?_⟩
    have sm := same_new (o := .tup [.int c, .int d]) ht
    refine ⟨_, rfl, _, rfl, _, rfl, N, c, d, rfl, _, rfl, ?_⟩
    cases ht2 : tellI N c d with
    | true => exact ⟨_, rfl, _, rfl, _, rfl, N, c, d, rfl, hl, fun H' p sm2 e => q1 ht2 H' p (sm.trans sm2) e⟩
    | false => exact q2 ht2 _ sm
end
end K9

set_option Elab.async false
set_option linter.all false
set_option maxRecDepth 100000
set_option maxHeartbeats 4200000
namespace K9
open PySem PySem.Spec PyProof.Rows L2 C8
/-! ### data of lists of pairs -/
theorem depth_all_dP (ps : List (Nat × Nat)) : PyData.depthAll (ps.map dP) ≤ 1 := depth_dP ps
theorem canLay_all_dP : ∀ ps : List (Nat × Nat), PyData.canLayAll0 (ps.map dP) = true
  | [] => by rw [List.map_nil]; simp [PyData.canLayAll0]
  | p :: ps => by
    rw [List.map_cons]
    simp only [PyData.canLayAll0, Bool.and_eq_true]
    refine ⟨?_, canLay_all_dP ps⟩
    unfold dP
    simp [PyData.canLay0, PyData.canLayAll0]
theorem shaped_list (ps : List (Nat × Nat)) : SeqAt.shaped (.list (ps.map dP)) = true := by
  unfold SeqAt.shaped
  have := depth_dP ps
  simp only [PyData.canLay0, canLay_all_dP, Bool.true_and, PyData.depth]
  exact decide_eq_true_iff.mpr (by omega)
theorem shaped_tuple (ps : List (Nat × Nat)) : SeqAt.shaped (.tuple (ps.map dP)) = true := by
  unfold SeqAt.shaped
  have := depth_dP ps
  simp only [PyData.canLay0, canLay_all_dP, Bool.true_and, PyData.depth]
  exact decide_eq_true_iff.mpr (by omega)
theorem dp_vp {K : PySem.W.Frag} {H : Hp} {a : Addr} {p : Nat × Nat} (h : SqT K H a (vp p)) : Dp K H (.ref a) (dP p) := .tup h (.cons (.int _) (.cons (.int _) .nil))
theorem Made.dp {K : PySem.W.Frag} {H : Hp} {D : Addr} {l : List (Nat × Nat)} (m : Made H D l) : Dp K H (.ref D) (.list (l.map dP)) := by
  obtain ⟨ps, e1, e2, e3⟩ := m
  subst e1
  exact .lst (SqL.of e2) (dpAll_of ps fun p hp => SqT.of (e3 p hp))
theorem eqvAll_dP : ∀ l m : List (Nat × Nat), PyData.eqvAll (l.map dP) (m.map dP) = decide (l = m)
  | [], m => by cases m <;> simp [PyData.eqvAll]
  | l :: ls, [] => by simp [PyData.eqvAll]
  | p :: l, q :: m => by
    rw [List.map_cons]; rw [List.map_cons]
    simp only [PyData.eqvAll]
    rw [eqv_dP, eqvAll_dP l m]
    by_cases h1 : p = q
    · by_cases h2 : l = m
      · subst h1; subst h2; simp
      · subst h1; simp [h2]
    · simp [h1]
/-! ### promises -/
def spPairNumber (K : PySem.W.Frag) : Sp := fun vs H Q _ => ∃ (N : Nat) (a : Addr) (i : Nat) (p : Nat × Nat), vs = [.int (N : Int), .ref a] ∧ LevelOk N ∧ H a = some (.tup (vp p)) ∧ (K9M.allp N)[i]? = some p ∧ ∀ H', Same H H' → Q (.int (i : Int)) H'
def spPairAt : Sp := fun vs H Q _ => ∃ (N i : Nat) (p : Nat × Nat), vs = [.int (N : Int), .int (i : Int)] ∧ LevelOk N ∧ (K9M.allp N)[i]? = some p ∧ ∀ H' a, Same H H' → H' a = some (.tup (vp p)) → Q (.ref a) H'
theorem isP_of {N : Nat} {p : Nat × Nat} (hl : LevelOk N) (h : p ∈ K9M.allp N) : isP N (p.1 : Int) (p.2 : Int) = true := by
  obtain ⟨⟨h1, h2⟩, h3⟩ := (K9M.mem_allp hl.1 hl.2).mp h
  unfold isP
  have e : (((p.1 : Int)).toNat, ((p.2 : Int)).toNat) = p := by simp
  rw [e, h3, decide_eq_true (show (0 : Int) ≤ p.1 by omega), decide_eq_true (show (p.1 : Int) < N by omega), decide_eq_true (show (0 : Int) ≤ p.2 by omega), decide_eq_true (show (p.2 : Int) < N by omega)]
  rfl
section
variable {P : Program} {w : World} {K : PySem.W.Frag} {mg : Str → Option Value} {base : Heap} {tG tM : Tok} {C : Addr}
theorem ok_pair_number (T : Txt K mg tG tM) : C8.Cal P w K mg base 6 "pair_number" (spPairNumber K) [] := by
  have c_require_level := ok_require_level (P := P) (w := w) (base := base) T
  have c_require_pair := ok_require_pair (P := P) (w := w) (base := base) T
  have c_all_pairs := ok_all_pairs (P := P) (w := w) (base := base) T
  refine T.d_pair_number.cal sc_pair_number (fun vs H Q E h => ?_) (fun f cdv A outer s H vs Q E hr h => ?_)
  · obtain ⟨N, a, i, p, rfl, _⟩ := h; rfl
  · obtain ⟨N, a, i, p, rfl, hl, ha, hi, q⟩ := h
    refine ⟨_, (pss_cons (ps_expr (pe_c c_require_level hr (by decide) rfl (pa_cons (pv 0) pa_nil)))
    (pss_cons (ps_expr (pe_c c_require_pair hr (by decide) rfl (pa_cons (pv 0) (pa_cons (pv 1) pa_nil))))
    (pss_one (ps_ret (pe_bm PySem.F.plainAttrs_list PySem.F.slot_list_index PySem.F.type_list_index (mt_indexD (hu65 hr)) (pe_c c_all_pairs hr (by decide) rfl (pa_cons (pv 0) pa_nil)) (pa_cons (pv 1) pa_nil)))))), ?_⟩
    have hm : p ∈ K9M.allp N := List.mem_of_getElem? hi
    refine ⟨_, rfl, N, rfl, hl, _, rfl, _, rfl, N, _, rfl, hl, .inr ⟨a, _, rfl, ha, .inr (.inl ⟨_, _, rfl, (isP_of hl hm).symm⟩)⟩, fun H1 sm1 => ?_⟩
    refine ⟨_, rfl, N, rfl, hl, fun H2 p0 n0 sm2 md => ?_⟩
    obtain ⟨acc, ea, _⟩ := md.get
    refine ⟨.inl ⟨rfl, _, SqL.of ea⟩, _, rfl, p0, _, dP p, (K9M.allp N).map dP, i, dP p, rfl, rfl, md.dp, dp_vp (SqT.of ((sm1.trans sm2) _ _ ha)), shaped_list _, shaped_dP _, ?_, ?_, fun m z' hm2 hz => ?_, q H2 (sm1.trans sm2)⟩
    · rw [List.getElem?_map, hi]; rfl
    · rw [eqv_dP]; simp
    · rw [List.getElem?_map] at hz
      cases e : (K9M.allp N)[m]? with
      | none => rw [e] at hz; cases hz
      | some p' =>
        rw [e] at hz
        cases hz
        show PyData.eqv (dP p') (dP p) = false
        rw [eqv_dP]
        refine decide_eq_false fun z => ?_
        subst z
        obtain ⟨l1, e1⟩ := List.getElem?_eq_some_iff.mp e
        obtain ⟨l2, e2⟩ := List.getElem?_eq_some_iff.mp hi
        have := List.pairwise_iff_getElem.mp (K9M.allp_sorted N) m i l1 l2 hm2
        rw [e1, e2] at this
        exact K9M.lexlt_irrefl this
theorem ok_pair_at (T : Txt K mg tG tM) : C8.Cal P w K mg base 5 "pair_at" spPairAt [] := by
  have c_require_level := ok_require_level (P := P) (w := w) (base := base) T
  have c_is_integer := ok_is_integer (P := P) (w := w) (base := base) T
  have c_index_of_level := ok_index_of_level (P := P) (w := w) (base := base) T
  have c_all_pairs := ok_all_pairs (P := P) (w := w) (base := base) T
  refine T.d_pair_at.cal sc_pair_at (fun vs H Q E h => ?_) (fun f cdv A outer s H vs Q E hr h => ?_)
  · obtain ⟨N, i, p, rfl, _⟩ := h; rfl
  · obtain ⟨N, i, p, rfl, hl, hi, q⟩ := h
    refine ⟨_, (pss_cons (ps_expr (pe_c c_require_level hr (by decide) rfl (pa_cons (pv 0) pa_nil)))
    (pss_cons (ps_if (PW.pt (pw_or (pt_not (pt_val (pe_c c_is_integer hr (by decide) rfl (pa_cons (pv 1) pa_nil)))) (pw_or1 (pt_not (pt_chain op_le op_lt pe_int (pv 1) (pe_c c_index_of_level hr (by decide) rfl (pa_cons (pv 0) pa_nil)))))))
    (pss_one ps_never)
    pss_nil)
    (pss_one (ps_ret (pe_ix ix_list (pe_c c_all_pairs hr (by decide) rfl (pa_cons (pv 0) pa_nil)) (pv 1) (fun _ _ => rfl)))))), ?_⟩
    obtain ⟨li, _⟩ := List.getElem?_eq_some_iff.mp hi
    have hlen := (K9M.allp_len hl.1 hl.2).2
    have hix := (K9M.index_eq hl.1 hl.2).1
    have hG : (200000 : Int) < GR := by decide
    refine ⟨_, rfl, N, rfl, hl, _, rfl, _, rfl, .inl ⟨_, rfl, _, rfl, ?_⟩⟩
    rw [decide_eq_true (show -GR < (i : Int) by omega), decide_eq_true (show (i : Int) < GR by omega)]
    refine ⟨_, rfl, 0, _, rfl, rfl, _, rfl, ?_⟩
    rw [decide_eq_true (show (0 : Int) ≤ (i : Int) by omega)]
    refine ⟨_, rfl, N, rfl, hl, _, _, rfl, rfl, _, rfl, ?_⟩
    rw [decide_eq_true (show (i : Int) < (K9M.index N : Int) by omega)]
    refine iteF ?_
    refine ⟨_, rfl, N, rfl, hl, fun H2 p0 n0 sm2 md => ?_⟩
    obtain ⟨ps, e1, e2, e3⟩ := md
    have lps : i < ps.length := by rw [← e1, List.length_map] at li; exact li
    have hx : (ps.map fun p => V.ref p.1)[i]? = some (V.ref ps[i].1) := by
      rw [List.getElem?_map, List.getElem?_eq_getElem lps]; rfl
    have hp : ps[i].2 = p := by
      have := hi
      rw [← e1, List.getElem?_map, List.getElem?_eq_getElem lps] at this
      exact Option.some.inj this
    refine ⟨_, rfl, p0, _, _, _, rfl, rfl, SqL.of e2, atI_nat hx, q H2 _ sm2 ?_⟩
    rw [← hp]
    exact e3 _ (List.getElem_mem lps)
end
end K9

set_option Elab.async false
set_option linter.all false
set_option maxRecDepth 100000
set_option maxHeartbeats 4200000
namespace K9
open PySem PySem.Spec PyProof.Rows L2 C8
/-! ### the dice: a list of three numbers that changes -/
def Dice (H : Hp) (d : Addr) : Prop := ∃ a b k : Int, H d = some (.lst [.int a, .int b, .int k])
/-- all but the dice is as it was -/
def SameD (d : Addr) (H H' : Hp) : Prop := (∀ b o, b ≠ d → H b = some o → H' b = some o) ∧ Dice H' d
theorem SameD.of {d : Addr} {H H' : Hp} (h : Dice H d) (e : Same H H') : SameD d H H' := ⟨fun b o _ q => e b o q, by
  obtain ⟨a, b, k, q⟩ := h
  exact ⟨a, b, k, e _ _ q⟩⟩
theorem SameD.trans {d : Addr} {H H1 H2 : Hp} (a : SameD d H H1) (b : SameD d H1 H2) : SameD d H H2 := ⟨fun c o n q => b.1 c o n (a.1 c o n q), b.2⟩
theorem SameD.then {d : Addr} {H H1 H2 : Hp} (a : SameD d H H1) (b : Same H1 H2) : SameD d H H2 := a.trans (.of a.2 b)
theorem SameD.free {d : Addr} {H H1 : Hp} {p : Addr} (h : Dice H d) (a : SameD d H H1) (n : H1 p = none) : H p = none := by
  cases q : H p with
  | none => rfl
  | some o =>
    by_cases e : p = d
    · subst e
      obtain ⟨x, y, z, w⟩ := a.2
      rw [n] at w; cases w
    · rw [a.1 p o e q] at n; cases n
theorem Dice.ne {d : Addr} {H : Hp} {p : Addr} (h : Dice H d) (n : H p = none) : p ≠ d := fun e => by
  subst e
  obtain ⟨x, y, z, w⟩ := h
  rw [n] at w; cases w
theorem Dice.ne_tup {d : Addr} {H : Hp} {p : Addr} {xs : List V} (h : Dice H d) (n : H p = some (.tup xs)) : p ≠ d := fun e => by
  subst e
  obtain ⟨x, y, z, w⟩ := h
  rw [n] at w; cases w
theorem Dice.ne_dT {d : Addr} {H : Hp} {p : Addr} {xs : List (List Key × V)} (h : Dice H d) (n : H p = some (.dT xs)) : p ≠ d := fun e => by
  subst e
  obtain ⟨x, y, z, w⟩ := h
  rw [n] at w; cases w
theorem Made.sameD {d : Addr} {H H' : Hp} {D : Addr} {l : List (Nat × Nat)} (h : Dice H d) (hd : D ≠ d) (e : SameD d H H') (m : Made H D l) : Made H' D l := by
  obtain ⟨ps, e1, e2, e3⟩ := m
  exact ⟨ps, e1, e.1 _ _ hd e2, fun p hp => e.1 _ _ (h.ne_tup (e3 p hp)) (e3 p hp)⟩
def spDice (K : PySem.W.Frag) : Sp := fun vs H Q _ => ∃ (a : Addr) (ns : List Int) (i : Nat), vs = [.ref a, .int (i : Int)] ∧ SqL K H a (ns.map V.int) ∧ i ≤ 2 ∧ ∀ H' p, H p = none → Same H H' → Dice H' p → Q (.ref p) H'
def spRoll : Sp := fun vs H Q _ => ∃ (d : Addr) (n : Int), vs = [.ref d, .int n] ∧ Dice H d ∧ 0 < n ∧ n < 2 ^ 200 ∧ ∀ r H', 0 ≤ r → r < n → SameD d H H' → Q (.int r) H'
def spPick : Sp := fun vs H Q _ => ∃ (d l : Addr) (xs : List V), vs = [.ref d, .ref l] ∧ Dice H d ∧ H l = some (.lst xs) ∧ l ≠ d ∧ xs ≠ [] ∧ xs.length ≤ 100000 ∧ ∀ (i : Nat) x H', xs[i]? = some x → SameD d H H' → Q x H'
def spDivs : Sp := fun vs H Q _ => ∃ n : Nat, vs = [.int (n : Int)] ∧ n ≤ 100 ∧ ∀ H' p, H p = none → Same H H' → H' p = some (.lst (nats (K9M.divs n))) → Q (.ref p) H'
def spLawIndex : Sp := fun vs H Q _ => ∃ N : Nat, vs = [.int (N : Int)] ∧ LevelOk N ∧ ∀ H', Same H H' → Q (.int (K9M.lawIndex N : Int)) H'
def spDrawn : Sp := fun vs H Q _ => ∃ d : Addr, vs = [.ref d, .int 60] ∧ Dice H d ∧ ∀ (N : Nat) H', 0 < N → N ≤ 60 → SameD d H H' → Q (.int (N : Int)) H'
theorem fmod_rng (a : Int) {b : Int} (h : 0 < b) : 0 ≤ a.fmod b ∧ a.fmod b < b := ⟨Int.fmod_nonneg_of_pos a h, Int.fmod_lt_of_pos a h⟩
section
variable {P : Program} {w : World} {K : PySem.W.Frag} {mg : Str → Option Value} {base : Heap} {tG tM : Tok} {C : Addr}
theorem ok_law_dice (T : Txt K mg tG tM) : C8.Cal P w K mg base 1 "_law_dice" (spDice K) [] := by
  refine T.d_law_dice.cal sc_law_dice (fun vs H Q E h => ?_) (fun f cdv A outer s H vs Q E hr h => ?_)
  · obtain ⟨a, ns, i, rfl, _⟩ := h; rfl
  · obtain ⟨a, ns, i, rfl, hS, hi, q⟩ := h
    refine ⟨_, (pss_cons (ps_set (i := 2) sc_law_dice.nd rfl (Or.inl rfl) (pe_ifExp (pt_cmpR op_lt (pv 1) (pe_callB call_len_seq (by rfl) T.n_len (by decide +kernel) (pa_cons (pv 0) pa_nil)) (nomark _)) (pe_callTy call_int1 (by rfl) T.n_int (by decide +kernel) (pa_cons (pe_ix ix_list (pv 0) (pv 1) (fun _ _ => rfl)) pa_nil)) (pe_op op_add (pe_op op_mul pe_int (pv 1)) pe_int)))
    (pss_cons (ps_set (i := 3) sc_law_dice.nd rfl (Or.inl rfl) (pe_op op_modN (pe_callB (call_max2 rfl) (by rfl) T.n_max (by decide +kernel) (pa_cons pe_int (pa_cons (pe_op op_sub (pe_callB call_abs (by rfl) T.n_abs (by decide +kernel) (pa_cons (pv 2) pa_nil)) (pe_op op_pow pe_int pe_int)) pa_nil))) (pe_op op_mulW (pe_op op_pow pe_int pe_int) (pe_op op_pow pe_int pe_int))))
    (pss_one (ps_ret (pe_lst (pa_cons (pv 3) (pa_cons (pe_op op_add (pe_op op_add (pe_op op_add (pe_op op_mul (pe_op op_modN (pe_callB call_abs (by rfl) T.n_abs (by decide +kernel) (pa_cons (pv 2) pa_nil)) pe_int) pe_int) (pe_op op_mul pe_int (pv 1))) (pe_op op_mul pe_int (pe_callTy call_int1 (by rfl) T.n_int (by decide +kernel) (pa_cons (pe_cmpR op_lt (pv 2) pe_int (nomark _)) pa_nil)))) pe_int) (pa_cons pe_int pa_nil)))))))), ?_⟩
    refine ⟨_, rfl, _, rfl, a, _, rfl, .inl hS, _, _, rfl, rfl, _, rfl, ite2 (fun c => ?_) (fun c => ?_)⟩
    · have hlt : i < ns.length := by
        have := of_decide_eq_true c
        rw [List.length_map] at this
        omega
      refine ⟨_, rfl, _, rfl, a, _, _, .int ns[i], rfl, rfl, hS, atI_nat (j := i) (by rw [List.getElem?_map, List.getElem?_eq_getElem hlt]; rfl), .inl ⟨_, rfl, ?_⟩⟩
      generalize ns[i] = cell
      refine ⟨_, rfl, cell, rfl, 10, 17, rfl, rfl, ⟨by decide, by decide, by decide⟩, _, _, rfl, rfl, _, _, rfl, ?_⟩
      refine ⟨10, 59, rfl, rfl, ⟨by decide, by decide, by decide⟩, 10, 60, rfl, rfl, ⟨by decide, by decide, by decide⟩, _, _, rfl, rfl, wide_mul (a := 200) (b := 201) (by decide) (by decide) (by decide) (by decide) (by decide), _, _, rfl, rfl, (show ((10 : Int) ^ (59 : Int).toNat * (10 : Int) ^ (60 : Int).toNat) ≠ 0 by decide +kernel), ?_⟩
      refine ⟨_, rfl, _, rfl, cell, rfl, _, _, rfl, rfl, (show (1152921504606846883 : Int) ≠ 0 by decide), _, _, rfl, rfl, .inl ?_, ?_⟩
      · have := fmod_rng (if cell < 0 then -cell else cell) (b := 1152921504606846883) (by decide)
        constructor <;> omega
      · refine ⟨_, rfl, _, _, rfl, rfl, .inl ⟨by decide, by decide⟩, _, _, rfl, rfl, _, rfl, _, _, rfl, rfl, .inr ⟨_, rfl, _, _, rfl, rfl, .inl ⟨by decide, by decide⟩, _, _, rfl, rfl, _, _, rfl, rfl, by show 3 ≤ sizeLine; decide, fun p hp => ?_⟩⟩
        exact q _ p hp (same_new hp) ⟨_, _, _, upd_same⟩
    · refine ⟨_, rfl, 71, _, rfl, rfl, .inl ⟨by decide, by decide⟩, _, _, rfl, rfl, ?_⟩
      refine ⟨_, rfl, (71 * (i : Int) + 23), rfl, 10, 17, rfl, rfl, ⟨by decide, by decide, by decide⟩, _, _, rfl, rfl, _, _, rfl, ?_⟩
      refine ⟨10, 59, rfl, rfl, ⟨by decide, by decide, by decide⟩, 10, 60, rfl, rfl, ⟨by decide, by decide, by decide⟩, _, _, rfl, rfl, wide_mul (a := 200) (b := 201) (by decide) (by decide) (by decide) (by decide) (by decide), _, _, rfl, rfl, (show ((10 : Int) ^ (59 : Int).toNat * (10 : Int) ^ (60 : Int).toNat) ≠ 0 by decide +kernel), ?_⟩
      refine ⟨_, rfl, _, rfl, (71 * (i : Int) + 23), rfl, _, _, rfl, rfl, (show (1152921504606846883 : Int) ≠ 0 by decide), _, _, rfl, rfl, .inl ?_, ?_⟩
      · have := fmod_rng (if (71 * (i : Int) + 23) < 0 then -(71 * (i : Int) + 23) else (71 * (i : Int) + 23)) (b := 1152921504606846883) (by decide)
        constructor <;> omega
      · refine ⟨_, rfl, _, _, rfl, rfl, .inl ⟨by decide, by decide⟩, _, _, rfl, rfl, _, rfl, _, _, rfl, rfl, .inr ⟨_, rfl, _, _, rfl, rfl, .inl ⟨by decide, by decide⟩, _, _, rfl, rfl, _, _, rfl, rfl, by show 3 ≤ sizeLine; decide, fun p hp => ?_⟩⟩
        exact q _ p hp (same_new hp) ⟨_, _, _, upd_same⟩
theorem ok_law_roll (T : Txt K mg tG tM) : C8.Cal P w K mg base 1 "_law_roll" spRoll [] := by
  refine T.d_law_roll.cal sc_law_roll (fun vs H Q E h => ?_) (fun f cdv A outer s H vs Q E hr h => ?_)
  · obtain ⟨d, n, rfl, _⟩ := h; rfl
  · obtain ⟨d, n, rfl, ⟨a, b, k, hd⟩, hn, hn2, q⟩ := h
    refine ⟨_, (pss_cons (ps_if (pt_cmpR op_gt (pe_ix ix_list (pv 0) pe_int (fun _ _ => rfl)) pe_int (nomark _))
    (pss_cons (ps_set (i := 2) sc_law_roll.nd rfl (Or.inl rfl) (pe_op op_modN (pe_callTy call_int1 (by rfl) T.n_int (by decide +kernel) (pa_cons (pe_ix ix_list (pv 0) pe_int (fun _ _ => rfl)) pa_nil)) (pv 1)))
    (pss_cons (ps_asg (pe_op op_fdivW (pe_ix ix_list (pv 0) pe_int (fun _ _ => rfl)) (pv 1)) (pg_sub (pv 0) pe_int set_list))
    (pss_one (ps_ret (pv 2)))))
    pss_nil)
    (pss_cons (ps_asg (pe_op op_add (pe_ix ix_list (pv 0) pe_int (fun _ _ => rfl)) pe_int) (pg_sub (pv 0) pe_int set_list))
    (pss_cons (ps_set (i := 3) sc_law_roll.nd rfl (Or.inl rfl) (pe_op op_modN (pe_callTy call_int1 (by rfl) T.n_int (by decide +kernel) (pa_cons (pe_op op_add (pe_ix ix_list (pv 0) pe_int (fun _ _ => rfl)) (pe_op op_mul pe_int (pe_ix ix_list (pv 0) pe_int (fun _ _ => rfl)))) pa_nil)) pe_int))
    (pss_cons (ps_set (i := 4) sc_law_roll.nd rfl (Or.inl rfl) (pe_op op_add (pe_op op_mul (pe_op op_modN (pe_callTy call_int1 (by rfl) T.n_int (by decide +kernel) (pa_cons (pe_op op_add (pe_op op_mul (pv 3) (pv 3)) (pe_op op_mul pe_int (pe_ix ix_list (pv 0) pe_int (fun _ _ => rfl)))) pa_nil)) pe_int) pe_int) (pv 3)))
    (pss_one (ps_ret (pe_op op_modN (pe_callTy call_int1 (by rfl) T.n_int (by decide +kernel) (pa_cons (pe_op op_fdivN (pv 4) pe_int) pa_nil)) (pv 1)))))))), ?_⟩
    refine ⟨_, rfl, d, _, 0, _, rfl, rfl, SqL.of hd, atI_nat (j := 0) rfl, _, _, rfl, rfl, _, rfl, ite2 (fun c => ?_) (fun c => ?_)⟩
    · refine ⟨_, rfl, d, _, 0, _, rfl, rfl, SqL.of hd, atI_nat (j := 0) rfl, .inl ⟨_, rfl, _, rfl, _, _, rfl, rfl, by omega, ?_⟩⟩
      refine ⟨_, rfl, d, _, 0, _, rfl, rfl, SqL.of hd, atI_nat (j := 0) rfl, _, rfl, _, _, rfl, rfl, wide_div (b := 200) hn ?_ (by decide) (by decide), _, rfl, d, _, 0, 0, rfl, rfl, hd, rfl, ?_⟩
      · omega
      · refine ⟨_, rfl, q _ _ (fmod_rng a hn).1 (fmod_rng a hn).2 ⟨fun c o hc e => by rw [upd_ne hc]; exact e, _, _, _, upd_same⟩⟩
    · refine ⟨_, rfl, d, _, 2, _, rfl, rfl, SqL.of hd, atI_nat (j := 2) rfl, _, _, rfl, rfl, _, rfl, d, _, 2, 2, rfl, rfl, hd, rfl, ?_⟩
      have hd2 : (upd H d (.lst ([V.int a, V.int b, V.int k].set 2 (V.int (k + 1))))) d = some (.lst [.int a, .int b, .int (k + 1)]) := upd_same
      refine ⟨_, rfl, d, _, 1, _, rfl, rfl, SqL.of hd2, atI_nat (j := 1) rfl, _, rfl, d, _, 2, _, rfl, rfl, SqL.of hd2, atI_nat (j := 2) rfl, _, _, rfl, rfl, .inl ⟨by decide, by decide⟩, _, _, rfl, rfl, .inl ⟨_, rfl, _, _, rfl, rfl, (show (2305843009213693921 : Int) ≠ 0 by decide), ?_⟩⟩
      have r1 := fmod_rng (b + 49979687 * (k + 1)) (b := 2305843009213693921) (by decide)
      refine ⟨_, rfl, _, rfl, _, _, rfl, rfl, .inl ⟨by omega, by omega⟩, _, rfl, d, _, 2, _, rfl, rfl, SqL.of hd2, atI_nat (j := 2) rfl, _, _, rfl, rfl, .inl ⟨by decide, by decide⟩, _, _, rfl, rfl, .inl ⟨_, rfl, _, _, rfl, rfl, (show (2305843009213693907 : Int) ≠ 0 by decide), _, _, rfl, rfl, .inl ?_, _, rfl, _, _, rfl, rfl, ?_⟩⟩
      · have r2 := fmod_rng ((b + 49979687 * (k + 1)).fmod 2305843009213693921 * (b + 49979687 * (k + 1)).fmod 2305843009213693921 + 131 * (k + 1)) (b := 2305843009213693907) (by decide)
        constructor <;> omega
      · refine ⟨_, rfl, _, _, rfl, rfl, ⟨by decide, by decide⟩, .inl ⟨_, rfl, _, rfl, _, _, rfl, rfl, by omega, ?_⟩⟩
        exact q _ _ (fmod_rng _ hn).1 (fmod_rng _ hn).2 ⟨fun c o hc e => by rw [upd_ne hc]; exact e, _, _, _, hd2⟩
theorem ok_law_pick (T : Txt K mg tG tM) : C8.Cal P w K mg base 2 "_law_pick" spPick [] := by
  have c_law_roll := ok_law_roll (P := P) (w := w) (base := base) T
  refine T.d_law_pick.cal sc_law_pick (fun vs H Q E h => ?_) (fun f cdv A outer s H vs Q E hr h => ?_)
  · obtain ⟨d, l, xs, rfl, _⟩ := h; rfl
  · obtain ⟨d, l, xs, rfl, hd, hl, hne, hx, hlen, q⟩ := h
    refine ⟨_, (pss_one (ps_ret (pe_ix ix_list (pv 1) (pe_c c_law_roll hr (by decide) rfl (pa_cons (pv 0) (pa_cons (pe_callB call_len_seq (by rfl) T.n_len (by decide +kernel) (pa_cons (pv 1) pa_nil)) pa_nil))) (fun _ _ => rfl)))), ?_⟩
    have hpos : 0 < xs.length := List.length_pos_iff.mpr hx
    refine ⟨_, rfl, _, rfl, _, rfl, l, xs, rfl, .inl (SqL.of hl), d, (xs.length : Int), rfl, hd, by omega, by omega, fun r H' h0 h1 sm => ?_⟩
    have hr : r.toNat < xs.length := by omega
    have e : ((r.toNat : Nat) : Int) = r := Int.toNat_of_nonneg h0
    refine ⟨l, xs, r, xs[r.toNat], rfl, rfl, SqL.of (sm.1 _ _ hne hl), ?_, q r.toNat _ H' (List.getElem?_eq_getElem hr) sm⟩
    have z := atI_nat (List.getElem?_eq_getElem hr)
    rw [e] at z
    exact z
theorem ok_law_gcd (T : Txt K mg tG tM) : C8.Cal P w K mg base 1 "_law_gcd" spCommon [] := by
  refine T.d_law_gcd.cal sc_law_gcd (fun vs H Q E h => ?_) (fun f cdv A outer s H vs Q E hr h => ?_)
  · obtain ⟨a, b, rfl, _⟩ := h; rfl
  · obtain ⟨a, b, rfl, q⟩ := h
    refine ⟨_, (pss_cons (ps_par (i := 0) (j := 1) rfl sc_law_gcd.nd rfl rfl (by decide) rfl rfl (pa_cons (pe_callB call_abs (by rfl) T.n_abs (by decide +kernel) (pa_cons (pv 0) pa_nil)) (pa_cons (pe_callB call_abs (by rfl) T.n_abs (by decide +kernel) (pa_cons (pv 1) pa_nil)) pa_nil)) (by rfl))
    (pss_cons (ps_while PassesOwn.never (pt_cmpR op_gt (pv 1) pe_int (nomark _))
    (pss_one (ps_par (i := 0) (j := 1) rfl sc_law_gcd.nd rfl rfl (by decide) rfl rfl (pa_cons (pv 1) (pa_cons (pe_op op_modN (pe_callTy call_int1 (by rfl) T.n_int (by decide +kernel) (pa_cons (pv 0) pa_nil)) (pv 1)) pa_nil)) (by rfl))))
    (pss_one (ps_ret (pv 0))))), ?_⟩
    have ab : ∀ x : Int, (if x < 0 then -x else x) = (x.natAbs : Int) := fun x => by split <;> omega
    refine ⟨_, rfl, a, rfl, _, rfl, b, rfl, _, _, rfl, ?_⟩
    show tSeq _ _ _ [some (V.int (if a < 0 then -a else a)), some (V.int (if b < 0 then -b else b))] H
    rw [ab, ab]
    refine ⟨fun m σ H' => ∃ x y : Nat, σ = [some (.int (x : Int)), some (.int (y : Int))] ∧ H' = H ∧ Nat.gcd x y = Int.gcd a b ∧ y = m, ⟨_, a.natAbs, b.natAbs, rfl, rfl, rfl, rfl⟩, ?_⟩
    rintro m σ H' ⟨x, y, rfl, rfl, eg, em⟩
    refine ⟨.int y, rfl, _, _, rfl, rfl, _, rfl, ite2 (fun c => ?_) (fun c => ?_)⟩
    · have hy : 0 < y := by have := of_decide_eq_true c; omega
      refine ⟨fun σ' H2 => σ' = [some (.int (y : Int)), some (.int ((x % y : Nat) : Int))] ∧ H2 = H', fun σ' H2 hn => ?_, ?_⟩
      · obtain ⟨rfl, rfl⟩ := hn
        have := Nat.mod_lt x hy
        exact ⟨x % y, by omega, y, _, rfl, rfl, by rw [Nat.gcd_comm, ← Nat.gcd_rec, Nat.gcd_comm, eg], rfl⟩
      · refine ⟨_, rfl, _, rfl, .inl ⟨_, rfl, _, rfl, _, _, rfl, rfl, by omega, _, _, rfl, ?_, rfl⟩⟩
        show List.set _ 1 (some (V.int (((x : Nat) : Int).fmod ((y : Nat) : Int)))) = _
        rw [fmodN]; rfl
    · have hy : y = 0 := by
        have : ¬ (0 : Int) < (y : Int) := fun z => c (decide_eq_true z)
        omega
      subst hy
      refine ⟨_, rfl, ?_⟩
      rw [Nat.gcd_zero_right] at eg
      rw [← eg] at q; exact q
theorem ok_law_divisors (T : Txt K mg tG tM) : C8.Cal P w K mg base 1 "_law_divisors" spDivs [] := by
  refine T.d_law_divisors.cal sc_law_divisors (fun vs H Q E h => ?_) (fun f cdv A outer s H vs Q E hr h => ?_)
  · obtain ⟨n, rfl, _⟩ := h; rfl
  · obtain ⟨n, rfl, hn, q⟩ := h
    refine ⟨_, (pss_one (ps_ret (pe_lc (own := [("_law_one", 1)])  rfl sc_law_divisors.nd (pi_range2 rfl T.n_range (pa_cons pe_int (pa_cons (pe_op op_add (pv 0) pe_int) pa_nil))) (blkOk_by (own := [("_law_one", 1)]) (N := N_law_divisors) (sc := defScope s_law_divisors) (by decide +kernel)) (fun _ _ _ _ _ => (pg_name (i := 1) sc_law_divisors.nd rfl (Or.inl rfl))) (fun _ _ _ _ _ => pts_one (pt_cmpR op_eq (pe_op op_modN (pv 0) (pv 1)) pe_int (nomark _))) (fun _ _ _ _ _ => (pv 1))))), ?_⟩
    refine ⟨_, rfl, _, _, rfl, rfl, 1, (n : Int) + 1, rfl, ⟨by decide, by decide, by omega, by omega⟩, fun D hD => ?_⟩
    have en : ((n : Int) + 1 - 1).toNat = n := by omega
    rw [en]
    refine lc_range (lo := 1) (n := n) (fun i H' => Same H H' ∧ H' D = some (.lst (nats ((List.range' 1 i).filter (fun d => n % d == 0))))) ⟨same_new hD, upd_same⟩ ?_ ?_
    · rintro i H' hi ⟨sm, eD⟩
      have e0 : (1 : Int) + (i : Int) = ((1 + i : Nat) : Int) := by omega
      rw [e0]
      refine ⟨rfl, _, rfl, _, rfl, _, _, rfl, rfl, by omega, rfl, _, rfl, ?_⟩
      refine ite_is (eqI (b := 0) (fmodN n (1 + i))) ?_
      have len : (nats ((List.range' 1 i).filter (fun d => n % d == 0))).length ≤ i := by
        rw [nats_len]
        have := List.length_filter_le (fun d => n % d == 0) (List.range' 1 i)
        rw [List.length_range'] at this
        exact this
      have st := filter_step (l := List.range' 1 i) (f := fun d => n % d == 0) (x := 1 + i)
      have er : List.range' 1 (i + 1) = List.range' 1 i ++ [1 + i] := by
        rw [List.range'_concat]; simp
      refine ite2 (fun c => ?_) (fun c => ?_)
      · refine ⟨_, rfl, _, eD, slt (by omega), same_mut sm hD, ?_⟩
        rw [upd_same, er, st, if_pos c, nats_app]
      · refine ⟨sm, ?_⟩
        rw [er, st, if_neg c]; exact eD
    · rintro H' ⟨sm, eD⟩
      exact q H' D hD sm eD
theorem ok_law_index (T : Txt K mg tG tM) : C8.Cal P w K mg base 2 "_law_index" spLawIndex [] := by
  have c_law_divisors := ok_law_divisors (P := P) (w := w) (base := base) T
  refine T.d_law_index.cal sc_law_index (fun vs H Q E h => ?_) (fun f cdv A outer s H vs Q E hr h => ?_)
  · obtain ⟨N, rfl, _⟩ := h; rfl
  · obtain ⟨N, rfl, hl, q⟩ := h
    have hN := hl.1
    have hN1 := hl.2
    refine ⟨_, (pss_cons (ps_set (i := 1) sc_law_index.nd rfl (Or.inl rfl) (pv 0))
    (pss_cons (ps_for PassesOwn.never rfl (pi_range2 rfl T.n_range (pa_cons pe_int (pa_cons (pe_op op_add (pv 0) pe_int) pa_nil))) (pg_name (i := 2) sc_law_index.nd rfl (Or.inl rfl))
    (pss_one (ps_if (PW.pt (pw_and (pt_cmpR op_eq (pe_op op_modN (pv 0) (pv 2)) pe_int (nomark _)) (pw_and1 (pt_cmpR op_eq (pe_callB call_len_seq (by rfl) T.n_len (by decide +kernel) (pa_cons (pe_c c_law_divisors hr (by decide) rfl (pa_cons (pv 2) pa_nil)) pa_nil)) pe_int (nomark _)))))
    (pss_one (ps_set (i := 1) sc_law_index.nd rfl (Or.inl rfl) (pe_op op_mulW (pe_op op_fdivN (pv 1) (pv 2)) (pe_op op_add (pv 2) pe_int))))
    pss_nil)))
    (pss_one (ps_ret (pv 1))))), ?_⟩
    refine ⟨_, rfl, _, rfl, _, _, rfl, rfl, 2, (N : Int) + 1, rfl, ⟨by decide, by decide, by omega, by omega⟩, ?_⟩
    have en : ((N : Int) + 1 - 2).toNat = N - 1 := by omega
    rw [en]
    let step : Nat → Nat → Nat := fun found p => if N % p == 0 && (K9M.divs p).length == 2 then found / p * (p + 1) else found
    have bd : ∀ i, (List.range' 2 i).foldl step N ≤ 100 * 2 ^ i := by
      intro i
      induction i with
      | zero => show N ≤ 100 * 2 ^ 0; omega
      | succ i ih =>
        rw [List.range'_concat, List.foldl_append]
        show step _ _ ≤ _
        generalize (List.range' 2 i).foldl step N = g at *
        rw [Nat.pow_succ]
        show (if _ then g / (2 + 1 * i) * ((2 + 1 * i) + 1) else g) ≤ _
        have a := Nat.div_mul_le_self g (2 + 1 * i)
        have b := Nat.div_le_self g (2 + 1 * i)
        split
        · rw [Nat.mul_add, Nat.mul_one]; omega
        · omega
    refine for_range (lo := 2) (n := N - 1) (fun i σ H' => (∃ y, σ = [some (.int (N : Int)), some (.int ((((List.range' 2 i).foldl step N : Nat)) : Int)), y]) ∧ Same H H') ⟨⟨none, rfl⟩, Same.refl H⟩ ?_ ?_
    · rintro i σ H' hi ⟨⟨y, rfl⟩, sm⟩
      have e0 : (2 : Int) + (i : Int) = ((2 + i : Nat) : Int) := by omega
      rw [e0]
      have er : (List.range' 2 (i + 1)).foldl step N = step ((List.range' 2 i).foldl step N) (2 + i) := by
        rw [List.range'_concat, List.foldl_append]
        show step _ (2 + 1 * i) = _
        rw [Nat.one_mul]
      have hb := bd i
      rw [er]
      generalize (List.range' 2 i).foldl step N = g at *
      refine ⟨_, rfl, _, rfl, _, _, rfl, rfl, by omega, rfl, _, rfl, ?_⟩
      refine ite_is (eqI (b := 0) (fmodN N (2 + i))) ?_
      cases c1 : (N % (2 + i) == 0) with
      | false =>
        have es : step g (2 + i) = g := by
          show (if _ then _ else _) = _
          rw [c1]; rfl
        rw [es]
        exact iteF ⟨⟨_, rfl⟩, sm⟩
      | true =>
        refine iteT ?_
        refine ⟨_, rfl, 2 + i, rfl, by omega, fun H2 p n2 sm2 e2 => ?_⟩
        refine ⟨p, _, rfl, .inl (SqL.of e2), rfl, _, rfl, ?_⟩
        have ec : decide (V.int ((nats (K9M.divs (2 + i))).length : Int) = V.int 2) = ((K9M.divs (2 + i)).length == 2) := by
          rw [nats_len]; exact int_eq_dec _ 2
        refine ite_is ec ?_
        cases c2 : ((K9M.divs (2 + i)).length == 2) with
        | false =>
          have es : step g (2 + i) = g := by
            show (if _ then _ else _) = _
            rw [c1, c2]; rfl
          rw [es]
          exact iteF ⟨⟨_, rfl⟩, sm.trans sm2⟩
        | true =>
          have es : step g (2 + i) = g / (2 + i) * (2 + i + 1) := by
            show (if _ then _ else _) = _
            rw [c1, c2]; rfl
          rw [es]
          refine iteT ?_
          have hpw : 100 * 2 ^ i < 2 ^ (i + 7) := by
            rw [Nat.pow_add]
            have := Nat.two_pow_pos i
            omega
          refine ⟨_, rfl, _, rfl, _, _, rfl, rfl, ⟨by omega, by omega⟩, _, rfl, _, _, rfl, rfl, _, _, rfl, rfl, ?_, ⟨some (.int ((2 + i : Nat) : Int)), ?_⟩, sm.trans sm2⟩
          · have e2 : ((g : Nat) : Int).fdiv ((2 + i : Nat) : Int) = ((g / (2 + i) : Nat) : Int) := fdivN _ _
            refine wide_mul (a := i + 7) (b := 8) ?_ ?_ (by omega) (by omega) (by omega)
            · rw [e2]
              exact natAbs_lt (by have := Nat.div_le_self g (2 + i); omega)
            · show (((2 + i : Nat) : Int) + 1).natAbs < 2 ^ 8
              omega
          · show List.set _ 1 (some (V.int (((g : Nat) : Int).fdiv ((2 + i : Nat) : Int) * (((2 + i : Nat) : Int) + 1)))) = _
            rw [fdivN]
            have : ((g / (2 + i) * (2 + i + 1) : Nat) : Int) = ((g / (2 + i) : Nat) : Int) * (((2 + i : Nat) : Int) + 1) := by
              rw [Int.natCast_mul]; rfl
            rw [this]; rfl
    · rintro σ H' ⟨⟨y, rfl⟩, sm⟩
      exact ⟨_, rfl, q H' sm⟩
end
end K9

set_option Elab.async false
set_option linter.all false
set_option maxRecDepth 100000
set_option maxHeartbeats 4200000
namespace K9
open PySem PySem.Spec PyProof.Rows L2 C8
/-! ### the told pairs -/
def kk (p : Nat × Nat) : List Key := [.inl (p.1 : Int), .inl (p.2 : Int)]
theorem kk_vp (p : Nat × Nat) : (kk p).map kV = vp p := rfl
theorem kk_inj {p q : Nat × Nat} (h : kk p = kk q) : p = q := by
  unfold kk at h
  injection h with h1 h2
  injection h2 with h2 _
  have a := Sum.inl.inj h1
  have b := Sum.inl.inj h2
  apply Prod.ext <;> omega
/-- the law's units -/
def LU (N : Nat) : List Nat := (List.range' 1 N).filter (fun u => Nat.gcd u N == 1)
theorem mem_LU {N u : Nat} : u ∈ LU N ↔ 1 ≤ u ∧ u ≤ N ∧ Nat.gcd u N = 1 := by
  unfold LU
  rw [List.mem_filter, List.mem_range', beq_iff_eq]
  constructor
  · rintro ⟨⟨i, hi, e⟩, g⟩; exact ⟨by omega, by omega, g⟩
  · rintro ⟨a, b, c⟩; exact ⟨⟨u - 1, by omega, by omega⟩, c⟩
theorem act_mod (N u : Nat) (p : Nat × Nat) : K9M.act N (u % N) p = K9M.act N u p := by
  unfold K9M.act
  rw [Nat.mod_mul_mod, Nat.mod_mul_mod]
theorem LU_U {N u : Nat} (h : 0 < N) (hu : u ∈ LU N) : u % N ∈ K9M.U N := by
  rw [mem_LU] at hu
  rw [K9M.mem_U]
  exact ⟨Nat.mod_lt _ h, by rw [K9M.gcd_mod_left]; exact hu.2.2⟩
theorem U_LU {N u : Nat} (h : 0 < N) (hu : u ∈ K9M.U N) : ∃ v, v ∈ LU N ∧ v % N = u := by
  rw [K9M.mem_U] at hu
  rcases Nat.eq_zero_or_pos u with z | z
  · subst z
    have : N = 1 := by have := hu.2; simpa using this
    subst this
    exact ⟨1, mem_LU.mpr ⟨by omega, by omega, rfl⟩, rfl⟩
  · exact ⟨u, mem_LU.mpr ⟨z, by omega, hu.2⟩, Nat.mod_eq_of_lt hu.1⟩
theorem LU_len (N : Nat) : (LU N).length ≤ N := by
  unfold LU
  have := List.length_filter_le (fun u => Nat.gcd u N == 1) (List.range' 1 N)
  rw [List.length_range'] at this
  exact this
/-- the dict at pd as it stands when all least pairs with g are in -/
def Told (N : Nat) (g : Nat × Nat → Prop) (n : Nat) (H : Hp) (pd : Addr) : Prop := ∃ kvs : List (List Key × V), H pd = some (.dT kvs) ∧ kvs.length ≤ n ∧
  (∀ k v, valV kvs k = some v → ∃ p a, k = kk p ∧ v = .ref a ∧ K9M.InR N p ∧ K9M.tell N p = true ∧ g p ∧ H a = some (.tup (vp (K9M.least N p)))) ∧
  (∀ p, K9M.InR N p → K9M.tell N p = true → g p → ∃ v, valV kvs (kk p) = some v)
theorem Told.same {N : Nat} {g : Nat × Nat → Prop} {n : Nat} {H H' : Hp} {pd : Addr} (e : Same H H') (t : Told N g n H pd) : Told N g n H' pd := by
  obtain ⟨kvs, e1, e2, e3, e4⟩ := t
  refine ⟨kvs, e _ _ e1, e2, fun k v h => ?_, e4⟩
  obtain ⟨p, a, x1, x2, x3, x4, x5, x6⟩ := e3 k v h
  exact ⟨p, a, x1, x2, x3, x4, x5, e _ _ x6⟩
theorem Told.congr {N : Nat} {g g' : Nat × Nat → Prop} {n n' : Nat} {H : Hp} {pd : Addr} (t : Told N g n H pd) (hn : n ≤ n') (hg : ∀ p, K9M.InR N p → K9M.tell N p = true → (g p ↔ g' p)) : Told N g' n' H pd := by
  obtain ⟨kvs, e1, e2, e3, e4⟩ := t
  refine ⟨kvs, e1, Nat.le_trans e2 hn, fun k v h => ?_, fun p h1 h2 h3 => e4 p h1 h2 ((hg p h1 h2).mpr h3)⟩
  obtain ⟨p, a, x1, x2, x3, x4, x5, x6⟩ := e3 k v h
  exact ⟨p, a, x1, x2, x3, x4, (hg p x3 x4).mp x5, x6⟩
theorem Told.put {N : Nat} {g : Nat × Nat → Prop} {n : Nat} {H : Hp} {pd a : Addr} {r : Nat × Nat} (t : Told N g n H pd) (hr : K9M.InR N r) (ht : K9M.tell N r = true) (ha : H a = some (.tup (vp (K9M.least N r)))) :
    ∃ kvs, H pd = some (.dT kvs) ∧ kvs.length ≤ n ∧ Told N (fun p => g p ∨ p = r) (n + 1) (upd H pd (.dT (putK kvs (kk r) (.ref a)))) pd := by
  obtain ⟨kvs, e1, e2, e3, e4⟩ := t
  refine ⟨kvs, e1, e2, _, upd_same, Nat.le_trans (length_putK _ _ _) (by omega), fun k v h => ?_, fun p h1 h2 h3 => ?_⟩
  · rw [valV_put] at h
    by_cases z : k = kk r
    · rw [if_pos z] at h
      cases h
      refine ⟨r, a, z, rfl, hr, ht, Or.inr rfl, ?_⟩
      rw [upd_ne (ne_of ha e1 (by intro z; cases z))]
      exact ha
    · rw [if_neg z] at h
      obtain ⟨p, b, x1, x2, x3, x4, x5, x6⟩ := e3 k v h
      refine ⟨p, b, x1, x2, x3, x4, Or.inl x5, ?_⟩
      rw [upd_ne (ne_of x6 e1 (by intro z; cases z))]
      exact x6
  · rw [valV_put]
    by_cases z : kk p = kk r
    · rw [if_pos z]; exact ⟨_, rfl⟩
    · rw [if_neg z]
      rcases h3 with h3 | h3
      · exact e4 p h1 h2 h3
      · subst h3; exact absurd rfl z
def bef (N : Nat) (q : Nat × Nat) : Nat × Nat → Prop := fun p => K9M.lexlt (K9M.least N p) q
def spTold : Sp := fun vs H Q _ => ∃ N : Nat, vs = [.int (N : Int)] ∧ LevelOk N ∧ ∀ H' p, H p = none → Same H H' → Told N (fun _ => True) 2000000 H' p → Q (.ref p) H'
section
variable {P : Program} {w : World} {K : PySem.W.Frag} {mg : Str → Option Value} {base : Heap} {tG tM : Tok} {C : Addr}
theorem ok_law_level_drawn (T : Txt K mg tG tM) : C8.Cal P w K mg base 3 "_law_level_drawn" spDrawn [] := by
  have c_law_roll := ok_law_roll (P := P) (w := w) (base := base) T
  have c_law_pick := ok_law_pick (P := P) (w := w) (base := base) T
  refine T.d_law_level_drawn.cal sc_law_level_drawn (fun vs H Q E h => ?_) (fun f cdv A outer s H vs Q E hr h => ?_)
  · obtain ⟨d, rfl, _⟩ := h; rfl
  · obtain ⟨d, rfl, hd, q⟩ := h
    refine ⟨_, (pss_cons (ps_set (i := 2) sc_law_level_drawn.nd rfl (Or.inl rfl) (pe_lst (pa_cons pe_int (pa_cons pe_int (pa_cons pe_int (pa_cons pe_int (pa_cons pe_int (pa_cons pe_int (pa_cons pe_int (pa_cons pe_int (pa_cons pe_int (pa_cons pe_int (pa_cons pe_int (pa_cons pe_int (pa_cons pe_int (pa_cons pe_int (pa_cons pe_int (pa_cons pe_int (pa_cons pe_int (pa_cons pe_int (pa_cons (pe_op op_add pe_int (pe_c c_law_roll hr (by decide) rfl (pa_cons (pv 0) (pa_cons (pv 1) pa_nil)))) pa_nil)))))))))))))))))))))
    (pss_one (ps_ret (pe_c c_law_pick hr (by decide) rfl (pa_cons (pv 0) (pa_cons (pe_lc (own := [("_law_one", 3)])  rfl sc_law_level_drawn.nd (pi_list (pv 2)) (blkOk_by (own := [("_law_one", 3)]) (N := N_law_level_drawn) (sc := defScope s_law_level_drawn) (by decide +kernel)) (fun _ _ _ _ _ => (pg_name (i := 3) sc_law_level_drawn.nd rfl (Or.inl rfl))) (fun _ _ _ _ _ => pts_one (pt_cmpR op_le (pv 3) (pv 1) (nomark _))) (fun _ _ _ _ _ => (pv 3))) pa_nil)))))), ?_⟩
    refine ⟨_, rfl, _, rfl, d, 60, rfl, hd, by decide, by decide, fun r H1 h0 h1 sm1 => ⟨1, r, rfl, rfl, by show 19 ≤ sizeLine; decide, fun p hp => ?_⟩⟩
    have hd1 := sm1.2
    have all : ∀ x ∈ ([1, 2, 5, 11, 11, 14, 15, 17, 20, 22, 23, 24, 26, 27, 30, 33, 36, 37, 1 + r] : List Int), 1 ≤ x ∧ x ≤ 60 := by
      intro x hx
      simp only [List.not_mem_nil, List.mem_cons, or_false] at hx
      omega
    have len : ([1, 2, 5, 11, 11, 14, 15, 17, 20, 22, 23, 24, 26, 27, 30, 33, 36, 37, 1 + r] : List Int).length = 19 := rfl
    have main : ∀ (ns : List Int) (H2 : Hp), (∀ x ∈ ns, 1 ≤ x ∧ x ≤ 60) → ns.length = 19 → H2 p = some (.lst (ns.map V.int)) → SameD d H1 H2 → ∀ D, H2 D = none → ∀ R : Hp → Prop, (∀ H3, Same H2 H3 → H3 D = some (.lst (ns.map V.int)) → R H3) →
        ∃ W : Nat → Nat → Hp → Prop, (∃ m, W 0 m (upd H2 D (.lst []))) ∧ ∀ i m H, W i m H → ((Itl K p).stop i H ∧ R H) ∨ ((Itl K p).go i H ∧ ∃ Nx : Hp → Prop, (∀ H', Nx H' → ∃ m', m' < m ∧ W (i + 1) m' H') ∧ ∀ x H', (Itl K p).yld i H x H' → gName 3 x (wipe [some (.ref d), some (.int 60), some (.ref p), none] [3]) H' fun σ2 H2 => wipe σ2 [3] = wipe [some (.ref d), some (.int 60), some (.ref p), none] [3] ∧ (tTest (tOp (rI0 fun i j => .bl (decide (i ≤ j))) (tVar 3) (tVar 1))) σ2 H2 fun b H3 =>
          if b = true then (tVar 3) σ2 H3 fun y H4 => ∃ acc, H4 D = some (.lst acc) ∧ acc.length < sizeLine ∧ Nx (upd H4 D (.lst (acc ++ [y]))) else Nx H3) := by
      intro ns H2 all len eP sm2 D hD R hR
      refine lc_list (xs := ns.map V.int) (fun i H' => Same H2 H' ∧ H' D = some (.lst ((ns.take i).map V.int))) ⟨same_new hD, upd_same⟩ (fun i H' _ p => p.1.seq (SqL.of eP)) ?_ ?_
      · rintro i x H' hi ⟨sm, eD⟩
        rw [List.getElem?_map] at hi
        cases hx : ns[i]? with
        | none => rw [hx] at hi; cases hi
        | some n =>
          rw [hx] at hi
          cases hi
          have hm := all n (List.mem_of_getElem? hx)
          refine ⟨rfl, _, rfl, _, rfl, _, _, rfl, rfl, _, rfl, ?_⟩
          rw [decide_eq_true (show n ≤ 60 from hm.2)]
          refine iteT ?_
          refine ⟨_, rfl, _, eD, slt ?_, same_mut sm hD, ?_⟩
          · rw [List.length_map, List.length_take]; omega
          · rw [upd_same, take_next hx, List.map_append]; rfl
      · rintro H3 ⟨sm3, eD⟩
        rw [List.length_map, List.take_length] at eD
        exact hR H3 sm3 eD
    have eP : (upd H1 p (.lst (([1, 2, 5, 11, 11, 14, 15, 17, 20, 22, 23, 24, 26, 27, 30, 33, 36, 37, 1 + r] : List Int).map V.int))) p = some (.lst (([1, 2, 5, 11, 11, 14, 15, 17, 20, 22, 23, 24, 26, 27, 30, 33, 36, 37, 1 + r] : List Int).map V.int)) := upd_same
    have sm2 : SameD d H1 (upd H1 p (.lst (([1, 2, 5, 11, 11, 14, 15, 17, 20, 22, 23, 24, 26, 27, 30, 33, 36, 37, 1 + r] : List Int).map V.int))) := .of hd1 (same_new hp)
    refine ⟨_, rfl, _, rfl, p, rfl, ⟨_, SqL.of eP⟩, fun D hD => ?_⟩
    refine main ([1, 2, 5, 11, 11, 14, 15, 17, 20, 22, 23, 24, 26, 27, 30, 33, 36, 37, 1 + r] : List Int) _ all len eP sm2 D hD _ fun H3 sm3 eD => ?_
    have hd3 : SameD d _ H3 := SameD.of sm2.2 sm3
    refine ⟨d, D, _, rfl, hd3.2, eD, (sm2.2).ne hD, ?_, ?_, fun i x H4 hx sm4 => ?_⟩
    · intro z
      have z2 := congrArg List.length z
      rw [List.length_map, len] at z2
      cases z2
    · rw [List.length_map, len]; omega
    · rw [List.getElem?_map] at hx
      cases hy : ([1, 2, 5, 11, 11, 14, 15, 17, 20, 22, 23, 24, 26, 27, 30, 33, 36, 37, 1 + r] : List Int)[i]? with
      | none => rw [hy] at hx; cases hx
      | some n =>
        rw [hy] at hx
        cases hx
        have hm := all n (List.mem_of_getElem? hy)
        have e : n = ((n.toNat : Nat) : Int) := by omega
        rw [e]
        exact q n.toNat H4 (by omega) (by omega) (((sm1.trans sm2).trans hd3).trans sm4)
theorem ok_law_told_pairs (T : Txt K mg tG tM) : C8.Cal P w K mg base 2 "_law_told_pairs" spTold [] := by
  have c_law_gcd := ok_law_gcd (P := P) (w := w) (base := base) T
  refine T.d_law_told_pairs.cal sc_law_told_pairs (fun vs H Q E h => ?_) (fun f cdv A outer s H vs Q E hr h => ?_)
  · obtain ⟨N, rfl, _⟩ := h; rfl
  · obtain ⟨N, rfl, hl, q⟩ := h
    have hN := hl.1
    have hN1 := hl.2
    refine ⟨_, (pss_cons (ps_par (i := 1) (j := 2) rfl sc_law_told_pairs.nd rfl rfl (by decide) rfl rfl (pa_cons (pe_lc (own := [("_law_one", 6)])  rfl sc_law_told_pairs.nd (pi_range2 rfl T.n_range (pa_cons pe_int (pa_cons (pe_op op_add (pv 0) pe_int) pa_nil))) (blkOk_by (own := [("_law_one", 6)]) (N := N_law_told_pairs) (sc := defScope s_law_told_pairs) (by decide +kernel)) (fun _ _ _ _ _ => (pg_name (i := 6) sc_law_told_pairs.nd rfl (Or.inl rfl))) (fun _ _ _ _ _ => pts_one (pt_cmpR op_eq (pe_c c_law_gcd hr (by decide) rfl (pa_cons (pv 6) (pa_cons (pv 0) pa_nil))) pe_int (nomark _))) (fun _ _ _ _ _ => (pv 6))) (pa_cons pe_dnewT pa_nil)) (by rfl))
    (pss_cons (ps_for PassesOwn.never rfl (pi_range1 rfl T.n_range (pa_cons (pv 0) pa_nil)) (pg_name (i := 3) sc_law_told_pairs.nd rfl (Or.inl rfl))
    (pss_one (ps_for PassesOwn.never rfl (pi_range1 rfl T.n_range (pa_cons (pv 0) pa_nil)) (pg_name (i := 4) sc_law_told_pairs.nd rfl (Or.inl rfl))
    (pss_one (ps_if (PW.pt (pw_and (pt_cmp (pc_dnotin (hu_of hr) (pe_tup (pa_cons (pv 3) (pa_cons (pv 4) pa_nil))) (pv 2))) (pw_and1 (pt_cmpR op_eq (pe_c c_law_gcd hr (by decide) rfl (pa_cons (pe_c c_law_gcd hr (by decide) rfl (pa_cons (pv 3) (pa_cons (pv 4) pa_nil))) (pa_cons (pv 0) pa_nil))) pe_int (nomark _)))))
    (pss_one (ps_for PassesOwn.never rfl (pi_list (pv 1)) (pg_name (i := 5) sc_law_told_pairs.nd rfl (Or.inl rfl))
    (pss_one (ps_dput (hu_of hr) (pv 2) (pe_tup (pa_cons (pe_op op_modN (pe_callTy call_int1 (by rfl) T.n_int (by decide +kernel) (pa_cons (pe_op op_mul (pv 5) (pv 3)) pa_nil)) (pv 0)) (pa_cons (pe_op op_modN (pe_callTy call_int1 (by rfl) T.n_int (by decide +kernel) (pa_cons (pe_op op_mul (pv 5) (pv 4)) pa_nil)) (pv 0)) pa_nil))) (pe_tup (pa_cons (pv 3) (pa_cons (pv 4) pa_nil))) rfl))))
    pss_nil)))))
    (pss_one (ps_ret (pv 2))))), ?_⟩
    -- units, found
    refine ⟨_, rfl, _, _, rfl, rfl, 1, (N : Int) + 1, rfl, ⟨by decide, by decide, by omega, by omega⟩, fun D hD => ?_⟩
    have en : ((N : Int) + 1 - 1).toNat = N := by omega
    rw [en]
    refine lc_range (lo := 1) (n := N) (fun i H' => Same H H' ∧ H' D = some (.lst (nats ((List.range' 1 i).filter (fun u => Nat.gcd u N == 1))))) ⟨same_new hD, upd_same⟩ ?_ ?_
    · rintro i H' hi ⟨sm, eD⟩
      have e0 : (1 : Int) + (i : Int) = ((1 + i : Nat) : Int) := by omega
      rw [e0]
      refine ⟨rfl, _, rfl, _, rfl, _, _, rfl, rfl, _, rfl, ?_⟩
      have e1 : decide (V.int (Int.gcd ((1 + i : Nat) : Int) (N : Int) : Int) = V.int 1) = (Nat.gcd (1 + i) N == 1) := by
        rw [Int.gcd_natCast_natCast]; exact int_eq_dec _ 1
      refine ite_is e1 ?_
      have len : (nats ((List.range' 1 i).filter (fun u => Nat.gcd u N == 1))).length ≤ i := by
        rw [nats_len]
        have := List.length_filter_le (fun u => Nat.gcd u N == 1) (List.range' 1 i)
        rw [List.length_range'] at this
        exact this
      have st := filter_step (l := List.range' 1 i) (f := fun u => Nat.gcd u N == 1) (x := 1 + i)
      have er : List.range' 1 (i + 1) = List.range' 1 i ++ [1 + i] := by
        rw [List.range'_concat]; simp
      refine ite2 (fun c => ?_) (fun c => ?_)
      · refine ⟨_, rfl, _, eD, slt (by omega), same_mut sm hD, ?_⟩
        rw [upd_same, er, st, if_pos c, nats_app]
      · refine ⟨sm, ?_⟩
        rw [er, st, if_neg c]; exact eD
    rintro H1 ⟨sm1, eU⟩
    have eU : H1 D = some (.lst (nats (LU N))) := eU
    refine fun o no => ⟨_, _, rfl, ?_⟩
    -- the loops
    refine ⟨_, rfl, (N : Int), rfl, by omega, by omega, ?_⟩
    have eN : ((N : Int)).toNat = N := by omega
    rw [eN]
    refine for_range (lo := 0) (n := N) (fun c σ H' => (∃ y3 y4 y5, σ = [some (.int (N : Int)), some (.ref D), some (.ref o), y3, y4, y5, none]) ∧ Same H1 H' ∧ Told N (bef N (c, 0)) (c * 10000) H' o)
      ⟨⟨none, none, none, rfl⟩, same_new no, ⟨[], upd_same, Nat.zero_le _, fun k v h => (nomatch h), fun p _ _ h => ?_⟩⟩ ?_ ?_
    · unfold bef K9M.lexlt at h
      omega
    · rintro c σ H' hc ⟨⟨y3, y4, y5, rfl⟩, sm, td⟩
      have e0 : (0 : Int) + (c : Int) = (c : Int) := Int.zero_add _
      rw [e0]
      refine ⟨_, rfl, (N : Int), rfl, by omega, by omega, ?_⟩
      rw [eN]
      refine for_range (lo := 0) (n := N) (fun d σ H' => (∃ y4 y5, σ = [some (.int (N : Int)), some (.ref D), some (.ref o), some (.int (c : Int)), y4, y5, none]) ∧ Same H1 H' ∧ Told N (bef N (c, d)) (c * 10000 + d * 100) H' o)
        ⟨⟨_, _, rfl⟩, sm, td⟩ ?_ ?_
      · rintro d σ H2 hd ⟨⟨y4, y5, rfl⟩, sm, td⟩
        have e0 : (0 : Int) + (d : Int) = (d : Int) := Int.zero_add _
        rw [e0]
        have hin : K9M.InR N (c, d) := ⟨hc, hd⟩
        -- (c, d) not in found
        refine ⟨_, rfl, _, rfl, by show 2 ≤ sizeLine; decide, fun t ht => ?_⟩
        have smt := same_new (o := .tup (vp (c, d))) ht
        have td2 := td.same smt
        have et : (upd H2 t (.tup (vp (c, d)))) t = some (.tup (vp (c, d))) := upd_same
        show tVar 2 _ (upd H2 t (.tup (vp (c, d)))) _
        generalize upd H2 t (.tup (vp (c, d))) = H3 at *
        have td3 := td2
        obtain ⟨kvs, k1, k2, k3, k4⟩ := td2
        refine ⟨_, rfl, o, _, rfl, DGet.t (k := kk (c, d)) k1 et, _, rfl, ?_⟩
        have sm3 := sm.trans smt
        cases hv : valV kvs (kk (c, d)) with
        | some v =>
          -- it is in: no new least pair
          obtain ⟨p, a, x1, x2, x3, x4, x5, x6⟩ := k3 _ _ hv
          have ep := kk_inj x1
          subst ep
          refine ⟨⟨_, _, rfl⟩, sm3, td3.congr (by omega) fun p h1 h2 => ?_⟩
          unfold bef at x5 ⊢
          constructor
          · intro h
            unfold K9M.lexlt at h ⊢
            show _ < c ∨ (_ = c ∧ _ < d + 1)
            have h : (K9M.least N p).1 < c ∨ ((K9M.least N p).1 = c ∧ (K9M.least N p).2 < d) := h
            omega
          · intro h
            have h : (K9M.least N p).1 < c ∨ ((K9M.least N p).1 = c ∧ (K9M.least N p).2 < d + 1) := h
            show (K9M.least N p).1 < c ∨ ((K9M.least N p).1 = c ∧ (K9M.least N p).2 < d)
            by_cases z : K9M.least N p = (c, d)
            · have := K9M.least_least hN hN1 p
              rw [z] at this
              rw [this] at x5
              exact absurd x5 K9M.lexlt_irrefl
            · rcases h with h | ⟨h, h'⟩
              · exact Or.inl h
              · refine Or.inr ⟨h, ?_⟩
                rcases Nat.lt_or_ge (K9M.least N p).2 d with w | w
                · exact w
                · exact absurd (Prod.ext h (by show _ = d; omega)) z
        | none =>
          refine ⟨_, rfl, _, rfl, _, _, rfl, _, rfl, _, _, rfl, rfl, _, rfl, ?_⟩
          have e1 : decide (V.int (Int.gcd (Int.gcd (c : Int) (d : Int) : Int) (N : Int) : Int) = V.int 1) = K9M.tell N (c, d) := by
            rw [Int.gcd_natCast_natCast, Int.gcd_natCast_natCast]; exact int_eq_dec _ 1
          refine ite_is e1 ?_
          have dich : ∀ p, K9M.InR N p → (bef N (c, d + 1) p ↔ bef N (c, d) p ∨ K9M.least N p = (c, d)) := fun p hp => by
            unfold bef
            constructor
            · intro h
              have h : (K9M.least N p).1 < c ∨ ((K9M.least N p).1 = c ∧ (K9M.least N p).2 < d + 1) := h
              by_cases z : K9M.least N p = (c, d)
              · exact Or.inr z
              · left
                show (K9M.least N p).1 < c ∨ ((K9M.least N p).1 = c ∧ (K9M.least N p).2 < d)
                rcases h with h | ⟨h, h'⟩
                · exact Or.inl h
                · refine Or.inr ⟨h, ?_⟩
                  rcases Nat.lt_or_ge (K9M.least N p).2 d with w | w
                  · exact w
                  · exact absurd (Prod.ext h (by show _ = d; omega)) z
            · rintro (h | h)
              · have h : (K9M.least N p).1 < c ∨ ((K9M.least N p).1 = c ∧ (K9M.least N p).2 < d) := h
                show (K9M.least N p).1 < c ∨ ((K9M.least N p).1 = c ∧ (K9M.least N p).2 < d + 1)
                omega
              · rw [h]
                show c < c ∨ (c = c ∧ d < d + 1)
                omega
          cases htl : K9M.tell N (c, d) with
          | false =>
            refine iteF ⟨⟨_, _, rfl⟩, sm3, td3.congr (by omega) fun p h1 h2 => ?_⟩
            rw [dich p h1]
            constructor
            · exact Or.inl
            · rintro (h | h)
              · exact h
              · have := K9M.tell_least hN p
                rw [h, htl, h2] at this; cases this
          | true =>
            refine iteT ?_
            -- (c, d) is its own least pair
            have hself : K9M.least N (c, d) = (c, d) := by
              refine Classical.byContradiction fun z => ?_
              have lt := K9M.lexlt_of (K9M.least_le_self hN hin) z
              obtain ⟨v, hv2⟩ := k4 (c, d) hin htl lt
              rw [hv] at hv2; cases hv2
            refine ⟨_, rfl, D, rfl, ⟨_, SqL.of (sm3 _ _ eU)⟩, ?_⟩
            refine for_list (K := K) (a := D) (xs := nats (LU N)) (fun j σ H' => (∃ y5, σ = [some (.int (N : Int)), some (.ref D), some (.ref o), some (.int (c : Int)), some (.int (d : Int)), y5, none]) ∧ Same H1 H' ∧
              Told N (fun p => bef N (c, d) p ∨ ∃ u ∈ (LU N).take j, p = K9M.act N u (c, d)) (c * 10000 + d * 100 + j) H' o) ⟨⟨_, rfl⟩, sm3, td3.congr (by omega) fun p _ _ => ⟨Or.inl, fun z => ?_⟩⟩ (fun j σ H' _ p => (p.2.1).seq (SqL.of eU)) ?_ ?_
            · rcases z with z | ⟨u, hu, _⟩
              · exact z
              · cases hu
            · rintro j x σ H4 hj ⟨⟨y5, rfl⟩, sm4, td4⟩
              obtain ⟨u, hu, rfl⟩ := nats_at hj
              have hjl : j < N := by
                have := (List.getElem?_eq_some_iff.mp hu).1
                have := LU_len N
                omega
              have hU := mem_LU.mp (List.mem_of_getElem? hu)
              -- the value, the key
              refine ⟨_, rfl, _, rfl, by show 2 ≤ sizeLine; decide, fun t1 h1 => ?_⟩
              have s5 := same_new (o := .tup (vp (c, d))) h1
              have et1 : (upd H4 t1 (.tup (vp (c, d)))) t1 = some (.tup (vp (c, d))) := upd_same
              show tVar 2 _ (upd H4 t1 (.tup (vp (c, d)))) _
              have td5 := td4.same s5
              have sm5 := sm4.trans s5
              generalize upd H4 t1 (.tup (vp (c, d))) = H5 at *
              refine ⟨_, rfl, ?_⟩
              refine ⟨_, rfl, _, rfl, _, _, rfl, rfl, .inl ⟨by omega, by omega⟩, .inl ⟨_, rfl, _, rfl, _, _, rfl, rfl, by omega, ?_⟩⟩
              refine ⟨_, rfl, _, rfl, _, _, rfl, rfl, .inl ⟨by omega, by omega⟩, .inl ⟨_, rfl, _, rfl, _, _, rfl, rfl, by omega, ?_⟩⟩
              refine ⟨by show 2 ≤ sizeLine; decide, fun t2 h2 => ?_⟩
              have ev : ([.int (((u : Int) * (c : Int)).fmod (N : Int)), .int (((u : Int) * (d : Int)).fmod (N : Int))] : List V) = vp (K9M.act N u (c, d)) := by
                rw [← Int.natCast_mul, ← Int.natCast_mul, fmodN, fmodN]; rfl
              show ∃ a H4, V.ref o = .ref a ∧ DPut (upd H5 t2 (.tup [.int (((u : Int) * (c : Int)).fmod (N : Int)), .int (((u : Int) * (d : Int)).fmod (N : Int))])) a (.ref t2) (.ref t1) H4 ∧ _
              rw [ev]
              have s6 := same_new (o := .tup (vp (K9M.act N u (c, d)))) h2
              have et2 : (upd H5 t2 (.tup (vp (K9M.act N u (c, d))))) t2 = some (.tup (vp (K9M.act N u (c, d)))) := upd_same
              have td6 := td5.same s6
              have et1' := s6 _ _ et1
              have sm6 := sm5.trans s6
              generalize upd H5 t2 (.tup (vp (K9M.act N u (c, d)))) = H6 at *
              have lu := LU_U hN (List.mem_of_getElem? hu)
              have hal : K9M.least N (K9M.act N u (c, d)) = (c, d) := by
                rw [← act_mod, K9M.least_act hN hN1 lu, hself]
              have hat : K9M.tell N (K9M.act N u (c, d)) = true := by
                rw [← act_mod, K9M.tell_act lu]; exact htl
              obtain ⟨kvs6, q1, q2, q3⟩ := td6.put (r := K9M.act N u (c, d)) (a := t1) (K9M.act_in hN) hat (by rw [hal]; exact et1')
              refine ⟨o, _, rfl, DPut.t (k := kk (K9M.act N u (c, d))) q1 et2 (Nat.lt_of_le_of_lt q2 (Nat.lt_of_le_of_lt (show _ ≤ 2000000 by omega) (by rw [sizeLine_eq]; decide))), ⟨_, rfl⟩, same_mut sm6 no, q3.congr (by omega) fun p _ _ => ?_⟩
              rw [take_next hu]
              constructor
              · rintro ((z | ⟨v, hv, e⟩) | z)
                · exact Or.inl z
                · exact Or.inr ⟨v, List.mem_append_left _ hv, e⟩
                · exact Or.inr ⟨u, List.mem_append_right _ List.mem_cons_self, z⟩
              · rintro (z | ⟨v, hv, e⟩)
                · exact Or.inl (Or.inl z)
                · rcases List.mem_append.mp hv with w | w
                  · exact Or.inl (Or.inr ⟨v, w, e⟩)
                  · rw [List.mem_singleton] at w
                    subst w
                    exact Or.inr e
            · rintro σ H4 ⟨⟨y5, rfl⟩, sm4, td4⟩
              rw [nats_len, List.take_length] at td4
              have ll := LU_len N
              refine ⟨⟨_, _, rfl⟩, sm4, td4.congr (by omega) fun p h1 h2 => ?_⟩
              rw [dich p h1]
              constructor
              · rintro (z | ⟨u, hu, e⟩)
                · exact Or.inl z
                · right
                  rw [e, ← act_mod, K9M.least_act hN hN1 (LU_U hN hu), hself]
              · rintro (z | z)
                · exact Or.inl z
                · right
                  obtain ⟨v, hv, e⟩ := K9M.of_least hN hN1 h1
                  obtain ⟨u, hu, e2⟩ := U_LU hN hv
                  refine ⟨u, hu, ?_⟩
                  rw [← act_mod, e2, ← z, e]
      · rintro σ H2 ⟨⟨y4, y5, rfl⟩, sm2, td2⟩
        refine ⟨⟨_, _, _, rfl⟩, sm2, td2.congr (by omega) fun p h1 h2 => ?_⟩
        have := K9M.least_InR hN p
        unfold K9M.InR at this
        unfold bef
        constructor
        · intro h
          have h : (K9M.least N p).1 < c ∨ ((K9M.least N p).1 = c ∧ (K9M.least N p).2 < N) := h
          show (K9M.least N p).1 < c + 1 ∨ ((K9M.least N p).1 = c + 1 ∧ (K9M.least N p).2 < 0)
          omega
        · intro h
          have h : (K9M.least N p).1 < c + 1 ∨ ((K9M.least N p).1 = c + 1 ∧ (K9M.least N p).2 < 0) := h
          show (K9M.least N p).1 < c ∨ ((K9M.least N p).1 = c ∧ (K9M.least N p).2 < N)
          omega
    · rintro σ H2 ⟨⟨y3, y4, y5, rfl⟩, sm2, td2⟩
      refine ⟨_, rfl, q H2 o (sm1.free no) (sm1.trans sm2) (td2.congr (by omega) fun p h1 h2 => ⟨fun _ => trivial, fun _ => ?_⟩)⟩
      have := K9M.least_InR hN p
      unfold K9M.InR at this
      show (K9M.least N p).1 < N ∨ ((K9M.least N p).1 = N ∧ (K9M.least N p).2 < 0)
      omega
end
end K9

set_option Elab.async false
set_option linter.all false
set_option maxRecDepth 100000
set_option maxHeartbeats 4200000
namespace K9
open PyProof.Rows PySem PySem.Spec L2
/-! ### tables of up to 512 places: the round meets every place -/
def dlog : List Nat := [0, 1, 326, 495, 412, 365, 2, 379, 376, 281, 254, 327, 404, 261, 58, 339, 496, 305, 438, 415, 140, 413, 370, 43, 360, 73, 366, 247, 132, 309, 426, 3, 480, 97, 38, 335, 380, 461, 226, 219, 344, 377, 478, 167, 372, 357, 282, 179, 464, 401, 150, 255, 108, 509, 82, 395, 328, 169, 78, 87, 100, 405, 138, 355, 448, 193, 262, 175, 348, 45, 450, 59, 312, 473, 190, 7, 340, 453, 506, 19, 432, 497, 374, 95, 76, 93, 306, 235, 296, 265, 302, 439, 68, 501, 362, 195, 416, 289, 486, 15, 316, 141, 162, 411, 280, 57, 414, 359, 308, 37, 218, 371, 400, 81, 86, 447, 44, 189, 18, 75, 264, 361, 14, 279, 36, 85, 74, 35, 384, 385, 198, 367, 284, 237, 386, 251, 248, 153, 126, 199, 276, 133, 442, 211, 368, 177, 310, 287, 12, 285, 242, 427, 232, 457, 238, 119, 4, 181, 298, 387, 352, 481, 422, 207, 252, 333, 98, 91, 216, 249, 350, 39, 244, 229, 154, 51, 336, 273, 22, 127, 492, 381, 466, 267, 200, 41, 462, 471, 484, 277, 10, 227, 320, 65, 134, 47, 220, 429, 322, 443, 184, 345, 62, 391, 212, 325, 378, 403, 304, 369, 246, 479, 460, 477, 178, 107, 168, 137, 174, 311, 452, 373, 234, 67, 288, 161, 358, 399, 188, 13, 34, 283, 152, 441, 286, 231, 180, 421, 90, 243, 272, 465, 470, 319, 428, 61, 402, 459, 136, 233, 398, 151, 420, 469, 458, 419, 256, 257, 70, 239, 156, 109, 258, 123, 120, 25, 510, 71, 148, 5, 314, 83, 240, 49, 182, 159, 396, 157, 114, 299, 104, 329, 110, 503, 388, 53, 170, 259, 224, 353, 294, 79, 124, 205, 482, 475, 88, 121, 222, 423, 116, 101, 26, 435, 208, 145, 406, 511, 364, 253, 338, 139, 72, 425, 334, 343, 356, 149, 394, 99, 192, 449, 6, 431, 92, 301, 194, 315, 56, 217, 446, 263, 84, 197, 250, 275, 176, 241, 118, 351, 332, 349, 50, 491, 40, 9, 46, 183, 324, 245, 106, 451, 160, 33, 230, 271, 60, 397, 418, 155, 24, 313, 158, 103, 52, 293, 474, 115, 144, 337, 342, 191, 300, 445, 274, 331, 8, 105, 270, 23, 292, 341, 330, 291, 128, 129, 454, 111, 28, 493, 130, 507, 504, 409, 382, 455, 20, 389, 186, 467, 112, 433, 54, 31, 268, 29, 498, 171, 488, 201, 494, 375, 260, 437, 42, 131, 96, 225, 166, 463, 508, 77, 354, 347, 472, 505, 94, 295, 500, 485, 410, 307, 80, 17, 278, 383, 236, 125, 210, 11, 456, 297, 206, 215, 228, 21, 266, 483, 64, 321, 390, 303, 476, 173, 66, 187, 440, 89, 318, 135, 468, 69, 122, 147, 48, 113, 502, 223, 204, 221, 434, 363, 424, 393, 430, 55, 196, 117, 490, 323, 32, 417, 102, 143, 444, 269, 290, 27, 408, 185, 30, 487, 436, 165, 346, 499, 16, 209, 214, 63, 172, 317, 146, 203, 392, 489, 142, 407, 164, 213, 202, 163]
theorem dlog_ok : (((List.range 512).zip dlog).all fun p => Nat.ble p.2 511 && lcgN 511 p.2 == p.1) = true := by decide +kernel
theorem dlog_len : dlog.length = 512 := by decide +kernel
theorem round511 : lcgN 511 512 = 0 := by decide +kernel
theorem hit511 {j : Nat} (h : j ≤ 511) : ∃ b, b ≤ 511 ∧ lcgN 511 b = j := by
  have hj : j < dlog.length := by rw [dlog_len]; omega
  have hz : ((List.range 512).zip dlog)[j]? = some (j, dlog[j]) := by
    rw [List.getElem?_zip_eq_some]
    exact ⟨by rw [List.getElem?_range (by omega)], List.getElem?_eq_getElem hj⟩
  have a := List.all_eq_true.mp dlog_ok _ (List.mem_of_getElem? hz)
  simp only [Bool.and_eq_true, beq_iff_eq] at a
  exact ⟨_, Nat.le_of_ble_eq_true a.1, a.2⟩
theorem back511 : ∀ k, lcgN 511 (512 + k) = lcgN 511 k
  | 0 => round511
  | k + 1 => by
    have e : lcgN 511 (512 + (k + 1)) = (lcgN 511 (512 + k) * 5 + 1) % (511 + 1) := rfl
    rw [e, back511 k]
    rfl
/-- a mask whose round meets every place -/
structure Msk (m : Nat) : Prop where
  is : MaskOk m ∨ m = 511
  odd : m % 2 = 1
  top : m ≤ 511
  meet : ∀ i j, i ≤ m → j ≤ m → ∃ k, k ≤ m ∧ lcgI m i k = j
theorem gd_small {m : Nat} (h : MaskOk m) : Msk m := ⟨.inl h, mask_odd h, by rcases h with e | e | e <;> omega, fun i j a b => lcgI_all h a b⟩
theorem gd511 : Msk 511 := ⟨.inr rfl, rfl, Nat.le_refl _, fun i j hi hj => by
  obtain ⟨a, a1, rfl⟩ := hit511 hi
  obtain ⟨b, b1, rfl⟩ := hit511 hj
  by_cases c : a ≤ b
  · exact ⟨b - a, by omega, by rw [lcgN_add, Nat.add_sub_cancel' c]⟩
  · refine ⟨512 + b - a, by omega, ?_⟩
    rw [lcgN_add, Nat.add_sub_cancel' (by omega), back511]⟩
section
variable {m : Nat}
theorem Msk.run (g : Msk m) (c : Int) {j : Nat} (hj : j ≤ m) : ∃ n, n ≤ m + 12 ∧ runI m (SetTable.bits c) n = j :=
  let ⟨k, a, e⟩ := g.meet _ j (runI_le m (SetTable.bits c) 12) hj
  ⟨12 + k, by omega, (runI_tail (bits_lt c) k).trans e⟩
theorem Msk.way (g : Msk m) (c : Int) {j : Nat} (hj : j ≤ m) : ∃ k, k < 10 * SetTable.turns m ∧ L2.way m c k = j := by
  obtain ⟨n, n1, n2⟩ := g.run c hj
  obtain ⟨k, k1, k2⟩ := run_nth m (SetTable.bits c) n
  exact ⟨k, by unfold SetTable.turns; omega, (congrArg SetTable.Probe.j k2).trans n2⟩
theorem way_low (m : Nat) (c : Int) (q : Nat) : L2.way m c q ≤ m := by
  have z : SetTable.bits c % (m + 1) ≤ m := Nat.lt_succ_iff.mp (Nat.mod_lt _ m.succ_pos)
  have r := runEnd_bd z
  exact Nat.le_trans (Nat.le_add_right _ _) (nth_in q (runAt m (SetTable.bits c % (m + 1)) (SetTable.bits c)) (by
    show SetTable.bits c % (m + 1) + (SetTable.runEnd m (SetTable.bits c % (m + 1)) - SetTable.bits c % (m + 1)) ≤ m
    omega))
end
/-- a table in which every hash finds its place again -/
structure Tb (t : SetTable) (cs : List Int) : Prop where
  up : Ris t.place.toList
  nodum : t.dummies = #[]
  cnt : t.place.size = cs.length
  gd : Msk t.mask
  low : ∀ x ∈ t.place.toList, x ≤ t.mask
  met : ∀ (i : Nat) (c : Int) (j : Nat), cs[i]? = some c → t.place.toList[i]? = some j → ∃ k, L2.way t.mask c k = j ∧ ∀ n, n < k → L2.way t.mask c n ∈ t.place.toList
section
variable {t : SetTable} {cs : List Int}
theorem Tb.len (T : Tb t cs) : t.place.toList.length = cs.length := T.cnt
theorem Tb.gap (T : Tb t cs) (hl : cs.length ≤ t.mask) (c : Int) : ∃ K, K < 10 * SetTable.turns t.mask ∧ L2.way t.mask c K ∉ t.place.toList ∧ ∀ k, k < K → L2.way t.mask c k ∈ t.place.toList := by
  obtain ⟨j, a1, a2⟩ := st_missing t.place.toList (t.mask + 1) (by rw [T.len]; omega)
  obtain ⟨k, b1, b2⟩ := T.gd.way c (Nat.lt_succ_iff.mp a1)
  obtain ⟨K, c1, c2, c3⟩ := st_least (p := fun n => L2.way t.mask c n ∉ t.place.toList) k (by show L2.way t.mask c k ∉ _; rw [b2]; exact a2)
  exact ⟨K, Nat.lt_of_le_of_lt c1 b1, c2, fun n hn => Classical.not_not.mp (c3 n hn)⟩
theorem Tb.ahead (T : Tb t cs) {c : Int} {K i j : Nat} (hK : L2.way t.mask c K ∉ t.place.toList) (hi : cs[i]? = some c) (hj : t.place.toList[i]? = some j) : ∃ k, k < K ∧ L2.way t.mask c k = j := by
  obtain ⟨k, e, b⟩ := T.met i c j hi hj
  refine ⟨k, Nat.lt_of_not_le fun z => hK ?_, e⟩
  rcases Nat.lt_or_eq_of_le z with z | z
  · exact b K z
  · rw [z, e]; exact List.mem_of_getElem? hj
theorem Tb.into (T : Tb t cs) {c : Int} {K j : Nat} (ej : j = L2.way t.mask c K) (hK : j ∉ t.place.toList) (hb : ∀ k, k < K → L2.way t.mask c k ∈ t.place.toList) :
    SetTable.below t.place j ≤ cs.length ∧ Tb (t.put j).1 (cs.take (SetTable.below t.place j) ++ c :: cs.drop (SetTable.below t.place j)) ∧ (t.put j).1.fill = cs.length + 1 := by
  have b0 : SetTable.below t.place j ≤ t.place.size := (below_cut T.up j).1
  have bp : SetTable.below t.place j ≤ t.place.toList.length := b0
  have bc : SetTable.below t.place j ≤ cs.length := by rw [← T.cnt]; exact b0
  have pp := put_place t j
  have sz : (t.put j).1.place.size = cs.length + 1 := by
    rw [← Array.length_toList, pp, len_ins _ bp, T.len]
  have old : ∀ {y : Nat}, y ∈ t.place.toList → y ∈ (t.put j).1.place.toList := fun z => by rw [pp]; exact mem_ins.2 (.inr z)
  refine ⟨bc, ⟨ris_insert T.up fun z => hK (List.mem_of_getElem? (by rw [Array.getElem?_toList]; exact z)), put_dm T.nodum j, by rw [len_ins _ bc]; exact sz, T.gd, fun y hy => ?_, fun i c' j' h1 h2 => ?_⟩, ?_⟩
  · rw [pp] at hy
    rcases mem_ins.1 hy with z | z
    · rw [z, ej]; exact way_low _ _ _
    · exact T.low y z
  · rw [tins_get _ bc] at h1
    rw [pp, tins_get _ bp] at h2
    have far : ∀ n, cs[n]? = some c' → t.place.toList[n]? = some j' → ∃ k, L2.way t.mask c' k = j' ∧ ∀ n, n < k → L2.way t.mask c' n ∈ (t.put j).1.place.toList := fun n z1 z2 => by
      obtain ⟨k, e, f⟩ := T.met n c' j' z1 z2
      exact ⟨k, e, fun q hq => old (f q hq)⟩
    rcases Nat.lt_trichotomy i (SetTable.below t.place j) with z | z | z
    · rw [if_pos z] at h1 h2
      exact far i h1 h2
    · rw [if_neg (by omega), if_pos z] at h1 h2
      cases h1
      cases h2
      exact ⟨K, ej.symm, fun q hq => old (hb q hq)⟩
    · rw [if_neg (by omega), if_neg (by omega)] at h1 h2
      exact far (i - 1) h1 h2
  · show (t.put j).1.place.size + (t.put j).1.dummies.size = _
    rw [sz, put_dm T.nodum j]
    rfl
end
/-! ### laying anew -/
section
variable {m : Nat}
theorem Msk.find (g : Msk m) (ow : Array (Option Nat)) (c : Int) {j : Nat} (hj : j ≤ m) (hf : oAt ow j = none) :
    ∃ K, SetTable.layClean.free m ow (SetTable.turns m) (SetTable.bits c % (m + 1)) (SetTable.bits c) = some (L2.way m c K) ∧ oAt ow (L2.way m c K) = none ∧ ∀ k, k < K → oAt ow (L2.way m c k) ≠ none := by
  obtain ⟨n, n1, n2⟩ := g.run c hj
  obtain ⟨z, ez⟩ : ∃ z, z = off m (SetTable.bits c % (m + 1)) (SetTable.bits c) n := ⟨_, rfl⟩
  have hw : L2.way m c z = j := by
    have q := nth_off m n (SetTable.bits c % (m + 1)) (SetTable.bits c)
    rw [← ez, itL_run] at q
    exact (congrArg SetTable.Probe.j q).trans n2
  obtain ⟨K, k1, k2, k3⟩ := st_least (p := fun k => oAt ow (L2.way m c k) = none) z (by show oAt ow (L2.way m c z) = none; rw [hw]; exact hf)
  refine ⟨K, free_spec m ow _ n _ _ K (by unfold SetTable.turns; omega) (by rw [← ez]; exact k1) (fun k hk => ?_) (Option.isNone_iff_eq_none.mpr k2), k2, k3⟩
  exact Option.isNone_eq_false_iff.mpr (Option.isSome_iff_ne_none.mpr (k3 k hk))
theorem own_next (g : Msk m) {ds : List Int} {ow : Array (Option Nat)} (W : Own m ds ow) (hl : ds.length ≤ m) (c : Int) :
    ∃ j, SetTable.layClean.free m ow (SetTable.turns m) (SetTable.bits c % (m + 1)) (SetTable.bits c) = some j ∧ Own m (ds ++ [c]) (ow.setIfInBounds j (some ds.length)) := by
  obtain ⟨ps, ps1, ps2⟩ := W.ps
  obtain ⟨f, f1, f2⟩ := st_missing ps (m + 1) (by omega)
  obtain ⟨K, e1, e2, e3⟩ := g.find ow c (Nat.lt_succ_iff.mp f1) (Classical.byContradiction fun z => f2 (ps2 f (Nat.lt_succ_iff.mp f1) z))
  have low := way_low m c K
  obtain ⟨j, ej⟩ : ∃ j, j = L2.way m c K := ⟨_, rfl⟩
  rw [← ej] at e1 e2 low
  have inb : j < ow.size := by rw [W.sz]; omega
  have here := oAt_set_self (some ds.length) inb
  have full : ∀ {i : Nat}, oAt ow i ≠ none → oAt (ow.setIfInBounds j (some ds.length)) i ≠ none := fun {i} z => by
    by_cases q : i = j
    · rw [q, here]; simp
    · rw [oAt_set_ne _ q]; exact z
  refine ⟨j, e1, ⟨by rw [Array.size_setIfInBounds, W.sz], fun i k hi e => ?_, fun k hk => ?_, ⟨j :: ps, by simp [ps1], fun i hi e => ?_⟩⟩⟩
  · by_cases q : i = j
    · rw [q, here] at e
      cases e
      exact ⟨c, K, by simp, by rw [q, ej], fun n hn => full (e3 n hn)⟩
    · rw [oAt_set_ne _ q] at e
      obtain ⟨c', K', a1, a2, a3⟩ := W.at_ i k hi e
      exact ⟨c', K', by rw [List.getElem?_append_left (List.getElem?_eq_some_iff.mp a1).1]; exact a1, a2, fun n hn => full (a3 n hn)⟩
  · simp only [List.length_append, List.length_singleton] at hk
    by_cases q : k = ds.length
    · exact ⟨j, low, by rw [q]; exact here⟩
    · obtain ⟨i, hi, e⟩ := W.all k (by omega)
      exact ⟨i, hi, by rw [oAt_set_ne _ fun z => by rw [z, e2] at e; cases e]; exact e⟩
  · by_cases q : i = j
    · rw [q]; exact .head _
    · rw [oAt_set_ne _ q] at e
      exact .tail _ (ps2 i hi e)
theorem own_all (g : Msk m) : ∀ (cs ds : List Int) (ow : Array (Option Nat)), Own m ds ow → ds.length + cs.length ≤ m → ∃ ow2, cs.foldl (stepF m) (some (ow, ds.length)) = some (ow2, (ds ++ cs).length) ∧ Own m (ds ++ cs) ow2
  | [], ds, ow, W, _ => ⟨ow, by simp, by simpa using W⟩
  | c :: cs, ds, ow, W, hl => by
    simp only [List.length_cons] at hl
    obtain ⟨j, e, W2⟩ := own_next g W (by omega) c
    obtain ⟨ow2, f1, f2⟩ := own_all g cs (ds ++ [c]) _ W2 (by simp; omega)
    refine ⟨ow2, ?_, by simpa using f2⟩
    rw [List.foldl_cons]; rw [stepF_some e]
    simpa using f1
theorem own_lay (g : Msk m) {cs : Array Int} (hn : cs.size ≤ m) : ∃ ow, SetTable.layClean m cs = some ow ∧ Own m cs.toList ow := by
  obtain ⟨ow, f1, f2⟩ := own_all g cs.toList [] _ (Own.init m) (by simp; exact hn)
  exact ⟨ow, by rw [layClean_eq, show cs.toList.foldl (stepF m) (some (Array.replicate (m + 1) none, 0)) = some (ow, ([] ++ cs.toList).length) from f1]; rfl, by simpa using f2⟩
end
theorem Msk.relaid {M : Nat} (g : Msk M) (t : SetTable) {cs : Array Int} {want : Nat} (hw : SetTable.sizeAbove want - 1 = M) (hn : cs.size ≤ M) :
    ∃ t2 ord, t.relaid cs want = some (t2, ord) ∧ ord.toList.Perm (List.range cs.size) ∧ Tb t2 (ord.toList.map fun i => cs.getD i 0) ∧ t2.mask = M ∧ t2.led = t.led ∧ t2.plain = t.plain := by
  obtain ⟨ow, e, W⟩ := own_lay g hn
  obtain ⟨lv, elv⟩ : ∃ lv, lv = liveOf M ow := ⟨_, rfl⟩
  have mem : ∀ {j k : Nat}, (j, k) ∈ lv ↔ j ≤ M ∧ oAt ow j = some k := by rw [elv]; exact mem_live W.sz
  have ris : Ris (lv.map (·.1)) := by
    rw [elv]
    exact (ris_live (fun j => ow.getD j none) (List.range (M + 1)) (by unfold Ris; exact List.pairwise_lt_range)).1
  have dist : (lv.map (·.1)).Nodup := List.Pairwise.imp (fun z => Nat.ne_of_lt z) ris
  have hlen : lv.length = cs.size := by
    obtain ⟨ps, p1, p2⟩ := W.ps
    refine Nat.le_antisymm ?_ ?_
    · have a := nat_nodup_len (lv.map (·.1)) ps dist fun x hx => by
        obtain ⟨⟨y, k⟩, hq, rfl⟩ := List.mem_map.mp hx
        exact p2 y (mem.1 hq).1 (by rw [(mem.1 hq).2]; simp)
      rw [p1, List.length_map] at a
      exact a
    · have b := nat_nodup_len (List.range cs.size) (lv.map (·.2)) List.nodup_range fun k hk => by
        obtain ⟨j, b1, b2⟩ := W.all k (List.mem_range.mp hk)
        exact List.mem_map.mpr ⟨(j, k), mem.2 ⟨b1, b2⟩, rfl⟩
      simp only [List.length_map, List.length_range] at b
      exact b
  refine ⟨tabOf t M ow, (lv.map (·.2)).toArray, by rw [relaid_eq, hw, e, elv]; rfl, perm_range _ _ (by simpa using hlen) fun k hk => ?_, ⟨?_, rfl, ?_, g, fun x hx => ?_, fun i c j h1 h2 => ?_⟩, rfl, rfl, rfl⟩
  · obtain ⟨j, b1, b2⟩ := W.all k hk
    exact List.mem_map.mpr ⟨(j, k), mem.2 ⟨b1, b2⟩, rfl⟩
  · rw [elv] at ris; exact ris
  · show ((liveOf M ow).map (·.1)).toArray.size = _
    rw [← elv]; simp
  · have hx2 : x ∈ (liveOf M ow).map (·.1) := hx
    rw [← elv] at hx2
    obtain ⟨⟨y, k⟩, hq, rfl⟩ := List.mem_map.mp hx2
    exact (mem.1 hq).1
  · have h3 : ((liveOf M ow).map (·.1))[i]? = some j := h2
    have h4 : ((lv.map (·.2)).map fun i => cs.getD i 0)[i]? = some c := h1
    rw [← elv, List.getElem?_map] at h3
    rw [List.getElem?_map, List.getElem?_map] at h4
    obtain ⟨⟨y, k⟩, eq, rfl⟩ := Option.map_eq_some_iff.mp h3
    rw [eq] at h4
    have hc : cs.getD k 0 = c := Option.some.inj h4
    obtain ⟨b1, b2⟩ := mem.1 (List.mem_of_getElem? eq)
    obtain ⟨c0, K, a1, a2, a3⟩ := W.at_ y k b1 b2
    have ec : cs.getD k 0 = c0 := by
      rw [Array.getElem?_toList] at a1
      rw [Array.getD_eq_getD_getElem?, a1]; rfl
    subst hc
    refine ⟨K, by rw [ec]; exact a2, fun n hn => ?_⟩
    rw [ec]
    show L2.way M c0 n ∈ (liveOf M ow).map (·.1)
    obtain ⟨k2, z⟩ := Option.ne_none_iff_exists'.mp (a3 n hn)
    exact List.mem_map.mpr ⟨(_, k2), (mem_live W.sz).2 ⟨way_low M c0 n, z⟩, rfl⟩
end K9

set_option Elab.async false
set_option linter.all false
set_option maxRecDepth 100000
set_option maxHeartbeats 4200000
namespace K9
open PyProof.Rows PySem PySem.Spec L2
abbrev KL := List (Addr × List Int)
/-- the set's object: rows L in the table's order -/
structure Sx (P : Program) (w : World) (h : Heap) (a : Addr) (L : KL) (es : Array (Int × Value)) (ep : Nat) (t : SetTable) : Prop where
  obj : ∃ o, h.get? a = some o ∧ o.ExactSet ∧ o.data = .set es ep t
  rw_ : es.toList = rowsOf P w L
  tb : Tb t (L.map fun p => thash P w p.2)
  dis : (L.map Prod.snd).Nodup
  isT : ∀ p ∈ L, IsT P w h p.2 p.1
  pl : t.plain = true
  ld : w.params.followText "set-order" = true ∨ t.led = true
  gap : L.length * 5 < t.mask * 3
theorem rows_len {P : Program} {w : World} {L : KL} {es : Array (Int × Value)} (e : es.toList = rowsOf P w L) : es.size = L.length := by
  rw [← Array.length_toList, e]
  unfold rowsOf
  exact List.length_map ..
section
variable {P : Program} {w : World} {A : Around} {E : Value → Shared → Prop} {s : Shared} {a : Addr} {L : KL} {es : Array (Int × Value)} {ep : Nat} {t : SetTable} {h : Heap}
theorem Sx.len (S : Sx P w h a L es ep t) : es.size = L.length := rows_len S.rw_
theorem Sx.pls (S : Sx P w h a L es ep t) : t.place.size = L.length := by rw [S.tb.cnt]; exact List.length_map ..
theorem fits_of {n : Nat} (h1 : t.place.size = n) (h2 : t.dummies = #[]) (h3 : n ≤ t.mask) : t.fits n = true := by
  simp [SetTable.fits, SetTable.fill, h1, h2, h3]
theorem Sx.fits (S : Sx P w h a L es ep t) : t.fits es.size = true := fits_of (by rw [S.pls, S.len]) S.tb.nodum (by have := S.gap; rw [S.len]; omega)
theorem Sx.row (S : Sx P w h a L es ep t) {i : Nat} {p : Addr × List Int} (z : L[i]? = some p) : es[i]? = some (thash P w p.2, Value.ref p.1) := by
  rw [← Array.getElem?_toList, S.rw_]
  simp [rowsOf, z]
theorem Sx.stays (S : Sx P w h a L es ep t) : ¬ t.gaveWay = true := by
  unfold SetTable.gaveWay
  rw [S.tb.gd.odd]
  decide
abbrev st0 (t : SetTable) (c : Int) : SetTable.Probe := runAt t.mask (SetTable.bits c % (t.mask + 1)) (SetTable.bits c)
theorem nth_nodum (m : Nat) : ∀ (n : Nat) (p : SetTable.Probe), p.dummy = none → (nth m p n).dummy = none
  | 0, _, z => z
  | n + 1, p, z => nth_nodum m n (adv m p) (by unfold adv; split <;> exact z)
/-- the search, from the c-th step of the key's way -/
theorem look (S : Sx P w s.heap a L es ep t) {x : Addr} {k : List Int} {H : Int} (hH : thash P w k = H) (tx : IsT P w s.heap k x) (hu : A.units < cLine) {K : Nat} (kf : K < 10 * SetTable.turns t.mask)
    (free : L2.way t.mask H K ∉ t.place.toList) (held : ∀ q, q < K → L2.way t.mask H q ∈ t.place.toList) {Q : SetFound → Shared → Prop}
    (yes : k ∈ L.map Prod.snd → Q (.there none) s) (no : k ∉ L.map Prod.snd → Q (.free (L2.way t.mask H K) false) s) :
    ∀ (f c : Nat) (std : Option SetTable.Probe), std.getD (t.probeStart H) = nth t.mask (st0 t H) c → c ≤ K → K - c < f →
      (∀ (i : Nat) p, L[i]? = some p → p.2 = k → ∃ q, c ≤ q ∧ q < K ∧ t.place.toList[i]? = some (L2.way t.mask H q)) →
      wpAny (model P w) A (setSearchFrom a (.ref x) H true f std) Q E s
  | 0, _, _, _, _, lf, _ => absurd lf (Nat.not_lt_zero _)
  | f + 1, c, std, es0, lc, lf, later => by
    obtain ⟨o, ho, _, hd⟩ := S.obj
    rw [setSearchFrom_succ]
    refine wpAny_bind (wpAny_setState_of ho hd S.fits ?_)
    dsimp only
    refine wp_if_neg S.stays ?_
    try apply wpAny_bind (wpAny_pure ?_)
    have wj : ∀ q, (nth t.mask (nth t.mask (st0 t H) c) q).j = L2.way t.mask H (c + q) := fun q => congrArg SetTable.Probe.j (nth_add t.mask c _ q).symm
    have hs : ∀ (i : Nat) p, L[i]? = some p → (es[i]?.map (·.1)).getD 0 = thash P w p.2 := fun i p z => by rw [S.row z]; rfl
    have spec := go_spec t S.tb.up S.tb.nodum (fun i => (es[i]?.map (·.1)).getD 0) H (10 * SetTable.turns t.mask) (K - c) _ (nth_nodum t.mask c (st0 t H) rfl) (by omega)
      (fun q hq => by rw [wj]; exact held _ (by omega)) (by rw [wj, Nat.add_sub_cancel' lc]; exact free)
    rcases spec with ⟨q, i, q1, q2, q3, q4, q5⟩ | ⟨q4, q5⟩
    · rw [wj] at q2 q5
      rw [show t.probe (fun i => (es[i]?.map (·.1)).getD 0) H (std.getD (t.probeStart H)) = _ from (congrArg _ es0).trans q5]
      dsimp only
      have il : i < L.length := by
        have z := (List.getElem?_eq_some_iff.mp q2).1
        rw [Array.length_toList, S.pls] at z
        exact z
      obtain ⟨p, hp⟩ : ∃ p, L[i]? = some p := ⟨_, List.getElem?_eq_getElem il⟩
      have pm : p ∈ L := List.mem_of_getElem? hp
      have sl : t.slot (L2.way t.mask H (c + q)) = .live i := slot_live S.tb.up q2
      have rest : wpAny (model P w) A (searchRest a (.ref x) H true f es t (L2.way t.mask H (c + q)) i (nth t.mask (nth t.mask (st0 t H) c) (q + 1))) Q E s := by
        unfold searchRest
        rw [S.row hp]
        dsimp only
        refine wpAny_bind (wpAny_holding (wpAny_eqBool_tuple hu (S.isT p pm) tx ?_))
        refine wpAny_bind (wpAny_setState_of ho hd S.fits ?_)
        dsimp only
        rcases Classical.em (p.2 = k) with kk | kk
        · exact wp_if_pos (by simp [kk]) (wpAny_pure (yes (List.mem_map.mpr ⟨p, pm, kk⟩)))
        · refine wp_if_neg (by simp [kk]) ?_
          try apply wpAny_bind (wpAny_pure ?_)
          rw [sameMem]
          dsimp only
          simp only [if_true, sl, S.row hp]
          refine wpAny_bind ?_; refine wpAny_isSame_ref_self (wpAny_bind (wpAny_pure ?_))
          simp only [if_true]
          refine wp_if_neg (by simp [kk]) ?_
          refine look S hH tx hu kf free held yes no f (c + (q + 1)) (some (nth t.mask (nth t.mask (st0 t H) c) (q + 1))) (nth_add t.mask c _ (q + 1)).symm (by omega) (by omega) fun i0 p0 z0 k0 => ?_
          obtain ⟨r, r1, r2, r3⟩ := later i0 p0 z0 k0
          refine ⟨r, ?_, r2, r3⟩
          rcases Nat.lt_trichotomy r (c + q) with z | z | z
          · exact absurd ((hs i0 p0 z0).trans (by rw [k0, hH])) (q4 (r - c) i0 (by omega) (by rw [wj, Nat.add_sub_cancel' r1]; exact r3))
          · rw [z] at r3
            have s0 := slot_live S.tb.up r3
            rw [sl] at s0
            injection s0 with s0
            rw [← s0, hp] at z0
            cases z0
            exact absurd k0 kk
          · omega
      rcases Classical.em (t.led = true) with ll | ll
      · refine wp_if_neg (by simp [ll]) ?_
        try apply wpAny_bind (wpAny_pure ?_)
        exact rest
      · refine wp_if_pos (by simp [ll]) ?_
        refine wpAny_bind (seen_tup tx (fun y hy => ?_) (wp_if_neg (by decide) ?_))
        · obtain ⟨e, he, rfl⟩ := List.mem_map.mp hy
          have he2 : e ∈ es.toList := by simp at he; simpa using he.1
          rw [S.rw_] at he2
          obtain ⟨p2, hp2, rfl⟩ := List.mem_map.mp he2
          exact ⟨p2.2, p2.1, rfl, S.isT p2 hp2⟩
        · try refine wpAny_bind (wpAny_pure ?_)
          exact rest
    · rw [wj, Nat.add_sub_cancel' lc] at q5
      rw [show t.probe (fun i => (es[i]?.map (·.1)).getD 0) H (std.getD (t.probeStart H)) = _ from (congrArg _ es0).trans q5]
      dsimp only
      refine wpAny_pure (no fun hm => ?_)
      obtain ⟨p0, m0, k0⟩ := List.mem_map.mp hm
      obtain ⟨i0, i1, e0⟩ := List.getElem_of_mem m0
      have z0 : L[i0]? = some p0 := by rw [List.getElem?_eq_getElem i1, e0]
      obtain ⟨r, r1, r2, r3⟩ := later i0 p0 z0 k0
      exact q4 (r - c) i0 (by omega) (by rw [wj, Nat.add_sub_cancel' r1]; exact r3) ((hs i0 p0 z0).trans (by rw [k0, hH]))
/-- the search as adding asks it -/
theorem looks (S : Sx P w s.heap a L es ep t) {x : Addr} {k : List Int} (tx : IsT P w s.heap k x) (hu : A.units < cLine) {Q : SetFound → Shared → Prop} (yes : k ∈ L.map Prod.snd → Q (.there none) s)
    (no : ∀ K, k ∉ L.map Prod.snd → L2.way t.mask (thash P w k) K ∉ t.place.toList → (∀ q, q < K → L2.way t.mask (thash P w k) q ∈ t.place.toList) → Q (.free (L2.way t.mask (thash P w k) K) false) s) : wpAny (model P w) A (setSearch a (.ref x) (thash P w k) true) Q E s := by
  have g := S.gap
  obtain ⟨K, k1, k2, k3⟩ := S.tb.gap (by rw [List.length_map]; omega) (thash P w k)
  have top := S.tb.gd.top
  have big : K < 100000 := Nat.lt_of_lt_of_le k1 (by unfold SetTable.turns; omega)
  unfold setSearch
  refine look S rfl tx hu k1 k2 k3 yes (fun z => no K z k2 k3) 100000 0 none rfl (Nat.zero_le _) big fun i p hp hk => ?_
  have il : i < t.place.toList.length := by
    rw [Array.length_toList, S.pls]
    exact (List.getElem?_eq_some_iff.mp hp).1
  obtain ⟨r, r1, r2⟩ := S.tb.ahead k2 (i := i) (by simp [hp, hk]) (List.getElem?_eq_getElem il)
  exact ⟨r, Nat.zero_le _, r1, by rw [r2]; exact List.getElem?_eq_getElem il⟩
end
end K9

set_option Elab.async false
set_option linter.all false
set_option maxRecDepth 100000
set_option maxHeartbeats 4200000
namespace K9
open PyProof.Rows PySem PySem.Spec L2
theorem size_308 : SetTable.sizeAbove (SetTable.grown 77) = 512 := by decide +kernel
section
variable {P : Program} {w : World} {A : Around} {E : Value → Shared → Prop} {s : Shared} {a : Addr} {L : KL} {es : Array (Int × Value)} {ep : Nat} {t : SetTable} {h : Heap}
theorem relay {o : Obj} (ho : s.heap.get? a = some o) (hex : o.ExactSet) (hd : o.data = .set es ep t) (er : es.toList = rowsOf P w L) (sz : t.place.size = es.size) (dm : t.dummies = #[]) (fl : es.size ≤ t.mask)
    (dis : (L.map Prod.snd).Nodup) (tup : ∀ p ∈ L, IsT P w s.heap p.2 p.1) (pl : t.plain = true) (ld : w.params.followText "set-order" = true ∨ t.led = true) {want M : Nat}
    (hw : SetTable.sizeAbove want - 1 = M) (g : Msk M) (h2 : SetTable.sizeAbove want ≤ 512) (room : L.length * 5 < M * 3) {Q : Unit → Shared → Prop}
    (q : ∀ h2 L2 es2 ep2 t2, Heap.SameBut a s.heap h2 → Sx P w h2 a L2 es2 ep2 t2 → L2.Perm L → Q () { s with heap := h2 }) : wpAny (model P w) A (setRelay a want) Q E s := by
  have n := rows_len er
  obtain ⟨t2, ord, e, op, T, em, el, epl⟩ := g.relaid t (cs := es.map (·.1)) hw (by rw [Array.size_map, n]; omega)
  rw [Array.size_map, n] at op
  obtain ⟨L2, r1, r2, r3⟩ := order_rows L es ord er op
  have n2 : (ord.filterMap (es[·]?)).size = es.size := by rw [rows_len r1, r2.length_eq, n]
  rw [setRelay_eq]
  refine wpAny_bind (wpAny_setState_of ho hd (fits_of sz dm fl) ?_)
  dsimp only
  refine wp_if_neg (Nat.not_lt.mpr (by rw [sizeLine_eq]; omega)) ?_
  try apply wpAny_bind (wpAny_pure ?_)
  rw [e]
  dsimp only
  refine wpAny_bind (wp_if_neg (by simp [n2]) ?_)
  try apply wpAny_bind (wpAny_pure ?_)
  refine wpAny_pure ?_
  dsimp only
  refine wpAny_storeSet_of ho hd ?_ (by rw [n2, n, sizeLine_eq]; have := g.top; omega)
  have sb : Heap.SameBut a s.heap (s.heap.update a (Obj.putSet (ord.filterMap (es[·]?)) t2)) := Heap.SameBut.update ..
  exact q _ L2 _ (ep + 1) t2 sb ⟨⟨_, store_at ho hd, ⟨hex.1, hex.2.1, hex.2.2⟩, rfl⟩, r1, by rw [r3]; exact T, (r2.map _).nodup_iff.mpr dis, fun p hp => isT_same (tup p (r2.mem_iff.mp hp)) ho hd sb, by rw [epl]; exact pl, by rw [el]; exact ld, by rw [r2.length_eq, em]; exact room⟩ r2
/-- one more -/
theorem adds (S : Sx P w s.heap a L es ep t) {x : Addr} {k : List Int} (tx : IsT P w s.heap k x) (hu : A.units < cLine) (few : k ∉ L.map Prod.snd → L.length + 1 ≤ 300) {Q : Bool → Shared → Prop}
    (q : ∀ b h2 L2 es2 ep2 t2, Heap.SameBut a s.heap h2 → Sx P w h2 a L2 es2 ep2 t2 → (k ∈ L.map Prod.snd → L2 = L) → (k ∉ L.map Prod.snd → L2.Perm ((x, k) :: L)) → Q b { s with heap := h2 }) : wpAny (model P w) A (setAddHashed a (.ref x) (thash P w k)) Q E s := by
  obtain ⟨o, ho, hex, hd⟩ := S.obj
  have n := S.len
  have room := S.gap
  unfold setAddHashed
  refine wpAny_holding ?_
  rw [show (100000 : Nat) = Nat.succ 99999 from rfl]; rw [setAddHashedIn_succ]
  refine wpAny_bind (wpAny_setState_of ho hd S.fits ?_)
  dsimp only
  refine wp_if_neg (by rw [byScan]; simp [Value.scannable]) ?_
  try apply wpAny_bind (wpAny_pure ?_)
  refine wpAny_bind (looks S tx hu (fun hm => ?_) fun K hm free held => ?_)
  · dsimp only
    exact wpAny_pure (q false s.heap L es ep t (Heap.SameBut.refl a s.heap) S (fun _ => rfl) fun z => absurd hm z)
  · dsimp only
    have few := few hm
    refine wpAny_bind (wpAny_setState_of ho hd S.fits ?_)
    dsimp only
    obtain ⟨j, ej⟩ : ∃ j, j = L2.way t.mask (thash P w k) K := ⟨_, rfl⟩
    rw [← ej] at free ⊢
    obtain ⟨b1, T1, f1⟩ := S.tb.into ej free held
    have p2 : (t.put j).2 = SetTable.below t.place j := rfl
    have m1 : (t.put j).1.mask = t.mask := rfl
    have pl1 : (t.put j).1.plain = true := S.pl
    have ld1 : w.params.followText "set-order" = true ∨ (t.put j).1.led = true := S.ld
    generalize t.put j = pt at p2 m1 pl1 ld1 T1 f1 ⊢
    obtain ⟨t1, p⟩ := pt
    dsimp only at p2 m1 pl1 ld1 T1 f1 ⊢
    subst p2
    generalize SetTable.below t.place j = p at b1 T1 ⊢
    first
      | (refine wpAny_bind ?_; refine wp_if_pos pl1 ?_; refine hashBy_tup tx ?_)
      | refine wp_if_pos pl1 (wpAny_bind (hashBy_tup tx ?_))
    simp only [if_true]
    obtain ⟨L1, eL1⟩ : ∃ L1, L1 = L.take p ++ (x, k) :: L.drop p := ⟨_, rfl⟩
    have pm : L1.Perm ((x, k) :: L) := by rw [eL1]; exact put_perm L p (x, k)
    obtain ⟨es1, ees⟩ : ∃ es1, es1 = SetTable.insertAt es p (thash P w k, Value.ref x) := ⟨_, rfl⟩
    have er : es1.toList = rowsOf P w L1 := by rw [ees, SetTable.toList_insertAt, eL1, rows_put, S.rw_]
    have n1 : es1.size = L.length + 1 := by rw [rows_len er]; exact pm.length_eq
    have T2 : Tb t1 (L1.map fun p => thash P w p.2) := by
      rw [eL1, List.map_append, List.map_cons, List.map_take, List.map_drop]
      exact T1
    rw [← ees]
    refine wpAny_bind (wpAny_storeSet_of ho hd ?_ (by rw [n1, sizeLine_eq]; omega))
    have sb := Heap.SameBut.update s.heap a (Obj.putSet es1 t1)
    have ho1 := store_at (t' := t1) (es' := es1) ho hd
    generalize s.heap.update a (Obj.putSet es1 t1) = h1 at ho1 sb ⊢
    have tup1 : ∀ r ∈ L1, IsT P w h1 r.2 r.1 := fun r hp => by
      obtain e | z := List.mem_cons.mp (pm.mem_iff.mp hp)
      · rw [e]; exact isT_same tx ho hd sb
      · exact isT_same (S.isT r z) ho hd sb
    have dis1 : (L1.map Prod.snd).Nodup := (pm.map Prod.snd).nodup_iff.mpr (List.nodup_cons.mpr ⟨hm, S.dis⟩)
    have cnt1 : t1.place.size = es1.size := by rw [T2.cnt, List.length_map, n1]; exact pm.length_eq
    rcases Classical.em (t1.tooFull = true) with hf | hf
    · first
        | (apply wpAny_bind; refine wp_if_pos (by simp [hf]) ?_)
        | (refine wp_if_pos (by simp [hf]) ?_; apply wpAny_bind)
      have full := hf
      unfold SetTable.tooFull at full
      rw [decide_eq_true_eq, f1, List.length_map, m1] at full
      rw [n]
      have go : ∀ M, SetTable.sizeAbove (SetTable.grown (L.length + 1)) - 1 = M → Msk M → SetTable.sizeAbove (SetTable.grown (L.length + 1)) ≤ 512 → (L.length + 1) * 5 < M * 3 →
          wpAny (model P w) A (setRelay a (SetTable.grown (L.length + 1))) (fun _ s' => wpAny (model P w) A (pure true) Q E s') E { s with heap := h1 } := fun M g1 g2 g3 g4 =>
        relay (s := { s with heap := h1 }) ho1 ⟨hex.1, hex.2.1, hex.2.2⟩ rfl er cnt1 T2.nodum (by rw [n1, m1]; omega) dis1 tup1 pl1 ld1 g1 g2 g3 (by rw [pm.length_eq]; exact g4) fun h2 L2 es2 ep2 t2 sb2 S2 pm2 =>
          wpAny_pure (q true h2 L2 es2 ep2 t2 (sb.trans sb2) S2 (fun z => absurd z hm) fun _ => pm2.trans pm)
      rcases S.tb.gd.is with (e | e | e) | e <;> rw [e] at full room
      · have z : L.length = 4 := by omega
        exact go 31 (by rw [z, size_20]) (gd_small (.inr (.inl rfl))) (by rw [z, size_20]; decide) (by omega)
      · have z : L.length = 18 := by omega
        exact go 127 (by rw [z, size_76]) (gd_small (.inr (.inr rfl))) (by rw [z, size_76]; decide) (by omega)
      · have z : L.length = 76 := by omega
        exact go 511 (by rw [z, size_308]) gd511 (by rw [z, size_308]; decide) (by omega)
      · omega
    · first
        | apply wp_if_neg (by simp [hf])
        | (apply wpAny_bind; refine wp_if_neg (by simp [hf]) (wpAny_pure ?_))
      have full := hf
      unfold SetTable.tooFull at full
      rw [decide_eq_true_eq, f1, List.length_map] at full
      exact wpAny_pure (q true h1 L1 es1 (ep + 1) t1 sb ⟨⟨_, ho1, ⟨hex.1, hex.2.1, hex.2.2⟩, rfl⟩, er, T2, dis1, tup1, pl1, ld1, by rw [pm.length_eq, List.length_cons]; omega⟩ (fun z => absurd z hm) fun _ => pm)
end
end K9

set_option Elab.async false
set_option linter.all false
set_option maxRecDepth 100000
set_option maxHeartbeats 8000000
namespace K9
open PyProof.Rows PySem PySem.Spec L2
/-- pigeons -/
theorem pig {α : Type} : ∀ (l D : List α), l.Nodup → (∀ x ∈ l, x ∈ D) → l.length ≤ D.length
  | [], D, _, _ => Nat.zero_le _
  | x :: l, D, n, h => by
    obtain ⟨u, v, rfl⟩ := List.append_of_mem (h x (.head _))
    have n2 := List.nodup_cons.mp n
    have ih := pig l (u ++ v) n2.2 fun y hy => by
      have z := h y (.tail _ hy)
      rw [List.mem_append, List.mem_cons] at z
      rcases z with z | z | z
      · exact List.mem_append.mpr (.inl z)
      · exact absurd (z ▸ hy) n2.1
      · exact List.mem_append_right _ z
    simp only [List.length_append, List.length_cons] at ih ⊢
    omega
abbrev noSet (w : World) : Obj := { cls := .type "set", dict := none, data := .set #[] 0 (.fresh 0 0 (!w.params.followText "set-order")) }
section
variable {A : Around} {P : Program} {s : Shared} {w : World} {E : Value → Shared → Prop}
theorem Sx.keep {h h2 : Heap} {a : Addr} {L : KL} {es : Array (Int × Value)} {ep : Nat} {t : SetTable} (S : Sx P w h a L es ep t) (ka : ∀ o, h.get? a = some o → h2.get? a = some o) (kt : ∀ p ∈ L, IsT P w h2 p.2 p.1) : Sx P w h2 a L es ep t :=
  let ⟨o, ho, r⟩ := S.obj
  ⟨⟨o, ka o ho, r⟩, S.rw_, S.tb, S.dis, kt, S.pl, S.ld, S.gap⟩
theorem empty_set {h : Heap} {a : Addr} (ho : h.get? a = some (noSet w)) : Sx P w h a [] #[] 0 (.fresh 0 0 (!w.params.followText "set-order")) :=
  ⟨⟨_, ho, ⟨rfl, rfl, rfl⟩, rfl⟩, rfl, ⟨List.Pairwise.nil, rfl, rfl, gd_small (.inl rfl), fun x hx => (by cases hx), fun i c j z => (by simp at z)⟩, List.nodup_nil, fun p hp => (by cases hp), rfl,
    (by show _ ∨ (!w.params.followText "set-order") = true; cases w.params.followText "set-order" <;> simp), (by show 0 * 5 < 7 * 3; decide)⟩
/-- all that an iterator gives, put in -/
theorem fills {I : Addr} {fp wr : List Addr} {G : Array GenState → Array GenState → Prop} {Pv : Nat → Value → Prop} {St : Nat → Shared → Prop} {R : Result → Shared → Prop} (ks : KL) (D : List (List Int))
    (W : WalksS P w A.in1 I fp wr G ks.length Pv St) (z : Addr) (zf : z ∉ fp) (hD : ∀ p ∈ ks, p.2 ∈ D) (few : D.length ≤ 300) (val : ∀ i v, Pv i v → ∃ p, ks[i]? = some p ∧ v = .ref p.1)
    (h0 : Heap) (tup : ∀ p ∈ ks, IsT P w h0 p.2 p.1) (z0 : h0.get? z = none) (w0 : ∀ b ∈ wr, h0.get? b = none) (hu : A.in1.units < cLine) :
    ∀ (k i : Nat) (s : Shared), ks.length - i = k → i ≤ ks.length → St i s → (∀ b o, h0.get? b = some o → s.heap.get? b = some o) → (∃ L es ep t, Sx P w s.heap z L es ep t ∧ Got ks i L) →
      (∀ s2 L es ep t, Moved (z :: wr) G s s2 → Sx P w s2.heap z L es ep t → Got ks ks.length L → (∀ b o, h0.get? b = some o → s2.heap.get? b = some o) → R (.ok (.ret .none)) s2) →
      codeAny (model P w) A (.builtin "set.update.loop" ⟨[.ref z, .ref I], []⟩) R s := by
  have zw : z ∉ wr := fun q => zf (W.sub _ q)
  have up : ∀ b ∈ wr, b ∈ z :: wr := fun b q => .tail _ q
  have kept : ∀ {s s2 : Shared}, Moved wr G s s2 → (∀ b o, h0.get? b = some o → s.heap.get? b = some o) → ∀ b o, h0.get? b = some o → s2.heap.get? b = some o := fun mv kp b o e =>
    mv.heap b o (fun q => by rw [w0 b q] at e; cases e) (kp b o e)
  intro k
  induction k with
  | zero =>
    intro i s ek hi st kp ⟨L, es, ep, t, S, g⟩ hR
    obtain rfl : i = ks.length := by omega
    apply codeAny_builtin F.entry_set_update_loop
    rw [Around.under_plainId F.plain_set_update_loop]
    show wpAny (model P w) A.in1 (pyNext (.ref I) >>= _) _ _ s
    refine wpAny_bind (W.done s _ _ st fun s2 mv => ?_)
    show wpAny _ A.in1 (ret Value.none) _ _ s2
    exact wpAny_pure (hR s2 L es ep t (mv.mono up) (S.keep (fun o e => mv.heap z o zw e) fun p hp => isT_keep (tup p (List.mem_of_mem_take (g.sub p hp))) (kept mv kp)) g (kept mv kp))
  | succ k ih =>
    intro i s ek hi st kp ⟨L, es, ep, t, S, g⟩ hR
    have hlt : i < ks.length := Nat.lt_of_sub_pos (by omega)
    apply codeAny_builtin F.entry_set_update_loop
    rw [Around.under_plainId F.plain_set_update_loop]
    show wpAny (model P w) A.in1 (pyNext (.ref I) >>= _) _ _ s
    refine wpAny_bind (W.item i s _ _ hlt st fun v s2 pv st2 mv => ?_)
    obtain ⟨p, hp, rfl⟩ := val i v pv
    have kp2 := kept mv kp
    have S2 : Sx P w s2.heap z L es ep t := S.keep (fun o e => mv.heap z o zw e) fun q hq => isT_keep (tup q (List.mem_of_mem_take (g.sub q hq))) kp2
    have pin : p ∈ ks := List.mem_of_getElem? hp
    have tx : IsT P w s2.heap p.2 p.1 := isT_keep (tup p pin) kp2
    show wpAny _ A.in1 (holding [Value.ref p.1] (setAdd z (.ref p.1)) >>= _) _ _ s2
    refine wpAny_bind ?_; refine wpAny_holding ?_
    unfold setAdd
    refine wpAny_holding (wpAny_bind (wpAny_pyHash_tuple hu tx ?_))
    refine adds (s := { s2 with toks := s2.toks + (p.2.length + 1) }) S2 tx hu (fun nm => ?_) fun b h3 L3 es3 ep3 t3 sb S3 c1 c2 => ?_
    · have q := pig (p.2 :: L.map Prod.snd) D (List.nodup_cons.mpr ⟨nm, S.dis⟩) fun y hy => by
        obtain e | e := List.mem_cons.mp hy
        · rw [e]; exact hD p pin
        · obtain ⟨r, hr, rfl⟩ := List.mem_map.mp e
          exact hD r (List.mem_of_mem_take (g.sub r hr))
      rw [List.length_cons, List.length_map] at q
      omega
    · have g3 : Got ks (i + 1) L3 := (Classical.em (p.2 ∈ L.map Prod.snd)).elim (fun c => by rw [c1 c]; exact g.same hp c) fun c => g.more hp (c2 c)
      have kp3 : ∀ b o, h0.get? b = some o → h3.get? b = some o := fun b o e => (sb.2 b fun q => by rw [q, z0] at e; cases e).trans (kp2 b o e)
      refine wpAny_pure ⟨plainId_quiet F.plain_set_update_loop _, ih (i + 1) _ (by omega) hlt (W.frame _ s2 _ _ st2 (Nat.le_add_right _ _) fun b hb o e => ?_) kp3 ⟨L3, es3, ep3, t3, S3, g3⟩ fun s4 L4 es4 ep4 t4 mv4 S4 g4 kp4 => ?_⟩
      · exact (sb.2 b fun q : b = z => zf (q ▸ hb)).trans e
      · exact hR s4 L4 es4 ep4 t4 (Moved.trans W.gtrans ((mv.mono up).then_heap (Nat.le_add_right _ _) fun b o hb e => (sb.2 b fun q : b = z => hb (by rw [q]; exact .head _)).trans e) mv4) S4 g4 kp4
/-- set(xs) of a list -/
theorem set_of_list {l : Addr} {items : Array Value} (ks : KL) (D : List (List Int)) {Q : Value → Shared → Prop} (hh : A.handled = none) (hl : s.heap.IsList l items) (hit : items.toList = ks.map fun p => Value.ref p.1)
    (tup : ∀ p ∈ ks, IsT P w s.heap p.2 p.1) (hD : ∀ p ∈ ks, p.2 ∈ D) (few : D.length ≤ 300) (hu : A.units + 3 < cLine)
    (q : ∀ (h2 : Heap) (tk : Nat) L es ep t, Sx P w h2 s.heap.objs.size L es ep t → Got ks ks.length L → (∀ b o, s.heap.get? b = some o → h2.get? b = some o) → Q (.ref s.heap.objs.size) { s with heap := h2, toks := tk }) : wpAny (model P w) A (call (.type "set") [.ref l]) Q E s := by
  have n : items.size = ks.length := by rw [← Array.length_toList, hit, List.length_map]
  have ⟨c, tl, hmro⟩ := F.called_set.mro
  have made := F.called_set.made
  have hsub := F.called_set.sub
  apply wpAny_call; apply codeAny_of_tree
  show wpAny (model P w) _ (callAny (.type "set") _) _ _ _
  refine wpAny_pure (And.intro (Code.quiet_builtin _ (by decide +kernel)) (codeAny_builtin F.entry_type_call ?_))
  have wt := weight_type_call_type "set" [.ref l] []; rw [Around.under_plain wt rfl]
  have isn := F.called_set.notType
  have can := F.called_set.canCreate
  have tc := F.typeCall_set_1 (.ref l)
  repeat any_goals first | assumption | wp_step

  refine codeAny_mono (code_set_led1 (.ref l) (E := E) (Q₁ := fun obj s₁ => obj = .ref s.heap.objs.size ∧ s₁ = { s with heap := s.heap.push (noSet w) }) ⟨rfl, rfl⟩) fun r s₁ hr => ?_
  cases r with
  | error e => exact hr
  | ok fl =>
    cases fl with
    | ret obj =>
      obtain ⟨rfl, rfl⟩ := hr
      have hz : (s.heap.push (noSet w)).get? s.heap.objs.size = some (noSet w) := Heap.get?_push_size _ rfl
      have hT : Shared.TypeIs { s with heap := s.heap.push (noSet w) } (.ref s.heap.objs.size) "set" := ⟨_, hz, rfl⟩
      have ilook := F.called_set.init.lookup
      have ibind := F.called_set.init.bind (.ref s.heap.objs.size)
      repeat any_goals first | assumption | wp_step

      refine codeAny_mono (codeAny_call_builtin (R := wants (fun r s₂ => r = .none ∧ ∃ h2 tk L es ep t, s₂ = { s with heap := h2, toks := tk } ∧ Sx P w h2 s.heap.objs.size L es ep t ∧ Got ks ks.length L ∧
          (∀ b o, s.heap.get? b = some o → h2.get? b = some o)) E) F.called_set.init.plain F.entry_set_init (check_set_init_1 hT ?_)) fun r₂ s₂ hr₂ => ?_
      · have ⟨ol, hol, hcl, nl, hdl⟩ := hl
        have ⟨ocls, odict, odata, oslots⟩ := ol
        simp only at hcl hdl
        subst hcl; subst hdl
        have hol2 : (s.heap.push (noSet w)).get? l = some { cls := .type "list", dict := odict, data := .seq items nl, slots := oslots } := Heap.get?_push_of_some _ hol
        have sss := F.sub_list_set
        have ssf := F.sub_list_frozenset
        have nod : (Value.type "list" == Value.type "dict") = false := by decide
        have hl1 : (s.heap.push (noSet w)).IsList l items := ⟨_, hol2, rfl, nl, rfl⟩
        unfold Builtin.«set.__init__»; unfold noKeywords Builtin.Frozenset.updateFrom
        generalize hPI : pyIter = PI
        wp_walk
        subst hPI
        refine wpAny_pyIter_list hl1 (wpAny_bind (wpAny_runValue ?_))
        have lz : l < s.heap.objs.size := Heap.lt_size hol
        have h3 : A.in1.in1.in1.handled = none := by simp [hh]
        have sz : (s.heap.push (noSet w)).objs.size = s.heap.objs.size + 1 := Heap.size_push ..
        have val : ∀ (i : Nat) (v : Value), items[i]? = some v → ∃ p, ks[i]? = some p ∧ v = .ref p.1 := fun i v hv => by
          rw [← Array.getElem?_toList, hit, List.getElem?_map] at hv
          obtain ⟨p, e1, e2⟩ := Option.map_eq_some_iff.mp hv
          exact ⟨p, e1, e2.symm⟩
        have none_of : ∀ b, s.heap.objs.size ≤ b → s.heap.get? b = none := fun b hb => Option.eq_none_iff_forall_ne_some.mpr fun o e => absurd (Heap.lt_size e) (Nat.not_lt.mpr hb)
        have W := (Walks.list (prog := P) (w := w) h3 (s.heap.push (noSet w)).objs.size l (by rw [sz]; exact Nat.ne_of_lt (Nat.lt_succ_of_lt lz)) items).toS
        rw [n] at W
        refine fills ks D W s.heap.objs.size (by rw [sz]; exact fun z => by rcases List.mem_cons.mp z with z | z; exact absurd z (Nat.ne_of_lt (Nat.lt_succ_self _)); exact absurd (List.mem_singleton.mp z) (Nat.ne_of_gt lz)) hD few val s.heap tup (none_of _ (Nat.le_refl _)) (fun b hb => none_of b (by rw [List.mem_singleton.mp hb, sz]; exact Nat.le_succ _)) hu (ks.length - 0) 0 _ rfl (Nat.zero_le _)
          ⟨⟨_, Heap.get?_push_size _ rfl, rfl, rfl⟩, hl1.push _⟩ (fun b o e => Heap.get?_push_of_some _ (Heap.get?_push_of_some _ e)) ⟨[], #[], 0, _, empty_set (Heap.get?_push_of_some _ hz), Got.zero ks⟩ ?_
        intro s2 L es ep t mv S2 g2 kp
        obtain ⟨h2, gens, dr, tk, os⟩ := s2
        have eg : gens = s.gens := mv.gens
        have ed : dr = s.drawn := mv.drawn
        have eo : os = s.os := mv.os
        subst eg; subst ed; subst eo
        show wpAny _ _ _ _ _ _
        refine wpAny_pure ?_
        show wpAny (model P w) _ (ret Value.none) _ _ _
        exact wpAny_pure ⟨rfl, h2, tk, L, es, ep, t, rfl, S2, g2, kp⟩
      · cases r₂ with
        | error e => exact hr₂
        | ok fl₂ =>
          cases fl₂ with
          | ret r =>
            obtain ⟨rfl, h2, tk, L, es, ep, t, rfl, S2, g2, kp⟩ := hr₂
            repeat any_goals first | assumption | wp_step
            exact q _ _ _ _ _ _ S2 g2 kp
          | _ => exact hr₂.elim
    | _ => exact hr.elim
/-- set(xs) of a tuple -/
theorem set_of_tuple {l : Addr} {items : Array Value} (ks : KL) (D : List (List Int)) {Q : Value → Shared → Prop} (hh : A.handled = none) (hl : s.heap.IsTuple l items) (hit : items.toList = ks.map fun p => Value.ref p.1)
    (tup : ∀ p ∈ ks, IsT P w s.heap p.2 p.1) (hD : ∀ p ∈ ks, p.2 ∈ D) (few : D.length ≤ 300) (hu : A.units + 3 < cLine)
    (q : ∀ (h2 : Heap) (tk : Nat) L es ep t, Sx P w h2 s.heap.objs.size L es ep t → Got ks ks.length L → (∀ b o, s.heap.get? b = some o → h2.get? b = some o) → Q (.ref s.heap.objs.size) { s with heap := h2, toks := tk }) : wpAny (model P w) A (call (.type "set") [.ref l]) Q E s := by
  have n : items.size = ks.length := by rw [← Array.length_toList, hit, List.length_map]
  have ⟨c, tl, hmro⟩ := F.called_set.mro
  have made := F.called_set.made
  have hsub := F.called_set.sub
  apply wpAny_call; apply codeAny_of_tree
  show wpAny (model P w) _ (callAny (.type "set") _) _ _ _
  refine wpAny_pure (And.intro (Code.quiet_builtin _ (by decide +kernel)) (codeAny_builtin F.entry_type_call ?_))
  have wt := weight_type_call_type "set" [.ref l] []; rw [Around.under_plain wt rfl]
  have isn := F.called_set.notType
  have can := F.called_set.canCreate
  have tc := F.typeCall_set_1 (.ref l)
  repeat any_goals first | assumption | wp_step

  refine codeAny_mono (code_set_led1 (.ref l) (E := E) (Q₁ := fun obj s₁ => obj = .ref s.heap.objs.size ∧ s₁ = { s with heap := s.heap.push (noSet w) }) ⟨rfl, rfl⟩) fun r s₁ hr => ?_
  cases r with
  | error e => exact hr
  | ok fl =>
    cases fl with
    | ret obj =>
      obtain ⟨rfl, rfl⟩ := hr
      have hz : (s.heap.push (noSet w)).get? s.heap.objs.size = some (noSet w) := Heap.get?_push_size _ rfl
      have hT : Shared.TypeIs { s with heap := s.heap.push (noSet w) } (.ref s.heap.objs.size) "set" := ⟨_, hz, rfl⟩
      have ilook := F.called_set.init.lookup
      have ibind := F.called_set.init.bind (.ref s.heap.objs.size)
      repeat any_goals first | assumption | wp_step

      refine codeAny_mono (codeAny_call_builtin (R := wants (fun r s₂ => r = .none ∧ ∃ h2 tk L es ep t, s₂ = { s with heap := h2, toks := tk } ∧ Sx P w h2 s.heap.objs.size L es ep t ∧ Got ks ks.length L ∧
          (∀ b o, s.heap.get? b = some o → h2.get? b = some o)) E) F.called_set.init.plain F.entry_set_init (check_set_init_1 hT ?_)) fun r₂ s₂ hr₂ => ?_
      · have ⟨ol, hol, hcl, nl, hdl⟩ := hl
        have ⟨ocls, odict, odata, oslots⟩ := ol
        simp only at hcl hdl
        subst hcl; subst hdl
        have hol2 : (s.heap.push (noSet w)).get? l = some { cls := .type "tuple", dict := odict, data := .seq items nl, slots := oslots } := Heap.get?_push_of_some _ hol
        have sss := F.sub_tuple_set
        have ssf := F.sub_tuple_frozenset
        have nod : (Value.type "tuple" == Value.type "dict") = false := by decide
        have hl1 : (s.heap.push (noSet w)).IsTuple l items := ⟨_, hol2, rfl, nl, rfl⟩
        unfold Builtin.«set.__init__»; unfold noKeywords Builtin.Frozenset.updateFrom
        generalize hPI : pyIter = PI
        wp_walk
        subst hPI
        refine wpAny_pyIter_tuple hl1 (wpAny_bind (wpAny_runValue ?_))
        have lz : l < s.heap.objs.size := Heap.lt_size hol
        have h3 : A.in1.in1.in1.handled = none := by simp [hh]
        have sz : (s.heap.push (noSet w)).objs.size = s.heap.objs.size + 1 := Heap.size_push ..
        have val : ∀ (i : Nat) (v : Value), items[i]? = some v → ∃ p, ks[i]? = some p ∧ v = .ref p.1 := fun i v hv => by
          rw [← Array.getElem?_toList, hit, List.getElem?_map] at hv
          obtain ⟨p, e1, e2⟩ := Option.map_eq_some_iff.mp hv
          exact ⟨p, e1, e2.symm⟩
        have none_of : ∀ b, s.heap.objs.size ≤ b → s.heap.get? b = none := fun b hb => Option.eq_none_iff_forall_ne_some.mpr fun o e => absurd (Heap.lt_size e) (Nat.not_lt.mpr hb)
        have W := (Walks.tuple (prog := P) (w := w) h3 (s.heap.push (noSet w)).objs.size l (by rw [sz]; exact Nat.ne_of_lt (Nat.lt_succ_of_lt lz)) items).toS
        rw [n] at W
        refine fills ks D W s.heap.objs.size (by rw [sz]; exact fun z => by rcases List.mem_cons.mp z with z | z; exact absurd z (Nat.ne_of_lt (Nat.lt_succ_self _)); exact absurd (List.mem_singleton.mp z) (Nat.ne_of_gt lz)) hD few val s.heap tup (none_of _ (Nat.le_refl _)) (fun b hb => none_of b (by rw [List.mem_singleton.mp hb, sz]; exact Nat.le_succ _)) hu (ks.length - 0) 0 _ rfl (Nat.zero_le _)
          ⟨⟨_, Heap.get?_push_size _ rfl, rfl, rfl⟩, hl1.push _⟩ (fun b o e => Heap.get?_push_of_some _ (Heap.get?_push_of_some _ e)) ⟨[], #[], 0, _, empty_set (Heap.get?_push_of_some _ hz), Got.zero ks⟩ ?_
        intro s2 L es ep t mv S2 g2 kp
        obtain ⟨h2, gens, dr, tk, os⟩ := s2
        have eg : gens = s.gens := mv.gens
        have ed : dr = s.drawn := mv.drawn
        have eo : os = s.os := mv.os
        subst eg; subst ed; subst eo
        show wpAny _ _ _ _ _ _
        refine wpAny_pure ?_
        show wpAny (model P w) _ (ret Value.none) _ _ _
        exact wpAny_pure ⟨rfl, h2, tk, L, es, ep, t, rfl, S2, g2, kp⟩
      · cases r₂ with
        | error e => exact hr₂
        | ok fl₂ =>
          cases fl₂ with
          | ret r =>
            obtain ⟨rfl, h2, tk, L, es, ep, t, rfl, S2, g2, kp⟩ := hr₂
            repeat any_goals first | assumption | wp_step
            exact q _ _ _ _ _ _ S2 g2 kp
          | _ => exact hr₂.elim
    | _ => exact hr.elim
end
end K9

set_option Elab.async false
set_option linter.all false
set_option maxRecDepth 100000
set_option maxHeartbeats 4200000
namespace K9
open PySem PySem.Spec PyProof.Rows L2 C8
abbrev PL := List (Addr × (Nat × Nat))
def ky (p : Nat × Nat) : List Int := [(p.1 : Int), (p.2 : Int)]
theorem ky_inj {p q : Nat × Nat} (e : ky p = ky q) : p = q := by
  unfold ky at e
  injection e with a b
  injection b with b
  exact Prod.ext (Int.ofNat.inj a) (Int.ofNat.inj b)
def li (L : PL) : KL := L.map fun p => (p.1, ky p.2)
theorem li_snd (L : PL) : (li L).map Prod.snd = (L.map Prod.snd).map ky := by unfold li; rw [List.map_map, List.map_map]; rfl
theorem li_val (L : PL) : (li L).map (fun p => Value.ref p.1) = L.map fun p => Value.ref p.1 := by unfold li; rw [List.map_map]; rfl
theorem li_v (L : PL) : (L.map fun p => V.ref p.1) = (li L).map fun p => V.ref p.1 := by unfold li; rw [List.map_map]; rfl
theorem li_mem {L : PL} {x : Addr × List Int} (h : x ∈ li L) : ∃ p ∈ L, x = (p.1, ky p.2) := let ⟨p, a, b⟩ := List.mem_map.mp h; ⟨p, a, b.symm⟩
theorem li_pull {ps : PL} : ∀ (L : KL), (∀ x ∈ L, x ∈ li ps) → ∃ L2, L = li L2 ∧ ∀ p ∈ L2, p ∈ ps
  | [], _ => ⟨[], rfl, fun p hp => nomatch hp⟩
  | x :: L, h => by
    obtain ⟨p, p1, p2⟩ := li_mem (h x (.head _))
    obtain ⟨L2, e, f⟩ := li_pull L fun y hy => h y (.tail _ hy)
    exact ⟨p :: L2, by rw [e, p2]; rfl, fun q hq => (List.mem_cons.mp hq).elim (fun z => z ▸ p1) (f q)⟩
theorem perm_pull {α β : Type} (f : α → β) : ∀ (vs : List β) (L : List α), vs.Perm (L.map f) → ∃ L1 : List α, L1.Perm L ∧ vs = L1.map f
  | [], L, h => ⟨[], by rw [List.map_eq_nil_iff.mp h.symm.eq_nil], rfl⟩
  | v :: vs, L, h => by
    obtain ⟨x, hx, rfl⟩ := List.mem_map.mp (h.mem_iff.mp (.head _))
    obtain ⟨u, t, rfl⟩ := List.append_of_mem hx
    have h2 : (f x :: vs).Perm (f x :: (u ++ t).map f) := h.trans (by rw [List.map_append, List.map_cons, List.map_append]; exact List.perm_middle)
    obtain ⟨L1, e1, e2⟩ := perm_pull f vs (u ++ t) h2.cons_inv
    exact ⟨x :: L1, (e1.cons x).trans List.perm_middle.symm, by rw [e2]; rfl⟩
/-- the set at a -/
structure SetK (P : Program) (w : World) (h : Heap) (a : Addr) (L : PL) : Prop where
  ex : ∃ (es : Array (Int × Value)) (ep : Nat) (t : SetTable), (∃ o, h.get? a = some o ∧ o.ExactSet ∧ o.data = .set es ep t) ∧ es.toList = rowsOf P w (li L) ∧ Tb t ((li L).map fun p => thash P w p.2) ∧ ((li L).map Prod.snd).Nodup ∧ t.plain = true ∧
    (w.params.followText "set-order" = true ∨ t.led = true) ∧ (li L).length * 5 < t.mask * 3
def SetO2 (P : Program) (w : World) (a : Addr) (L : PL) : HO := .ext fun h => SetK P w h a L
theorem Sx.k {P : Program} {w : World} {h : Heap} {a : Addr} {L : PL} {es : Array (Int × Value)} {ep : Nat} {t : SetTable} (S : Sx P w h a (li L) es ep t) : SetK P w h a L := ⟨es, ep, t, S.obj, S.rw_, S.tb, S.dis, S.pl, S.ld, S.gap⟩
theorem SetK.x {P : Program} {w : World} {h : Heap} {a : Addr} {L : PL} (S : SetK P w h a L) (tup : ∀ p ∈ L, IsT P w h (ky p.2) p.1) : ∃ es ep t, Sx P w h a (li L) es ep t := by
  obtain ⟨es, ep, t, h1, h2, h3, h4, h5, h6, h7⟩ := S.ex
  exact ⟨es, ep, t, h1, h2, h3, h4, fun x hx => by obtain ⟨p, p1, rfl⟩ := li_mem hx; exact tup p p1, h5, h6, h7⟩
theorem set_here {P : Program} {w : World} {H : Hp} {h : Heap} {a : Addr} {L : PL} (S : SetK P w h a L) : ObjOk P w H h a (SetO2 P w a L) := by
  have ⟨es, ep, t, ⟨o, ho, r⟩, z⟩ := S.ex
  refine ⟨S, ⟨o, ho⟩, fun h1 h2 p k => ?_⟩
  have ⟨es, ep, t, ⟨o, ho, r⟩, z⟩ := SetK.ex p
  exact ⟨es, ep, t, ⟨o, k o ho, r⟩, z⟩
def rSetT (K : PySem.W.Frag) (P : Program) (w : World) : List V → Hp → VK → Prop := fun vs H Q => ∃ (l : Addr) (ps : List (Addr × (Nat × Nat))) (B : List (Nat × Nat)), vs = [V.ref l] ∧ (SqL K H l (ps.map fun p => V.ref p.1) ∨ SqT K H l (ps.map fun p => V.ref p.1)) ∧
  (∀ p ∈ ps, SqT K H p.1 (vp p.2)) ∧ (∀ p ∈ ps, p.2 ∈ B) ∧ B.length ≤ 300 ∧
  ∀ a L, H a = none → (∀ p ∈ L, p ∈ ps) → (∀ p ∈ ps, p.2 ∈ L.map Prod.snd) → (L.map Prod.snd).Nodup → Q (.ref a) (upd H a (SetO2 P w a L))
def rSortT (K : PySem.W.Frag) (P : Program) (w : World) : List V → Hp → VK → Prop := fun vs H Q => ∃ (a : Addr) (L : List (Addr × (Nat × Nat))), vs = [V.ref a] ∧ H a = some (SetO2 P w a L) ∧ (∀ p ∈ L, SqT K H p.1 (vp p.2)) ∧ (L.map Prod.snd).Nodup ∧
  ∀ (L' : List (Addr × (Nat × Nat))) (p : Addr), L'.Perm L → (L'.map Prod.snd).Pairwise K9M.lexlt → H p = none → Q (.ref p) (upd H p (.lst (L'.map fun p => V.ref p.1)))
theorem call_setT {X : Cx} (hc : X.calm = true) (hu : X.A.units + 65 < cLine) : CallR X (.type "set") (rSetT X.K X.prog X.w) := by
  intro pins s σ H; intro xs us Q I r h
  obtain ⟨l, ps, B, rfl, hl, ht, hB, few, q⟩ := h
  rw [Vals.ref1 r]
  have hn : H s.heap.objs.size = none := I.hok.fresh Nat.le.refl
  have tup : ∀ p ∈ li ps, IsT X.prog X.w s.heap p.2 p.1 := fun x hx => by
    obtain ⟨p, p1, rfl⟩ := li_mem hx
    exact I.isT (ht p p1)
  have hD : ∀ p ∈ li ps, p.2 ∈ B.map ky := fun x hx => by
    obtain ⟨p, p1, rfl⟩ := li_mem hx
    exact List.mem_map.mpr ⟨_, hB p p1, rfl⟩
  have fin : ∀ (h2 : Heap) (tk : Nat) L es ep t, Sx X.prog X.w h2 s.heap.objs.size L es ep t → Got (li ps) (li ps).length L → (∀ b o, s.heap.get? b = some o → h2.get? b = some o) →
EP X pins σ Q (.ref s.heap.objs.size) { s with heap := h2, toks := tk } := fun h2 tk L es ep t S g kp => by
    obtain ⟨L2, rfl, sub⟩ := li_pull (ps := ps) L fun x hx => List.mem_of_mem_take (g.sub x hx)
    have dis : (L2.map Prod.snd).Nodup := by
      have z := S.dis
      rw [li_snd] at z
      exact nodup_of_map z
    refine ⟨.ref s.heap.objs.size, upd H s.heap.objs.size (SetO2 X.prog X.w s.heap.objs.size L2), I.laid (t' := tk) kp (Nat.le_refl _) (set_here S.k), rfl, q _ L2 hn sub (fun p hp => ?_) dis⟩
    have z := g.all (p.1, ky p.2) (by rw [List.take_length]; exact List.mem_map.mpr ⟨p, hp, rfl⟩)
    rw [li_snd] at z
    obtain ⟨r, r1, r2⟩ := List.mem_map.mp z
    exact ky_inj r2 ▸ r1
  rcases hl with hl | hl
  · obtain ⟨its, rv, pl, hz⟩ := I.list hl
    rw [li_v] at rv
    exact set_of_list (P := X.prog) (w := X.w) (li ps) (B.map ky) (I.ok.hd hc) pl.isList (by simpa using refs_of_vals rv) tup hD (by rw [List.length_map]; exact few) (by omega) fin
  · obtain ⟨its, rv, pl, hz⟩ := I.tuple hl
    rw [li_v] at rv
    exact set_of_tuple (P := X.prog) (w := X.w) (li ps) (B.map ky) (I.ok.hd hc) pl (by simpa using refs_of_vals rv) tup hD (by rw [List.length_map]; exact few) (by omega) fin
/-! ### sorted -/
abbrev enP (b : Addr × (Nat × Nat)) : PyData := .tuple [.int (b.2.1 : Int), .int (b.2.2 : Int)]
theorem readsP {P : Program} {w : World} {h : Heap} {p : Addr × (Nat × Nat)} (x : IsT P w h (ky p.2) p.1) : Reads h (.ref p.1) (enP p) [] := by
  have ⟨o, items, n, ho, hc, hd, hi⟩ := x
  refine .tuple ho hc hd ?_
  have z : IntsAre items.toList (ky p.2) := ints_of_items hi
  unfold ky at z
  generalize items.toList = vs at z
  cases z with
  | cons _ t z =>
    cases z with
    | cons _ t2 z =>
      cases z
      exact .cons (as := []) (.int _ _) (.cons (as := []) (.int _ _) .nil)
theorem each_refs : ∀ {vs : List Value} {bs : PL}, PySem.W.EachIs (fun v (b : Addr × (Nat × Nat)) => v = Value.ref b.1) vs bs → vs = bs.map fun b => Value.ref b.1
  | _, _, .nil => rfl
  | _, _, .cons e t => by rw [e, each_refs t]; rfl
theorem refs_each {R : Value → (Addr × (Nat × Nat)) → Prop} : ∀ (bs : PL), (∀ b ∈ bs, R (.ref b.1) b) → PySem.W.EachIs R (bs.map fun b => Value.ref b.1) bs
  | [], _ => .nil
  | b :: bs, h => .cons (h b (.head _)) (refs_each bs fun c hc => h c (.tail _ hc))
section
variable {A : Around} {P : Program} {s : Shared} {w : World} {E : Value → Shared → Prop}
theorem sorted_set2 {a : Addr} {L : PL} {Q : Value → Shared → Prop} (S : SetK P w s.heap a L) (tup : ∀ p ∈ L, IsT P w s.heap (ky p.2) p.1) (hh : A.handled = none) (hu : A.units + 60 < cLine)
    (q : ∀ s2 p (c : Nat) (L2 : PL), (∀ b o, s.heap.get? b = some o → s2.heap.get? b = some o) → s2.gens = s.gens → s2.os = s.os → s.heap.objs.size ≤ p →
      s2.heap.get? p = some (seqObj "list" (L2.map fun b => Value.ref b.1).toArray c) → L2.Perm L → (L2.map Prod.snd).Pairwise K9M.lexlt → Q (.ref p) s2) : wpAny (model P w) A (call (.builtin "sorted") [.ref a]) Q E s := by
  obtain ⟨es, ep, t, X⟩ := S.x tup
  obtain ⟨o, ho, hex, hd⟩ := X.obj
  have n := X.len
  have few : L.length ≤ 306 := by
    have z := X.gap
    have z2 := X.tb.gd.top
    unfold li at z
    rw [List.length_map] at z
    omega
  have n2 : (li L).length = L.length := by unfold li; exact List.length_map ..
  apply Calls.call_function_entry kind_sorted plain_sorted entry_sorted (args_sorted1 _)
  unfold Builtin.«sorted»
  apply wpAny_bind (m := checkCount "sorted" 1 1 _); apply wpAny_pure
  refine wpAny_bind (collect_set (A := A.in1) hh ⟨o, ho, hex.1, hd⟩ X.fits (by unfold scanBound; omega) X.tb.up X.ld fun s1 vs kp hz g1 o1 pm => ?_)
  have ev : es.toList.map (·.2) = L.map fun b => Value.ref b.1 := by
    rw [X.rw_, ← li_val]
    unfold rowsOf
    rw [List.map_map]
    rfl
  rw [ev] at pm
  obtain ⟨L1, p1, rfl⟩ := perm_pull _ vs L pm
  have n1 : L1.length = L.length := p1.length_eq
  have room : L1.length ≤ sizeLine := by rw [sizeLine_eq]; omega
  refine wpAny_bind (wpAny_newList ?_ (by rw [List.length_map]; exact room))
  have hoL : (s1.heap.push (seqObj "list" (L1.map fun b => Value.ref b.1).toArray 0)).get? s1.heap.objs.size = some (seqObj "list" (L1.map fun b => Value.ref b.1).toArray 0) := Heap.get?_push_size _ rfl
  have rd : ∀ b ∈ L1, Reads (s1.heap.push (seqObj "list" (L1.map fun b => Value.ref b.1).toArray 0)) (.ref b.1) (enP b) [] := fun b hb =>
    readsP (P := P) (w := w) (isT_keep (tup b (p1.mem_iff.mp hb)) fun c u e => Heap.get?_push_of_some _ (kp c u e))
  have al : ∀ b b2 : Addr × (Nat × Nat), PySem.W.alike (enP b) (enP b2) = true := fun b b2 => by simp [enP, PySem.W.alike, PySem.W.alikeAll]
  refine wpAny_bind (wpAny_holding (PySem.W.list_sort_data (s := { s1 with heap := s1.heap.push (seqObj "list" (L1.map fun b => Value.ref b.1).toArray 0) }) (R := fun v b => v = Value.ref b.1) (enc := enP) hoL
    (refs_each L1 fun _ _ => rfl) (refs_each L1 fun b hb => ⟨[], rd b hb, List.not_mem_nil⟩) (PySem.W.AllAlike.of al) (PySem.W.Sortable.tuples fun b => ⟨_, _, rfl⟩) room (fun b _ => ?_) fun out ho2 eo => ?_))
  · have z : (enP b).depth = 1 := by simp [enP, PyData.depth, PyData.depthAll]
    rw [z]
    show A.in1.units + 1 + 1 < cLine
    have : A.in1.units ≤ A.units + 3 := by simp [Around.in1]
    omega
  obtain ⟨c, hc⟩ := sortedHeap_at (vs := L1.map fun b => Value.ref b.1) (out := out.toArray) hoL
  have e := each_refs eo
  have le := PySem.W.dataLe_ii (fun b : Addr × (Nat × Nat) => (b.2.1 : Int)) (fun b => (b.2.2 : Int))
  have pm2 := (List.mergeSort_perm L1 (PySem.W.dataLe false enP)).trans p1
  refine wpAny_pure ⟨_, rfl, q _ s1.heap.objs.size c (L1.mergeSort (PySem.W.dataLe false enP)) (fun b u z => ?_) g1 o1 hz (by rw [← e]; exact hc) pm2 ?_⟩
  · have z2 := kp b u z
    have lt := Heap.lt_size z2
    show (sortedHeap (s1.heap.push (seqObj "list" (L1.map fun b => Value.ref b.1).toArray 0)) s1.heap.objs.size _ out.toArray).get? b = some u
    rw [sortedHeap_old (Nat.ne_of_lt lt) (by rw [size_push']; exact Nat.lt_succ_of_lt lt)]
    exact Heap.get?_push_of_some _ z2
  · have dis : ((L1.mergeSort (PySem.W.dataLe false enP)).map Prod.snd).Nodup := by
      refine (pm2.map Prod.snd).nodup_iff.mpr ?_
      have z := X.dis
      rw [li_snd] at z
      exact nodup_of_map z
    have pw := List.pairwise_mergeSort (le := PySem.W.dataLe false enP) (fun a b c h1 h2 => by
      have le : PySem.W.dataLe false enP = _ := le
      rw [le] at h1 h2 ⊢
      simp only [decide_eq_true_eq] at h1 h2 ⊢
      omega) (fun a b => by
      have le : PySem.W.dataLe false enP = _ := le
      rw [le]
      simp only [Bool.or_eq_true, decide_eq_true_eq]
      omega) L1
    refine List.pairwise_map.mpr ((pw.and (List.pairwise_map.mp dis)).imp fun {x y} h => ?_)
    obtain ⟨h1, h2⟩ := h
    have le : PySem.W.dataLe false enP = _ := le
    rw [le] at h1
    simp only [decide_eq_true_eq] at h1
    have h3 : ¬ (x.2.1 = y.2.1 ∧ x.2.2 = y.2.2) := fun z => h2 (Prod.ext z.1 z.2)
    unfold K9M.lexlt
    omega
end
theorem call_sortedT {X : Cx} (hc : X.calm = true) (hu : X.A.units + 65 < cLine) : CallR X (.builtin "sorted") (rSortT X.K X.prog X.w) := by
  intro pins s σ H; intro vs us Q I r h
  obtain ⟨a, L, rfl, ha, ht, dis, q⟩ := h
  have S : SetK X.prog X.w s.heap a L := (I.hok a _ ha).1
  rw [Vals.ref1 r]
  refine sorted_set2 S (fun p hp => I.isT (ht p hp)) (I.ok.hd hc) (by omega) fun s2 p c L2 kp g o hp hg pm pw => ?_
  have few : (L2.map fun b => V.ref b.1).length ≤ sizeLine := by
    obtain ⟨es, ep, t, _, _, tb, _, _, _, room⟩ := S.ex
    have z2 := tb.gd.top
    unfold li at room
    rw [List.length_map] at room ⊢
    rw [pm.length_eq, sizeLine_eq]
    omega
  have hn := I.hok.fresh (a := p) hp
  have hv : Vals (L2.map fun b => V.ref b.1) (L2.map fun b => Value.ref b.1) := by
    rw [li_v, ← li_val]
    exact vals_of_refs (li L2)
  have J : Inv X pins σ (upd H p (.lst (L2.map fun b => V.ref b.1))) { s with heap := s2.heap, gens := s2.gens, drawn := s2.drawn, toks := s2.toks } :=
    I.call (ch := []) (Un.laid kp hp hn) (I.hok.laid kp hp ⟨few, _, c, hv, hg⟩) (by rw [g]; exact I.bare) (fun _ z => nomatch z)
  obtain ⟨h2, g2, d2, t2, os2⟩ := s2
  have eo : os2 = s.os := o
  subst eo
  exact ⟨.ref p, _, J, rfl, q L2 p pm pw hn⟩
end K9

set_option Elab.async false
set_option linter.all false
set_option maxRecDepth 100000
set_option maxHeartbeats 4200000
namespace K9
open PySem PySem.Spec PyProof.Rows L2 C8
/-! ### promises -/
def spMet : Sp := fun vs H Q _ => ∃ N : Nat, vs = [.int (N : Int)] ∧ LevelOk N ∧ ∀ H' p, H p = none → Same H H' → Made H' p (K9M.allp N) → Q (.ref p) H'
/-- the told pair of two numbers, or None -/
def DueOk (N : Nat) (c d : Int) (x : V) (H : Hp) : Prop := (tellI N c d = true ∧ ∃ a, x = .ref a ∧ H a = some (.tup (vp (K9M.least N (red N c d))))) ∨ (tellI N c d = false ∧ x = .non)
theorem DueOk.same {N : Nat} {c d : Int} {x : V} {H H' : Hp} (e : Same H H') (h : DueOk N c d x H) : DueOk N c d x H' := by
  rcases h with ⟨a, b, c, e2⟩ | h
  · exact .inl ⟨a, b, c, e _ _ e2⟩
  · exact .inr h
theorem DueOk.sameD {N : Nat} {c d : Int} {x : V} {dd : Addr} {H H' : Hp} (hd : Dice H dd) (e : SameD dd H H') (h : DueOk N c d x H) : DueOk N c d x H' := by
  rcases h with ⟨a, b, c, e2⟩ | h
  · exact .inl ⟨a, b, c, e.1 _ _ (hd.ne_tup e2) e2⟩
  · exact .inr h
theorem Told.sameD {N : Nat} {g : Nat × Nat → Prop} {n : Nat} {dd : Addr} {H H' : Hp} {pd : Addr} (hd : Dice H dd) (e : SameD dd H H') (t : Told N g n H pd) : Told N g n H' pd := by
  obtain ⟨kvs, e1, e2, e3, e4⟩ := t
  refine ⟨kvs, e.1 _ _ (hd.ne_dT e1) e1, e2, fun k v h => ?_, e4⟩
  obtain ⟨p, a, x1, x2, x3, x4, x5, x6⟩ := e3 k v h
  exact ⟨p, a, x1, x2, x3, x4, x5, e.1 _ _ (hd.ne_tup x6) x6⟩
abbrev TEN23 : Int := 100000000000000000000000
def spNear : Sp := fun vs H Q _ => ∃ (d pt : Addr) (N : Nat), vs = [.ref d, .ref pt, .int (N : Int)] ∧ Dice H d ∧ Told N (fun _ => True) 2000000 H pt ∧ LevelOk N ∧
  ∀ (c e : Int) (x : V) H' p, SameD d H H' → -TEN23 < c → c < TEN23 → -TEN23 < e → e < TEN23 → DueOk N c e x H' → H' p = some (.tup [.int c, .int e, x]) → Q (.ref p) H'
def spWord : Sp := fun vs H Q _ => ∃ (N : Nat) (c d : Int), vs = [.int (N : Int), .int c, .int d] ∧ LevelOk N ∧ (-GR < c ∧ c < GR) ∧ (-GR < d ∧ d < GR) ∧ ∀ x H', Same H H' → DueOk N c d x H' → Q x H'
section
variable {P : Program} {w : World} {K : PySem.W.Frag} {mg : Str → Option Value} {base : Heap} {tG tM : Tok} {C : Addr}
theorem ok_law_pairs_met (T : Txt K mg tG tM) : C8.Cal P w K mg base 3 "_law_pairs_met" spMet [] := by
  have c_law_told_pairs := ok_law_told_pairs (P := P) (w := w) (base := base) T
  refine T.d_law_pairs_met.cal sc_law_pairs_met (fun vs H Q E h => ?_) (fun f cdv A outer s H vs Q E hr h => ?_)
  · obtain ⟨N, rfl, _⟩ := h; rfl
  · obtain ⟨N, rfl, hl, q⟩ := h
    have hN := hl.1
    have hN1 := hl.2
    refine ⟨_, (pss_cons (ps_set (i := 1) sc_law_pairs_met.nd rfl (Or.inr rfl) (pe_c c_law_told_pairs hr (by decide) rfl (pa_cons (pv 0) pa_nil)))
    (pss_one (ps_ret (pe_callB (call_sortedT rfl (hu65 hr)) (by rfl) T.n_sorted (by decide +kernel) (pa_cons (pe_callTy (call_setT rfl (hu65 hr)) (by rfl) T.n_set (by decide +kernel) (pa_cons (pe_lock (pe_lc (own := [("_law_one", 2)])  rfl sc_law_pairs_met.nd (pi_keys (pv 1)) (blkOk_by (own := [("_law_one", 2)]) (N := N_law_pairs_met) (sc := defScope s_law_pairs_met) (by decide +kernel)) (fun _ _ _ _ _ => (pg_name (i := 2) sc_law_pairs_met.nd rfl (Or.inl rfl))) (fun _ _ _ _ _ => pts_nil) (fun _ _ _ _ _ => (pe_dget (hu_of hr) (pv 1) (pv 2) (fun _ _ => rfl))))) pa_nil)) pa_nil))))), ?_⟩
    refine ⟨_, rfl, N, rfl, hl, fun H1 pd nd sm1 td => ?_⟩
    obtain ⟨kvs, k1, k2, k3, k4⟩ := td
    -- the list of the told
    refine ⟨pd, .dT kvs, k1, trivial, fun od => ?_⟩
    refine ⟨_, rfl, pd, od, rfl, .inr ⟨kvs, upd_same, fun D hD => ?_⟩⟩
    have nDpd : D ≠ pd := fun z => by
      have hD' : (upd H1 pd (.frz od (.dT kvs))) D = none := hD
      rw [z, upd_same] at hD'; cases hD'
    have hD1 : H1 D = none := by
      have hD' : (upd H1 pd (.frz od (.dT kvs))) D = none := hD
      rw [upd_ne nDpd] at hD'; exact hD'
    refine lc_it (walk_keysT (d := pd) (o := od) (kvs := kvs)) (fun i H' => Same (upd H1 pd (.frz od (.dT kvs))) H' ∧ ∃ ps : List (Addr × (Nat × Nat)), ps.length = i ∧ H' D = some (.lst (ps.map fun p => V.ref p.1)) ∧
      ∀ (j : Nat) (e : List Key × V) (p : Addr × (Nat × Nat)), kvs[j]? = some e → ps[j]? = some p → ∃ q, e.1 = kk q ∧ K9M.InR N q ∧ K9M.tell N q = true ∧ p.2 = K9M.least N q ∧ H1 p.1 = some (.tup (vp p.2))) ⟨same_new hD, [], rfl, upd_same, fun j e p _ h => by simp at h⟩ (fun i H' _ p => p.1 _ _ upd_same) ?_ ?_
    · rintro i x H2 H3 hi ⟨sm, ps, lp, eD, hps⟩ ⟨rfl, k, v, qa, hk, rfl, hq⟩
      have hmem : (k, v) ∈ kvs := List.mem_of_getElem? hk
      have hsome : (valV kvs k).isSome = true := by
        rw [← valV_any, List.any_eq_true]
        exact ⟨(k, v), hmem, decide_eq_true rfl⟩
      obtain ⟨v', hv'⟩ := Option.isSome_iff_exists.mp hsome
      obtain ⟨q0, a, x1, x2, x3, x4, _, x6⟩ := k3 k v' hv'
      subst x2
      refine ⟨rfl, ?_⟩
      refine ⟨_, rfl, _, rfl, pd, .ref a, rfl, .inr ⟨kvs, k, qa, .inr ⟨od, sm _ _ upd_same⟩, rfl, hq, hv'.symm⟩, ?_⟩
      refine ⟨_, eD, Nat.lt_of_le_of_lt (show _ ≤ 2000000 by rw [List.length_map]; omega) (by rw [sizeLine_eq]; decide), same_mut sm hD, ps ++ [(a, K9M.least N q0)], by rw [List.length_append, lp]; rfl, by rw [upd_same, List.map_append]; rfl, fun j e p h1 h2 => ?_⟩
      by_cases hj : j < ps.length
      · rw [List.getElem?_append_left hj] at h2
        exact hps j e p h1 h2
      · rw [List.getElem?_append_right (by omega)] at h2
        have : j - ps.length = 0 := by
          rcases Nat.eq_zero_or_pos (j - ps.length) with z | z
          · exact z
          · rw [List.getElem?_eq_none (by show 1 ≤ _; omega)] at h2; cases h2
        rw [this] at h2
        cases h2
        have ej : j = i := by omega
        subst ej
        rw [hk] at h1
        cases h1
        exact ⟨q0, x1, x3, x4, rfl, x6⟩
    · rintro H2 ⟨sm, ps, lp, eD, hps⟩
      have f1 : H2 pd = some (.frz od (.dT kvs)) := sm _ _ upd_same
      refine ⟨f1, ?_⟩
      -- behind the lock
      have sm3 : Same H1 (upd H2 pd (.dT kvs)) := fun b o e => by
        by_cases z : b = pd
        · subst z; rw [upd_same, ← k1, e]
        · rw [upd_ne z]
          exact sm b o (by rw [upd_ne z]; exact e)
      have eD3 : (upd H2 pd (.dT kvs)) D = some (.lst (ps.map fun p => V.ref p.1)) := by rw [upd_ne nDpd]; exact eD
      generalize upd H2 pd (.dT kvs) = H3 at *
      have each : ∀ p ∈ ps, p.2 ∈ K9M.allp N ∧ H3 p.1 = some (.tup (vp p.2)) := fun p hp => by
        obtain ⟨j, hj, e⟩ := List.mem_iff_getElem.mp hp
        have hjk : j < kvs.length := by omega
        obtain ⟨q0, x1, x2, x3, x4, x5⟩ := hps j kvs[j] p (List.getElem?_eq_getElem hjk) (by rw [List.getElem?_eq_getElem hj, e])
        refine ⟨?_, sm3 _ _ x5⟩
        rw [K9M.mem_allp hN hN1, x4]
        exact ⟨K9M.least_InR hN _, K9M.isL_least hN hN1 x3⟩
      have all : ∀ m ∈ K9M.allp N, m ∈ ps.map Prod.snd := fun m hm => by
        obtain ⟨h1, h2⟩ := (K9M.mem_allp hN hN1).mp hm
        obtain ⟨h3, h4⟩ := (K9M.isL_iff hN h1).mp h2
        obtain ⟨v, hv⟩ := k4 m h1 h3 trivial
        have : (kvs.any fun kv => decide (kv.1 = kk m)) = true := by rw [valV_any, hv]; rfl
        obtain ⟨e, he, hk⟩ := List.any_eq_true.mp this
        obtain ⟨j, hj, ej⟩ := List.mem_iff_getElem.mp he
        have hjp : j < ps.length := by omega
        obtain ⟨q0, x1, x2, x3, x4, x5⟩ := hps j e ps[j] (by rw [List.getElem?_eq_getElem hj, ej]) (List.getElem?_eq_getElem hjp)
        rw [of_decide_eq_true hk] at x1
        have := kk_inj x1
        subst this
        exact List.mem_map.mpr ⟨ps[j], List.getElem_mem hjp, by rw [x4, h4]⟩
      refine ⟨D, ps, K9M.allp N, rfl, .inl (SqL.of eD3), fun p hp => SqT.of (each p hp).2, fun p hp => (each p hp).1, (K9M.allp_len hN hN1).2, fun a L na hL1 hL2 nd => ?_⟩
      have sm4 := same_new (o := SetO2 P w a L) na
      refine ⟨a, L, rfl, upd_same, fun p hp => SqT.of (sm4 _ _ (each p (hL1 p hp)).2), nd, fun L' p pm pw np => ?_⟩
      have sm5 := same_new (o := .lst (L'.map fun p => V.ref p.1)) np
      have smA := (sm3.trans sm4).trans sm5
      refine q _ p ((sm1.trans (sm3.trans sm4)).free np) (sm1.trans smA) ⟨L', ?_, upd_same, fun p' hp' => sm5 _ _ (sm4 _ _ (each p' (hL1 p' (pm.mem_iff.mp hp'))).2)⟩
      refine K9M.sorted_unique pw (K9M.allp_sorted N) fun m => ?_
      constructor
      · intro hm
        obtain ⟨y, hy, e⟩ := List.mem_map.mp hm
        rw [← e]
        exact (each y (hL1 y (pm.mem_iff.mp hy))).1
      · intro hm
        have h1 := all m hm
        obtain ⟨y, hy, e⟩ := List.mem_map.mp h1
        have h2 := hL2 y hy
        rw [e] at h2
        exact (pm.map Prod.snd).mem_iff.mpr h2
theorem ok_law_pair_near (T : Txt K mg tG tM) : C8.Cal P w K mg base 3 "_law_pair_near" spNear [] := by
  have c_law_roll := ok_law_roll (P := P) (w := w) (base := base) T
  have c_law_pick := ok_law_pick (P := P) (w := w) (base := base) T
  refine T.d_law_pair_near.cal sc_law_pair_near (fun vs H Q E h => ?_) (fun f cdv A outer s H vs Q E hr h => ?_)
  · obtain ⟨d, pt, N, rfl, _⟩ := h; rfl
  · obtain ⟨d, pt, N, rfl, hd, td, hl, q⟩ := h
    have hN := hl.1
    have hN1 := hl.2
    refine ⟨_, (pss_cons (ps_set (i := 3) sc_law_pair_near.nd rfl (Or.inl rfl) (pe_c c_law_pick hr (by decide) rfl (pa_cons (pv 0) (pa_cons (pe_lst (pa_cons pe_int (pa_cons pe_int (pa_cons pe_int (pa_cons (pe_op op_pow pe_int pe_int) pa_nil))))) pa_nil))))
    (pss_cons (ps_par (i := 4) (j := 5) rfl sc_law_pair_near.nd rfl rfl (by decide) rfl rfl (pa_cons (pe_op op_sub (pe_c c_law_roll hr (by decide) rfl (pa_cons (pv 0) (pa_cons (pe_op op_add (pe_op op_mul (pe_op op_mul pe_int (pv 2)) (pv 3)) pe_int) pa_nil))) (pe_op op_mul (pv 2) (pv 3))) (pa_cons (pe_op op_sub (pe_c c_law_roll hr (by decide) rfl (pa_cons (pv 0) (pa_cons (pe_op op_add (pe_op op_mul (pe_op op_mul pe_int (pv 2)) (pv 3)) pe_int) pa_nil))) (pe_op op_mul (pv 2) (pv 3))) pa_nil)) (by rfl))
    (pss_one (ps_ret (pe_tup (pa_cons (pv 4) (pa_cons (pv 5) (pa_cons (pe_dget1 (hu_of hr) (pv 1) (pe_tup (pa_cons (pe_op op_modN (pe_callTy call_int1 (by rfl) T.n_int (by decide +kernel) (pa_cons (pv 4) pa_nil)) (pv 2)) (pa_cons (pe_op op_modN (pe_callTy call_int1 (by rfl) T.n_int (by decide +kernel) (pa_cons (pv 5) pa_nil)) (pv 2)) pa_nil))) ⟨rfl, rfl, rfl, rfl⟩) pa_nil)))))))), ?_⟩
    -- many
    refine ⟨_, rfl, 10, 20, rfl, rfl, ⟨by decide, by decide, by decide⟩, by show 4 ≤ sizeLine; decide, fun l hl2 => ?_⟩
    have s1 : SameD d H (upd H l (.lst [.int 1, .int 3, .int 100, .int (10 ^ (20 : Int).toNat)])) := .of hd (same_new hl2)
    refine ⟨d, l, _, rfl, s1.2, upd_same, hd.ne hl2, (by intro z; cases z), (by show 4 ≤ 100000; decide), fun i x H1 hx sm1 => ?_⟩
    obtain ⟨m, rfl, m1, m2⟩ : ∃ m : Int, x = .int m ∧ 1 ≤ m ∧ m ≤ 100000000000000000000 := by
      have hx : ([.int 1, .int 3, .int 100, .int (10 ^ (20 : Int).toNat)] : List V)[i]? = some x := hx
      match i, hx with
      | 0, hx => exact ⟨1, (Option.some.inj hx).symm, by decide, by decide⟩
      | 1, hx => exact ⟨3, (Option.some.inj hx).symm, by decide, by decide⟩
      | 2, hx => exact ⟨100, (Option.some.inj hx).symm, by decide, by decide⟩
      | 3, hx => exact ⟨_, (Option.some.inj hx).symm, by decide, by decide⟩
      | n + 4, hx => simp at hx
    have sA := s1.trans sm1
    have hnm : (N : Int) * m ≤ 100 * 100000000000000000000 := by
      have a : (N : Int) * m ≤ 100 * m := Int.mul_le_mul_of_nonneg_right (by omega) (by omega)
      omega
    have hnm0 : 0 ≤ (N : Int) * m := Int.mul_nonneg (by omega) (by omega)
    have e2 : (2 : Int) * (N : Int) * m = 2 * ((N : Int) * m) := Int.mul_assoc _ _ _
    -- c
    refine ⟨_, rfl, _, rfl, 2, _, rfl, rfl, .inl ⟨by decide, by decide⟩, ?_⟩
    refine ⟨_, rfl, _, _, rfl, rfl, .inl ⟨by omega, by omega⟩, _, _, rfl, rfl, d, _, rfl, sA.2, by rw [e2]; omega, by rw [e2]; omega, fun r H2 r0 r1 sm2 => ?_⟩
    refine ⟨_, rfl, _, rfl, _, _, rfl, rfl, .inl ⟨by omega, by omega⟩, _, _, rfl, rfl, ?_⟩
    -- d
    refine ⟨_, rfl, _, rfl, 2, _, rfl, rfl, .inl ⟨by decide, by decide⟩, ?_⟩
    refine ⟨_, rfl, _, _, rfl, rfl, .inl ⟨by omega, by omega⟩, _, _, rfl, rfl, d, _, rfl, sm2.2, by rw [e2]; omega, by rw [e2]; omega, fun r' H3 r0' r1' sm3 => ?_⟩
    refine ⟨_, rfl, _, rfl, _, _, rfl, rfl, .inl ⟨by omega, by omega⟩, _, _, rfl, rfl, _, _, rfl, ?_⟩
    rw [e2] at r1 r1'
    -- the told
    have sB := (sA.trans sm2).trans sm3
    have td3 := td.sameD hd sB
    have td3' := td3
    obtain ⟨kvs, k1, k2, k3, k4⟩ := td3
    have hc1 : -TEN23 < r - (N : Int) * m := by show -100000000000000000000000 < _; omega
    have hc2 : r - (N : Int) * m < TEN23 := by show _ < 100000000000000000000000; omega
    have hc3 : -TEN23 < r' - (N : Int) * m := by show -100000000000000000000000 < _; omega
    have hc4 : r' - (N : Int) * m < TEN23 := by show _ < 100000000000000000000000; omega
    refine ⟨_, rfl, _, rfl, _, rfl, pt, rfl, .inr ⟨kvs, .inl k1⟩, ?_⟩
    refine ⟨_, rfl, .inl ⟨_, rfl, _, rfl, _, _, rfl, rfl, by omega, ?_⟩⟩
    refine ⟨_, rfl, .inl ⟨_, rfl, _, rfl, _, _, rfl, rfl, by omega, ?_⟩⟩
    refine ⟨by show 2 ≤ sizeLine; decide, fun t ht => ?_⟩
    have ev : ([.int ((r - (N : Int) * m).fmod (N : Int)), .int ((r' - (N : Int) * m).fmod (N : Int))] : List V) = vp (red N (r - (N : Int) * m) (r' - (N : Int) * m)) := by
      unfold vp red
      rw [Int.fmod_eq_emod_of_nonneg _ (by omega), Int.fmod_eq_emod_of_nonneg _ (by omega), red_nat N _ hN, red_nat N _ hN]
    show ∃ o, DGet (upd H3 t (.tup [.int ((r - (N : Int) * m).fmod (N : Int)), .int ((r' - (N : Int) * m).fmod (N : Int))])) pt (.ref t) o ∧ _
    rw [ev]
    have s4 := same_new (o := .tup (vp (red N (r - (N : Int) * m) (r' - (N : Int) * m)))) ht
    have et : (upd H3 t (.tup (vp (red N (r - (N : Int) * m) (r' - (N : Int) * m))))) t = some (.tup (vp (red N (r - (N : Int) * m) (r' - (N : Int) * m)))) := upd_same
    have sC := sB.then s4
    have k1' := s4 _ _ k1
    have td4 := td3'.same s4
    generalize upd H3 t (.tup (vp (red N (r - (N : Int) * m) (r' - (N : Int) * m)))) = H4 at *
    refine ⟨_, DGet.t (k := kk (red N (r - (N : Int) * m) (r' - (N : Int) * m))) k1' et, by show 3 ≤ sizeLine; decide, fun p hp => ?_⟩
    have s5 := same_new (o := .tup [.int (r - (N : Int) * m), .int (r' - (N : Int) * m), (valV kvs (kk (red N (r - (N : Int) * m) (r' - (N : Int) * m)))).getD .non]) hp
    refine q (r - (N : Int) * m) (r' - (N : Int) * m) ((valV kvs (kk (red N (r - (N : Int) * m) (r' - (N : Int) * m)))).getD .non) _ p (sC.then s5) hc1 hc2 hc3 hc4 ?_ upd_same
    have ht := tellI_red hN (r - (N : Int) * m) (r' - (N : Int) * m)
    have hin := red_in hN (r - (N : Int) * m) (r' - (N : Int) * m)
    cases hv : valV kvs (kk (red N (r - (N : Int) * m) (r' - (N : Int) * m))) with
    | some v =>
      obtain ⟨p', a, x1, x2, x3, x4, _, x6⟩ := k3 _ _ hv
      have := kk_inj x1
      subst this
      subst x2
      have z := s5 _ _ (s4 _ _ x6)
      rw [hv] at z
      exact .inl ⟨by rw [ht]; exact x4, a, rfl, z⟩
    | none =>
      refine .inr ⟨?_, rfl⟩
      cases hz : tellI N (r - (N : Int) * m) (r' - (N : Int) * m) with
      | false => rfl
      | true =>
        rw [ht] at hz
        obtain ⟨v, hv2⟩ := k4 _ hin hz trivial
        rw [hv] at hv2; cases hv2
theorem ok_law_told_word (T : Txt K mg tG tM) (TX : TxtX K mg C) : C8.Cal P w K mg base 5 "_law_told_word" spWord [] := by
  obtain ⟨fP, fdP, FP, gP, kP, bP⟩ := (ok_pair_of (P := P) (w := w) (base := base) T TX).ex
  refine T.d_law_told_word.cal sc_law_told_word (fun vs H Q E h => ?_) (fun f cdv A outer s H vs Q E hr h => ?_)
  · obtain ⟨N, c, d, rfl, _⟩ := h; rfl
  · obtain ⟨N, c, d, rfl, hl, hc, hd, q⟩ := h
    refine ⟨_, (pss_one (ps_try_only rfl rfl ⟨rfl, by decide, .inl TX.gIO⟩ takes0 (fun W pn xe tk _ => pss_one (ps_ret (by exact (pe_callS FP (hr.mono (by decide)) rfl gP kP bP (fun σ => passAt tk σ) (pa_cons (pv 0) (pa_cons (pv 1) (pa_cons (pv 2) pa_nil))))))) (fun a oe cls d pn _ _ => (pss_one (ps_ret pe_non))))), ?_⟩
    refine ⟨_, rfl, _, rfl, _, rfl, N, c, d, rfl, hl, hc, hd, fun ht H' p sm e => ?_, fun ht H' sm => ?_⟩
    · exact q _ H' sm (.inl ⟨ht, p, rfl, e⟩)
    · exact ⟨true, TX.eIO, fun _ a na => q _ H' sm (.inr ⟨ht, rfl⟩), fun z => Bool.noConfusion z⟩
end
end K9

set_option Elab.async false
set_option linter.all false
set_option maxRecDepth 100000
set_option maxHeartbeats 4200000
namespace K9
open PySem PySem.Spec PyProof.Rows L2 C8
/-! ### plain values, and what is asked of them -/
def Scal : V → Prop
  | .int _ => True
  | .bl _ => True
  | .non => True
  | .str s => PyData.strOk s = true
  | _ => False
def sc : V → PyData
  | .int i => .int i
  | .bl b => .bool b
  | .str s => .str s
  | _ => .none
def isB : V → Bool
  | .bl _ => true
  | _ => false
def kd : V → String
  | .int _ => "int"
  | .bl _ => "bool"
  | .str _ => "str"
  | _ => "NoneType"
theorem scal_kind {K : PySem.W.Frag} {H : Hp} {x : V} (h : Scal x) : OfKind K H x (kd x) := by
  cases x with
  | non => exact ⟨by decide, .base .non, fun z => absurd z (by decide)⟩
  | bl b => exact ⟨(by show "bool" ∈ kinds; decide), .base (.bl b), fun z => absurd z (by show "bool" ≠ "int"; decide)⟩
  | int i => exact ⟨(by show "int" ∈ kinds; decide), .base (.int i), fun _ => ⟨i, rfl⟩⟩
  | str s => exact ⟨(by show "str" ∈ kinds; decide), .base (.str s), fun z => absurd z (by show "str" ≠ "int"; decide)⟩
  | byt b => cases h
  | flt b => cases h
  | ref a => cases h
  | ty n => cases h
theorem kd_bool {x : V} (h : Scal x) : (kd x == "bool") = isB x := by
  cases x with
  | non => rfl
  | bl b => rfl
  | int i => rfl
  | str s => rfl
  | byt b => cases h
  | flt b => cases h
  | ref a => cases h
  | ty n => cases h
theorem sc_dp {K : PySem.W.Frag} {H : Hp} {x : V} (h : Scal x) : Dp K H x (sc x) := by
  cases x with
  | non => exact .non
  | bl b => exact .bl b
  | int i => exact .int i
  | str s => exact .str s
  | byt b => cases h
  | flt b => cases h
  | ref a => cases h
  | ty n => cases h
theorem sc_dps {K : PySem.W.Frag} {H : Hp} : ∀ {xs : List V}, (∀ y ∈ xs, Scal y) → DpAll K H xs (xs.map sc)
  | [], _ => .nil
  | x :: xs, h => .cons (sc_dp (h x List.mem_cons_self)) (sc_dps fun y hy => h y (List.mem_cons_of_mem _ hy))
theorem sc_can {x : V} (h : Scal x) : (sc x).canLay0 = true ∧ (sc x).depth = 0 := by
  cases x with
  | non => simp [sc, PyData.canLay0, PyData.depth]
  | bl b => simp [sc, PyData.canLay0, PyData.depth]
  | int i => simp [sc, PyData.canLay0, PyData.depth]
  | str s =>
    have h : PyData.strOk s = true := h
    simp [sc, PyData.canLay0, PyData.depth, h]
  | byt b => cases h
  | flt b => cases h
  | ref a => cases h
  | ty n => cases h
theorem sc_cans : ∀ {xs : List V}, (∀ y ∈ xs, Scal y) → PyData.canLayAll0 (xs.map sc) = true ∧ PyData.depthAll (xs.map sc) = 0
  | [], _ => by simp [PyData.canLayAll0, PyData.depthAll]
  | x :: xs, h => by
    have a := sc_can (h x List.mem_cons_self)
    have b := sc_cans fun y hy => h y (List.mem_cons_of_mem _ hy)
    rw [List.map_cons]
    simp [PyData.canLayAll0, PyData.depthAll, a.1, a.2, b.1, b.2]
theorem shaped_sc {xs : List V} (h : ∀ y ∈ xs, Scal y) : SeqAt.shaped (.tuple (xs.map sc)) = true := by
  have b := sc_cans h
  unfold SeqAt.shaped
  simp [PyData.canLay0, PyData.depth, b.1, b.2]
def judgeOf (N : Nat) : List V → Bool
  | [.int c, .int d] => isP N c d
  | _ => false
def dueOf (N : Nat) (xs : List V) : Bool := (((K9M.allp N).map dP).any fun z => PyData.eqv z (.tuple (xs.map sc))) && !(xs.any isB)
theorem any_false {α : Type} {l : List α} {f : α → Bool} (h : ∀ x ∈ l, f x = false) : l.any f = false := by
  rw [Bool.eq_false_iff]
  intro z
  obtain ⟨x, hx, e⟩ := List.any_eq_true.mp z
  rw [h x hx] at e; cases e
theorem eqvT (xs ys : List PyData) : PyData.eqv (.tuple xs) (.tuple ys) = PyData.eqvAll xs ys := by simp only [PyData.eqv]
theorem eqvC (a b : PyData) (xs ys : List PyData) : PyData.eqvAll (a :: xs) (b :: ys) = (PyData.eqv a b && PyData.eqvAll xs ys) := by simp only [PyData.eqvAll]
theorem eqvN : PyData.eqvAll [] [] = true := by simp [PyData.eqvAll]
theorem eqvCN (a : PyData) (xs : List PyData) : PyData.eqvAll (a :: xs) [] = false := by simp only [PyData.eqvAll]
theorem eqvNC (a : PyData) (xs : List PyData) : PyData.eqvAll [] (a :: xs) = false := by simp only [PyData.eqvAll]
theorem eqvII (i j : Int) : PyData.eqv (.int i) (.int j) = (i == j) := by simp only [PyData.eqv]
theorem eqvIS (i : Int) (s : Str) : PyData.eqv (.int i) (.str s) = false := by simp only [PyData.eqv]
theorem eqvIZ (i : Int) : PyData.eqv (.int i) .none = false := by simp only [PyData.eqv]
theorem eqv2 (p : Nat × Nat) (x y : V) : PyData.eqv (dP p) (.tuple ([x, y].map sc)) = (PyData.eqv (.int (p.1 : Int)) (sc x) && PyData.eqv (.int (p.2 : Int)) (sc y)) := by
  show PyData.eqv (.tuple [.int (p.1 : Int), .int (p.2 : Int)]) (.tuple [sc x, sc y]) = _
  rw [eqvT, eqvC, eqvC, eqvN, Bool.and_true]
theorem any_isP {N : Nat} (hl : LevelOk N) (c d : Int) : ((K9M.allp N).map dP).any (fun z => PyData.eqv z (.tuple ([V.int c, V.int d].map sc))) = isP N c d := by
  rw [List.any_map, Bool.eq_iff_iff, List.any_eq_true]
  constructor
  · rintro ⟨p, hp, e⟩
    have e : PyData.eqv (dP p) (.tuple ([V.int c, V.int d].map sc)) = true := e
    rw [eqv2, Bool.and_eq_true] at e
    have e1 : PyData.eqv (.int (p.1 : Int)) (.int c) = true := e.1
    have e2 : PyData.eqv (.int (p.2 : Int)) (.int d) = true := e.2
    rw [eqvII, beq_iff_eq] at e1 e2
    rw [← e1, ← e2]
    exact isP_of hl hp
  · intro h
    unfold isP at h
    rw [Bool.and_eq_true, Bool.and_eq_true, Bool.and_eq_true, Bool.and_eq_true] at h
    simp only [decide_eq_true_iff] at h
    obtain ⟨⟨h0, h1⟩, ⟨h2, h3⟩, h4⟩ := h
    refine ⟨(c.toNat, d.toNat), (K9M.mem_allp hl.1 hl.2).mpr ⟨⟨by omega, by omega⟩, h4⟩, ?_⟩
    show PyData.eqv (dP (c.toNat, d.toNat)) (.tuple ([V.int c, V.int d].map sc)) = true
    rw [eqv2, Bool.and_eq_true]
    show PyData.eqv (.int ((c.toNat : Nat) : Int)) (.int c) = true ∧ PyData.eqv (.int ((d.toNat : Nat) : Int)) (.int d) = true
    rw [eqvII, eqvII, beq_iff_eq, beq_iff_eq]
    omega
theorem due_judge {N : Nat} (hl : LevelOk N) : ∀ {xs : List V}, (∀ y ∈ xs, Scal y) → dueOf N xs = judgeOf N xs := by
  intro xs h
  have len : ∀ zs : List V, zs.length ≠ 2 → ((K9M.allp N).map dP).any (fun z => PyData.eqv z (.tuple (zs.map sc))) = false := fun zs hz => by
    rw [List.any_map]
    refine any_false fun p _ => ?_
    show PyData.eqv (dP p) (.tuple (zs.map sc)) = false
    show PyData.eqv (.tuple [.int (p.1 : Int), .int (p.2 : Int)]) _ = false
    match zs, hz with
    | [], _ => rw [List.map_nil, eqvT, eqvCN]
    | [x], _ => rw [List.map_cons, List.map_nil, eqvT, eqvC, eqvCN, Bool.and_false]
    | x :: y :: z :: r, _ => rw [List.map_cons, List.map_cons, List.map_cons, eqvT, eqvC, eqvC, eqvNC, Bool.and_false, Bool.and_false]
  have bad1 : ∀ x y : V, (x = .non ∨ ∃ s, x = .str s) → ((K9M.allp N).map dP).any (fun z => PyData.eqv z (.tuple ([x, y].map sc))) = false := fun x y hx => by
    rw [List.any_map]
    refine any_false fun p _ => ?_
    show PyData.eqv (dP p) (.tuple ([x, y].map sc)) = false
    rw [eqv2]
    rcases hx with rfl | ⟨s, rfl⟩
    · show (PyData.eqv (.int (p.1 : Int)) .none && _) = false
      rw [eqvIZ, Bool.false_and]
    · show (PyData.eqv (.int (p.1 : Int)) (.str s) && _) = false
      rw [eqvIS, Bool.false_and]
  have bad2 : ∀ x y : V, (y = .non ∨ ∃ s, y = .str s) → ((K9M.allp N).map dP).any (fun z => PyData.eqv z (.tuple ([x, y].map sc))) = false := fun x y hx => by
    rw [List.any_map]
    refine any_false fun p _ => ?_
    show PyData.eqv (dP p) (.tuple ([x, y].map sc)) = false
    rw [eqv2]
    rcases hx with rfl | ⟨s, rfl⟩
    · show (_ && PyData.eqv (.int (p.2 : Int)) .none) = false
      rw [eqvIZ, Bool.and_false]
    · show (_ && PyData.eqv (.int (p.2 : Int)) (.str s)) = false
      rw [eqvIS, Bool.and_false]
  unfold dueOf
  match xs, h with
  | [], _ => rw [len [] (by decide)]; rfl
  | [x], _ => rw [len [x] (by simp)]; cases x <;> rfl
  | x :: y :: z :: r, _ => rw [len (x :: y :: z :: r) (by simp)]; cases x <;> cases y <;> rfl
  | [x, y], h =>
    have hx := h x List.mem_cons_self
    have hy := h y (List.mem_cons_of_mem _ List.mem_cons_self)
    cases x with
    | byt b => cases hx
    | flt b => cases hx
    | ref a => cases hx
    | ty n => cases hx
    | non => rw [bad1 _ _ (.inl rfl)]; rfl
    | str s => rw [bad1 _ _ (.inr ⟨s, rfl⟩)]; rfl
    | bl b => simp [isB, judgeOf]
    | int c =>
      cases y with
      | byt b => cases hy
      | flt b => cases hy
      | ref a => cases hy
      | ty n => cases hy
      | non => rw [bad2 _ _ (.inl rfl)]; rfl
      | str s => rw [bad2 _ _ (.inr ⟨s, rfl⟩)]; rfl
      | bl b => simp [isB, judgeOf]
      | int d =>
        rw [any_isP hl]
        simp [isB, judgeOf]
theorem judge_tup {K : PySem.W.Frag} {N : Nat} {H : Hp} {a : Addr} {xs : List V} (ha : H a = some (.tup xs)) (h : ∀ y ∈ xs, Scal y) : Judge K N H (.ref a) (judgeOf N xs) := by
  refine .inr ⟨a, xs, rfl, ha, ?_⟩
  match xs, h with
  | [], _ => exact .inl ⟨by decide, rfl⟩
  | [x], _ => exact .inl ⟨by simp, by cases x <;> rfl⟩
  | x :: y :: z :: r, _ => exact .inl ⟨by simp, by cases x <;> cases y <;> rfl⟩
  | [x, y], h =>
    have hx := h x List.mem_cons_self
    have hy := h y (List.mem_cons_of_mem _ List.mem_cons_self)
    cases x with
    | byt b => cases hx
    | flt b => cases hx
    | ref a => cases hx
    | ty n => cases hx
    | non => exact .inr (.inr ⟨_, _, _, _, rfl, scal_kind hx, scal_kind hy, .inl (by decide), rfl⟩)
    | str s => exact .inr (.inr ⟨_, _, _, _, rfl, scal_kind hx, scal_kind hy, .inl (by show "str" ≠ "int"; decide), rfl⟩)
    | bl b => exact .inr (.inr ⟨_, _, _, _, rfl, scal_kind hx, scal_kind hy, .inl (by show "bool" ≠ "int"; decide), rfl⟩)
    | int c =>
      cases y with
      | byt b => cases hy
      | flt b => cases hy
      | ref a => cases hy
      | ty n => cases hy
      | non => exact .inr (.inr ⟨_, _, _, _, rfl, scal_kind hx, scal_kind hy, .inr (by decide), rfl⟩)
      | str s => exact .inr (.inr ⟨_, _, _, _, rfl, scal_kind hx, scal_kind hy, .inr (by show "str" ≠ "int"; decide), rfl⟩)
      | bl b => exact .inr (.inr ⟨_, _, _, _, rfl, scal_kind hx, scal_kind hy, .inr (by show "bool" ≠ "int"; decide), rfl⟩)
      | int d => exact .inr (.inl ⟨c, d, rfl, rfl⟩)
/-! ### values that are made -/
def Good (d : Addr) (H : Hp) (x : V) : Prop := x = .non ∨ (∃ i, x = .int i) ∨ (∃ s, x = .str s) ∨ (∃ a xs, x = .ref a ∧ a ≠ d ∧ H a = some (.lst xs)) ∨ (∃ a kvs, x = .ref a ∧ H a = some (.dT kvs)) ∨
  ∃ a xs, x = .ref a ∧ H a = some (.tup xs) ∧ ∀ y ∈ xs, Scal y
theorem Good.sameD {d : Addr} {H H' : Hp} {x : V} (hd : Dice H d) (e : SameD d H H') (g : Good d H x) : Good d H' x := by
  rcases g with g | g | g | ⟨a, xs, rfl, n, g⟩ | ⟨a, kvs, rfl, g⟩ | ⟨a, xs, rfl, g, h⟩
  · exact .inl g
  · exact .inr (.inl g)
  · exact .inr (.inr (.inl g))
  · exact .inr (.inr (.inr (.inl ⟨a, xs, rfl, n, e.1 _ _ n g⟩)))
  · exact .inr (.inr (.inr (.inr (.inl ⟨a, kvs, rfl, e.1 _ _ (hd.ne_dT g) g⟩))))
  · exact .inr (.inr (.inr (.inr (.inr ⟨a, xs, rfl, e.1 _ _ (hd.ne_tup g) g, h⟩))))
def Se (d : Addr) (te : TE) (σ : L2.St) (H : Hp) : Prop := ∀ H1, SameD d H H1 → ∀ Q : VK, (∀ x H2, SameD d H1 H2 → Scal x → Q x H2) → te σ H1 Q
def Ss (d : Addr) (n : Nat) (ta : TA) (σ : L2.St) (H : Hp) : Prop := ∀ H1, SameD d H H1 → ∀ Q : List V → Hp → Prop, (∀ vs H2, SameD d H1 H2 → vs.length = n → (∀ y ∈ vs, Scal y) → Q vs H2) → ta σ H1 Q
def Ge (d : Addr) (te : TE) (σ : L2.St) (H : Hp) : Prop := ∀ H1, SameD d H H1 → ∀ Q : VK, (∀ x H2, SameD d H1 H2 → Good d H2 x → Q x H2) → te σ H1 Q
def Ga (d : Addr) (n : Nat) (ta : TA) (σ : L2.St) (H : Hp) : Prop := ∀ H1, SameD d H H1 → ∀ Q : List V → Hp → Prop, (∀ vs H2, SameD d H1 H2 → vs.length = n → (∀ x ∈ vs, Good d H2 x) → Q vs H2) → ta σ H1 Q
theorem SameD.rfl' {d : Addr} {H H1 : Hp} (s : SameD d H H1) : SameD d H1 H1 := .of s.2 (Same.refl H1)
section
variable {d : Addr} {σ : L2.St} {H : Hp} {te ta' : TE} {ta : TA} {n : Nat}
theorem se_of {x : V} (hx : Scal x) (h : ∀ (H1 : Hp) (Q : VK), Q x H1 → te σ H1 Q) : Se d te σ H := fun H1 s Q q => h H1 Q (q x H1 s.rfl' hx)
theorem ss_nil : Ss d 0 tNil σ H := fun H1 s Q q => q [] H1 s.rfl' rfl fun y hy => nomatch hy
theorem ss_cons (h : Se d te σ H) (r : Ss d n ta σ H) : Ss d (n + 1) (tCons te ta) σ H := fun H1 s Q q =>
  h H1 s _ fun x H2 s2 hx => r H2 (s.trans s2) _ fun vs H3 s3 hn hv => q (x :: vs) H3 (s2.trans s3) (by rw [List.length_cons, hn]) fun y hy => by
    rcases List.mem_cons.mp hy with z | z
    · rw [z]; exact hx
    · exact hv y z
theorem ge_tup (h : Ss d n ta σ H) (hn : n ≤ 1000) : Ge d (tTup ta) σ H := fun H1 s Q q =>
  h H1 s _ fun vs H2 s2 hl hv => ⟨sle (by omega), fun p hp => q (.ref p) _ (s2.then (same_new hp)) (.inr (.inr (.inr (.inr (.inr ⟨p, vs, rfl, upd_same, hv⟩)))))⟩
theorem ge_lst (h : Ss d n ta σ H) (hn : n ≤ 1000) : Ge d (tLst ta) σ H := fun H1 s Q q =>
  h H1 s _ fun vs H2 s2 hl hv => ⟨sle (by omega), fun p hp => q (.ref p) _ (s2.then (same_new hp)) (.inr (.inr (.inr (.inl ⟨p, vs, rfl, s2.2.ne hp, upd_same⟩))))⟩
theorem ge_dict : Ge d tDNewT σ H := fun H1 s Q q p hp => q (.ref p) _ (SameD.of s.2 (same_new hp)) (.inr (.inr (.inr (.inr (.inl ⟨p, [], rfl, upd_same⟩)))))
theorem ge_of {x : V} (hx : x = .non ∨ (∃ i, x = .int i) ∨ ∃ s, x = .str s) (h : ∀ (H1 : Hp) (Q : VK), Q x H1 → te σ H1 Q) : Ge d te σ H := fun H1 s Q q => h H1 Q (q x H1 s.rfl' (by
  rcases hx with hx | hx | hx
  · exact .inl hx
  · exact .inr (.inl hx)
  · exact .inr (.inr (.inl hx))))
theorem ga_nil : Ga d 0 tNil σ H := fun H1 s Q q => q [] H1 s.rfl' rfl fun y hy => nomatch hy
theorem ga_cons (h : Ge d te σ H) (r : Ga d n ta σ H) : Ga d (n + 1) (tCons te ta) σ H := fun H1 s Q q =>
  h H1 s _ fun x H2 s2 hx => r H2 (s.trans s2) _ fun vs H3 s3 hn hv => q (x :: vs) H3 (s2.trans s3) (by rw [List.length_cons, hn]) fun y hy => by
    rcases List.mem_cons.mp hy with z | z
    · rw [z]; exact hx.sameD s2.2 s3
    · exact hv y z
theorem q_lst {ti : TS} {D : Ends} {i : Nat} (h : Ga d n ta σ H) (hd : Dice H d) (hn : n ≤ 1000) (k : ∀ vs H2 p, SameD d H H2 → vs.length = n → (∀ x ∈ vs, Good d H2 x) → H2 p = none → ti D (σ.set i (some (.ref p))) (upd H2 p (.lst vs))) : tSeq (tAsg (tLst ta) (gName i)) ti D σ H :=
  h H (SameD.of hd (Same.refl H)) _ fun vs H2 s hl hv => ⟨sle (by omega), fun p hp => k vs H2 p s hl hv hp⟩
theorem e_lst {Q : VK} (h : Ga d n ta σ H) (hd : Dice H d) (hn : n ≤ 1000) (k : ∀ vs H2 p, SameD d H H2 → vs.length = n → (∀ x ∈ vs, Good d H2 x) → H2 p = none → Q (.ref p) (upd H2 p (.lst vs))) : tLst ta σ H Q :=
  h H (SameD.of hd (Same.refl H)) _ fun vs H2 s hl hv => ⟨sle (by omega), fun p hp => k vs H2 p s hl hv hp⟩
end
theorem str_ok_all : (List.range 101).all (fun c => PyData.strOk (toString (c : Int) : Str)) = true := by decide +kernel
theorem str_ok {c : Nat} (h : c ≤ 100) : PyData.strOk (toString (c : Int) : Str) = true := List.all_eq_true.mp str_ok_all c (List.mem_range.mpr (by omega))
def spJudged : Sp := fun vs H Q _ => ∃ (d ps : Addr) (N : Nat), vs = [.ref d, .int (N : Int), .ref ps] ∧ Dice H d ∧ LevelOk N ∧ Made H ps (K9M.allp N) ∧ ps ≠ d ∧ ∀ H', SameD d H H' → Q (.bl true) H'
end K9

set_option Elab.async false
set_option linter.all false
set_option maxRecDepth 100000
set_option maxHeartbeats 4200000
namespace K9
open PySem PySem.Spec PyProof.Rows L2 C8
theorem Made.pick {H : Hp} {D : Addr} {l : List (Nat × Nat)} (m : Made H D l) {i : Nat} {x : V} {acc : List V} (h : H D = some (.lst acc)) (hx : acc[i]? = some x) : ∃ a p, x = .ref a ∧ l[i]? = some p ∧ H a = some (.tup (vp p)) := by
  obtain ⟨ps, e1, e2, e3⟩ := m
  rw [e2] at h
  cases h
  rw [List.getElem?_map] at hx
  cases hp : ps[i]? with
  | none => rw [hp] at hx; cases hx
  | some p =>
    rw [hp] at hx
    cases hx
    exact ⟨p.1, p.2, rfl, by rw [← e1, List.getElem?_map, hp]; rfl, e3 p (List.mem_of_getElem? hp)⟩
theorem cnt_take {xs : List V} {i : Nat} {x : V} (h : xs[i]? = some x) : ((xs.take (i + 1)).filter isB).length = ((xs.take i).filter isB).length + (if isB x = true then 1 else 0) := by
  rw [take_next h, List.filter_append, List.length_append]
  congr 1
  cases hb : isB x <;> simp [hb]
theorem any_cnt (xs : List V) : (List.replicate (xs.filter isB).length (V.int 1)).isEmpty = !(xs.any isB) := by
  induction xs with
  | nil => rfl
  | cons x xs ih =>
    cases hb : isB x with
    | true => simp [hb, List.replicate_succ]
    | false => rw [List.filter_cons, hb, if_neg Bool.false_ne_true, ih, List.any_cons, hb, Bool.false_or]
section
variable {P : Program} {w : World} {K : PySem.W.Frag} {mg : Str → Option Value} {base : Heap} {tG tM : Tok} {C : Addr}
theorem ok_law_are_judged (T : Txt K mg tG tM) : C8.Cal P w K mg base 6 "_law_are_judged" spJudged [] := by
  have c_law_pick := ok_law_pick (P := P) (w := w) (base := base) T
  have c_law_roll := ok_law_roll (P := P) (w := w) (base := base) T
  have c_is_pair := ok_is_pair (P := P) (w := w) (base := base) T
  refine T.d_law_are_judged.cal sc_law_are_judged (fun vs H Q E h => ?_) (fun f cdv A outer s H vs Q E hr h => ?_)
  · obtain ⟨d, ps, N, rfl, _⟩ := h; rfl
  · obtain ⟨d, pm, N, rfl, hd, hl, md, hne, q⟩ := h
    have hN := hl.1
    have hN1 := hl.2
    refine ⟨_, (pss_cons (ps_asg (pe_c c_law_pick hr (by decide) rfl (pa_cons (pv 0) (pa_cons (pv 2) pa_nil))) (pg_tup rfl (pgs_cons (pg_name (i := 3) sc_law_are_judged.nd rfl (Or.inl rfl)) (pgs_cons (pg_name (i := 4) sc_law_are_judged.nd rfl (Or.inl rfl)) pgs_nil))))
    (pss_cons (ps_set (i := 5) sc_law_are_judged.nd rfl (Or.inl rfl) (pe_lst (pa_cons (pe_tup (pa_cons (pv 3) (pa_cons (pv 4) pa_nil))) (pa_cons (pe_lst (pa_cons (pv 3) (pa_cons (pv 4) pa_nil))) (pa_cons (pe_tup (pa_cons (pv 3) (pa_cons (pv 4) (pa_cons pe_int pa_nil)))) (pa_cons (pe_tup (pa_cons (pv 3) pa_nil)) (pa_cons (pe_tup (pa_cons (pe_op op_add (pv 3) (pv 1)) (pa_cons (pv 4) pa_nil))) (pa_cons (pe_tup (pa_cons (pv 3) (pa_cons (pe_op op_add (pv 4) (pv 1)) pa_nil))) (pa_cons (pe_tup (pa_cons (pv 4) (pa_cons (pv 3) pa_nil))) (pa_cons (pe_tup (pa_cons (pe_un un_neg (pv 3)) (pa_cons (pv 4) pa_nil))) (pa_cons pe_non (pa_cons pe_int (pa_cons pe_str (pa_cons (pe_tup (pa_cons (pe_callTy call_str_int (by rfl) T.n_str (by decide +kernel) (pa_cons (pv 3) pa_nil)) (pa_cons (pv 4) pa_nil))) pa_nil))))))))))))))
    (pss_cons (ps_set (i := 5) sc_law_are_judged.nd rfl (Or.inl rfl) (pe_op op_cat (pv 5) (pe_lst (pa_cons (pe_tup (pa_cons (pv 3) (pa_cons pe_non pa_nil))) (pa_cons (pe_tup (pa_cons (pe_callTy call_bool1 (by rfl) T.n_bool (by decide +kernel) (pa_cons (pv 3) pa_nil)) (pa_cons (pv 4) pa_nil))) (pa_cons (pe_tup (pa_cons (pv 3) (pa_cons (pe_callTy call_bool1 (by rfl) T.n_bool (by decide +kernel) (pa_cons (pv 4) pa_nil)) pa_nil))) (pa_cons (pe_tup (pa_cons (pe_c c_law_roll hr (by decide) rfl (pa_cons (pv 0) (pa_cons (pv 1) pa_nil))) (pa_cons (pe_c c_law_roll hr (by decide) rfl (pa_cons (pv 0) (pa_cons (pv 1) pa_nil))) pa_nil))) (pa_cons (pe_tup pa_nil) (pa_cons pe_dnewT pa_nil)))))))))
    (pss_cons (ps_for PassesOwn.never rfl (pi_list (pv 5)) (pg_name (i := 6) sc_law_are_judged.nd rfl (Or.inl rfl))
    (pss_cons (ps_set (i := 7) sc_law_are_judged.nd rfl (Or.inl rfl) (pe_and (pe_callB call_isi (by rfl) T.n_isinstance (by decide +kernel) (pa_cons (pv 6) (pa_cons (pe_bltn (v := .ty "tuple") (u := .type "tuple") rfl T.n_tuple (by decide +kernel) rfl) pa_nil))) (pe_and (pe_cmpR (op_inD (hu65 hr)) (pv 6) (pv 2) (by rfl)) (pe_one (pe_notT (pe_lc (own := [("_law_one", 8)]) (tt := tB (tCB (rIsi K) (tCons (tVar 8) (tCons (tC (.ty "bool")) tNil)))) rfl sc_law_are_judged.nd (pi_tup (pv 6)) (blkOk_by (own := [("_law_one", 8)]) (N := N_law_are_judged) (sc := defScope s_law_are_judged) (by decide +kernel)) (fun _ _ _ _ _ => (pg_name (i := 8) sc_law_are_judged.nd rfl (Or.inl rfl))) (fun _ _ _ _ _ => pts_one (pt_val (pe_callB call_isi (by rfl) T.n_isinstance (by decide +kernel) (pa_cons (pv 8) (pa_cons (pe_bltn (v := .ty "bool") (u := .type "bool") rfl T.n_bool (by decide +kernel) rfl) pa_nil))))) (fun _ _ _ _ _ => pe_int)))))))
    (pss_one (ps_if (pt_cmpR op_ne (pe_callB call_reprB (by rfl) T.n_repr (by decide +kernel) (pa_cons (pe_c c_is_pair hr (by decide) rfl (pa_cons (pv 1) (pa_cons (pv 6) pa_nil))) pa_nil)) (pe_callB call_reprB (by rfl) T.n_repr (by decide +kernel) (pa_cons (pv 7) pa_nil)) (nomark _))
    (pss_one (ps_ret pe_bl))
    pss_nil))))
    (pss_one (ps_ret pe_bl)))))), ?_⟩
    -- c, d = a pair
    obtain ⟨acc, ea, la⟩ := md.get
    have hlen := K9M.allp_len hN hN1
    refine ⟨_, rfl, _, rfl, d, pm, acc, rfl, hd, ea, hne, (fun z => by rw [z] at la; have la : 0 = _ := la; omega), (by omega), fun i x H1 hx sm1 => ?_⟩
    obtain ⟨a, p, rfl, hp, ha⟩ := md.pick ea hx
    have hpm : p ∈ K9M.allp N := List.mem_of_getElem? hp
    have hin := ((K9M.mem_allp hN hN1).mp hpm).1
    have hp1 : p.1 < N := hin.1
    have hp2 : p.2 < N := hin.2
    refine ⟨a, _, rfl, SqT.of (sm1.1 _ _ (hd.ne_tup ha) ha), rfl, _, _, rfl, _, _, rfl, rfl, ?_⟩
    -- the first values
    have vC : ∀ {σ : L2.St} {i : Nat} {H' : Hp} {n : Int}, σ[i]? = some (some (.int n)) → Se d (tVar i) σ H' := fun h => se_of (x := .int _) trivial fun _ _ q => ⟨_, h, q⟩
    have cI : ∀ {σ : L2.St} {H' : Hp} {n : Int}, Se d (tC (.int n)) σ H' := se_of (x := .int _) trivial fun _ _ q => q
    dsimp only
    refine q_lst (d := d) (n := 12) ?_ sm1.2 (by decide) fun vs1 H2 l1 sm2 ln1 hv1 nl1 => ?_
    · refine ga_cons (ge_tup (ss_cons (vC rfl) (ss_cons (vC rfl) ss_nil)) (by decide)) ?_
      refine ga_cons (ge_lst (ss_cons (vC rfl) (ss_cons (vC rfl) ss_nil)) (by decide)) ?_
      refine ga_cons (ge_tup (ss_cons (vC rfl) (ss_cons (vC rfl) (ss_cons cI ss_nil))) (by decide)) ?_
      refine ga_cons (ge_tup (ss_cons (vC rfl) ss_nil) (by decide)) ?_
      refine ga_cons (ge_tup (ss_cons (se_of (x := .int ((p.1 : Int) + (N : Int))) trivial fun _ _ q => ⟨_, rfl, _, rfl, _, _, rfl, rfl, q⟩) (ss_cons (vC rfl) ss_nil)) (by decide)) ?_
      refine ga_cons (ge_tup (ss_cons (vC rfl) (ss_cons (se_of (x := .int ((p.2 : Int) + (N : Int))) trivial fun _ _ q => ⟨_, rfl, _, rfl, _, _, rfl, rfl, q⟩) ss_nil)) (by decide)) ?_
      refine ga_cons (ge_tup (ss_cons (vC rfl) (ss_cons (vC rfl) ss_nil)) (by decide)) ?_
      refine ga_cons (ge_tup (ss_cons (se_of (x := .int (-(p.1 : Int))) trivial fun _ _ q => ⟨_, rfl, _, rfl, q⟩) (ss_cons (vC rfl) ss_nil)) (by decide)) ?_
      refine ga_cons (ge_of (.inl rfl) fun _ _ q => q) ?_
      refine ga_cons (ge_of (.inr (.inl ⟨_, rfl⟩)) fun _ _ q => q) ?_
      refine ga_cons (ge_of (.inr (.inr ⟨_, rfl⟩)) fun _ _ q => q) ?_
      refine ga_cons (ge_tup (ss_cons (se_of (x := .str (toString (p.1 : Int))) (str_ok (by omega)) fun _ _ q => ⟨_, rfl, _, rfl, ?_, q⟩) (ss_cons (vC rfl) ss_nil)) (by decide)) ga_nil
      have : ((p.1 : Int)).natAbs.log2 ≤ p.1 := by
        show Nat.log2 (Int.natAbs (p.1 : Int)) ≤ p.1
        rw [Int.natAbs_natCast]
        exact Nat.log2_le_self _
      omega
    have sA := sm1.trans sm2
    have s3 : SameD d H2 (upd H2 l1 (.lst vs1)) := .of sm2.2 (same_new nl1)
    have el1 : (upd H2 l1 (.lst vs1)) l1 = some (.lst vs1) := upd_same
    have nel1 : l1 ≠ d := sm2.2.ne nl1
    have hv1' : ∀ x ∈ vs1, Good d (upd H2 l1 (.lst vs1)) x := fun x hx => (hv1 x hx).sameD sm2.2 s3
    have sB := sA.trans s3
    generalize upd H2 l1 (.lst vs1) = H3 at *
    -- the others
    refine ⟨_, rfl, ?_⟩
    refine e_lst (d := d) (n := 6) ?_ s3.2 (by decide) fun vs2 H4 l2 sm4 ln2 hv2 nl2 => ?_
    · refine ga_cons (ge_tup (ss_cons (vC rfl) (ss_cons (se_of (x := .non) trivial fun _ _ q => q) ss_nil)) (by decide)) ?_
      refine ga_cons (ge_tup (ss_cons (se_of (x := .bl ((p.1 : Int) != 0)) trivial fun _ _ q => ⟨_, rfl, .inl ⟨_, rfl, q⟩⟩) (ss_cons (vC rfl) ss_nil)) (by decide)) ?_
      refine ga_cons (ge_tup (ss_cons (vC rfl) (ss_cons (se_of (x := .bl ((p.2 : Int) != 0)) trivial fun _ _ q => ⟨_, rfl, .inl ⟨_, rfl, q⟩⟩) ss_nil)) (by decide)) ?_
      have rl : ∀ H', Se d (tCall spRoll [] C8.E0 (tCons (tVar 0) (tCons (tVar 1) tNil))) [some (V.ref d), some (.int (N : Int)), some (.ref pm), some (.int (p.1 : Int)), some (.int (p.2 : Int)), some (.ref l1), none, none, none] H' := fun H' H1 s Q q =>
        ⟨_, rfl, _, rfl, d, (N : Int), rfl, s.2, by omega, by omega, fun r H2 _ _ s2 => q (.int r) H2 s2 trivial⟩
      refine ga_cons (ge_tup (ss_cons (rl _) (ss_cons (rl _) ss_nil)) (by decide)) ?_
      exact ga_cons (ge_tup ss_nil (by decide)) (ga_cons ge_dict ga_nil)
    have sC := sB.trans sm4
    have s5 : SameD d H4 (upd H4 l2 (.lst vs2)) := .of sm4.2 (same_new nl2)
    have el2 : (upd H4 l2 (.lst vs2)) l2 = some (.lst vs2) := upd_same
    have el1b : (upd H4 l2 (.lst vs2)) l1 = some (.lst vs1) := s5.1 _ _ nel1 (sm4.1 _ _ nel1 el1)
    have sD := sC.trans s5
    have hv2' : ∀ x ∈ vs2, Good d (upd H4 l2 (.lst vs2)) x := fun x hx => (hv2 x hx).sameD sm4.2 s5
    have hv1'' : ∀ x ∈ vs1, Good d (upd H4 l2 (.lst vs2)) x := fun x hx => ((hv1' x hx).sameD s3.2 sm4).sameD sm4.2 s5
    have d5 := s5.2
    generalize upd H4 l2 (.lst vs2) = H5 at *
    refine ⟨l1, l2, vs1, vs2, rfl, rfl, el1b, el2, sle (by omega), fun pv npv => ?_⟩
    have s6 : SameD d H5 (upd H5 pv (.lst (vs1 ++ vs2))) := .of d5 (same_new npv)
    have epv : (upd H5 pv (.lst (vs1 ++ vs2))) pv = some (.lst (vs1 ++ vs2)) := upd_same
    have hv : ∀ x ∈ vs1 ++ vs2, Good d (upd H5 pv (.lst (vs1 ++ vs2))) x := fun x hx => by
      rcases List.mem_append.mp hx with z | z
      · exact (hv1'' x z).sameD d5 s6
      · exact (hv2' x z).sameD d5 s6
    have sE := sD.trans s6
    have md6 := md.sameD hd hne sE
    have d6 := s6.2
    have lnv : (vs1 ++ vs2).length = 18 := by rw [List.length_append, ln1, ln2]
    generalize vs1 ++ vs2 = vals at *
    generalize upd H5 pv (.lst vals) = H6 at *
    -- the loop
    refine ⟨_, rfl, pv, rfl, ⟨_, SqL.of epv⟩, ?_⟩
    refine for_list (K := K) (a := pv) (xs := vals) (fun i σ H' => (∃ y6 y7, σ = [some (V.ref d), some (.int (N : Int)), some (.ref pm), some (.int (p.1 : Int)), some (.int (p.2 : Int)), some (.ref pv), y6, y7, none]) ∧ Same H6 H') ⟨⟨_, _, rfl⟩, Same.refl H6⟩ (fun i σ H' _ p => p.2.seq (SqL.of epv)) ?_ ?_
    · rintro i x σ H7 hx ⟨⟨y6, y7, rfl⟩, sm7⟩
      have s7 : SameD d H6 H7 := .of d6 sm7
      have g := (hv x (List.mem_of_getElem? hx)).sameD d6 s7
      have md7 := md6.same sm7
      -- what is due, and what is told
      have fin : ∀ (b : Bool) (H8 : Hp), Same H7 H8 → Judge K N H8 x b → tIfS (tTest (tOp rNe (tCB (fun xs H Q => ∃ b : Bool, xs = [.bl b] ∧ Q (.str (if b = true then "True" else "False")) H) (tCons (tCall (spIsPair K) [] C8.E0 (tCons (tVar 1) (tCons (tVar 6) tNil))) tNil)) (tCB (fun xs H Q => ∃ b : Bool, xs = [.bl b] ∧ Q (.str (if b = true then "True" else "False")) H) (tCons (tVar 7) tNil)))) (tRet (tC (.bl false))) tNext
          { nx := fun σ H' => (∃ y6 y7, σ = [some (V.ref d), some (.int (N : Int)), some (.ref pm), some (.int (p.1 : Int)), some (.int (p.2 : Int)), some (.ref pv), y6, y7, none]) ∧ Same H6 H', rt := Q, bk := fun _ _ => False, ct := fun _ _ => False }
          [some (V.ref d), some (.int (N : Int)), some (.ref pm), some (.int (p.1 : Int)), some (.int (p.2 : Int)), some (.ref pv), some x, some (.bl b), none] H8 := fun b H8 s8 hj =>
        ⟨_, rfl, _, rfl, N, x, b, rfl, hl, hj, fun H9 s9 => ⟨b, rfl, _, rfl, b, rfl, rfl, _, rfl, iteNS rfl ⟨⟨_, _, rfl⟩, (sm7.trans s8).trans s9⟩⟩⟩
      have nt : ∀ t, OfKind K H7 x t → t ≠ "tuple" → (tCB (rIsi K) (tCons (tVar 6) (tCons (tC (.ty "tuple")) tNil))) [some (V.ref d), some (.int (N : Int)), some (.ref pm), some (.int (p.1 : Int)), some (.int (p.2 : Int)), some (.ref pv), some x, y7, none] H7 (fun v H' => v = .bl false ∧ H' = H7) := fun t hk hn => by
        refine ⟨x, rfl, x, .ty "tuple", .type t, .type "tuple", false, rfl, .ty "tuple", hk.2.1, ?_, rfl, rfl⟩
        have e := kit_tup hk.1
        rw [show (t == "tuple") = false by simpa using hn] at e
        exact kit_ty e
      have nott : ∀ t, OfKind K H7 x t → t ≠ "tuple" → _ := fun t hk hn => fin false H7 (Same.refl H7) (.inl ⟨t, hk, hn, rfl⟩)
      have go : (∃ t, OfKind K H7 x t ∧ t ≠ "tuple") ∨ ∃ a xs, x = .ref a ∧ H7 a = some (.tup xs) ∧ ∀ y ∈ xs, Scal y := by
        rcases g with rfl | ⟨n, rfl⟩ | ⟨s, rfl⟩ | ⟨a, xs, rfl, _, g⟩ | ⟨a, kvs, rfl, g⟩ | g
        · exact .inl ⟨"NoneType", ⟨by decide, .base .non, fun z => absurd z (by decide)⟩, by decide⟩
        · exact .inl ⟨"int", kind_int n, by decide⟩
        · exact .inl ⟨"str", ⟨by decide, .base (.str s), fun z => absurd z (by decide)⟩, by decide⟩
        · exact .inl ⟨"list", ⟨by decide, .base (.lst g), fun z => absurd z (by decide)⟩, by decide⟩
        · exact .inl ⟨"dict", ⟨by decide, .base (.dT g), fun z => absurd z (by decide)⟩, by decide⟩
        · exact .inr g
      rcases go with ⟨t, hk, hn⟩ | ⟨a, xs, rfl, ga, hs⟩
      · refine ⟨x, rfl, x, .ty "tuple", .type t, .type "tuple", _, rfl, .ty "tuple", hk.2.1, kit_ty (kit_tup hk.1), _, rfl, ?_⟩
        rw [show (t == "tuple") = false by simpa using hn]
        exact nott t hk hn
      · refine ⟨_, rfl, _, .ty "tuple", .type "tuple", .type "tuple", _, rfl, .ty "tuple", .base (.tup ga), kit_ty (kit_tup (by decide)), _, rfl, ?_⟩
        -- in the pairs
        refine ⟨_, rfl, _, rfl, .tuple (xs.map sc), (K9M.allp N).map dP, .tup (SqT.of ga) (sc_dps hs), md7.dp, shaped_sc hs, shaped_list _, _, rfl, ?_⟩
        have dj := due_judge hl hs
        unfold dueOf at dj
        cases hany : (((K9M.allp N).map dP).any fun z => PyData.eqv z (.tuple (xs.map sc))) with
        | false =>
          rw [hany, Bool.false_and] at dj
          have hj := judge_tup (K := K) (N := N) ga hs
          rw [← dj] at hj
          exact fin false H7 (Same.refl H7) hj
        | true =>
          rw [hany, Bool.true_and] at dj
          -- the bools among its items
          refine ⟨_, rfl, a, rfl, ⟨_, SqT.of ga⟩, fun D hD => ?_⟩
          refine lc_tup (xs := xs) (fun i H' => Same H7 H' ∧ H' D = some (.lst (List.replicate ((xs.take i).filter isB).length (V.int 1)))) ⟨same_new hD, upd_same⟩ (fun i H' _ p => same_t p.1 (SqT.of ga)) ?_ ?_
          · rintro j y H8 hy ⟨s8, eD⟩
            have hsy := hs y (List.mem_of_getElem? hy)
            have hk := scal_kind (K := K) (H := H8) hsy
            refine ⟨rfl, y, rfl, y, .ty "bool", .type (kd y), .type "bool", _, rfl, .ty "bool", hk.2.1, kit_ty (kit_bool hk.1), _, rfl, ?_⟩
            rw [kd_bool hsy]
            have ct := cnt_take hy
            have lb : ((xs.take j).filter isB).length ≤ 3000 := by
              have a1 := List.length_filter_le isB (xs.take j)
              have a2 : xs.length = 2 := by
                have e := any_isP hl 0 0
                refine Classical.byContradiction fun z => ?_
                have dj2 : (((K9M.allp N).map dP).any fun z => PyData.eqv z (.tuple (xs.map sc))) = false := by
                  rw [List.any_map]
                  refine any_false fun p _ => ?_
                  show PyData.eqv (dP p) (.tuple (xs.map sc)) = false
                  show PyData.eqv (.tuple [.int (p.1 : Int), .int (p.2 : Int)]) _ = false
                  match xs, z with
                  | [], _ => rw [List.map_nil, eqvT, eqvCN]
                  | [x], _ => rw [List.map_cons, List.map_nil, eqvT, eqvC, eqvCN, Bool.and_false]
                  | x :: y :: z :: r, _ => rw [List.map_cons, List.map_cons, List.map_cons, eqvT, eqvC, eqvC, eqvNC, Bool.and_false, Bool.and_false]
                rw [hany] at dj2; cases dj2
              rw [List.length_take] at a1
              omega
            cases hb : isB y with
            | true =>
              rw [hb, if_pos rfl] at ct
              refine iteT ?_
              refine ⟨_, eD, slt (by rw [List.length_replicate]; omega), same_mut s8 hD, ?_⟩
              rw [upd_same, ct, List.replicate_succ']
            | false =>
              rw [hb, if_neg Bool.false_ne_true] at ct
              refine iteF ⟨s8, ?_⟩
              rw [ct]; exact eD
          · rintro H8 ⟨s8, eD⟩
            rw [List.take_length] at eD
            refine ⟨_, .inl ⟨_, SqL.of eD, rfl⟩, ?_⟩
            rw [any_cnt, Bool.not_not]
            have hj := judge_tup (K := K) (N := N) (s8 _ _ ga) hs
            rw [← dj] at hj
            exact fin (!(xs.any isB)) H8 s8 hj
    · rintro σ H7 ⟨⟨y6, y7, rfl⟩, sm7⟩
      exact q H7 (sE.then sm7)
end
end K9

set_option Elab.async false
set_option linter.all false
set_option maxRecDepth 100000
set_option maxHeartbeats 4200000
namespace K9
open PySem PySem.Spec PyProof.Rows L2 C8
theorem eqvL (xs ys : List PyData) : PyData.eqv (.list xs) (.list ys) = PyData.eqvAll xs ys := by simp only [PyData.eqv]
def dueD (N : Nat) (c d : Int) : PyData := if tellI N c d = true then dP (K9M.least N (red N c d)) else .none
theorem DueOk.dp {K : PySem.W.Frag} {N : Nat} {c d : Int} {x : V} {H : Hp} (h : DueOk N c d x H) : Dp K H x (dueD N c d) := by
  unfold dueD
  rcases h with ⟨a, b, rfl, e⟩ | ⟨a, rfl⟩
  · rw [if_pos a]; exact dp_vp (SqT.of e)
  · rw [a, if_neg Bool.false_ne_true]; exact .non
theorem dueD_shaped (N : Nat) (c d : Int) : SeqAt.shaped (dueD N c d) = true := by
  unfold dueD
  split
  · exact shaped_dP _
  · unfold SeqAt.shaped; simp [PyData.canLay0, PyData.depth]
theorem eqv_none : PyData.eqv .none .none = true := by simp only [PyData.eqv]
theorem dueD_eqv (N : Nat) (c d : Int) : PyData.eqv (dueD N c d) (dueD N c d) = true := by
  unfold dueD
  split
  · rw [eqv_dP]; simp
  · exact eqv_none
/-- the product tells whether two numbers tell one pair -/
theorem prod_eq {N : Nat} (hl : LevelOk N) {c d x y : Int} (h1 : tellI N c d = true) (h2 : tellI N x y = true) :
    decide (V.int ((c * y - d * x).fmod (N : Int)) = V.int 0) = PyData.eqv (dP (K9M.least N (red N c d))) (dP (K9M.least N (red N x y))) := by
  have hN := hl.1
  rw [eqv_dP]
  rw [tellI_red hN] at h1 h2
  have sp := K9M.same_pair hN hl.2 (red_in hN c d) (red_in hN x y) h1 h2
  have e1 := red_nat N c hN
  have e2 := red_nat N d hN
  have e3 := red_nat N x hN
  have e4 := red_nat N y hN
  have k : (N : Int) ∣ ((red N c d).1 : Int) * (red N x y).2 - (red N c d).2 * (red N x y).1 ↔ (c * y - d * x).fmod (N : Int) = 0 := by
    show (N : Int) ∣ (((c % (N : Int)).toNat : Nat) : Int) * (((y % (N : Int)).toNat : Nat) : Int) - (((d % (N : Int)).toNat : Nat) : Int) * (((x % (N : Int)).toNat : Nat) : Int) ↔ _
    rw [e1, e2, e3, e4, Int.fmod_eq_emod_of_nonneg _ (by omega), Int.dvd_iff_emod_eq_zero, Int.sub_emod, ← Int.mul_emod, ← Int.mul_emod, ← Int.sub_emod]
  rw [k] at sp
  apply decide_eq_decide.mpr
  constructor
  · intro z; exact sp.mpr (V.int.inj z)
  · intro z; rw [sp.mp z]
theorem made_acc {H : Hp} {D : Addr} {l : List (Nat × Nat)} (m : Made H D l) : ∃ acc : List V, H D = some (.lst acc) ∧ acc.length = l.length ∧ ∀ (i : Nat) p, l[i]? = some p → ∃ a, acc[i]? = some (.ref a) ∧ H a = some (.tup (vp p)) := by
  obtain ⟨ps, e1, e2, e3⟩ := m
  refine ⟨_, e2, by rw [← e1, List.length_map, List.length_map], fun i p hp => ?_⟩
  rw [← e1, List.getElem?_map] at hp
  cases h : ps[i]? with
  | none => rw [h] at hp; cases hp
  | some q =>
    rw [h] at hp
    cases hp
    exact ⟨q.1, by rw [List.getElem?_map, h]; rfl, e3 q (List.mem_of_getElem? h)⟩
theorem ne_int (a b : Nat) (h : a = b) : (!decide (V.int (a : Int) = V.int (b : Int))) = false := by subst h; simp
def spRight : Sp := fun vs H Q _ => ∃ d : Addr, vs = [.ref d] ∧ Dice H d ∧ ∀ H', SameD d H H' → Q (.bl true) H'
section
variable {P : Program} {w : World} {K : PySem.W.Frag} {mg : Str → Option Value} {base : Heap} {tG tM : Tok} {C : Addr}
theorem ok_law_right (T : Txt K mg tG tM) (TX : TxtX K mg C) : C8.Cal P w K mg base 7 "_law_right" spRight [] := by
  have c_law_level_drawn := ok_law_level_drawn (P := P) (w := w) (base := base) T
  have c_law_told_pairs := ok_law_told_pairs (P := P) (w := w) (base := base) T
  have c_law_pairs_met := ok_law_pairs_met (P := P) (w := w) (base := base) T
  have c_pairs := ok_pairs (P := P) (w := w) (base := base) T
  have c_count_pairs := ok_count_pairs (P := P) (w := w) (base := base) T
  have c_law_index := ok_law_index (P := P) (w := w) (base := base) T
  have c_law_pair_near := ok_law_pair_near (P := P) (w := w) (base := base) T
  have c_law_told_word := ok_law_told_word (P := P) (w := w) (base := base) T TX
  have c_law_roll := ok_law_roll (P := P) (w := w) (base := base) T
  have c_pair_at := ok_pair_at (P := P) (w := w) (base := base) T
  have c_pair_number := ok_pair_number (P := P) (w := w) (base := base) T
  have c_law_are_judged := ok_law_are_judged (P := P) (w := w) (base := base) T
  refine T.d_law_right.cal sc_law_right (fun vs H Q E h => ?_) (fun f cdv A outer s H vs Q E hr h => ?_)
  · obtain ⟨d, rfl, _⟩ := h; rfl
  · obtain ⟨d, rfl, hd, q⟩ := h
    refine ⟨_, (pss_cons (ps_set (i := 1) sc_law_right.nd rfl (Or.inr rfl) (pe_c c_law_level_drawn hr (by decide) rfl (pa_cons (pv 0) (pa_cons pe_int pa_nil))))
    (pss_cons (ps_par (i := 2) (j := 3) rfl sc_law_right.nd rfl rfl (by decide) rfl rfl (pa_cons (pe_c c_law_told_pairs hr (by decide) rfl (pa_cons (pv 1) pa_nil)) (pa_cons (pe_c c_law_pairs_met hr (by decide) rfl (pa_cons (pv 1) pa_nil)) pa_nil)) (by rfl))
    (pss_cons (ps_if (PW.pt (pw_or (pt_cmpR (op_neD (hu64 hr)) (pe_callTy call_list_of (by rfl) T.n_list (by decide +kernel) (pa_cons (pe_c c_pairs hr (by decide) rfl (pa_cons (pv 1) pa_nil)) pa_nil)) (pv 3) (nomark _)) (pw_or (pt_cmpR op_ne (pe_c c_count_pairs hr (by decide) rfl (pa_cons (pv 1) pa_nil)) (pe_callB call_len_seq (by rfl) T.n_len (by decide +kernel) (pa_cons (pv 3) pa_nil)) (nomark _)) (pw_or1 (pt_cmpR op_ne (pe_callB call_len_seq (by rfl) T.n_len (by decide +kernel) (pa_cons (pv 3) pa_nil)) (pe_c c_law_index hr (by decide) rfl (pa_cons (pv 1) pa_nil)) (nomark _))))))
    (pss_one (ps_ret pe_bl))
    pss_nil)
    (pss_cons (ps_for PassesOwn.never rfl (pi_range1 rfl T.n_range (pa_cons pe_int pa_nil)) (pg_name (i := 4) sc_law_right.nd rfl (Or.inl rfl))
    (pss_cons (ps_asg (pe_c c_law_pair_near hr (by decide) rfl (pa_cons (pv 0) (pa_cons (pv 2) (pa_cons (pv 1) pa_nil)))) (pg_tup rfl (pgs_cons (pg_name (i := 5) sc_law_right.nd rfl (Or.inl rfl)) (pgs_cons (pg_name (i := 6) sc_law_right.nd rfl (Or.inl rfl)) (pgs_cons (pg_name (i := 7) sc_law_right.nd rfl (Or.inl rfl)) pgs_nil)))))
    (pss_cons (ps_asg (pe_c c_law_pair_near hr (by decide) rfl (pa_cons (pv 0) (pa_cons (pv 2) (pa_cons (pv 1) pa_nil)))) (pg_tup rfl (pgs_cons (pg_name (i := 8) sc_law_right.nd rfl (Or.inl rfl)) (pgs_cons (pg_name (i := 9) sc_law_right.nd rfl (Or.inl rfl)) (pgs_cons (pg_name (i := 10) sc_law_right.nd rfl (Or.inl rfl)) pgs_nil)))))
    (pss_cons (ps_if (pt_cmpR (op_neD (hu64 hr)) (pe_c c_law_told_word hr (by decide) rfl (pa_cons (pv 1) (pa_cons (pv 5) (pa_cons (pv 6) pa_nil)))) (pv 7) (nomark _))
    (pss_one (ps_ret pe_bl))
    pss_nil)
    (pss_one (ps_if (PW.pt (pw_and (pt_cmpR op_notN (pv 7) pe_non (nomark _)) (pw_and (pt_cmpR op_notN (pv 10) pe_non (nomark _)) (pw_and1 (pt_cmpR op_ne (pe_cmpR op_eq (pe_op op_modN (pe_callTy call_int1 (by rfl) T.n_int (by decide +kernel) (pa_cons (pe_op op_sub (pe_op op_mulW (pv 5) (pv 9)) (pe_op op_mulW (pv 6) (pv 8))) pa_nil)) (pv 1)) pe_int (nomark _)) (pe_cmpR (op_eqD (hu64 hr)) (pv 7) (pv 10) (nomark _)) (nomark _))))))
    (pss_one (ps_ret pe_bl))
    pss_nil))))))
    (pss_cons (ps_set (i := 11) sc_law_right.nd rfl (Or.inl rfl) (pe_c c_law_roll hr (by decide) rfl (pa_cons (pv 0) (pa_cons (pe_callB call_len_seq (by rfl) T.n_len (by decide +kernel) (pa_cons (pv 3) pa_nil)) pa_nil))))
    (pss_cons (ps_if (PW.pt (pw_or (pt_cmpR (op_neD (hu64 hr)) (pe_c c_pair_at hr (by decide) rfl (pa_cons (pv 1) (pa_cons (pv 11) pa_nil))) (pe_ix ix_list (pv 3) (pv 11) (fun _ _ => rfl)) (nomark _)) (pw_or (pt_cmpR op_ne (pe_c c_pair_number hr (by decide) rfl (pa_cons (pv 1) (pa_cons (pe_ix ix_list (pv 3) (pv 11) (fun _ _ => rfl)) pa_nil))) (pv 11) (nomark _)) (pw_or1 (pt_not (pt_val (pe_c c_law_are_judged hr (by decide) rfl (pa_cons (pv 0) (pa_cons (pv 1) (pa_cons (pv 3) pa_nil))))))))))
    (pss_one (ps_ret pe_bl))
    pss_nil)
    (pss_cons (ps_setLc (i := 12) (own := [("_law_c", 5), ("_law_d", 6)]) (g := gTup K 2 (gCons (gName 5) (gCons (gName 6) gNil))) rfl sc_law_right.nd rfl rfl (sw_true rfl rfl rfl (by decide +kernel)) (pi_list (pv 3)) (blkOk_by (own := [("_law_c", 5), ("_law_d", 6)]) (N := N_law_right) (sc := defScope s_law_right) (by decide +kernel)) (fun _ _ _ _ _ => (pg_tup rfl (pgs_cons (pg_name (i := 5) sc_law_right.nd rfl (Or.inl rfl)) (pgs_cons (pg_name (i := 6) sc_law_right.nd rfl (Or.inl rfl)) pgs_nil)))) (fun _ _ _ _ _ => pts_one (PW.pt (pw_and (pt_cmpR op_gt (pv 5) pe_int (nomark _)) (pw_and1 (pt_cmpR op_ne (pe_op op_modN (pv 1) (pv 5)) pe_int (nomark _)))))) (fun _ _ _ _ _ => (pv 5)))
    (pss_one (ps_ret (pe_cmpR (op_eqD (hu64 hr)) (pv 12) (pe_lst pa_nil) (nomark _))))))))))), ?_⟩
    -- the level, the told, the pairs
    refine ⟨_, rfl, d, rfl, hd, fun N H1 n0 n1 sm1 => ?_⟩
    have hl : LevelOk N := ⟨n0, by omega⟩
    have hN := hl.1
    have hN1 := hl.2
    refine ⟨_, rfl, N, rfl, hl, fun H2 pt nt s2 td => ⟨_, rfl, N, rfl, hl, fun H3 pm nm s3 md => ⟨_, _, rfl, ?_⟩⟩⟩
    have sA := (sm1.then s2).then s3
    have td3 := td.same s3
    have hpm : pm ≠ d := (sm1.then s2).2.ne nm
    obtain ⟨acc, ea, la, hacc⟩ := made_acc md
    have hlen := K9M.allp_len hN hN1
    have hix := K9M.index_eq hN hN1
    -- the first test
    refine ⟨_, rfl, N, rfl, hl, fun H4 tp s4 mt => ?_⟩
    obtain ⟨ps4, x1, x2, x3⟩ := mt
    refine ⟨tp, _, rfl, .inr (SqT.of x2), fun l4 nl4 => ?_⟩
    have s5 := same_new (o := .lst (ps4.map fun p => V.ref p.1)) nl4
    refine ⟨_, rfl, .list ((K9M.allp N).map dP), .list ((K9M.allp N).map dP), ?_, (md.same (s4.trans s5)).dp, shaped_list _, shaped_list _, _, rfl, ?_⟩
    · refine .lst (SqL.of upd_same) ?_
      rw [← x1]
      exact dpAll_of ps4 fun p hp => SqT.of (s5 _ _ (x3 p hp))
    rw [eqvL, eqvAll_dP, decide_eq_true rfl]
    have s45 := s4.trans s5
    have ea5 := s45 _ _ ea
    refine ⟨_, rfl, N, rfl, hl, _, rfl, pm, acc, rfl, .inl (SqL.of ea5), rfl, _, rfl, ?_⟩
    refine ite_is (ne_int _ _ (by rw [hix.1, la])) (iteF ?_)
    refine ⟨_, rfl, pm, acc, rfl, .inl (SqL.of ea5), _, rfl, N, rfl, hl, fun H6 s6 => ⟨rfl, _, rfl, ?_⟩⟩
    refine ite_is (ne_int _ _ (by rw [hix.2, la])) (iteF ?_)
    have sB := sA.then (s45.trans s6)
    have td6 := td3.same (s45.trans s6)
    have md6 := md.same (s45.trans s6)
    have ea6 := s6 _ _ ea5
    -- six turns
    refine ⟨6, rfl, by decide, by decide, ?_⟩
    refine for_range (lo := 0) (n := 6) (fun i σ H' => (∃ y4 y5 y6 y7 y8 y9 y10, σ = [some (V.ref d), some (.int (N : Int)), some (.ref pt), some (.ref pm), y4, y5, y6, y7, y8, y9, y10, none, none]) ∧ SameD d H6 H') ⟨⟨_, _, _, _, _, _, _, rfl⟩, sB.rfl'⟩ ?_ ?_
    · rintro i σ H7 hi ⟨⟨y4, y5, y6, y7, y8, y9, y10, rfl⟩, s7⟩
      have td7 := td6.sameD sB.2 s7
      refine ⟨_, rfl, _, rfl, _, rfl, d, pt, N, rfl, s7.2, td7, hl, fun c e due H8 p8 s8 c1 c2 e1 e2 hdue ep8 => ?_⟩
      refine ⟨p8, _, rfl, SqT.of ep8, rfl, _, _, rfl, _, _, rfl, _, _, rfl, rfl, ?_⟩
      have td8 := td7.sameD s7.2 s8
      refine ⟨_, rfl, _, rfl, _, rfl, d, pt, N, rfl, s8.2, td8, hl, fun x y oth H9 p9 s9 x1 x2 y1 y2 hoth ep9 => ?_⟩
      refine ⟨p9, _, rfl, SqT.of ep9, rfl, _, _, rfl, _, _, rfl, _, _, rfl, rfl, ?_⟩
      have hdue9 := hdue.sameD s8.2 s9
      have hG : TEN23 < GR := by decide
      refine ⟨_, rfl, _, rfl, _, rfl, N, c, e, rfl, hl, ⟨by omega, by omega⟩, ⟨by omega, by omega⟩, fun wd H10 s10 hwd => ?_⟩
      refine ⟨_, rfl, dueD N c e, dueD N c e, hwd.dp, (hdue9.same s10).dp, dueD_shaped _ _ _, dueD_shaped _ _ _, _, rfl, ?_⟩
      rw [dueD_eqv]
      refine iteF ?_
      have s11 := ((s7.trans s8).trans s9).then s10
      have due10 := hdue9.same s10
      have oth10 := hoth.same s10
      refine ⟨_, rfl, rfl, _, rfl, ?_⟩
      rcases due10 with ⟨t1, a1, rfl, ea1⟩ | ⟨t1, rfl⟩
      · refine ⟨_, rfl, rfl, _, rfl, ?_⟩
        rcases oth10 with ⟨t2, a2, rfl, ea2⟩ | ⟨t2, rfl⟩
        · have w1 : ∀ z : Int, -TEN23 < z → z < TEN23 → z.natAbs < 2 ^ 80 := fun z h1 h2 => by
            have hT : TEN23 < 2 ^ 80 := by decide
            omega
          refine ⟨_, rfl, _, rfl, _, _, rfl, rfl, wide_mul (w1 _ c1 c2) (w1 _ y1 y2) (by decide) (by decide) (by decide), _, rfl, _, rfl, _, _, rfl, rfl, wide_mul (w1 _ e1 e2) (w1 _ x1 x2) (by decide) (by decide) (by decide), _, _, rfl, rfl, .inl ⟨_, rfl, _, rfl, _, _, rfl, rfl, by omega, rfl, ?_⟩⟩
          refine ⟨_, rfl, _, rfl, _, _, dp_vp (SqT.of ea1), dp_vp (SqT.of ea2), shaped_dP _, shaped_dP _, rfl, _, rfl, ?_⟩
          have pe := prod_eq hl t1 t2
          have z : (!decide (V.bl (decide (V.int ((c * y - e * x).fmod (N : Int)) = V.int 0)) = V.bl (PyData.eqv (dP (K9M.least N (red N c e))) (dP (K9M.least N (red N x y)))))) = false := by
            rw [pe]; simp
          refine ite_is z (iteF ⟨⟨_, _, _, _, _, _, _, rfl⟩, s11⟩)
        · exact ⟨⟨_, _, _, _, _, _, _, rfl⟩, s11⟩
      · exact ⟨⟨_, _, _, _, _, _, _, rfl⟩, s11⟩
    · rintro σ H7 ⟨⟨y4, y5, y6, y7, y8, y9, y10, rfl⟩, s7⟩
      have md7 := md6.sameD sB.2 hpm s7
      have ea7 := s7.1 _ _ hpm ea6
      -- at
      refine ⟨_, rfl, _, rfl, pm, acc, rfl, .inl (SqL.of ea7), d, (acc.length : Int), rfl, s7.2, by omega, by omega, fun r H8 r0 r1 s8 => ?_⟩
      obtain ⟨i, rfl⟩ : ∃ i : Nat, r = (i : Int) := ⟨r.toNat, by omega⟩
      have hi : i < (K9M.allp N).length := by omega
      have hp : (K9M.allp N)[i]? = some (K9M.allp N)[i] := List.getElem?_eq_getElem hi
      generalize (K9M.allp N)[i] = p at *
      have md8 := md7.sameD s7.2 hpm s8
      obtain ⟨acc', ea', la', hacc'⟩ := made_acc md8
      have ea8 := s8.1 _ _ hpm ea7
      have eacc : acc' = acc := by
        rw [ea8] at ea'
        have := HO.lst.inj (Option.some.inj ea')
        exact this.symm
      subst eacc
      obtain ⟨a, ga, ha8⟩ := hacc' i p hp
      refine ⟨_, rfl, _, rfl, N, i, p, rfl, hl, hp, fun H9 a9 s9 ea9 => ?_⟩
      refine ⟨_, rfl, _, rfl, pm, _, _, _, rfl, rfl, SqL.of (s9 _ _ ea8), atI_nat ga, dP p, dP p, dp_vp (SqT.of ea9), dp_vp (SqT.of (s9 _ _ ha8)), shaped_dP _, shaped_dP _, _, rfl, ?_⟩
      rw [eqv_dP, decide_eq_true rfl]
      refine ⟨_, rfl, _, rfl, _, rfl, pm, _, _, _, rfl, rfl, SqL.of (s9 _ _ ea8), atI_nat ga, N, a, i, p, rfl, hl, s9 _ _ ha8, hp, fun H10 s10 => ?_⟩
      refine ⟨_, rfl, rfl, _, rfl, ?_⟩
      refine ite_is (ne_int i i rfl) (iteF ?_)
      have s910 := s9.trans s10
      have d10 : Dice H10 d := (SameD.of s8.2 s910).2
      refine ⟨_, rfl, _, rfl, _, rfl, d, pm, N, rfl, d10, hl, md8.same s910, hpm, fun H11 s11 => ⟨_, rfl, iteF ?_⟩⟩
      have md11 := (md8.same s910).sameD d10 hpm s11
      obtain ⟨acc2, ea11, la11, hacc11⟩ := made_acc md11
      -- the heads
      refine ⟨_, rfl, pm, rfl, ⟨_, SqL.of ea11⟩, fun D hD => ?_⟩
      refine lc_list (xs := acc2) (fun j H' => Same H11 H' ∧ H' D = some (.lst [])) ⟨same_new hD, upd_same⟩ (fun j H' _ p => p.1.seq (SqL.of ea11)) ?_ ?_
      · rintro j z H12 hz ⟨s12, eD⟩
        have hj : j < (K9M.allp N).length := by
          have := (List.getElem?_eq_some_iff.mp hz).1
          omega
        obtain ⟨b, gb, hb⟩ := hacc11 j _ (List.getElem?_eq_getElem hj)
        have hpm2 : (K9M.allp N)[j] ∈ K9M.allp N := List.getElem_mem hj
        rw [hz] at gb
        cases gb
        generalize (K9M.allp N)[j] = p2 at *
        have hh : p2.1 = 0 ∨ N % p2.1 = 0 := by
          unfold K9M.allp at hpm2
          obtain ⟨c, hc, hp2⟩ := List.mem_flatMap.mp hpm2
          have := (K9M.mem_heads hN).mp hc
          rw [(K9M.mem_pairsWith.mp hp2).1]
          exact this.2
        refine ⟨b, _, rfl, SqT.of (s12 _ _ hb), rfl, _, _, rfl, _, _, rfl, rfl, rfl, ?_⟩
        refine ⟨_, rfl, _, _, rfl, rfl, _, rfl, ite2 (fun c => ?_) (fun c => ?_)⟩
        · have c0 : 0 < p2.1 := by have := of_decide_eq_true c; omega
          have hm : N % p2.1 = 0 := by
            rcases hh with h | h
            · omega
            · exact h
          refine ⟨_, rfl, _, rfl, _, _, rfl, rfl, by omega, rfl, _, rfl, ?_⟩
          have e0 : decide (V.int (((N : Nat) : Int).fmod ((p2.1 : Nat) : Int)) = V.int 0) = true := (eqI (b := 0) (fmodN N p2.1)).trans (beq_iff_eq.mpr hm)
          have e : (!decide (V.int (((N : Nat) : Int).fmod ((p2.1 : Nat) : Int)) = V.int 0)) = false := congrArg (fun b => !b) e0
          exact ite_is e ⟨s12, eD⟩
        · exact ⟨s12, eD⟩
      · rintro H12 ⟨s12, eD⟩
        refine ⟨_, rfl, Nat.zero_le _, fun l0 nl0 => ?_⟩
        refine ⟨.list [], .list [], .lst (SqL.of (same_new nl0 _ _ eD)) .nil, .lst (SqL.of upd_same) .nil, (by unfold SeqAt.shaped; simp [PyData.canLay0, PyData.canLayAll0, PyData.depth, PyData.depthAll]), (by unfold SeqAt.shaped; simp [PyData.canLay0, PyData.canLayAll0, PyData.depth, PyData.depthAll]), ?_⟩
        rw [eqvL, eqvN]
        exact q _ (((((sB.trans s7).trans s8).then s910).trans s11).then (s12.trans (same_new nl0)))
end
end K9

set_option Elab.async false
set_option linter.all false
set_option maxRecDepth 100000
set_option maxHeartbeats 4200000
namespace K9
open PySem PySem.Spec PyProof.Rows L2 C8
/-! ### data that is made, told exactly -/
mutual
theorem dp_same {K : PySem.W.Frag} {H H' : Hp} (e : Same H H') : ∀ (d : PyData) (v : V), Dp K H v d → Dp K H' v d
  | .none, _, h => by cases h; exact .non
  | .bool b, _, h => by cases h; exact .bl b
  | .int i, _, h => by cases h; exact .int i
  | .str x, _, h => by cases h; exact .str x
  | .list ds, _, h => by
    cases h with
    | lst hs ha => exact .lst (e.seq hs) (dps_same e ds _ ha)
  | .tuple ds, _, h => by
    cases h with
    | tup hs ha => exact .tup (same_t e hs) (dps_same e ds _ ha)
  | .dict kvs, _, h => by cases h
theorem dps_same {K : PySem.W.Frag} {H H' : Hp} (e : Same H H') : ∀ (ds : List PyData) (vs : List V), DpAll K H vs ds → DpAll K H' vs ds
  | [], _, h => by cases h; exact .nil
  | d :: ds, _, h => by
    cases h with
    | cons h1 h2 => exact .cons (dp_same e d _ h1) (dps_same e ds _ h2)
end
theorem dps_len {K : PySem.W.Frag} {H : Hp} : ∀ {vs : List V} {ds : List PyData}, DpAll K H vs ds → vs.length = ds.length
  | _, _, .nil => rfl
  | _, _, .cons _ h => by rw [List.length_cons, List.length_cons, dps_len h]
def Gd (K : PySem.W.Frag) (D : PyData) (te : TE) (σ : L2.St) (H : Hp) : Prop := ∀ H1, Same H H1 → ∀ Q : VK, (∀ x H2, Same H1 H2 → Dp K H2 x D → Q x H2) → te σ H1 Q
def Gx (K : PySem.W.Frag) (ds : List PyData) (ta : TA) (σ : L2.St) (H : Hp) : Prop := ∀ H1, Same H H1 → ∀ Q : List V → Hp → Prop, (∀ vs H2, Same H1 H2 → DpAll K H2 vs ds → Q vs H2) → ta σ H1 Q
section
variable {K : PySem.W.Frag} {σ : L2.St} {H : Hp} {te : TE} {ta : TA} {D : PyData} {ds : List PyData}
theorem gd_int (i : Int) : Gd K (.int i) (tC (.int i)) σ H := fun H1 s Q q => q _ H1 (Same.refl H1) (.int i)
theorem gx_nil : Gx K [] tNil σ H := fun H1 s Q q => q [] H1 (Same.refl H1) .nil
theorem gx_cons (h : Gd K D te σ H) (r : Gx K ds ta σ H) : Gx K (D :: ds) (tCons te ta) σ H := fun H1 s Q q =>
  h H1 s _ fun x H2 s2 hx => r H2 (s.trans s2) _ fun vs H3 s3 hv => q (x :: vs) H3 (s2.trans s3) (.cons (dp_same s3 _ _ hx) hv)
theorem gd_tup (h : Gx K ds ta σ H) (hn : ds.length ≤ 1000) : Gd K (.tuple ds) (tTup ta) σ H := fun H1 s Q q =>
  h H1 s _ fun vs H2 s2 hv => ⟨sle (by rw [dps_len hv]; omega), fun p hp => q (.ref p) _ (s2.trans (same_new hp)) (.tup (SqT.of upd_same) (dps_same (same_new hp) _ _ hv))⟩
theorem gd_lst (h : Gx K ds ta σ H) (hn : ds.length ≤ 1000) : Gd K (.list ds) (tLst ta) σ H := fun H1 s Q q =>
  h H1 s _ fun vs H2 s2 hv => ⟨sle (by rw [dps_len hv]; omega), fun p hp => q (.ref p) _ (s2.trans (same_new hp)) (.lst (SqL.of upd_same) (dps_same (same_new hp) _ _ hv))⟩
theorem gd_pair (a b : Nat) : Gd K (dP (a, b)) (tTup (tCons (tC (.int (a : Int))) (tCons (tC (.int (b : Int))) tNil))) σ H := gd_tup (gx_cons (gd_int _) (gx_cons (gd_int _) gx_nil)) (by show 2 ≤ 1000; decide)
end
theorem MadeT.dp {K : PySem.W.Frag} {H : Hp} {D : Addr} {l : List (Nat × Nat)} (m : MadeT H D l) : Dp K H (.ref D) (.tuple (l.map dP)) := by
  obtain ⟨ps, e1, e2, e3⟩ := m
  subst e1
  exact .tup (SqT.of e2) (dpAll_of ps fun p hp => SqT.of (e3 p hp))
def five : List (Nat × Nat) := [(3, 7), (4, 9), (5, 16), (2, 27), (7, 11)]
theorem five_all : five.all (fun p => K9M.index p.1 * K9M.index p.2 == K9M.index (p.1 * p.2) && Nat.blt 0 p.1 && Nat.ble p.1 100 && Nat.blt 0 p.2 && Nat.ble p.2 100 && Nat.ble (p.1 * p.2) 100 && Nat.blt 0 (p.1 * p.2) && Nat.ble (K9M.index p.1) 1000) = true := by decide +kernel
theorem five_ok {p : Nat × Nat} (h : p ∈ five) : K9M.index p.1 * K9M.index p.2 = K9M.index (p.1 * p.2) ∧ LevelOk p.1 ∧ LevelOk p.2 ∧ LevelOk (p.1 * p.2) ∧ K9M.index p.1 ≤ 1000 := by
  have a := List.all_eq_true.mp five_all p h
  simp only [Bool.and_eq_true, beq_iff_eq] at a
  obtain ⟨⟨⟨⟨⟨⟨⟨a1, a2⟩, a3⟩, a4⟩, a5⟩, a6⟩, a7⟩, a8⟩ := a
  exact ⟨a1, ⟨Nat.blt_eq.mp a2, Nat.le_of_ble_eq_true a3⟩, ⟨Nat.blt_eq.mp a4, Nat.le_of_ble_eq_true a5⟩, ⟨Nat.blt_eq.mp a7, Nat.le_of_ble_eq_true a6⟩, Nat.le_of_ble_eq_true a8⟩
/-- a tracked tuple of these -/
def Gt (H : Hp) (x : V) : Prop := ∃ a p, x = .ref a ∧ p ∈ five ∧ H a = some (.tup (vp p))
def Gr (n : Nat) (ta : TA) (σ : L2.St) (H : Hp) : Prop := ∀ H1, Same H H1 → ∀ Q : List V → Hp → Prop, (∀ vs H2, Same H1 H2 → vs.length = n → (∀ x ∈ vs, Gt H2 x) → Q vs H2) → ta σ H1 Q
theorem gr_nil {σ : L2.St} {H : Hp} : Gr 0 tNil σ H := fun H1 s Q q => q [] H1 (Same.refl H1) rfl fun y hy => nomatch hy
theorem gr_cons {σ : L2.St} {H : Hp} {ta : TA} {n a b : Nat} (h : (a, b) ∈ five) (r : Gr n ta σ H) : Gr (n + 1) (tCons (tTup (tCons (tC (.int (a : Int))) (tCons (tC (.int (b : Int))) tNil))) ta) σ H := fun H1 s Q q =>
  ⟨by show 2 ≤ sizeLine; decide, fun p hp => r _ (s.trans (same_new hp)) _ fun vs H3 s3 hn hv => q (.ref p :: vs) H3 ((same_new hp).trans s3) (by rw [List.length_cons, hn]) fun y hy => by
    rcases List.mem_cons.mp hy with z | z
    · rw [z]; exact ⟨p, (a, b), rfl, h, s3 _ _ upd_same⟩
    · exact hv y z⟩
theorem e_five {σ : L2.St} {H : Hp} {ta : TA} {n : Nat} (g : Gr n ta σ H) (hn : n ≤ 1000) {Q : List V → Hp → Prop}
    (q : ∀ vs H1, Same H H1 → vs.length = n → (∀ x ∈ vs, Gt H1 x) → ∀ l, H1 l = none → Q [.ref l] (upd H1 l (.lst vs))) : tCons (tLst ta) tNil σ H Q :=
  g H (Same.refl H) _ fun vs H1 s hv ht => ⟨sle (by omega), fun l nl => q vs H1 s hv ht l nl⟩
theorem passX0 {P : Program} {w : World} {X : Cx} : Passes (L2.CX P w) X (fun _ _ _ => False) := fun pins σ H s e s' I c => by
  obtain ⟨a, B, H', cls, d, _, _, _, _, _, _, _, hE⟩ := c
  exact hE.elim
def spLaw (K : PySem.W.Frag) : Sp := fun vs H Q _ => ∃ (a : Addr) (ns : List Int), vs = [.ref a] ∧ SqL K H a (ns.map V.int) ∧ ns.length ≤ 63 ∧ ∀ H', Q (.bl true) H'
theorem one_pairs : K9M.allp 1 = [(0, 0)] := by decide +kernel
theorem four_pairs : K9M.allp 4 = [(0, 1), (1, 0), (1, 1), (1, 2), (1, 3), (2, 1)] := by decide +kernel
theorem told_six : tellI 11 3 7 = true ∧ tellI 12 10 3 = true ∧ tellI 12 (-2) 1 = true ∧ tellI 1 5 7 = true ∧ K9M.least 11 (red 11 3 7) = (1, 6) ∧ K9M.least 12 (red 12 10 3) = (2, 3) ∧ K9M.least 12 (red 12 (-2) 1) = (2, 5) ∧ K9M.least 1 (red 1 5 7) = (0, 0) ∧
    (K9M.allp 12)[23]? = some (6, 1) ∧ K9M.index 100 = 180 := by decide +kernel
section
variable {P : Program} {w : World} {K : PySem.W.Frag} {mg : Str → Option Value} {base : Heap} {tG tM : Tok} {C : Addr}
theorem ok_law_great_right (T : Txt K mg tG tM) : C8.Cal P w K mg base 6 "_law_great_right" spRight [] := by
  have c_pairs := ok_pairs (P := P) (w := w) (base := base) T
  have c_count_pairs := ok_count_pairs (P := P) (w := w) (base := base) T
  have c_law_index := ok_law_index (P := P) (w := w) (base := base) T
  have c_law_roll := ok_law_roll (P := P) (w := w) (base := base) T
  have c_law_pick := ok_law_pick (P := P) (w := w) (base := base) T
  refine T.d_law_great_right.cal sc_law_great_right (fun vs H Q E h => ?_) (fun f cdv A outer s H vs Q E hr h => ?_)
  · obtain ⟨d, rfl, _⟩ := h; rfl
  · obtain ⟨d, rfl, hd, q⟩ := h
    refine ⟨_, (pss_cons (ps_set (i := 1) sc_law_great_right.nd rfl (Or.inl rfl) (pe_op op_add pe_int (pe_c c_law_roll hr (by decide) rfl (pa_cons (pv 0) (pa_cons pe_int pa_nil)))))
    (pss_cons (ps_set (i := 2) sc_law_great_right.nd rfl (Or.inl rfl) (pe_c c_pairs hr (by decide) rfl (pa_cons (pv 1) pa_nil)))
    (pss_cons (ps_if (PW.pt (pw_or (pt_cmpR op_ne (pe_callB call_len_seq (by rfl) T.n_len (by decide +kernel) (pa_cons (pv 2) pa_nil)) (pe_c c_law_index hr (by decide) rfl (pa_cons (pv 1) pa_nil)) (nomark _)) (pw_or (pt_cmpR op_ne (pe_c c_count_pairs hr (by decide) rfl (pa_cons (pv 1) pa_nil)) (pe_callB call_len_seq (by rfl) T.n_len (by decide +kernel) (pa_cons (pv 2) pa_nil)) (nomark _)) (pw_or1 (pt_cmpR (op_neD (hu64 hr)) (pe_callTy call_list_of (by rfl) T.n_list (by decide +kernel) (pa_cons (pv 2) pa_nil)) (pe_callB (call_sortedT rfl (hu65 hr)) (by rfl) T.n_sorted (by decide +kernel) (pa_cons (pe_callTy (call_setT rfl (hu65 hr)) (by rfl) T.n_set (by decide +kernel) (pa_cons (pv 2) pa_nil)) pa_nil)) (nomark _))))))
    (pss_one (ps_ret pe_bl))
    pss_nil)
    (pss_cons (ps_asg (pe_c c_law_pick hr (by decide) rfl (pa_cons (pv 0) (pa_cons (pe_lst (pa_cons (pe_tup (pa_cons pe_int (pa_cons pe_int pa_nil))) (pa_cons (pe_tup (pa_cons pe_int (pa_cons pe_int pa_nil))) (pa_cons (pe_tup (pa_cons pe_int (pa_cons pe_int pa_nil))) (pa_cons (pe_tup (pa_cons pe_int (pa_cons pe_int pa_nil))) (pa_cons (pe_tup (pa_cons pe_int (pa_cons pe_int pa_nil))) pa_nil)))))) pa_nil))) (pg_tup rfl (pgs_cons (pg_name (i := 3) sc_law_great_right.nd rfl (Or.inl rfl)) (pgs_cons (pg_name (i := 4) sc_law_great_right.nd rfl (Or.inl rfl)) pgs_nil))))
    (pss_one (ps_ret (pe_cmpR op_eq (pe_op op_mul (pe_c c_count_pairs hr (by decide) rfl (pa_cons (pv 3) pa_nil)) (pe_c c_count_pairs hr (by decide) rfl (pa_cons (pv 4) pa_nil))) (pe_c c_count_pairs hr (by decide) rfl (pa_cons (pe_op op_mul (pv 3) (pv 4)) pa_nil)) (nomark _)))))))), ?_⟩
    refine ⟨_, rfl, d, 100, rfl, hd, by decide, by decide, fun r H1 r0 r1 s1 => ⟨_, _, rfl, rfl, ?_⟩⟩
    obtain ⟨k, rfl⟩ : ∃ k : Nat, r = (k : Int) := ⟨r.toNat, by omega⟩
    have hl : LevelOk (1 + k) := ⟨by omega, by omega⟩
    refine ⟨_, rfl, 1 + k, rfl, hl, fun H2 tp s2 mt => ?_⟩
    obtain ⟨N, eN⟩ : ∃ N, N = 1 + k := ⟨_, rfl⟩
    rw [← eN] at hl mt
    have hlen := K9M.allp_len hl.1 hl.2
    have hix := K9M.index_eq hl.1 hl.2
    obtain ⟨ps, e1, e2, e3⟩ := mt
    have lps : (ps.map fun p => V.ref p.1).length = (K9M.allp N).length := by rw [List.length_map, ← e1, List.length_map]
    refine ⟨_, rfl, tp, _, rfl, .inr (SqT.of e2), _, rfl, 1 + k, rfl, by rw [← eN]; exact hl, fun H3 s3 => ⟨rfl, _, rfl, ?_⟩⟩
    refine ite_is (ne_int _ _ (by rw [lps, ← eN, hix.2])) (iteF ?_)
    refine ⟨_, rfl, 1 + k, rfl, by rw [← eN]; exact hl, _, rfl, tp, _, rfl, .inr (SqT.of (s3 _ _ e2)), rfl, _, rfl, ?_⟩
    refine ite_is (ne_int _ _ (by rw [lps, ← eN, hix.1])) (iteF ?_)
    refine ⟨_, rfl, tp, _, rfl, .inr (SqT.of (s3 _ _ e2)), fun l nl => ?_⟩
    have s4 := same_new (o := .lst (ps.map fun p => V.ref p.1)) nl
    have s34 := s3.trans s4
    have allm : ∀ p ∈ ps, p.2 ∈ K9M.allp N := fun p hp => by rw [← e1]; exact List.mem_map.mpr ⟨p, hp, rfl⟩
    refine ⟨_, rfl, tp, ps, K9M.allp N, rfl, .inr (SqT.of (s34 _ _ e2)), fun p hp => SqT.of (s34 _ _ (e3 p hp)), allm, hlen.2, fun a L na hL1 hL2 nd => ?_⟩
    have s5 := same_new (o := SetO2 P w a L) na
    refine ⟨a, L, rfl, upd_same, fun p hp => SqT.of (s5 _ _ (s34 _ _ (e3 p (hL1 p hp)))), nd, fun L' p pm pw np => ?_⟩
    have s6 := same_new (o := .lst (L'.map fun p => V.ref p.1)) np
    have eL : L'.map Prod.snd = K9M.allp N := by
      refine K9M.sorted_unique pw (K9M.allp_sorted N) fun m => ?_
      constructor
      · intro hm
        obtain ⟨y, hy, e⟩ := List.mem_map.mp hm
        rw [← e]
        exact allm y (hL1 y (pm.mem_iff.mp hy))
      · intro hm
        rw [← e1] at hm
        obtain ⟨y, hy, e⟩ := List.mem_map.mp hm
        have h2 := hL2 y hy
        rw [e] at h2
        exact (pm.map Prod.snd).mem_iff.mpr h2
    refine ⟨.list ((K9M.allp N).map dP), .list ((K9M.allp N).map dP), ?_, ?_, shaped_list _, shaped_list _, _, rfl, ?_⟩
    · refine .lst (SqL.of (s6 _ _ (s5 _ _ upd_same))) ?_
      rw [← e1]
      exact dpAll_of ps fun p hp => SqT.of (s6 _ _ (s5 _ _ (s34 _ _ (e3 p hp))))
    · refine .lst (SqL.of upd_same) ?_
      rw [← eL]
      exact dpAll_of L' fun p hp => SqT.of (s6 _ _ (s5 _ _ (s34 _ _ (e3 p (hL1 p (pm.mem_iff.mp hp))))))
    rw [eqvL, eqvAll_dP, decide_eq_true rfl]
    refine iteF ?_
    have sA := (s1.then s2).then ((s34.trans s5).trans s6)
    -- one, other
    refine ⟨_, rfl, ?_⟩
    refine e_five (n := 5) (gr_cons (a := 3) (b := 7) (by decide) (gr_cons (a := 4) (b := 9) (by decide) (gr_cons (a := 5) (b := 16) (by decide) (gr_cons (a := 2) (b := 27) (by decide) (gr_cons (a := 7) (b := 11) (by decide) gr_nil))))) (by decide) fun vs H5 s7 lvs hvs l5 nl5 => ?_
    have s8 := same_new (o := .lst vs) nl5
    have sB := sA.then (s7.trans s8)
    refine ⟨d, l5, vs, rfl, sB.2, upd_same, (sA.then s7).2.ne nl5, (fun z => by rw [z] at lvs; cases lvs), by omega, fun i x H6 hx s9 => ?_⟩
    obtain ⟨b, p5, rfl, hp5, hb⟩ := hvs x (List.mem_of_getElem? hx)
    have hb6 := s9.1 _ _ (sB.2.ne_tup (s8 _ _ hb)) (s8 _ _ hb)
    obtain ⟨f1, f2, f3, f4, f5⟩ := five_ok hp5
    refine ⟨b, _, rfl, SqT.of hb6, rfl, _, _, rfl, _, _, rfl, rfl, ?_⟩
    refine ⟨_, rfl, p5.1, rfl, f2, _, rfl, p5.2, rfl, f3, _, _, rfl, rfl, .inl ⟨by omega, by omega⟩, ?_⟩
    refine ⟨_, rfl, _, rfl, _, _, rfl, rfl, .inl ⟨?_, ?_⟩, p5.1 * p5.2, ?_, f4, rfl, ?_⟩
    · have := f2.2; omega
    · have := f2.2; omega
    · show [V.int ((p5.1 : Int) * (p5.2 : Int))] ++ [] = [V.int ((p5.1 * p5.2 : Nat) : Int)]
      rw [Int.natCast_mul]; rfl
    · have e : decide (V.int ((K9M.index p5.1 : Int) * (K9M.index p5.2 : Int)) = V.int (K9M.index (p5.1 * p5.2) : Int)) = true := by
        rw [← f1, Int.natCast_mul]; simp
      have := q H6 (sB.trans s9)
      rw [← e] at this
      exact this
theorem ok_law (T : Txt K mg tG tM) (TX : TxtX K mg C) {f : Addr} {fd : FuncData} (Fn : L2.Fun K "law" "law" s_law f fd) : FnOk P w K mg base L2.CX0 8 f fd ["_law_script"] (spLaw K) := by
  have c_law_dice := ok_law_dice (P := P) (w := w) (base := base) T
  have c_law_right := ok_law_right (P := P) (w := w) (base := base) T TX
  have c_law_great_right := ok_law_great_right (P := P) (w := w) (base := base) T
  have c_pairs := ok_pairs (P := P) (w := w) (base := base) T
  have c_pair_at := ok_pair_at (P := P) (w := w) (base := base) T
  have c_count_pairs := ok_count_pairs (P := P) (w := w) (base := base) T
  have c_is_level := ok_is_level (P := P) (w := w) (base := base) T
  obtain ⟨fP, fdP, FP, gP, kP, bP⟩ := (ok_pair_of (P := P) (w := w) (base := base) T TX).ex
  refine Fn.ok sc_law (fun vs H Q E h => ?_) (fun cdv A outer s H vs Q E hr h => ?_)
  · obtain ⟨a, ns, rfl, _⟩ := h; rfl
  · obtain ⟨a, ns, rfl, hS, hlen, q⟩ := h
    refine ⟨_, (pss_cons (ps_for PassesOwn.never rfl (pi_range1 rfl T.n_range (pa_cons (pe_callB (call_max2 rfl) (by rfl) T.n_max (by decide +kernel) (pa_cons pe_int (pa_cons (pe_callB (call_min2 rfl) (by rfl) T.n_min (by decide +kernel) (pa_cons pe_int (pa_cons (pe_callB call_len_seq (by rfl) T.n_len (by decide +kernel) (pa_cons (pv 0) pa_nil)) pa_nil))) pa_nil))) pa_nil)) (pg_name (i := 1) sc_law.nd rfl (Or.inl rfl))
    (pss_cons (ps_set (i := 2) sc_law.nd rfl (Or.inl rfl) (pe_c c_law_dice hr (by decide) rfl (pa_cons (pv 0) (pa_cons (pv 1) pa_nil))))
    (pss_one (ps_if (PW.pt (pw_or (pt_not (pt_val (pe_c c_law_right hr (by decide) rfl (pa_cons (pv 2) pa_nil)))) (pw_or1 (pt_not (pt_val (pe_c c_law_great_right hr (by decide) rfl (pa_cons (pv 2) pa_nil)))))))
    (pss_one (ps_ret pe_bl))
    pss_nil))))
    (pss_cons (ps_if (PW.pt (pw_or (pt_cmpR (op_neD (hu64 hr)) (pe_c c_pairs hr (by decide) rfl (pa_cons pe_int pa_nil)) (pe_tup (pa_cons (pe_tup (pa_cons pe_int (pa_cons pe_int pa_nil))) pa_nil)) (nomark _)) (pw_or1 (pt_cmpR (op_neD (hu64 hr)) (pe_c c_pairs hr (by decide) rfl (pa_cons pe_int pa_nil)) (pe_tup (pa_cons (pe_tup (pa_cons pe_int (pa_cons pe_int pa_nil))) (pa_cons (pe_tup (pa_cons pe_int (pa_cons pe_int pa_nil))) (pa_cons (pe_tup (pa_cons pe_int (pa_cons pe_int pa_nil))) (pa_cons (pe_tup (pa_cons pe_int (pa_cons pe_int pa_nil))) (pa_cons (pe_tup (pa_cons pe_int (pa_cons pe_int pa_nil))) (pa_cons (pe_tup (pa_cons pe_int (pa_cons pe_int pa_nil))) pa_nil))))))) (nomark _)))))
    (pss_one (ps_ret pe_bl))
    pss_nil)
    (pss_cons (ps_set (i := 3) sc_law.nd rfl (Or.inl rfl) (pe_lst (pa_cons (pe_call FP (hr.mono (by decide)) rfl gP kP bP .nil passX0 (pa_cons pe_int (pa_cons pe_int (pa_cons pe_int pa_nil)))) (pa_cons (pe_call FP (hr.mono (by decide)) rfl gP kP bP .nil passX0 (pa_cons pe_int (pa_cons pe_int (pa_cons pe_int pa_nil)))) (pa_cons (pe_call FP (hr.mono (by decide)) rfl gP kP bP .nil passX0 (pa_cons pe_int (pa_cons (pe_un un_neg pe_int) (pa_cons pe_int pa_nil)))) (pa_cons (pe_call FP (hr.mono (by decide)) rfl gP kP bP .nil passX0 (pa_cons pe_int (pa_cons pe_int (pa_cons pe_int pa_nil)))) (pa_cons (pe_c c_pair_at hr (by decide) rfl (pa_cons pe_int (pa_cons pe_int pa_nil))) (pa_cons (pe_c c_count_pairs hr (by decide) rfl (pa_cons pe_int pa_nil)) pa_nil))))))))
    (pss_one (ps_ret (pe_and (pe_cmpR (op_eqD (hu64 hr)) (pv 3) (pe_lst (pa_cons (pe_tup (pa_cons pe_int (pa_cons pe_int pa_nil))) (pa_cons (pe_tup (pa_cons pe_int (pa_cons pe_int pa_nil))) (pa_cons (pe_tup (pa_cons pe_int (pa_cons pe_int pa_nil))) (pa_cons (pe_tup (pa_cons pe_int (pa_cons pe_int pa_nil))) (pa_cons (pe_tup (pa_cons pe_int (pa_cons pe_int pa_nil))) (pa_cons pe_int pa_nil))))))) (nomark _)) (pe_one (pe_cmpR (op_eqD (hu64 hr)) (pe_lc (own := [("_law_one", 4)])  rfl sc_law.nd (pi_tup (pe_tup (pa_cons pe_int (pa_cons pe_int (pa_cons pe_int (pa_cons pe_bl pa_nil)))))) (blkOk_by (own := [("_law_one", 4)]) (N := N_law) (sc := defScope s_law) (by decide +kernel)) (fun _ _ _ _ _ => (pg_name (i := 4) sc_law.nd rfl (Or.inl rfl))) (fun _ _ _ _ _ => pts_nil) (fun _ _ _ _ _ => (pe_c c_is_level hr (by decide) rfl (pa_cons (pv 4) pa_nil)))) (pe_op op_cat (pe_lst (pa_cons pe_bl pa_nil)) (pe_op op_rep (pe_lst (pa_cons pe_bl pa_nil)) pe_int)) (nomark _))))))))), ?_⟩
    have six := told_six
    refine ⟨_, rfl, a, _, rfl, .inl hS, _, _, rfl, _, _, rfl, _, rfl, ?_⟩
    have hv : ∀ n : Int, 0 ≤ n → 1 ≤ (if (if n < 3 then n else 3) > 1 then (if n < 3 then n else 3) else 1) ∧ (if (if n < 3 then n else 3) > 1 then (if n < 3 then n else 3) else 1) ≤ 3 := fun n h => by split <;> split <;> omega
    have hv := hv ((ns.map V.int).length : Int) (by omega)
    generalize (if (if ((ns.map V.int).length : Int) < 3 then ((ns.map V.int).length : Int) else 3) > 1 then (if ((ns.map V.int).length : Int) < 3 then ((ns.map V.int).length : Int) else 3) else 1) = m at *
    refine ⟨by omega, by omega, ?_⟩
    refine for_range (lo := 0) (n := m.toNat) (fun i σ H' => (∃ y1 y2, σ = [some (V.ref a), y1, y2, none, none]) ∧ Same H H') ⟨⟨_, _, rfl⟩, Same.refl H⟩ ?_ ?_
    · rintro i σ H1 hi ⟨⟨y1, y2, rfl⟩, s1⟩
      have e0 := Int.zero_add (i : Int)
      rw [e0]
      refine ⟨_, rfl, _, rfl, a, ns, i, rfl, s1.seq hS, by omega, fun H2 d nd s2 hd => ?_⟩
      refine ⟨_, rfl, d, rfl, hd, fun H3 s3 => ⟨_, rfl, ?_⟩⟩
      refine ⟨_, rfl, d, rfl, s3.2, fun H4 s4 => ⟨_, rfl, ?_⟩⟩
      refine ⟨⟨_, _, rfl⟩, fun b o e => ?_⟩
      have hb : H1 b = some o := s1 b o e
      have hbd : b ≠ d := fun z => by rw [z, nd] at hb; cases hb
      exact (s3.trans s4).1 b o hbd (s2 b o hb)
    · rintro σ H1 ⟨⟨y1, y2, rfl⟩, s1⟩
      -- pairs(1), pairs(4)
      refine ⟨1, rfl, ⟨by decide, by decide⟩, fun H2 tp s2 mt => ?_⟩
      refine gd_tup (K := K) (ds := [dP (0, 0)]) (gx_cons (gd_pair 0 0) gx_nil) (by decide) H2 (Same.refl H2) _ fun x2 H3 s3 d3 => ?_
      have mt3 := (mt.same s3).dp (K := K)
      rw [one_pairs] at mt3
      refine ⟨_, _, mt3, d3, shaped_tuple [(0, 0)], shaped_tuple [(0, 0)], _, rfl, ?_⟩
      have z : (!PyData.eqv (.tuple ([((0 : Nat), (0 : Nat))].map dP)) (.tuple [dP (0, 0)])) = false := by
        show (!PyData.eqv (.tuple ([((0 : Nat), (0 : Nat))].map dP)) (.tuple ([((0 : Nat), (0 : Nat))].map dP))) = false
        rw [eqvT, eqvAll_dP, decide_eq_true rfl]; rfl
      refine ite_is z (iteF ?_)
      refine ⟨4, rfl, ⟨by decide, by decide⟩, fun H4 tp4 s4 mt4 => ?_⟩
      refine gd_tup (K := K) (ds := [(0, 1), (1, 0), (1, 1), (1, 2), (1, 3), (2, 1)].map dP) (gx_cons (gd_pair 0 1) (gx_cons (gd_pair 1 0) (gx_cons (gd_pair 1 1) (gx_cons (gd_pair 1 2) (gx_cons (gd_pair 1 3) (gx_cons (gd_pair 2 1) gx_nil)))))) (by decide) H4 (Same.refl H4) _ fun x4 H5 s5 d5 => ?_
      have mt5 := (mt4.same s5).dp (K := K)
      rw [four_pairs] at mt5
      refine ⟨_, _, mt5, d5, shaped_tuple _, shaped_tuple _, _, rfl, ?_⟩
      rw [eqvT, eqvAll_dP, decide_eq_true rfl]
      refine iteF ?_
      -- the told list
      have gpo : ∀ (N : Nat) (c d : Int) (σ : L2.St) (H' : Hp) (p : Nat × Nat), LevelOk N → (-GR < c ∧ c < GR) → (-GR < d ∧ d < GR) → tellI N c d = true → K9M.least N (red N c d) = p → ∀ ta : TA, (∀ (H1 : Hp) (Q : List V → Hp → Prop), Q [.int (N : Int), .int c, .int d] H1 → ta σ H1 Q) →
          Gd K (dP p) (tCall (spPairOf C) [] (fun _ _ _ => False) ta) σ H' := fun N c d σ H' p h1 h2 h3 h4 h5 ta hta H1 s Q q => hta H1 _ ⟨N, c, d, rfl, h1, h2, h3, fun _ H2 a s2 e => q (.ref a) H2 s2 (by rw [h5] at e; exact dp_vp (SqT.of e)), fun z => by rw [h4] at z; cases z⟩
      dsimp only [tNext, tSeq, tAsg]
      refine gd_lst (K := K) (ds := [dP (1, 6), dP (2, 3), dP (2, 5), dP (0, 0), dP (6, 1), .int 180]) ?_ (by decide) H5 (Same.refl H5) _ fun x6 H6 s6 d6 => ?_
      · refine gx_cons (gpo 11 3 7 _ _ _ ⟨by decide, by decide⟩ ⟨by decide, by decide⟩ ⟨by decide, by decide⟩ six.1 six.2.2.2.2.1 _ fun _ _ q => q) ?_
        refine gx_cons (gpo 12 10 3 _ _ _ ⟨by decide, by decide⟩ ⟨by decide, by decide⟩ ⟨by decide, by decide⟩ six.2.1 six.2.2.2.2.2.1 _ fun _ _ q => q) ?_
        refine gx_cons (gpo 12 (-2) 1 _ _ _ ⟨by decide, by decide⟩ ⟨by decide, by decide⟩ ⟨by decide, by decide⟩ six.2.2.1 six.2.2.2.2.2.2.1 _ fun _ _ q => ⟨2, rfl, q⟩) ?_
        refine gx_cons (gpo 1 5 7 _ _ _ ⟨by decide, by decide⟩ ⟨by decide, by decide⟩ ⟨by decide, by decide⟩ six.2.2.2.1 six.2.2.2.2.2.2.2.1 _ fun _ _ q => q) ?_
        refine gx_cons (fun H1 s Q q => ⟨12, 23, (6, 1), rfl, ⟨by decide, by decide⟩, six.2.2.2.2.2.2.2.2.1, fun H2 a s2 e => q (.ref a) H2 s2 (dp_vp (SqT.of e))⟩) ?_
        refine gx_cons (fun H1 s Q q => ⟨100, rfl, ⟨by decide, by decide⟩, by rw [six.2.2.2.2.2.2.2.2.2]; exact q (.int 180) H1 (Same.refl H1) (.int 180)⟩) gx_nil
      -- the answer
      have shA : SeqAt.shaped (.list [dP (1, 6), dP (2, 3), dP (2, 5), dP (0, 0), dP (6, 1), .int 180]) = true := by
        unfold SeqAt.shaped dP; simp [PyData.canLay0, PyData.canLayAll0, PyData.depth, PyData.depthAll]
      refine ⟨_, rfl, ?_⟩
      refine gd_lst (K := K) (ds := [dP (1, 6), dP (2, 3), dP (2, 5), dP (0, 0), dP (6, 1), .int 180]) (gx_cons (gd_pair 1 6) (gx_cons (gd_pair 2 3) (gx_cons (gd_pair 2 5) (gx_cons (gd_pair 0 0) (gx_cons (gd_pair 6 1) (gx_cons (gd_int 180) gx_nil)))))) (by decide) H6 (Same.refl H6) _ fun x7 H7 s7 d7 => ?_
      refine ⟨_, _, dp_same s7 _ _ d6, d7, shA, shA, true, ?_, ?_⟩
      · rw [eqvL, eqvC, eqvC, eqvC, eqvC, eqvC, eqvC, eqvN, eqv_dP, eqv_dP, eqv_dP, eqv_dP, eqv_dP, eqvII]; rfl
      -- the levels
      refine ⟨by show 4 ≤ sizeLine; decide, fun t8 n8 => ?_⟩
      have e8 : (upd H7 t8 (.tup [.int 1, .int 0, .int 101, .bl true])) t8 = some (.tup [.int 1, .int 0, .int 101, .bl true]) := upd_same
      refine ⟨t8, rfl, ⟨_, SqT.of e8⟩, fun D hD => ?_⟩
      refine lc_tup (xs := [.int 1, .int 0, .int 101, .bl true]) (fun i H' => Same (upd H7 t8 (.tup [.int 1, .int 0, .int 101, .bl true])) H' ∧ H' D = some (.lst (([true, false, false, false].take i).map V.bl))) ⟨same_new hD, upd_same⟩ (fun i H' _ p => same_t p.1 (SqT.of e8)) ?_ ?_
      · rintro i x H9 hx ⟨s9, eD⟩
        refine ⟨rfl, ?_⟩
        match i, hx with
        | 0, hx =>
          cases hx
          exact ⟨_, rfl, _, rfl, .inl ⟨1, rfl, _, eD, by decide, same_mut s9 hD, upd_same⟩⟩
        | 1, hx =>
          cases hx
          exact ⟨_, rfl, _, rfl, .inl ⟨0, rfl, _, eD, by decide, same_mut s9 hD, upd_same⟩⟩
        | 2, hx =>
          cases hx
          exact ⟨_, rfl, _, rfl, .inl ⟨101, rfl, _, eD, by decide, same_mut s9 hD, upd_same⟩⟩
        | 3, hx =>
          cases hx
          exact ⟨_, rfl, _, rfl, .inr ⟨"bool", ⟨by decide, .base (.bl true), fun z => absurd z (by decide)⟩, by decide, _, eD, by decide, same_mut s9 hD, upd_same⟩⟩
        | n + 4, hx => simp at hx
      · rintro H9 ⟨s9, eD⟩
        refine ⟨by show 1 ≤ sizeLine; decide, fun l1 nl1 => ⟨by show 1 ≤ sizeLine; decide, fun l2 nl2 => ?_⟩⟩
        refine ⟨l2, 3, _, rfl, rfl, upd_same, by decide, by decide, by decide, fun l3 nl3 => ?_⟩
        have s10 := same_new (o := .lst [.bl true]) nl1
        have s11 := same_new (o := .lst [.bl false]) nl2
        have s12 := same_new (o := .lst (List.replicate (3 : Int).toNat [V.bl false]).flatten) nl3
        refine ⟨l1, l3, _, _, rfl, rfl, s12 _ _ (s11 _ _ upd_same), upd_same, by decide, fun l4 nl4 => ?_⟩
        have s13 := same_new (o := .lst ([V.bl true] ++ (List.replicate (3 : Int).toNat [V.bl false]).flatten)) nl4
        have dd : ∀ H' : Hp, DpAll K H' [.bl true, .bl false, .bl false, .bl false] [.bool true, .bool false, .bool false, .bool false] := fun H' => .cons (.bl _) (.cons (.bl _) (.cons (.bl _) (.cons (.bl _) .nil)))
        have shB : SeqAt.shaped (.list [.bool true, .bool false, .bool false, .bool false]) = true := by
          unfold SeqAt.shaped; simp [PyData.canLay0, PyData.canLayAll0, PyData.depth, PyData.depthAll]
        refine ⟨.list [.bool true, .bool false, .bool false, .bool false], .list [.bool true, .bool false, .bool false, .bool false], .lst (SqL.of (s13 _ _ (s12 _ _ (s11 _ _ (s10 _ _ eD))))) (dd _), .lst (SqL.of upd_same) (dd _), shB, shB, ?_⟩
        have eB : PyData.eqv (.list [.bool true, .bool false, .bool false, .bool false]) (.list [.bool true, .bool false, .bool false, .bool false]) = true := by
          rw [eqvL, eqvC, eqvC, eqvC, eqvC, eqvN]; decide
        rw [eB]
        exact q _
end
end K9

set_option Elab.async false
set_option linter.all false
set_option maxRecDepth 100000
set_option maxHeartbeats 4200000
namespace K9
open PyProof.Rows PySem PySem.Spec L2
theorem stands_mk {K : PySem.W.Frag} {h : Heap} {mg : Str → Option Value} (X : K.In h) (G : h.Ns mainGlobals mg) {x : Str} {st : Stmt} {ps : List Str} {f : Addr}
    {od an : Option Addr} {sl : Array (Option Value)} {oc kV dc pm cd ct : Value} (a : PySem.W.nsIn K mainGlobals x = some (some (.ref f)))
    (l : K.lookup f = some ⟨oc, od, .func (PySem.W.fnOf x x (defArgs st) (defBody st) (defScope st) .none kV dc pm an cd ct), sl⟩) (c : PySem.W.codeIn K cd x = true) (k : PySem.W.keepIn K (.ref f) = true)
    (b : ∀ (kV doc pm : Value) (an : Option Addr) (cdv ct : Value) (us : List Value), us.length = ps.length → bindArgs (PySem.W.fnOf x x (defArgs st) (defBody st) (defScope st) .none kV doc pm an cdv ct) ⟨us, []⟩ = pure (ps.zip us)) : DStands K mg x st ps :=
  ⟨f, _, fun_mk l c k, PySem.W.mg_of X G a, (fun_mk l c k).binds b⟩
theorem exm_self {K : PySem.W.Frag} {S : Addr} (h1 : PySem.W.subIn K (.ref S) (.type "BaseException") = some true) (h2 : PySem.W.isClsIn K S = true) (h3 : PySem.W.typeIn K (.ref S) = some (.type "type")) (h4 : PySem.W.subIn K (.ref S) (.ref S) = some true) :
    PySem.W.exmOne K (.ref S) (.ref S) = some true := by
  have e1 : (PySem.W.subIn K (.ref S) (.type "BaseException") == some true) = true := by rw [h1] <;> rfl
  have e2 : ((PySem.W.clsIn K S).isSome && PySem.W.typeIn K (.ref S) == some (.type "type")) = true := by
    have h2' : (PySem.W.clsIn K S).isSome = true := h2
    rw [h2', h3] <;> rfl
  show (if (PySem.W.subIn K (.ref S) (.type "BaseException") == some true) = true then (if ((PySem.W.clsIn K S).isSome && PySem.W.typeIn K (.ref S) == some (.type "type")) = true then PySem.W.subIn K (.ref S) (.ref S) else none) else none) = some true
  rw [if_pos e1, if_pos e2]
  exact h4
theorem walk_ofL {l : PySem.W.OpenLaw} {mx k : Nat} {q p : Program} {loose : List Str} {lv : List (Str × PySem.W.WData)} {Y : World → Heap → Prop} {d : DefRec} {KK : Params → PySem.W.Frag} {sp : PySem.W.Frag → Sp} {x : Str}
    (most : l.most = some mx) (line : mx ≤ sizeLine) (nodef : d.params.defaults = []) (room : Room k callerA) (inh : ∀ (w : World) (h : Heap), Y w h → (KK w.params).In h)
    (F : ∀ (w : World) (mg : Str → Option Value) (fa : Addr) (h : Heap), (KK w.params).In h → h.Ns mainGlobals mg → mg d.name = some (.ref fa) → PySem.W.LooseAre lv mg h →
      ∃ fd : FuncData, (∀ (s : Shared) (v : Value), BindsTo s fd ⟨[v], []⟩ [(x, v)]) ∧
        ∀ base : Heap, (KK w.params).In base → base.Ns mainGlobals mg → FnOk l.prog w (KK w.params) mg base CX0 k fa fd [x] (sp (KK w.params)))
    (met : ∀ (K : PySem.W.Frag) (H : Hp) (a : Addr) (ns : List Int), ns.length ≤ mx → Only H → SqL K H a (ns.map V.int) → sp K [.ref a] H (fun v _ => v = .bl true) fun _ _ _ => False)
    (calm : ∀ (H : Hp) (s : Shared) (e : Value) (s2 : Shared), CX0 [] H s (fun _ _ _ => False) e s2 → False) :
    PySem.W.WalkO q loose (PySem.W.XL p lv) Y l.row.toRowW d [] (fun f us => PySem.call f us) := by
  refine Att.attach_call most nodef fun w _ s1 mg mb fa o pm cd doc a vs ns G y _ _ _ gd ob ii hlen hgen => ?_
  have inK := inh w _ y
  obtain ⟨fd, binds, ok⟩ := F w mg fa _ inK G.T.g gd G.X.2
  exact law_call inK G.T.g G.T.b G.T.builtins G.T.nolimit hgen ob ii (Nat.le_trans hlen line) room ok binds (fun H hO hS => met (KK w.params) H a ns hlen hO hS) fun H e s2 => calm H s1 e s2
theorem all_mk {P : Program} {w : World} {K : PySem.W.Frag} {h : Heap} {mg : Str → Option Value} {fa C : Addr} {tM : Tok} (X : K.In h) (G : h.Ns mainGlobals mg) (hfa : mg "law" = some (.ref fa)) (LA : PySem.W.LooseAre [("GREAT", PySem.W.WData.int GR)] mg h)
    {f1 : Addr} {od1 an1 : Option Addr} {sl1 : Array (Option Value)} {oc1 kV1 dc1 pm1 cd1 ct1 : Value}
    (a1 : PySem.W.nsIn K mainGlobals "is_whole" = some (some (.ref f1))) (l1 : K.lookup f1 = some ⟨oc1, od1, .func (PySem.W.fnOf "is_whole" "is_whole" (defArgs s_is_whole) (defBody s_is_whole) (defScope s_is_whole) .none kV1 dc1 pm1 an1 cd1 ct1), sl1⟩) (c1 : PySem.W.codeIn K cd1 "is_whole" = true) (k1 : PySem.W.keepIn K (.ref f1) = true)
    {f2 : Addr} {od2 an2 : Option Addr} {sl2 : Array (Option Value)} {oc2 kV2 dc2 pm2 cd2 ct2 : Value}
    (a2 : PySem.W.nsIn K mainGlobals "is_integer" = some (some (.ref f2))) (l2 : K.lookup f2 = some ⟨oc2, od2, .func (PySem.W.fnOf "is_integer" "is_integer" (defArgs s_is_integer) (defBody s_is_integer) (defScope s_is_integer) .none kV2 dc2 pm2 an2 cd2 ct2), sl2⟩) (c2 : PySem.W.codeIn K cd2 "is_integer" = true) (k2 : PySem.W.keepIn K (.ref f2) = true)
    {f3 : Addr} {od3 an3 : Option Addr} {sl3 : Array (Option Value)} {oc3 kV3 dc3 pm3 cd3 ct3 : Value}
    (a3 : PySem.W.nsIn K mainGlobals "is_level" = some (some (.ref f3))) (l3 : K.lookup f3 = some ⟨oc3, od3, .func (PySem.W.fnOf "is_level" "is_level" (defArgs s_is_level) (defBody s_is_level) (defScope s_is_level) .none kV3 dc3 pm3 an3 cd3 ct3), sl3⟩) (c3 : PySem.W.codeIn K cd3 "is_level" = true) (k3 : PySem.W.keepIn K (.ref f3) = true)
    {f4 : Addr} {od4 an4 : Option Addr} {sl4 : Array (Option Value)} {oc4 kV4 dc4 pm4 cd4 ct4 : Value}
    (a4 : PySem.W.nsIn K mainGlobals "common_of" = some (some (.ref f4))) (l4 : K.lookup f4 = some ⟨oc4, od4, .func (PySem.W.fnOf "common_of" "common_of" (defArgs s_common_of) (defBody s_common_of) (defScope s_common_of) .none kV4 dc4 pm4 an4 cd4 ct4), sl4⟩) (c4 : PySem.W.codeIn K cd4 "common_of" = true) (k4 : PySem.W.keepIn K (.ref f4) = true)
    {f5 : Addr} {od5 an5 : Option Addr} {sl5 : Array (Option Value)} {oc5 kV5 dc5 pm5 cd5 ct5 : Value}
    (a5 : PySem.W.nsIn K mainGlobals "require_level" = some (some (.ref f5))) (l5 : K.lookup f5 = some ⟨oc5, od5, .func (PySem.W.fnOf "require_level" "require_level" (defArgs s_require_level) (defBody s_require_level) (defScope s_require_level) .none kV5 dc5 pm5 an5 cd5 ct5), sl5⟩) (c5 : PySem.W.codeIn K cd5 "require_level" = true) (k5 : PySem.W.keepIn K (.ref f5) = true)
    {f6 : Addr} {od6 an6 : Option Addr} {sl6 : Array (Option Value)} {oc6 kV6 dc6 pm6 cd6 ct6 : Value}
    (a6 : PySem.W.nsIn K mainGlobals "require_integers" = some (some (.ref f6))) (l6 : K.lookup f6 = some ⟨oc6, od6, .func (PySem.W.fnOf "require_integers" "require_integers" (defArgs s_require_integers) (defBody s_require_integers) (defScope s_require_integers) .none kV6 dc6 pm6 an6 cd6 ct6), sl6⟩) (c6 : PySem.W.codeIn K cd6 "require_integers" = true) (k6 : PySem.W.keepIn K (.ref f6) = true)
    {f7 : Addr} {od7 an7 : Option Addr} {sl7 : Array (Option Value)} {oc7 kV7 dc7 pm7 cd7 ct7 : Value}
    (a7 : PySem.W.nsIn K mainGlobals "units_modulo" = some (some (.ref f7))) (l7 : K.lookup f7 = some ⟨oc7, od7, .func (PySem.W.fnOf "units_modulo" "units_modulo" (defArgs s_units_modulo) (defBody s_units_modulo) (defScope s_units_modulo) .none kV7 dc7 pm7 an7 cd7 ct7), sl7⟩) (c7 : PySem.W.codeIn K cd7 "units_modulo" = true) (k7 : PySem.W.keepIn K (.ref f7) = true)
    {f8 : Addr} {od8 an8 : Option Addr} {sl8 : Array (Option Value)} {oc8 kV8 dc8 pm8 cd8 ct8 : Value}
    (a8 : PySem.W.nsIn K mainGlobals "do_tell" = some (some (.ref f8))) (l8 : K.lookup f8 = some ⟨oc8, od8, .func (PySem.W.fnOf "do_tell" "do_tell" (defArgs s_do_tell) (defBody s_do_tell) (defScope s_do_tell) .none kV8 dc8 pm8 an8 cd8 ct8), sl8⟩) (c8 : PySem.W.codeIn K cd8 "do_tell" = true) (k8 : PySem.W.keepIn K (.ref f8) = true)
    {f9 : Addr} {od9 an9 : Option Addr} {sl9 : Array (Option Value)} {oc9 kV9 dc9 pm9 cd9 ct9 : Value}
    (a9 : PySem.W.nsIn K mainGlobals "least_pair" = some (some (.ref f9))) (l9 : K.lookup f9 = some ⟨oc9, od9, .func (PySem.W.fnOf "least_pair" "least_pair" (defArgs s_least_pair) (defBody s_least_pair) (defScope s_least_pair) .none kV9 dc9 pm9 an9 cd9 ct9), sl9⟩) (c9 : PySem.W.codeIn K cd9 "least_pair" = true) (k9 : PySem.W.keepIn K (.ref f9) = true)
    {f10 : Addr} {od10 an10 : Option Addr} {sl10 : Array (Option Value)} {oc10 kV10 dc10 pm10 cd10 ct10 : Value}
    (a10 : PySem.W.nsIn K mainGlobals "first_entries" = some (some (.ref f10))) (l10 : K.lookup f10 = some ⟨oc10, od10, .func (PySem.W.fnOf "first_entries" "first_entries" (defArgs s_first_entries) (defBody s_first_entries) (defScope s_first_entries) .none kV10 dc10 pm10 an10 cd10 ct10), sl10⟩) (c10 : PySem.W.codeIn K cd10 "first_entries" = true) (k10 : PySem.W.keepIn K (.ref f10) = true)
    {f11 : Addr} {od11 an11 : Option Addr} {sl11 : Array (Option Value)} {oc11 kV11 dc11 pm11 cd11 ct11 : Value}
    (a11 : PySem.W.nsIn K mainGlobals "pairs_with" = some (some (.ref f11))) (l11 : K.lookup f11 = some ⟨oc11, od11, .func (PySem.W.fnOf "pairs_with" "pairs_with" (defArgs s_pairs_with) (defBody s_pairs_with) (defScope s_pairs_with) .none kV11 dc11 pm11 an11 cd11 ct11), sl11⟩) (c11 : PySem.W.codeIn K cd11 "pairs_with" = true) (k11 : PySem.W.keepIn K (.ref f11) = true)
    {f12 : Addr} {od12 an12 : Option Addr} {sl12 : Array (Option Value)} {oc12 kV12 dc12 pm12 cd12 ct12 : Value}
    (a12 : PySem.W.nsIn K mainGlobals "all_pairs" = some (some (.ref f12))) (l12 : K.lookup f12 = some ⟨oc12, od12, .func (PySem.W.fnOf "all_pairs" "all_pairs" (defArgs s_all_pairs) (defBody s_all_pairs) (defScope s_all_pairs) .none kV12 dc12 pm12 an12 cd12 ct12), sl12⟩) (c12 : PySem.W.codeIn K cd12 "all_pairs" = true) (k12 : PySem.W.keepIn K (.ref f12) = true)
    {f13 : Addr} {od13 an13 : Option Addr} {sl13 : Array (Option Value)} {oc13 kV13 dc13 pm13 cd13 ct13 : Value}
    (a13 : PySem.W.nsIn K mainGlobals "pairs" = some (some (.ref f13))) (l13 : K.lookup f13 = some ⟨oc13, od13, .func (PySem.W.fnOf "pairs" "pairs" (defArgs s_pairs) (defBody s_pairs) (defScope s_pairs) .none kV13 dc13 pm13 an13 cd13 ct13), sl13⟩) (c13 : PySem.W.codeIn K cd13 "pairs" = true) (k13 : PySem.W.keepIn K (.ref f13) = true)
    {f14 : Addr} {od14 an14 : Option Addr} {sl14 : Array (Option Value)} {oc14 kV14 dc14 pm14 cd14 ct14 : Value}
    (a14 : PySem.W.nsIn K mainGlobals "index_of_level" = some (some (.ref f14))) (l14 : K.lookup f14 = some ⟨oc14, od14, .func (PySem.W.fnOf "index_of_level" "index_of_level" (defArgs s_index_of_level) (defBody s_index_of_level) (defScope s_index_of_level) .none kV14 dc14 pm14 an14 cd14 ct14), sl14⟩) (c14 : PySem.W.codeIn K cd14 "index_of_level" = true) (k14 : PySem.W.keepIn K (.ref f14) = true)
    {f15 : Addr} {od15 an15 : Option Addr} {sl15 : Array (Option Value)} {oc15 kV15 dc15 pm15 cd15 ct15 : Value}
    (a15 : PySem.W.nsIn K mainGlobals "count_pairs" = some (some (.ref f15))) (l15 : K.lookup f15 = some ⟨oc15, od15, .func (PySem.W.fnOf "count_pairs" "count_pairs" (defArgs s_count_pairs) (defBody s_count_pairs) (defScope s_count_pairs) .none kV15 dc15 pm15 an15 cd15 ct15), sl15⟩) (c15 : PySem.W.codeIn K cd15 "count_pairs" = true) (k15 : PySem.W.keepIn K (.ref f15) = true)
    {f16 : Addr} {od16 an16 : Option Addr} {sl16 : Array (Option Value)} {oc16 kV16 dc16 pm16 cd16 ct16 : Value}
    (a16 : PySem.W.nsIn K mainGlobals "is_residue_at" = some (some (.ref f16))) (l16 : K.lookup f16 = some ⟨oc16, od16, .func (PySem.W.fnOf "is_residue_at" "is_residue_at" (defArgs s_is_residue_at) (defBody s_is_residue_at) (defScope s_is_residue_at) .none kV16 dc16 pm16 an16 cd16 ct16), sl16⟩) (c16 : PySem.W.codeIn K cd16 "is_residue_at" = true) (k16 : PySem.W.keepIn K (.ref f16) = true)
    {f17 : Addr} {od17 an17 : Option Addr} {sl17 : Array (Option Value)} {oc17 kV17 dc17 pm17 cd17 ct17 : Value}
    (a17 : PySem.W.nsIn K mainGlobals "is_pair_of" = some (some (.ref f17))) (l17 : K.lookup f17 = some ⟨oc17, od17, .func (PySem.W.fnOf "is_pair_of" "is_pair_of" (defArgs s_is_pair_of) (defBody s_is_pair_of) (defScope s_is_pair_of) .none kV17 dc17 pm17 an17 cd17 ct17), sl17⟩) (c17 : PySem.W.codeIn K cd17 "is_pair_of" = true) (k17 : PySem.W.keepIn K (.ref f17) = true)
    {f18 : Addr} {od18 an18 : Option Addr} {sl18 : Array (Option Value)} {oc18 kV18 dc18 pm18 cd18 ct18 : Value}
    (a18 : PySem.W.nsIn K mainGlobals "is_pair" = some (some (.ref f18))) (l18 : K.lookup f18 = some ⟨oc18, od18, .func (PySem.W.fnOf "is_pair" "is_pair" (defArgs s_is_pair) (defBody s_is_pair) (defScope s_is_pair) .none kV18 dc18 pm18 an18 cd18 ct18), sl18⟩) (c18 : PySem.W.codeIn K cd18 "is_pair" = true) (k18 : PySem.W.keepIn K (.ref f18) = true)
    {f19 : Addr} {od19 an19 : Option Addr} {sl19 : Array (Option Value)} {oc19 kV19 dc19 pm19 cd19 ct19 : Value}
    (a19 : PySem.W.nsIn K mainGlobals "require_pair" = some (some (.ref f19))) (l19 : K.lookup f19 = some ⟨oc19, od19, .func (PySem.W.fnOf "require_pair" "require_pair" (defArgs s_require_pair) (defBody s_require_pair) (defScope s_require_pair) .none kV19 dc19 pm19 an19 cd19 ct19), sl19⟩) (c19 : PySem.W.codeIn K cd19 "require_pair" = true) (k19 : PySem.W.keepIn K (.ref f19) = true)
    {f20 : Addr} {od20 an20 : Option Addr} {sl20 : Array (Option Value)} {oc20 kV20 dc20 pm20 cd20 ct20 : Value}
    (a20 : PySem.W.nsIn K mainGlobals "pair_of" = some (some (.ref f20))) (l20 : K.lookup f20 = some ⟨oc20, od20, .func (PySem.W.fnOf "pair_of" "pair_of" (defArgs s_pair_of) (defBody s_pair_of) (defScope s_pair_of) .none kV20 dc20 pm20 an20 cd20 ct20), sl20⟩) (c20 : PySem.W.codeIn K cd20 "pair_of" = true) (k20 : PySem.W.keepIn K (.ref f20) = true)
    {f21 : Addr} {od21 an21 : Option Addr} {sl21 : Array (Option Value)} {oc21 kV21 dc21 pm21 cd21 ct21 : Value}
    (a21 : PySem.W.nsIn K mainGlobals "pair_number" = some (some (.ref f21))) (l21 : K.lookup f21 = some ⟨oc21, od21, .func (PySem.W.fnOf "pair_number" "pair_number" (defArgs s_pair_number) (defBody s_pair_number) (defScope s_pair_number) .none kV21 dc21 pm21 an21 cd21 ct21), sl21⟩) (c21 : PySem.W.codeIn K cd21 "pair_number" = true) (k21 : PySem.W.keepIn K (.ref f21) = true)
    {f22 : Addr} {od22 an22 : Option Addr} {sl22 : Array (Option Value)} {oc22 kV22 dc22 pm22 cd22 ct22 : Value}
    (a22 : PySem.W.nsIn K mainGlobals "pair_at" = some (some (.ref f22))) (l22 : K.lookup f22 = some ⟨oc22, od22, .func (PySem.W.fnOf "pair_at" "pair_at" (defArgs s_pair_at) (defBody s_pair_at) (defScope s_pair_at) .none kV22 dc22 pm22 an22 cd22 ct22), sl22⟩) (c22 : PySem.W.codeIn K cd22 "pair_at" = true) (k22 : PySem.W.keepIn K (.ref f22) = true)
    {f23 : Addr} {od23 an23 : Option Addr} {sl23 : Array (Option Value)} {oc23 kV23 dc23 pm23 cd23 ct23 : Value}
    (a23 : PySem.W.nsIn K mainGlobals "_law_dice" = some (some (.ref f23))) (l23 : K.lookup f23 = some ⟨oc23, od23, .func (PySem.W.fnOf "_law_dice" "_law_dice" (defArgs s_law_dice) (defBody s_law_dice) (defScope s_law_dice) .none kV23 dc23 pm23 an23 cd23 ct23), sl23⟩) (c23 : PySem.W.codeIn K cd23 "_law_dice" = true) (k23 : PySem.W.keepIn K (.ref f23) = true)
    {f24 : Addr} {od24 an24 : Option Addr} {sl24 : Array (Option Value)} {oc24 kV24 dc24 pm24 cd24 ct24 : Value}
    (a24 : PySem.W.nsIn K mainGlobals "_law_roll" = some (some (.ref f24))) (l24 : K.lookup f24 = some ⟨oc24, od24, .func (PySem.W.fnOf "_law_roll" "_law_roll" (defArgs s_law_roll) (defBody s_law_roll) (defScope s_law_roll) .none kV24 dc24 pm24 an24 cd24 ct24), sl24⟩) (c24 : PySem.W.codeIn K cd24 "_law_roll" = true) (k24 : PySem.W.keepIn K (.ref f24) = true)
    {f25 : Addr} {od25 an25 : Option Addr} {sl25 : Array (Option Value)} {oc25 kV25 dc25 pm25 cd25 ct25 : Value}
    (a25 : PySem.W.nsIn K mainGlobals "_law_pick" = some (some (.ref f25))) (l25 : K.lookup f25 = some ⟨oc25, od25, .func (PySem.W.fnOf "_law_pick" "_law_pick" (defArgs s_law_pick) (defBody s_law_pick) (defScope s_law_pick) .none kV25 dc25 pm25 an25 cd25 ct25), sl25⟩) (c25 : PySem.W.codeIn K cd25 "_law_pick" = true) (k25 : PySem.W.keepIn K (.ref f25) = true)
    {f26 : Addr} {od26 an26 : Option Addr} {sl26 : Array (Option Value)} {oc26 kV26 dc26 pm26 cd26 ct26 : Value}
    (a26 : PySem.W.nsIn K mainGlobals "_law_gcd" = some (some (.ref f26))) (l26 : K.lookup f26 = some ⟨oc26, od26, .func (PySem.W.fnOf "_law_gcd" "_law_gcd" (defArgs s_law_gcd) (defBody s_law_gcd) (defScope s_law_gcd) .none kV26 dc26 pm26 an26 cd26 ct26), sl26⟩) (c26 : PySem.W.codeIn K cd26 "_law_gcd" = true) (k26 : PySem.W.keepIn K (.ref f26) = true)
    {f27 : Addr} {od27 an27 : Option Addr} {sl27 : Array (Option Value)} {oc27 kV27 dc27 pm27 cd27 ct27 : Value}
    (a27 : PySem.W.nsIn K mainGlobals "_law_divisors" = some (some (.ref f27))) (l27 : K.lookup f27 = some ⟨oc27, od27, .func (PySem.W.fnOf "_law_divisors" "_law_divisors" (defArgs s_law_divisors) (defBody s_law_divisors) (defScope s_law_divisors) .none kV27 dc27 pm27 an27 cd27 ct27), sl27⟩) (c27 : PySem.W.codeIn K cd27 "_law_divisors" = true) (k27 : PySem.W.keepIn K (.ref f27) = true)
    {f28 : Addr} {od28 an28 : Option Addr} {sl28 : Array (Option Value)} {oc28 kV28 dc28 pm28 cd28 ct28 : Value}
    (a28 : PySem.W.nsIn K mainGlobals "_law_level_drawn" = some (some (.ref f28))) (l28 : K.lookup f28 = some ⟨oc28, od28, .func (PySem.W.fnOf "_law_level_drawn" "_law_level_drawn" (defArgs s_law_level_drawn) (defBody s_law_level_drawn) (defScope s_law_level_drawn) .none kV28 dc28 pm28 an28 cd28 ct28), sl28⟩) (c28 : PySem.W.codeIn K cd28 "_law_level_drawn" = true) (k28 : PySem.W.keepIn K (.ref f28) = true)
    {f29 : Addr} {od29 an29 : Option Addr} {sl29 : Array (Option Value)} {oc29 kV29 dc29 pm29 cd29 ct29 : Value}
    (a29 : PySem.W.nsIn K mainGlobals "_law_told_pairs" = some (some (.ref f29))) (l29 : K.lookup f29 = some ⟨oc29, od29, .func (PySem.W.fnOf "_law_told_pairs" "_law_told_pairs" (defArgs s_law_told_pairs) (defBody s_law_told_pairs) (defScope s_law_told_pairs) .none kV29 dc29 pm29 an29 cd29 ct29), sl29⟩) (c29 : PySem.W.codeIn K cd29 "_law_told_pairs" = true) (k29 : PySem.W.keepIn K (.ref f29) = true)
    {f30 : Addr} {od30 an30 : Option Addr} {sl30 : Array (Option Value)} {oc30 kV30 dc30 pm30 cd30 ct30 : Value}
    (a30 : PySem.W.nsIn K mainGlobals "_law_index" = some (some (.ref f30))) (l30 : K.lookup f30 = some ⟨oc30, od30, .func (PySem.W.fnOf "_law_index" "_law_index" (defArgs s_law_index) (defBody s_law_index) (defScope s_law_index) .none kV30 dc30 pm30 an30 cd30 ct30), sl30⟩) (c30 : PySem.W.codeIn K cd30 "_law_index" = true) (k30 : PySem.W.keepIn K (.ref f30) = true)
    {f31 : Addr} {od31 an31 : Option Addr} {sl31 : Array (Option Value)} {oc31 kV31 dc31 pm31 cd31 ct31 : Value}
    (a31 : PySem.W.nsIn K mainGlobals "_law_pairs_met" = some (some (.ref f31))) (l31 : K.lookup f31 = some ⟨oc31, od31, .func (PySem.W.fnOf "_law_pairs_met" "_law_pairs_met" (defArgs s_law_pairs_met) (defBody s_law_pairs_met) (defScope s_law_pairs_met) .none kV31 dc31 pm31 an31 cd31 ct31), sl31⟩) (c31 : PySem.W.codeIn K cd31 "_law_pairs_met" = true) (k31 : PySem.W.keepIn K (.ref f31) = true)
    {f32 : Addr} {od32 an32 : Option Addr} {sl32 : Array (Option Value)} {oc32 kV32 dc32 pm32 cd32 ct32 : Value}
    (a32 : PySem.W.nsIn K mainGlobals "_law_pair_near" = some (some (.ref f32))) (l32 : K.lookup f32 = some ⟨oc32, od32, .func (PySem.W.fnOf "_law_pair_near" "_law_pair_near" (defArgs s_law_pair_near) (defBody s_law_pair_near) (defScope s_law_pair_near) .none kV32 dc32 pm32 an32 cd32 ct32), sl32⟩) (c32 : PySem.W.codeIn K cd32 "_law_pair_near" = true) (k32 : PySem.W.keepIn K (.ref f32) = true)
    {f33 : Addr} {od33 an33 : Option Addr} {sl33 : Array (Option Value)} {oc33 kV33 dc33 pm33 cd33 ct33 : Value}
    (a33 : PySem.W.nsIn K mainGlobals "_law_told_word" = some (some (.ref f33))) (l33 : K.lookup f33 = some ⟨oc33, od33, .func (PySem.W.fnOf "_law_told_word" "_law_told_word" (defArgs s_law_told_word) (defBody s_law_told_word) (defScope s_law_told_word) .none kV33 dc33 pm33 an33 cd33 ct33), sl33⟩) (c33 : PySem.W.codeIn K cd33 "_law_told_word" = true) (k33 : PySem.W.keepIn K (.ref f33) = true)
    {f34 : Addr} {od34 an34 : Option Addr} {sl34 : Array (Option Value)} {oc34 kV34 dc34 pm34 cd34 ct34 : Value}
    (a34 : PySem.W.nsIn K mainGlobals "_law_are_judged" = some (some (.ref f34))) (l34 : K.lookup f34 = some ⟨oc34, od34, .func (PySem.W.fnOf "_law_are_judged" "_law_are_judged" (defArgs s_law_are_judged) (defBody s_law_are_judged) (defScope s_law_are_judged) .none kV34 dc34 pm34 an34 cd34 ct34), sl34⟩) (c34 : PySem.W.codeIn K cd34 "_law_are_judged" = true) (k34 : PySem.W.keepIn K (.ref f34) = true)
    {f35 : Addr} {od35 an35 : Option Addr} {sl35 : Array (Option Value)} {oc35 kV35 dc35 pm35 cd35 ct35 : Value}
    (a35 : PySem.W.nsIn K mainGlobals "_law_right" = some (some (.ref f35))) (l35 : K.lookup f35 = some ⟨oc35, od35, .func (PySem.W.fnOf "_law_right" "_law_right" (defArgs s_law_right) (defBody s_law_right) (defScope s_law_right) .none kV35 dc35 pm35 an35 cd35 ct35), sl35⟩) (c35 : PySem.W.codeIn K cd35 "_law_right" = true) (k35 : PySem.W.keepIn K (.ref f35) = true)
    {f36 : Addr} {od36 an36 : Option Addr} {sl36 : Array (Option Value)} {oc36 kV36 dc36 pm36 cd36 ct36 : Value}
    (a36 : PySem.W.nsIn K mainGlobals "_law_great_right" = some (some (.ref f36))) (l36 : K.lookup f36 = some ⟨oc36, od36, .func (PySem.W.fnOf "_law_great_right" "_law_great_right" (defArgs s_law_great_right) (defBody s_law_great_right) (defScope s_law_great_right) .none kV36 dc36 pm36 an36 cd36 ct36), sl36⟩) (c36 : PySem.W.codeIn K cd36 "_law_great_right" = true) (k36 : PySem.W.keepIn K (.ref f36) = true)
    {f37 : Addr} {od37 an37 : Option Addr} {sl37 : Array (Option Value)} {oc37 kV37 dc37 pm37 cd37 ct37 : Value}
    (a37 : PySem.W.nsIn K mainGlobals "law" = some (some (.ref f37))) (l37 : K.lookup f37 = some ⟨oc37, od37, .func (PySem.W.fnOf "law" "law" (defArgs s_law) (defBody s_law) (defScope s_law) .none kV37 dc37 pm37 an37 cd37 ct37), sl37⟩) (c37 : PySem.W.codeIn K cd37 "law" = true) (k37 : PySem.W.keepIn K (.ref f37) = true)
    (z_range : PySem.W.nsIn K mainGlobals "range" = some none)
    (z_abs : PySem.W.nsIn K mainGlobals "abs" = some none)
    (z_isinstance : PySem.W.nsIn K mainGlobals "isinstance" = some none)
    (z_int : PySem.W.nsIn K mainGlobals "int" = some none)
    (z_bool : PySem.W.nsIn K mainGlobals "bool" = some none)
    (z_str : PySem.W.nsIn K mainGlobals "str" = some none)
    (z_min : PySem.W.nsIn K mainGlobals "min" = some none)
    (z_max : PySem.W.nsIn K mainGlobals "max" = some none)
    (z_len : PySem.W.nsIn K mainGlobals "len" = some none)
    (z_tuple : PySem.W.nsIn K mainGlobals "tuple" = some none)
    (z_list : PySem.W.nsIn K mainGlobals "list" = some none)
    (z_set : PySem.W.nsIn K mainGlobals "set" = some none)
    (z_sorted : PySem.W.nsIn K mainGlobals "sorted" = some none)
    (z_repr : PySem.W.nsIn K mainGlobals "repr" = some none)
    (m1 : PySem.W.nsIn K mainGlobals "MAX_LEVEL" = some (some (.int 100 tM)))
    (aC : PySem.W.nsIn K mainGlobals "InvalidOperation" = some (some (.ref C))) (xC : PySem.W.excIn K C [.type "ValueError", .type "Exception", .type "BaseException", .type "object"] "ValueError.__new__" = true) (kC : PySem.W.keepIn K (.ref C) = true) (eC : PySem.W.subIn K (.ref C) (.type "BaseException") = some true) (tC : PySem.W.typeIn K (.ref C) = some (.type "type")) (iC : PySem.W.isClsIn K C = true) (sC : PySem.W.subIn K (.ref C) (.ref C) = some true) :
    ∃ fd : FuncData, (∀ (s : Shared) (v : Value), BindsTo s fd ⟨[v], []⟩ [("_law_script", v)]) ∧ ∀ base : Heap, K.In base → base.Ns mainGlobals mg → FnOk P w K mg base CX0 8 fa fd ["_law_script"] (spLaw K) := by
  obtain ⟨gv, g1, g2⟩ := LA.val _ (List.mem_singleton.mpr rfl)
  obtain ⟨tG, rfl, -⟩ := PySem.W.readsW_int_inv g2
  have T : Txt K mg tG tM := {
    d_is_whole := stands_mk X G a1 l1 c1 k1 fun _ _ _ _ _ _ us hl => match us, hl with | [_], _ => rfl
    d_is_integer := stands_mk X G a2 l2 c2 k2 fun _ _ _ _ _ _ us hl => match us, hl with | [_], _ => rfl
    d_is_level := stands_mk X G a3 l3 c3 k3 fun _ _ _ _ _ _ us hl => match us, hl with | [_], _ => rfl
    d_common_of := stands_mk X G a4 l4 c4 k4 fun _ _ _ _ _ _ us hl => match us, hl with | [_, _], _ => rfl
    d_require_level := stands_mk X G a5 l5 c5 k5 fun _ _ _ _ _ _ us hl => match us, hl with | [_], _ => rfl
    d_require_integers := stands_mk X G a6 l6 c6 k6 fun _ _ _ _ _ _ us hl => match us, hl with | [_], _ => rfl
    d_units_modulo := stands_mk X G a7 l7 c7 k7 fun _ _ _ _ _ _ us hl => match us, hl with | [_], _ => rfl
    d_do_tell := stands_mk X G a8 l8 c8 k8 fun _ _ _ _ _ _ us hl => match us, hl with | [_, _, _], _ => rfl
    d_least_pair := stands_mk X G a9 l9 c9 k9 fun _ _ _ _ _ _ us hl => match us, hl with | [_, _, _], _ => rfl
    d_first_entries := stands_mk X G a10 l10 c10 k10 fun _ _ _ _ _ _ us hl => match us, hl with | [_], _ => rfl
    d_pairs_with := stands_mk X G a11 l11 c11 k11 fun _ _ _ _ _ _ us hl => match us, hl with | [_, _], _ => rfl
    d_all_pairs := stands_mk X G a12 l12 c12 k12 fun _ _ _ _ _ _ us hl => match us, hl with | [_], _ => rfl
    d_pairs := stands_mk X G a13 l13 c13 k13 fun _ _ _ _ _ _ us hl => match us, hl with | [_], _ => rfl
    d_index_of_level := stands_mk X G a14 l14 c14 k14 fun _ _ _ _ _ _ us hl => match us, hl with | [_], _ => rfl
    d_count_pairs := stands_mk X G a15 l15 c15 k15 fun _ _ _ _ _ _ us hl => match us, hl with | [_], _ => rfl
    d_is_residue_at := stands_mk X G a16 l16 c16 k16 fun _ _ _ _ _ _ us hl => match us, hl with | [_, _], _ => rfl
    d_is_pair_of := stands_mk X G a17 l17 c17 k17 fun _ _ _ _ _ _ us hl => match us, hl with | [_, _], _ => rfl
    d_is_pair := stands_mk X G a18 l18 c18 k18 fun _ _ _ _ _ _ us hl => match us, hl with | [_, _], _ => rfl
    d_require_pair := stands_mk X G a19 l19 c19 k19 fun _ _ _ _ _ _ us hl => match us, hl with | [_, _], _ => rfl
    d_pair_of := stands_mk X G a20 l20 c20 k20 fun _ _ _ _ _ _ us hl => match us, hl with | [_, _, _], _ => rfl
    d_pair_number := stands_mk X G a21 l21 c21 k21 fun _ _ _ _ _ _ us hl => match us, hl with | [_, _], _ => rfl
    d_pair_at := stands_mk X G a22 l22 c22 k22 fun _ _ _ _ _ _ us hl => match us, hl with | [_, _], _ => rfl
    d_law_dice := stands_mk X G a23 l23 c23 k23 fun _ _ _ _ _ _ us hl => match us, hl with | [_, _], _ => rfl
    d_law_roll := stands_mk X G a24 l24 c24 k24 fun _ _ _ _ _ _ us hl => match us, hl with | [_, _], _ => rfl
    d_law_pick := stands_mk X G a25 l25 c25 k25 fun _ _ _ _ _ _ us hl => match us, hl with | [_, _], _ => rfl
    d_law_gcd := stands_mk X G a26 l26 c26 k26 fun _ _ _ _ _ _ us hl => match us, hl with | [_, _], _ => rfl
    d_law_divisors := stands_mk X G a27 l27 c27 k27 fun _ _ _ _ _ _ us hl => match us, hl with | [_], _ => rfl
    d_law_level_drawn := stands_mk X G a28 l28 c28 k28 fun _ _ _ _ _ _ us hl => match us, hl with | [_, _], _ => rfl
    d_law_told_pairs := stands_mk X G a29 l29 c29 k29 fun _ _ _ _ _ _ us hl => match us, hl with | [_], _ => rfl
    d_law_index := stands_mk X G a30 l30 c30 k30 fun _ _ _ _ _ _ us hl => match us, hl with | [_], _ => rfl
    d_law_pairs_met := stands_mk X G a31 l31 c31 k31 fun _ _ _ _ _ _ us hl => match us, hl with | [_], _ => rfl
    d_law_pair_near := stands_mk X G a32 l32 c32 k32 fun _ _ _ _ _ _ us hl => match us, hl with | [_, _, _], _ => rfl
    d_law_told_word := stands_mk X G a33 l33 c33 k33 fun _ _ _ _ _ _ us hl => match us, hl with | [_, _, _], _ => rfl
    d_law_are_judged := stands_mk X G a34 l34 c34 k34 fun _ _ _ _ _ _ us hl => match us, hl with | [_, _, _], _ => rfl
    d_law_right := stands_mk X G a35 l35 c35 k35 fun _ _ _ _ _ _ us hl => match us, hl with | [_], _ => rfl
    d_law_great_right := stands_mk X G a36 l36 c36 k36 fun _ _ _ _ _ _ us hl => match us, hl with | [_], _ => rfl
    d_law := stands_mk X G a37 l37 c37 k37 fun _ _ _ _ _ _ us hl => match us, hl with | [_], _ => rfl
    n_range := PySem.W.mg_none_of X G z_range
    n_abs := PySem.W.mg_none_of X G z_abs
    n_isinstance := PySem.W.mg_none_of X G z_isinstance
    n_int := PySem.W.mg_none_of X G z_int
    n_bool := PySem.W.mg_none_of X G z_bool
    n_str := PySem.W.mg_none_of X G z_str
    n_min := PySem.W.mg_none_of X G z_min
    n_max := PySem.W.mg_none_of X G z_max
    n_len := PySem.W.mg_none_of X G z_len
    n_tuple := PySem.W.mg_none_of X G z_tuple
    n_list := PySem.W.mg_none_of X G z_list
    n_set := PySem.W.mg_none_of X G z_set
    n_sorted := PySem.W.mg_none_of X G z_sorted
    n_repr := PySem.W.mg_none_of X G z_repr
    g_GREAT := g1
    g_MAX_LEVEL := PySem.W.mg_of X G m1 }
  have TX : TxtX K mg C := ⟨PySem.W.mg_of X G aC, xC, kC, eC, tC, exm_self eC iC tC sC⟩
  have e := hfa.symm.trans (PySem.W.mg_of X G a37)
  cases e
  have Fn := fun_mk (st := s_law) l37 c37 k37
  exact ⟨_, fun s v => .of_eq rfl, fun base _ _ => ok_law T TX Fn⟩
end K9
open PyProof.Rows PySem PySem.W
set_option maxHeartbeats 0 in
theorem PySem.Challenge.cw_levelroads_k09_whole_pairs_told_holds : PySem.Challenge.rw_levelroads_k09_whole_pairs_told.Holds := by
  w_on; o_law; k_head; (case hw => w_witness2)
  k_fill
  refine K9.walk_ofL (l := PySem.Challenge.rw_levelroads_k09_whole_pairs_told) (mx := 63) (k := 8) (x := "_law_script") (sp := K9.spLaw) rfl (by decide) rfl ⟨rfl, by decide, by decide⟩ (fun w h Y => PySem.W.kIn_of Y) ?F (fun _ _ a ns hl _ hS => ⟨a, ns, rfl, hS, hl, fun _ => rfl⟩) (fun _ _ _ _ h => h)
  case F =>
    intro w mg fa h KX G hmg LA
    refine' K9.all_mk KX G hmg LA ?a1 ?l1 ?c1 ?k1 ?a2 ?l2 ?c2 ?k2 ?a3 ?l3 ?c3 ?k3 ?a4 ?l4 ?c4 ?k4 ?a5 ?l5 ?c5 ?k5 ?a6 ?l6 ?c6 ?k6 ?a7 ?l7 ?c7 ?k7 ?a8 ?l8 ?c8 ?k8 ?a9 ?l9 ?c9 ?k9 ?a10 ?l10 ?c10 ?k10 ?a11 ?l11 ?c11 ?k11 ?a12 ?l12 ?c12 ?k12 ?a13 ?l13 ?c13 ?k13 ?a14 ?l14 ?c14 ?k14 ?a15 ?l15 ?c15 ?k15 ?a16 ?l16 ?c16 ?k16 ?a17 ?l17 ?c17 ?k17 ?a18 ?l18 ?c18 ?k18 ?a19 ?l19 ?c19 ?k19 ?a20 ?l20 ?c20 ?k20 ?a21 ?l21 ?c21 ?k21 ?a22 ?l22 ?c22 ?k22 ?a23 ?l23 ?c23 ?k23 ?a24 ?l24 ?c24 ?k24 ?a25 ?l25 ?c25 ?k25 ?a26 ?l26 ?c26 ?k26 ?a27 ?l27 ?c27 ?k27 ?a28 ?l28 ?c28 ?k28 ?a29 ?l29 ?c29 ?k29 ?a30 ?l30 ?c30 ?k30 ?a31 ?l31 ?c31 ?k31 ?a32 ?l32 ?c32 ?k32 ?a33 ?l33 ?c33 ?k33 ?a34 ?l34 ?c34 ?k34 ?a35 ?l35 ?c35 ?k35 ?a36 ?l36 ?c36 ?k36 ?a37 ?l37 ?c37 ?k37 ?z_range ?z_abs ?z_isinstance ?z_int ?z_bool ?z_str ?z_min ?z_max ?z_len ?z_tuple ?z_list ?z_set ?z_sorted ?z_repr ?m1 ?aC ?xC ?kC ?eC ?tC ?iC ?sC
    (case a1 => k_is); (case l1 => k_is); (case c1 => k_is); (case k1 => k_is)
    (case a2 => k_is); (case l2 => k_is); (case c2 => k_is); (case k2 => k_is)
    (case a3 => k_is); (case l3 => k_is); (case c3 => k_is); (case k3 => k_is)
    (case a4 => k_is); (case l4 => k_is); (case c4 => k_is); (case k4 => k_is)
    (case a5 => k_is); (case l5 => k_is); (case c5 => k_is); (case k5 => k_is)
    (case a6 => k_is); (case l6 => k_is); (case c6 => k_is); (case k6 => k_is)
    (case a7 => k_is); (case l7 => k_is); (case c7 => k_is); (case k7 => k_is)
    (case a8 => k_is); (case l8 => k_is); (case c8 => k_is); (case k8 => k_is)
    (case a9 => k_is); (case l9 => k_is); (case c9 => k_is); (case k9 => k_is)
    (case a10 => k_is); (case l10 => k_is); (case c10 => k_is); (case k10 => k_is)
    (case a11 => k_is); (case l11 => k_is); (case c11 => k_is); (case k11 => k_is)
    (case a12 => k_is); (case l12 => k_is); (case c12 => k_is); (case k12 => k_is)
    (case a13 => k_is); (case l13 => k_is); (case c13 => k_is); (case k13 => k_is)
    (case a14 => k_is); (case l14 => k_is); (case c14 => k_is); (case k14 => k_is)
    (case a15 => k_is); (case l15 => k_is); (case c15 => k_is); (case k15 => k_is)
    (case a16 => k_is); (case l16 => k_is); (case c16 => k_is); (case k16 => k_is)
    (case a17 => k_is); (case l17 => k_is); (case c17 => k_is); (case k17 => k_is)
    (case a18 => k_is); (case l18 => k_is); (case c18 => k_is); (case k18 => k_is)
    (case a19 => k_is); (case l19 => k_is); (case c19 => k_is); (case k19 => k_is)
    (case a20 => k_is); (case l20 => k_is); (case c20 => k_is); (case k20 => k_is)
    (case a21 => k_is); (case l21 => k_is); (case c21 => k_is); (case k21 => k_is)
    (case a22 => k_is); (case l22 => k_is); (case c22 => k_is); (case k22 => k_is)
    (case a23 => k_is); (case l23 => k_is); (case c23 => k_is); (case k23 => k_is)
    (case a24 => k_is); (case l24 => k_is); (case c24 => k_is); (case k24 => k_is)
    (case a25 => k_is); (case l25 => k_is); (case c25 => k_is); (case k25 => k_is)
    (case a26 => k_is); (case l26 => k_is); (case c26 => k_is); (case k26 => k_is)
    (case a27 => k_is); (case l27 => k_is); (case c27 => k_is); (case k27 => k_is)
    (case a28 => k_is); (case l28 => k_is); (case c28 => k_is); (case k28 => k_is)
    (case a29 => k_is); (case l29 => k_is); (case c29 => k_is); (case k29 => k_is)
    (case a30 => k_is); (case l30 => k_is); (case c30 => k_is); (case k30 => k_is)
    (case a31 => k_is); (case l31 => k_is); (case c31 => k_is); (case k31 => k_is)
    (case a32 => k_is); (case l32 => k_is); (case c32 => k_is); (case k32 => k_is)
    (case a33 => k_is); (case l33 => k_is); (case c33 => k_is); (case k33 => k_is)
    (case a34 => k_is); (case l34 => k_is); (case c34 => k_is); (case k34 => k_is)
    (case a35 => k_is); (case l35 => k_is); (case c35 => k_is); (case k35 => k_is)
    (case a36 => k_is); (case l36 => k_is); (case c36 => k_is); (case k36 => k_is)
    (case a37 => k_is); (case l37 => k_is); (case c37 => k_is); (case k37 => k_is)
    (case z_range => k_is)
    (case z_abs => k_is)
    (case z_isinstance => k_is)
    (case z_int => k_is)
    (case z_bool => k_is)
    (case z_str => k_is)
    (case z_min => k_is)
    (case z_max => k_is)
    (case z_len => k_is)
    (case z_tuple => k_is)
    (case z_list => k_is)
    (case z_set => k_is)
    (case z_sorted => k_is)
    (case z_repr => k_is)
    (case m1 => k_is); (case aC => k_is); (case xC => k_exc); (case kC => k_is); (case eC => k_is); (case tC => k_is); (case iC => k_is); (case sC => first | rfl | k_is)
