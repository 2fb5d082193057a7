import PyProof.Rows.All
import Wide.All
import OpenK.AllK
import Wide.FinOn
import HandS.ForMost
import HandS.Exc
import HandS.Defaults
import HandS.HeadHook4
import HandS.Head3
import HandS.ExcInit
import HandS.ExcField
import HandS.TryOnly
import HandS.ExcOwn
import HandS.WordsExc
import HandS.Wide
import HandS.WideBits
import HandS.Gcd
import HandS.IsInst
import HandS.Zip
import HandS.Walk
import HandS.TupAny
import HandS.TupMul
import HandS.Style
import HandS.RaiseMore
import KE.GoesMore
import PyProof.FactsAll.tuple_2
import HandS.OwnEq
import HandS.Conv
import HandS.Deep
import HandS.Dict
import HandS.EndTab
import PyProof.ReprRoads
import PyProof.ReprBulk
import HandS.Lambda
import HandS.TryMany
import HandS.CallLocal
import HandS.EndBits
import PySem.Challenge.RW_bestlooks_k01_whole_ratios_and_polynomia
set_option Elab.async false
set_option linter.all false
set_option maxRecDepth 100000
section
set_option maxHeartbeats 4000000
namespace G3
open PySem L2
/-! the text by places -/
def top (i : Nat) : Stmt := PySem.Challenge.pw_bestlooks_k01_whole_ratios_and_polynomia.main.body.getD i (.Pass ⟨0, 0, 0, 0⟩)
abbrev sBadNumber_init : Stmt := inClass (top 3) 0
abbrev sBadRow_init : Stmt := inClass (top 4) 0
abbrev sUnlike_init : Stmt := inClass (top 5) 0
abbrev s_is_whole : Stmt := top 7
abbrev s_is_ratio : Stmt := top 8
abbrev s_divisor : Stmt := top 9
abbrev s_lowest : Stmt := top 10
abbrev s_told : Stmt := top 11
abbrev s_parts : Stmt := top 12
abbrev s_plus : Stmt := top 13
abbrev s_minus : Stmt := top 14
abbrev s_times : Stmt := top 15
abbrev s_share : Stmt := top 16
abbrev s_lower : Stmt := top 17
abbrev s_floor_of : Stmt := top 18
abbrev s_bottom_of : Stmt := top 19
abbrev s_ratio_text : Stmt := top 20
abbrev sPoly_init : Stmt := inClass (top 22) 0
abbrev sPoly_eq : Stmt := inClass (top 22) 1
abbrev sPoly_add : Stmt := inClass (top 22) 2
abbrev sPoly_radd : Stmt := inClass (top 22) 3
abbrev sPoly_sub : Stmt := inClass (top 22) 4
abbrev sPoly_rsub : Stmt := inClass (top 22) 5
abbrev sPoly_mul : Stmt := inClass (top 22) 6
abbrev sPoly_rmul : Stmt := inClass (top 22) 7
abbrev sPoly_neg : Stmt := inClass (top 22) 8
abbrev sPoly_degree : Stmt := inClass (top 22) 9
abbrev sPoly_at : Stmt := inClass (top 22) 10
abbrev sPoly_slope : Stmt := inClass (top 22) 11
abbrev sPoly_moved : Stmt := inClass (top 22) 12
abbrev s_without_zeros : Stmt := top 23
abbrev s_poly_told : Stmt := top 24
abbrev s_added_up : Stmt := top 25
abbrev s_summed : Stmt := top 26
abbrev s_power_number : Stmt := top 27
abbrev s_multiplied : Stmt := top 28
abbrev s_divided : Stmt := top 29
abbrev s_plain : Stmt := top 30
abbrev s_common : Stmt := top 31
abbrev s_law_pen : Stmt := top 33
abbrev s_law_draw : Stmt := top 34
abbrev s_law_pick : Stmt := top 35
abbrev s_law_is_whole : Stmt := top 36
abbrev s_law_gcd : Stmt := top 37
abbrev s_law_q : Stmt := top 38
abbrev s_law_plus : Stmt := top 39
abbrev s_law_minus : Stmt := top 40
abbrev s_law_times : Stmt := top 41
abbrev s_law_share : Stmt := top 42
abbrev s_law_less : Stmt := top 43
abbrev s_law_passed : Stmt := top 44
abbrev s_law_ratio : Stmt := top 45
abbrev s_law_poly : Stmt := top 46
abbrev s_law_p_plus : Stmt := top 47
abbrev s_law_p_scaled : Stmt := top 48
abbrev s_law_p_minus : Stmt := top 49
abbrev s_law_p_times : Stmt := top 50
abbrev s_law_p_at : Stmt := top 51
abbrev s_law_p_slope : Stmt := top 52
abbrev s_law_p_moved : Stmt := top 53
abbrev s_law_p_divided : Stmt := top 54
abbrev s_law_p_plain : Stmt := top 55
abbrev s_law_p_short : Stmt := top 56
abbrev s_law_p_common : Stmt := top 57
abbrev s_law_made_poly : Stmt := top 58
abbrev s_law_drawn : Stmt := top 59
abbrev s_law_why : Stmt := top 60
abbrev s_law_is : Stmt := top 61
abbrev s_law_any : Stmt := top 62
abbrev s_law_far : Stmt := top 63
abbrev s_law_some_ratio : Stmt := top 64
abbrev s_law_ratios_right : Stmt := top 65
abbrev s_law_made_right : Stmt := top 66
abbrev s_law_divided_right : Stmt := top 67
abbrev s_law : Stmt := top 68
/-! the defs as data -/
def dBadNumber_init : He.DefD := ⟨("BadNumber", some "__init__"), "__init__", "BadNumber.__init__", defArgs sBadNumber_init, defBody sBadNumber_init, defScope sBadNumber_init, [], []⟩
def dBadRow_init : He.DefD := ⟨("BadRow", some "__init__"), "__init__", "BadRow.__init__", defArgs sBadRow_init, defBody sBadRow_init, defScope sBadRow_init, [], []⟩
def dUnlike_init : He.DefD := ⟨("Unlike", some "__init__"), "__init__", "Unlike.__init__", defArgs sUnlike_init, defBody sUnlike_init, defScope sUnlike_init, [], []⟩
def d_is_whole : He.DefD := ⟨("is_whole", none), "is_whole", "is_whole", defArgs s_is_whole, defBody s_is_whole, defScope s_is_whole, [], []⟩
def d_is_ratio : He.DefD := ⟨("is_ratio", none), "is_ratio", "is_ratio", defArgs s_is_ratio, defBody s_is_ratio, defScope s_is_ratio, [], []⟩
def d_divisor : He.DefD := ⟨("divisor", none), "divisor", "divisor", defArgs s_divisor, defBody s_divisor, defScope s_divisor, [], []⟩
def d_lowest : He.DefD := ⟨("lowest", none), "lowest", "lowest", defArgs s_lowest, defBody s_lowest, defScope s_lowest, [], []⟩
def d_told : He.DefD := ⟨("told", none), "told", "told", defArgs s_told, defBody s_told, defScope s_told, [], []⟩
def d_parts : He.DefD := ⟨("parts", none), "parts", "parts", defArgs s_parts, defBody s_parts, defScope s_parts, [], []⟩
def d_plus : He.DefD := ⟨("plus", none), "plus", "plus", defArgs s_plus, defBody s_plus, defScope s_plus, [], []⟩
def d_minus : He.DefD := ⟨("minus", none), "minus", "minus", defArgs s_minus, defBody s_minus, defScope s_minus, [], []⟩
def d_times : He.DefD := ⟨("times", none), "times", "times", defArgs s_times, defBody s_times, defScope s_times, [], []⟩
def d_share : He.DefD := ⟨("share", none), "share", "share", defArgs s_share, defBody s_share, defScope s_share, [], []⟩
def d_lower : He.DefD := ⟨("lower", none), "lower", "lower", defArgs s_lower, defBody s_lower, defScope s_lower, [], []⟩
def d_floor_of : He.DefD := ⟨("floor_of", none), "floor_of", "floor_of", defArgs s_floor_of, defBody s_floor_of, defScope s_floor_of, [], []⟩
def d_bottom_of : He.DefD := ⟨("bottom_of", none), "bottom_of", "bottom_of", defArgs s_bottom_of, defBody s_bottom_of, defScope s_bottom_of, [], []⟩
def d_ratio_text : He.DefD := ⟨("ratio_text", none), "ratio_text", "ratio_text", defArgs s_ratio_text, defBody s_ratio_text, defScope s_ratio_text, [], []⟩
def dPoly_init : He.DefD := ⟨("Poly", some "__init__"), "__init__", "Poly.__init__", defArgs sPoly_init, defBody sPoly_init, defScope sPoly_init, [], []⟩
def dPoly_eq : He.DefD := ⟨("Poly", some "__eq__"), "__eq__", "Poly.__eq__", defArgs sPoly_eq, defBody sPoly_eq, defScope sPoly_eq, [], []⟩
def dPoly_add : He.DefD := ⟨("Poly", some "__add__"), "__add__", "Poly.__add__", defArgs sPoly_add, defBody sPoly_add, defScope sPoly_add, [], []⟩
def dPoly_radd : He.DefD := ⟨("Poly", some "__radd__"), "__radd__", "Poly.__radd__", defArgs sPoly_radd, defBody sPoly_radd, defScope sPoly_radd, [], []⟩
def dPoly_sub : He.DefD := ⟨("Poly", some "__sub__"), "__sub__", "Poly.__sub__", defArgs sPoly_sub, defBody sPoly_sub, defScope sPoly_sub, [], []⟩
def dPoly_rsub : He.DefD := ⟨("Poly", some "__rsub__"), "__rsub__", "Poly.__rsub__", defArgs sPoly_rsub, defBody sPoly_rsub, defScope sPoly_rsub, [], []⟩
def dPoly_mul : He.DefD := ⟨("Poly", some "__mul__"), "__mul__", "Poly.__mul__", defArgs sPoly_mul, defBody sPoly_mul, defScope sPoly_mul, [], []⟩
def dPoly_rmul : He.DefD := ⟨("Poly", some "__rmul__"), "__rmul__", "Poly.__rmul__", defArgs sPoly_rmul, defBody sPoly_rmul, defScope sPoly_rmul, [], []⟩
def dPoly_neg : He.DefD := ⟨("Poly", some "__neg__"), "__neg__", "Poly.__neg__", defArgs sPoly_neg, defBody sPoly_neg, defScope sPoly_neg, [], []⟩
def dPoly_degree : He.DefD := ⟨("Poly", some "degree"), "degree", "Poly.degree", defArgs sPoly_degree, defBody sPoly_degree, defScope sPoly_degree, [], []⟩
def dPoly_at : He.DefD := ⟨("Poly", some "at"), "at", "Poly.at", defArgs sPoly_at, defBody sPoly_at, defScope sPoly_at, [], []⟩
def dPoly_slope : He.DefD := ⟨("Poly", some "slope"), "slope", "Poly.slope", defArgs sPoly_slope, defBody sPoly_slope, defScope sPoly_slope, [], []⟩
def dPoly_moved : He.DefD := ⟨("Poly", some "moved"), "moved", "Poly.moved", defArgs sPoly_moved, defBody sPoly_moved, defScope sPoly_moved, [], []⟩
def d_without_zeros : He.DefD := ⟨("without_zeros", none), "without_zeros", "without_zeros", defArgs s_without_zeros, defBody s_without_zeros, defScope s_without_zeros, [], []⟩
def d_poly_told : He.DefD := ⟨("poly_told", none), "poly_told", "poly_told", defArgs s_poly_told, defBody s_poly_told, defScope s_poly_told, [], []⟩
def d_added_up : He.DefD := ⟨("added_up", none), "added_up", "added_up", defArgs s_added_up, defBody s_added_up, defScope s_added_up, [], []⟩
def d_summed : He.DefD := ⟨("summed", none), "summed", "summed", defArgs s_summed, defBody s_summed, defScope s_summed, [], []⟩
def d_power_number : He.DefD := ⟨("power_number", none), "power_number", "power_number", defArgs s_power_number, defBody s_power_number, defScope s_power_number, [], []⟩
def d_multiplied : He.DefD := ⟨("multiplied", none), "multiplied", "multiplied", defArgs s_multiplied, defBody s_multiplied, defScope s_multiplied, [], []⟩
def d_divided : He.DefD := ⟨("divided", none), "divided", "divided", defArgs s_divided, defBody s_divided, defScope s_divided, [], []⟩
def d_plain : He.DefD := ⟨("plain", none), "plain", "plain", defArgs s_plain, defBody s_plain, defScope s_plain, [], []⟩
def d_common : He.DefD := ⟨("common", none), "common", "common", defArgs s_common, defBody s_common, defScope s_common, [], []⟩
def d_law_pen : He.DefD := ⟨("_law_pen", none), "_law_pen", "_law_pen", defArgs s_law_pen, defBody s_law_pen, defScope s_law_pen, [], []⟩
def d_law_draw : He.DefD := ⟨("_law_draw", none), "_law_draw", "_law_draw", defArgs s_law_draw, defBody s_law_draw, defScope s_law_draw, [], []⟩
def d_law_pick : He.DefD := ⟨("_law_pick", none), "_law_pick", "_law_pick", defArgs s_law_pick, defBody s_law_pick, defScope s_law_pick, [], []⟩
def d_law_is_whole : He.DefD := ⟨("_law_is_whole", none), "_law_is_whole", "_law_is_whole", defArgs s_law_is_whole, defBody s_law_is_whole, defScope s_law_is_whole, [], []⟩
def d_law_gcd : He.DefD := ⟨("_law_gcd", none), "_law_gcd", "_law_gcd", defArgs s_law_gcd, defBody s_law_gcd, defScope s_law_gcd, [], []⟩
def d_law_q : He.DefD := ⟨("_law_q", none), "_law_q", "_law_q", defArgs s_law_q, defBody s_law_q, defScope s_law_q, [], []⟩
def d_law_plus : He.DefD := ⟨("_law_plus", none), "_law_plus", "_law_plus", defArgs s_law_plus, defBody s_law_plus, defScope s_law_plus, [], []⟩
def d_law_minus : He.DefD := ⟨("_law_minus", none), "_law_minus", "_law_minus", defArgs s_law_minus, defBody s_law_minus, defScope s_law_minus, [], []⟩
def d_law_times : He.DefD := ⟨("_law_times", none), "_law_times", "_law_times", defArgs s_law_times, defBody s_law_times, defScope s_law_times, [], []⟩
def d_law_share : He.DefD := ⟨("_law_share", none), "_law_share", "_law_share", defArgs s_law_share, defBody s_law_share, defScope s_law_share, [], []⟩
def d_law_less : He.DefD := ⟨("_law_less", none), "_law_less", "_law_less", defArgs s_law_less, defBody s_law_less, defScope s_law_less, [], []⟩
def d_law_passed : He.DefD := ⟨("_law_passed", none), "_law_passed", "_law_passed", defArgs s_law_passed, defBody s_law_passed, defScope s_law_passed, [], []⟩
def d_law_ratio : He.DefD := ⟨("_law_ratio", none), "_law_ratio", "_law_ratio", defArgs s_law_ratio, defBody s_law_ratio, defScope s_law_ratio, [], []⟩
def d_law_poly : He.DefD := ⟨("_law_poly", none), "_law_poly", "_law_poly", defArgs s_law_poly, defBody s_law_poly, defScope s_law_poly, [], []⟩
def d_law_p_plus : He.DefD := ⟨("_law_p_plus", none), "_law_p_plus", "_law_p_plus", defArgs s_law_p_plus, defBody s_law_p_plus, defScope s_law_p_plus, [], []⟩
def d_law_p_scaled : He.DefD := ⟨("_law_p_scaled", none), "_law_p_scaled", "_law_p_scaled", defArgs s_law_p_scaled, defBody s_law_p_scaled, defScope s_law_p_scaled, [], []⟩
def d_law_p_minus : He.DefD := ⟨("_law_p_minus", none), "_law_p_minus", "_law_p_minus", defArgs s_law_p_minus, defBody s_law_p_minus, defScope s_law_p_minus, [], []⟩
def d_law_p_times : He.DefD := ⟨("_law_p_times", none), "_law_p_times", "_law_p_times", defArgs s_law_p_times, defBody s_law_p_times, defScope s_law_p_times, [], []⟩
def d_law_p_at : He.DefD := ⟨("_law_p_at", none), "_law_p_at", "_law_p_at", defArgs s_law_p_at, defBody s_law_p_at, defScope s_law_p_at, [], []⟩
def d_law_p_slope : He.DefD := ⟨("_law_p_slope", none), "_law_p_slope", "_law_p_slope", defArgs s_law_p_slope, defBody s_law_p_slope, defScope s_law_p_slope, [], []⟩
def d_law_p_moved : He.DefD := ⟨("_law_p_moved", none), "_law_p_moved", "_law_p_moved", defArgs s_law_p_moved, defBody s_law_p_moved, defScope s_law_p_moved, [], []⟩
def d_law_p_divided : He.DefD := ⟨("_law_p_divided", none), "_law_p_divided", "_law_p_divided", defArgs s_law_p_divided, defBody s_law_p_divided, defScope s_law_p_divided, [], []⟩
def d_law_p_plain : He.DefD := ⟨("_law_p_plain", none), "_law_p_plain", "_law_p_plain", defArgs s_law_p_plain, defBody s_law_p_plain, defScope s_law_p_plain, [], []⟩
def d_law_p_short : He.DefD := ⟨("_law_p_short", none), "_law_p_short", "_law_p_short", defArgs s_law_p_short, defBody s_law_p_short, defScope s_law_p_short, [], []⟩
def d_law_p_common : He.DefD := ⟨("_law_p_common", none), "_law_p_common", "_law_p_common", defArgs s_law_p_common, defBody s_law_p_common, defScope s_law_p_common, [], []⟩
def d_law_made_poly : He.DefD := ⟨("_law_made_poly", none), "_law_made_poly", "_law_made_poly", defArgs s_law_made_poly, defBody s_law_made_poly, defScope s_law_made_poly, [], []⟩
def d_law_drawn : He.DefD := ⟨("_law_drawn", none), "_law_drawn", "_law_drawn", defArgs s_law_drawn, defBody s_law_drawn, defScope s_law_drawn, [], []⟩
def d_law_why : He.DefD := ⟨("_law_why", none), "_law_why", "_law_why", defArgs s_law_why, defBody s_law_why, defScope s_law_why, [], []⟩
def d_law_is : He.DefD := ⟨("_law_is", none), "_law_is", "_law_is", defArgs s_law_is, defBody s_law_is, defScope s_law_is, [], []⟩
def d_law_any : He.DefD := ⟨("_law_any", none), "_law_any", "_law_any", defArgs s_law_any, defBody s_law_any, defScope s_law_any, [], []⟩
def d_law_far : He.DefD := ⟨("_law_far", none), "_law_far", "_law_far", defArgs s_law_far, defBody s_law_far, defScope s_law_far, [], []⟩
def d_law_some_ratio : He.DefD := ⟨("_law_some_ratio", none), "_law_some_ratio", "_law_some_ratio", defArgs s_law_some_ratio, defBody s_law_some_ratio, defScope s_law_some_ratio, [], []⟩
def d_law_ratios_right : He.DefD := ⟨("_law_ratios_right", none), "_law_ratios_right", "_law_ratios_right", defArgs s_law_ratios_right, defBody s_law_ratios_right, defScope s_law_ratios_right, [], []⟩
def d_law_made_right : He.DefD := ⟨("_law_made_right", none), "_law_made_right", "_law_made_right", defArgs s_law_made_right, defBody s_law_made_right, defScope s_law_made_right, [], []⟩
def d_law_divided_right : He.DefD := ⟨("_law_divided_right", none), "_law_divided_right", "_law_divided_right", defArgs s_law_divided_right, defBody s_law_divided_right, defScope s_law_divided_right, [], []⟩
def d_law : He.DefD := ⟨("law", none), "law", "law", defArgs s_law, defBody s_law, defScope s_law, [], []⟩
end G3
end
section
set_option maxHeartbeats 4000000
namespace G3
open PySem L2
/-! ### heaps: what may have changed -/
/-- all stands, but dicts at D and lists at L may have other items -/
def Sm (D L : List Addr) (H H' : Hp) : Prop := ∀ a o, H a = some o → H' a = some o ∨ (a ∈ D ∧ ∃ k k', o = .dK k ∧ H' a = some (.dK k')) ∨ (a ∈ L ∧ ∃ xs ys, o = .lst xs ∧ H' a = some (.lst ys))
section
variable {D D' L L' : List Addr} {H H1 H2 H' : Hp} {a : Addr} {o : HO}
theorem Sm.refl : Sm D L H H := fun _ _ h => .inl h
theorem Sm.w (s : Sm D L H H') (hd : ∀ a ∈ D, a ∈ D') (hl : ∀ a ∈ L, a ∈ L') : Sm D' L' H H' := fun a o h => by
  rcases s a o h with h | ⟨m, h⟩ | ⟨m, h⟩
  · exact .inl h
  · exact .inr (.inl ⟨hd _ m, h⟩)
  · exact .inr (.inr ⟨hl _ m, h⟩)
theorem Sm.trans (s : Sm D L H H1) (t : Sm D L H1 H2) : Sm D L H H2 := fun a o h => by
  rcases s a o h with h | ⟨m, k, k', e, h⟩ | ⟨m, k, k', e, h⟩
  · exact t a o h
  · rcases t a _ h with h2 | ⟨_, j, j', e', h2⟩ | ⟨_, j, j', e', h2⟩
    · exact .inr (.inl ⟨m, k, k', e, h2⟩)
    · exact .inr (.inl ⟨m, k, j', e, h2⟩)
    · cases e'
  · rcases t a _ h with h2 | ⟨_, j, j', e', h2⟩ | ⟨_, j, j', e', h2⟩
    · exact .inr (.inr ⟨m, k, k', e, h2⟩)
    · cases e'
    · exact .inr (.inr ⟨m, k, j', e, h2⟩)
theorem Sm.any (s : Sm [] [] H H') : Sm D L H H' := s.w (fun _ h => nomatch h) (fun _ h => nomatch h)
theorem Sm.same (s : Same H H') : Sm D L H H' := fun a o h => .inl (s a o h)
theorem Sm.to (s : Sm [] [] H H') : Same H H' := fun a o h => by
  rcases s a o h with h | ⟨m, _⟩ | ⟨m, _⟩
  · exact h
  · cases m
  · cases m
theorem Sm.new (h : H a = none) : Sm D L H (upd H a o) := fun b u e => .inl (by rw [upd_ne (ne_of_none e h)]; exact e)
theorem Sm.put {xs ys : List V} (h : H a = some (.lst xs)) (m : a ∈ L) : Sm D L H (upd H a (.lst ys)) := fun b u e => by
  by_cases hb : b = a
  · subst hb
    rw [h] at e
    cases e
    exact .inr (.inr ⟨m, _, _, rfl, upd_same⟩)
  · exact .inl (by rw [upd_ne hb]; exact e)
theorem Sm.dput {xs ys : List (Key × V)} (h : H a = some (.dK xs)) (m : a ∈ D) : Sm D L H (upd H a (.dK ys)) := fun b u e => by
  by_cases hb : b = a
  · subst hb
    rw [h] at e
    cases e
    exact .inr (.inl ⟨m, _, _, rfl, upd_same⟩)
  · exact .inl (by rw [upd_ne hb]; exact e)
/-- a list made behind H may change -/
theorem Sm.drop (s : Sm D (a :: L) H H') (h : H a = none) : Sm D L H H' := fun b u e => by
  rcases s b u e with h | h | ⟨m, h2⟩
  · exact .inl h
  · exact .inr (.inl h)
  · rcases List.mem_cons.mp m with z | m
    · rw [z, h] at e; cases e
    · exact .inr (.inr ⟨m, h2⟩)
theorem Sm.free (s : Sm D L H H') (h : H' a = none) : H a = none := by
  cases q : H a with
  | none => rfl
  | some o =>
    rcases s a o q with h2 | ⟨_, _, _, _, h2⟩ | ⟨_, _, _, _, h2⟩ <;> (rw [h] at h2; cases h2)
theorem Sm.tup {xs : List V} (s : Sm D L H H') (h : H a = some (.tup xs)) : H' a = some (.tup xs) := by
  rcases s a _ h with h | ⟨_, _, _, e, _⟩ | ⟨_, _, _, e, _⟩
  · exact h
  · cases e
  · cases e
theorem Sm.ins {C dx : Addr} {fs : List (Str × V)} (s : Sm D L H H') (h : H a = some (.ins C dx fs)) : H' a = some (.ins C dx fs) := by
  rcases s a _ h with h | ⟨_, _, _, e, _⟩ | ⟨_, _, _, e, _⟩
  · exact h
  · cases e
  · cases e
theorem Sm.lst {xs : List V} (s : Sm D L H H') (h : H a = some (.lst xs)) (n : a ∉ L) : H' a = some (.lst xs) := by
  rcases s a _ h with h | ⟨_, _, _, e, _⟩ | ⟨m, _⟩
  · exact h
  · cases e
  · exact absurd m n
theorem Sm.dct {xs : List (Key × V)} (s : Sm D L H H') (h : H a = some (.dK xs)) (n : a ∉ D) : H' a = some (.dK xs) := by
  rcases s a _ h with h | ⟨m, _⟩ | ⟨_, _, _, e, _⟩
  · exact h
  · exact absurd m n
  · cases e
end
/-! ### a def that may be called by its name -/
structure Cal (P : Program) (w : World) (K : PySem.W.Frag) (mg : Str → Option Value) (base : Heap) (CX : CXT) (k : Nat) (x : Str) (sp : Sp) : Prop where
  ex : ∃ (f : Addr) (fd : FuncData) (ps : List Str), FnOk P w K mg base CX k f fd ps sp ∧ mg x = some (.ref f) ∧ PySem.W.keepIn K (.ref f) = true ∧ Binds K fd ps []
theorem Cal.imp {P : Program} {w : World} {K : PySem.W.Frag} {mg : Str → Option Value} {base : Heap} {CX : CXT} {k : Nat} {x : Str} {sp sp' : Sp} (c : Cal P w K mg base CX k x sp) (h : ∀ vs H Q E, sp' vs H Q E → sp vs H Q E) : Cal P w K mg base CX k x sp' :=
  let ⟨f, fd, ps, F, a, b, d⟩ := c.ex; ⟨f, fd, ps, F.imp h, a, b, d⟩
abbrev FnP (K : PySem.W.Frag) (x : Str) (st : Stmt) (f : Addr) (fd : FuncData) : Prop := FunD K x x (defArgs st) (defBody st) (defScope st) [] [] f fd
section
variable {X : Cx} {CX : CXT} {j k : Nat} {x : Str} {sp : Sp} {E : XK} {p pos : Pos} {e : Expr} {es : List Expr} {t : TA}
theorem pe_cal (c : Cal X.prog X.w X.K X.mg X.base CX k x sp) (hr : Room j X.A) (hk : k ≤ j) (hx : Passes CX X E) (ha : PA X (e :: es) t) (hg : Gl X x := by rfl)
    (hdb : (x == ("__debug__" : Str)) = false := by decide) (he : starEach (e :: es) X.env = (false, eval e X.env) :: starEach es X.env := by rfl) (hpl : (backTo pos (starEach es X.env)).any (·.1) = false := by rfl) :
    PE X (.Call (.Name x p) (e :: es) [] pos) (tCall sp [] E t) := by
  obtain ⟨f, fd, ps, F, hm, kp, b⟩ := c.ex
  exact pe_call F (hr.mono hk) hg hm kp b .nil hx ha hdb he hpl
end
/-! ### ratios -/
/-- the told pair of a ratio -/
def IsQ (H : Hp) (v : V) (q : Rat) : Prop := ∃ p, v = .ref p ∧ H p = some (.tup [.int q.num, .int (q.den : Int)])
/-- a tuple or a list -/
def Sq (H : Hp) (p : Addr) (xs : List V) : Prop := H p = some (.tup xs) ∨ H p = some (.lst xs)
theorem Sq.m {D : List Addr} {H H' : Hp} {p : Addr} {xs : List V} (h : Sq H p xs) (s : Sm D [] H H') : Sq H' p xs := by
  rcases h with h | h
  · exact .inl (s.tup h)
  · exact .inr (s.lst h List.not_mem_nil)
theorem Sq.rd {K : PySem.W.Frag} {H : Hp} {p : Addr} {xs : List V} (h : Sq H p xs) : SqL K H p xs ∨ SqT K H p xs := by
  rcases h with h | h
  · exact .inr (SqT.of h)
  · exact .inl (SqL.of h)
theorem Sq.ix {K : PySem.W.Frag} {H : Hp} {p : Addr} {xs : List V} {i : Int} {v : V} {Q : VK} (h : Sq H p xs) (e : atI xs i = some v) (q : Q v H) : rIx K (.ref p) (.int i) H Q := by
  rcases h with h | h
  · exact .inr (.inl ⟨_, _, _, _, rfl, rfl, SqT.of h, e, q⟩)
  · exact .inl ⟨_, _, _, _, rfl, rfl, SqL.of h, e, q⟩
theorem SqT.ix {K : PySem.W.Frag} {H : Hp} {p : Addr} {xs : List V} {i : Int} {v : V} {Q : VK} (h : H p = some (.tup xs)) (e : atI xs i = some v) (q : Q v H) : rIxT K (.ref p) (.int i) H Q := ⟨_, _, _, _, rfl, rfl, L2.SqT.of h, e, q⟩
theorem SqL.ix {K : PySem.W.Frag} {H : Hp} {p : Addr} {xs : List V} {i : Int} {v : V} {Q : VK} (h : H p = some (.lst xs)) (e : atI xs i = some v) (q : Q v H) : rIxL K (.ref p) (.int i) H Q := ⟨_, _, _, _, rfl, rfl, L2.SqL.of h, e, q⟩
/-- a ratio in any form: top, bottom -/
inductive RatV (H : Hp) : V → Int → Int → Prop where
  | int (n : Int) : RatV H (.int n) n 1
  | sq {p : Addr} {a b : Int} (h : Sq H p [.int a, .int b]) (hb : 0 < b) : RatV H (.ref p) a b
theorem IsQ.m {D L : List Addr} {H H' : Hp} {v : V} {q : Rat} (h : IsQ H v q) (s : Sm D L H H') : IsQ H' v q := let ⟨p, e, h⟩ := h; ⟨p, e, s.tup h⟩
theorem RatV.m {D : List Addr} {H H' : Hp} {v : V} {a b : Int} (h : RatV H v a b) (s : Sm D [] H H') : RatV H' v a b := by
  cases h with
  | int => exact .int _
  | sq h hb => exact .sq (h.m s) hb
theorem RatV.pos {H : Hp} {v : V} {a b : Int} (h : RatV H v a b) : 0 < b := by
  cases h with
  | int => decide
  | sq h hb => exact hb
theorem IsQ.rat {H : Hp} {v : V} {q : Rat} (h : IsQ H v q) : RatV H v q.num q.den := by
  obtain ⟨p, rfl, h⟩ := h
  exact .sq (.inl h) (by have := q.den_pos; omega)
/-! ### // by any divisor but 0, below 2 ^ 9000 -/
def CDivS (_ j : Int) : Prop := j ≠ 0 ∧ j.natAbs < 2 ^ 9000
theorem op_fdivS {X : Cx} : OpR X (binaryOp .FloorDiv) (rI CDivS fun i j => .int (i.fdiv j)) := opI fun i j _ _ _ _ _ hc q => by
  have hz : j ≠ 0 := hc.1
  refine PyProof.Rows.floordiv_int hz q (.inl (PyProof.noPylong_of_log2 ?_))
  exact PySem.Flt.log2_lt_of (by decide) hc.2
/-- sizes -/
def Sz (n : Int) : Prop := n.natAbs < 2 ^ 4400
def CMulS (i j : Int) : Prop := i.natAbs < 2 ^ 100000 ∧ j.natAbs < 2 ^ 100000
theorem op_mulS {X : Cx} : OpR X (binaryOp .Mult) (rI CMulS fun i j => .int (i * j)) := opI fun i j _ _ _ _ _ hc q =>
  PyProof.Rows.mul_int q (CMulW.ok (wide_mul hc.1 hc.2 (by decide) (by decide) (by decide)))
theorem Sz.mul {i j : Int} (a : Sz i) (b : Sz j) : CMulS i j :=
  ⟨Nat.lt_of_lt_of_le a (Nat.pow_le_pow_right (by decide) (by decide)), Nat.lt_of_lt_of_le b (Nat.pow_le_pow_right (by decide) (by decide))⟩
theorem Sz.sq {i j : Int} (a : Sz i) (b : Sz j) : (i * j).natAbs < 2 ^ 8800 := wide_lt (a := 4400) (b := 4400) a b
end G3
end
section
set_option maxHeartbeats 4000000
namespace G3
open PySem L2
/-! ### an own exception class below LookError, looked at by a Bool -/
def oexB (K : PySem.W.Frag) (C : Addr) : Bool := match K.lookup C with
  | some ⟨.type "type", _, .cls cd, sl⟩ => (match cd.mro, sl.toList with
    | .ref C' :: bm, [_, _, _, _, some (.builtin "ValueError.__new__"), _] => decide (C' = C) && (!cd.hasDel && (cd.hasDict && PySem.HandSPX.refsVE bm))
    | _, _ => false)
  | _ => false
theorem oexB_ok {K : PySem.W.Frag} {C : Addr} (q : oexB K C = true) : ∃ nm qn N bs bm sn sub ab col dd k0 k1 k2 k3 k5,
    K.lookup C = some (excClassObj nm qn C N bs bm true sn sub ab col dd k0 k1 k2 k3 k5 "ValueError.__new__") ∧ PySem.HandSPX.refsVE bm = true := by
  unfold oexB at q
  split at q
  · rename_i dd cd sl ho
    split at q
    · rename_i C' bm k0 k1 k2 k3 k5 hm hs
      obtain ⟨q1, q2⟩ := He.ba q
      obtain ⟨q2, q3⟩ := He.ba q2
      obtain ⟨q3, q4⟩ := He.ba q3
      have e1 : C' = C := of_decide_eq_true q1
      obtain ⟨nm, bs, mro, ns, qn, hd, sn, sub, ab, col, del⟩ := cd
      have e2 : hd = true := q3
      have e3 : del = false := by
        have z : (!del) = true := q2
        cases del
        · rfl
        · cases z
      have e4 : mro = .ref C' :: bm := hm
      have e5 : sl = #[k0, k1, k2, k3, some (.builtin "ValueError.__new__"), k5] := by
        obtain ⟨l⟩ := sl
        exact congrArg Array.mk hs
      subst e1 e2 e3 e4 e5
      exact ⟨nm, qn, ns, bs, bm, sn, sub, ab, col, dd, k0, k1, k2, k3, k5, ho, q4⟩
    · cases q
  · cases q
/-- what is known of an own exception class at C whose fields are fs -/
structure ExF (K : PySem.W.Frag) (C : Addr) (fs : List Str) : Prop where
  ox : OexC K C
  init : PySem.W.findIn K (.ref C) "__init__" = some (some (.ref (He.ma K C "__init__")))
  ty : PySem.W.typeIn K (.ref (He.ma K C "__init__")) = some (.type "function")
  nf : ∀ f ∈ fs, PySem.W.findIn K (.ref C) f = some none
  xf : XfC K C
def exfB (K : PySem.W.Frag) (C : Addr) (fs : List Str) : Bool := oexB K C && (decide (PySem.W.findIn K (.ref C) "__setattr__" = some (some (.builtin "object.__setattr__"))) && (decide (PySem.W.subIn K (.ref C) (.type "BaseException") = some true) &&
  (decide (PySem.W.typeIn K (.ref C) = some (.type "type")) && (PySem.W.keepIn K (.ref C) && (decide (PySem.W.findIn K (.ref C) "__init__" = some (some (.ref (He.ma K C "__init__")))) &&
  (decide (PySem.W.typeIn K (.ref (He.ma K C "__init__")) = some (.type "function")) && ((fs.all fun f => decide (PySem.W.findIn K (.ref C) f = some none)) && xfB K C)))))))
theorem exfB_ok {K : PySem.W.Frag} {C : Addr} {fs : List Str} (h : exfB K C fs = true) : ExF K C fs := by
  obtain ⟨h1, h⟩ := He.ba h
  obtain ⟨h2, h⟩ := He.ba h
  obtain ⟨h3, h⟩ := He.ba h
  obtain ⟨h4, h⟩ := He.ba h
  obtain ⟨h5, h⟩ := He.ba h
  obtain ⟨h6, h⟩ := He.ba h
  obtain ⟨h7, h⟩ := He.ba h
  obtain ⟨h8, h9⟩ := He.ba h
  exact ⟨⟨oexB_ok h1, of_decide_eq_true h2, of_decide_eq_true h3, of_decide_eq_true h4, h5⟩, of_decide_eq_true h6, of_decide_eq_true h7,
    fun f hf => of_decide_eq_true (List.all_eq_true.mp h8 f hf), xfB_ok h9⟩
/-- LookError, read as an object: its __init__ is ValueError's -/
structure LkF (K : PySem.W.Frag) (C : Addr) : Prop where
  ga : PySem.W.specialIn K (.ref C) "__getattribute__" = some (some (.builtin "type.__getattribute__"))
  ty : PySem.W.typeIn K (.ref C) = some (.type "type")
  rd : PySem.W.readsIn K C (.type "type") = true
  at_ : PySem.W.findCls K (.ref C) (.type "type") "__init__" = some (.val (.builtin "ValueError.__init__"))
def cfB : Option PySem.W.CFound → Bool
  | some (.val (.builtin id)) => decide (id = "ValueError.__init__")
  | _ => false
theorem cfB_ok {o : Option PySem.W.CFound} (h : cfB o = true) : o = some (.val (.builtin "ValueError.__init__")) := by
  unfold cfB at h
  split at h
  · rw [of_decide_eq_true h]
  · cases h
def lkB (K : PySem.W.Frag) (C : Addr) : Bool := decide (PySem.W.specialIn K (.ref C) "__getattribute__" = some (some (.builtin "type.__getattribute__"))) && (decide (PySem.W.typeIn K (.ref C) = some (.type "type")) && (PySem.W.readsIn K C (.type "type") && cfB (PySem.W.findCls K (.ref C) (.type "type") "__init__")))
theorem lkB_ok {K : PySem.W.Frag} {C : Addr} (h : lkB K C = true) : LkF K C := by
  obtain ⟨h1, h⟩ := He.ba h
  obtain ⟨h2, h⟩ := He.ba h
  obtain ⟨h3, h4⟩ := He.ba h
  exact ⟨of_decide_eq_true h1, of_decide_eq_true h2, h3, cfB_ok h4⟩
section
variable {X : Cx} {e : Expr} {es : List Expr} {ta : TA} {p1 p2 pos : Pos} {x : Str} {C0 : Addr}
/-- LookError.__init__(self, ..) -/
theorem pe_lkinit {pl : Sem Bool} (T : LkF X.K C0) (hg : Gl X x) (hm : X.mg x = some (.ref C0)) (ha : PA X (e :: es) ta) (hdb : (x == ("__debug__" : Str)) = false := by decide)
    (hc : eval (.Call (.Attribute (.Name x p1) "__init__" p2) (e :: es) [] pos) X.env = (do
      let ov ← eval (.Name x p1) X.env
      standAt p2.atName
      let (f, first) ← holding [ov] (getMethod ov "__init__" pl)
      callWith pos f first (backTo pos (starEach (e :: es) X.env)) (backToKw pos (keywordEach [] X.env))) := by rfl)
    (he : starEach (e :: es) X.env = (false, eval e X.env) :: starEach es X.env := by rfl) (hpl : (backTo pos (starEach es X.env)).any (·.1) = false := by rfl) :
    PE X (.Call (.Attribute (.Name x p1) "__init__" p2) (e :: es) [] pos) (tVeI X.K ta) := by
  constructor
  intro pins s σ H Q I h
  refine PySem.W.methodCall_KW (ld_glob I hg hm ?_ hdb) hc
  obtain ⟨m, fr⟩ := I.fr
  refine PySem.W.method_of_cls fr I.ok.mod.kin T.ga ?_
  refine PySem.W.cls_val fr I.ok.mod.kin T.ty T.rd T.at_ (by decide +kernel) ?_
  show wpAny _ _ (callWith pos (Value.builtin "ValueError.__init__") [] (backTo pos (starEach (e :: es) X.env)) []) _ _ _
  refine PyProof.Rows.callWith_method1 ?_ he hpl
  refine thn (ha.run pos pins _ σ H _ (I.tok _) h) ?_
  intro us s1 z
  obtain ⟨vs, H1, I1, r1, a, C, ws, ev, hl, T1, ea, q⟩ := z
  subst ev
  cases r1 with
  | @cons _ u0 _ ur ra rw' =>
    have e0 : u0 = Value.ref a := ra
    subst e0
    have hlen : ur.length ≤ sizeLine := by
      have l2 : ws.length = ur.length := rw'.length
      have l3 : (1000 : Nat) ≤ sizeLine := by decide
      omega
    exact oinit_ok T1 I1 ea hlen fun s' J => ⟨.non, H1, J, rfl, q⟩
end
end G3
end
section
set_option maxHeartbeats 4000000
/-! enumerate(a tuple) -/
namespace G3
open PySem PySem.Spec PyProof.Rows L2
set_option maxHeartbeats 8000000 in
theorem enum_new_tup (a : Addr) (items : Array Value) : Meets (Builtin.«enumerate.__new__» ⟨[.type "enumerate", .ref a], []⟩) (fun _ R s => s.heap.IsTuple a items ∧
      R (.ok (.ret (.ref (s.heap.push { cls := .type "tuple_iterator", data := .fields #[.ref a, .int 0 0] }).objs.size)))
        { s with heap := (s.heap.push { cls := .type "tuple_iterator", data := .fields #[.ref a, .int 0 0] }).push { cls := .type "enumerate", data := .fields #[.none, .bool false, .ref s.heap.objs.size, rawInt 0, .none, .none] } }) := by
  refine .of_wp fun prog w A R s h => ?_
  obtain ⟨hp, g, d, tk, os⟩ := s
  obtain ⟨h1, h⟩ := h
  have hsub := sub_enumerate
  have q1 : ∀ {A' : Around} {E : Value → Shared → Prop} {Q : Value → Shared → Prop}, Q (.ref hp.objs.size) ⟨hp.push { cls := .type "tuple_iterator", data := .fields #[.ref a, .int 0 0] }, g, d, tk, os⟩ →
      wpAny (model prog w) A' (pyIter (.ref a)) Q E ⟨hp, g, d, tk, os⟩ := fun q => wpAny_pyIter_tuple h1 q
  wp_walk using q1
  refine wpAny_stack_any fun st => wpAny_pure ?_
  split
  · rename_i c _ _ _ _ _
    cases (c == Value.type "enumerate") <;> (wp_walk using q1; exact ⟨_, rfl, h⟩)
  · wp_walk using q1
    exact ⟨_, rfl, h⟩
theorem call_enum_tup {prog : Program} {w : World} {A : Around} {E : Value → Shared → Prop} {s : Shared} {a : Addr} {items : Array Value} {Q : Value → Shared → Prop} (ht : s.heap.IsTuple a items)
    (h : ∀ h', IsEnum h' (s.heap.objs.size + 1) s.heap.objs.size 0 .none → h'.IsTupleIter s.heap.objs.size a 0 → (∀ b o, s.heap.get? b = some o → h'.get? b = some o) → Q (.ref (s.heap.objs.size + 1)) { s with heap := h' }) :
    wpAny (model prog w) A (call (.type "enumerate") [.ref a]) Q E s := by
  refine callType_new F.called_enumerate (by decide) (F.typeCall_enumerate_1 _) (F.newCall_enumerate_1 _) (fun obj => F.args_object_init_2 obj _) F.entry_enumerate_new (enum_new_tup a items) ⟨ht, ?_⟩
  have hz : (s.heap.push { cls := .type "tuple_iterator", data := .fields #[.ref a, .int 0 0] }).objs.size = s.heap.objs.size + 1 := Heap.size_push ..
  show _ ∧ _
  rw [hz]
  have he : IsEnum ((s.heap.push { cls := .type "tuple_iterator", data := .fields #[.ref a, .int 0 0] }).push { cls := .type "enumerate", data := .fields #[.none, .bool false, .ref s.heap.objs.size, rawInt 0, .none, .none] }) (s.heap.objs.size + 1) s.heap.objs.size 0 .none := by
    have z := Heap.get?_push_size (s.heap.push { cls := .type "tuple_iterator", data := .fields #[.ref a, .int 0 0] }) (o := { cls := .type "enumerate", data := .fields #[.none, .bool false, .ref s.heap.objs.size, rawInt 0, .none, .none] }) rfl
    rw [hz] at z
    exact z
  refine ⟨⟨_, he, rfl⟩, h _ he ⟨_, Heap.get?_push_of_some _ (Heap.get?_push_size _ rfl), rfl, rfl⟩ ?_⟩
  intro b o x
  exact Heap.get?_push_of_some _ (Heap.get?_push_of_some _ x)
/-- the tuple at a as it stands, the place and the item in a new pair -/
def ItE (K : PySem.W.Frag) (a : Addr) : It where
  go := fun i H => ∃ xs, SqT K H a xs ∧ i < xs.length
  yld := fun i H v H' => ∃ T x, v = .ref T ∧ H T = none ∧ H' = upd H T (.tup [.int (i : Nat), x]) ∧ ∀ xs, SqT K H a xs → xs[i]? = some x
  stop := fun i H => ∃ xs, SqT K H a xs ∧ xs.length = i
theorem turn_enumT {P : Program} {w : World} {K : PySem.W.Frag} {elts : List Expr} {kk : Nat} {tpos : Pos} (a e it : Addr) (hae : a ≠ e) (hai : a ≠ it) :
    Turn P w K (.Tuple elts kk tpos) (ItE K a) [e, it] e (fun i h => (∃ old, IsEnum h e it ((i : Nat) : Int) old) ∧ h.IsTupleIter it a i ∧ e ≠ it) where
  mem := by simp
  obj := fun i h st b hb => by
    obtain ⟨⟨old, he⟩, ⟨o, ho, hc, hd⟩, _⟩ := st
    rcases (by simpa using hb : b = e ∨ b = it) with z | z
    · subst z
      exact ⟨_, he, fun v q => nomatch q⟩
    · subst z
      exact ⟨o, ho, fun v q => by rw [hd] at q; cases q⟩
  keep := fun i h h' st k => by
    obtain ⟨⟨old, he⟩, hi, hne⟩ := st
    exact ⟨⟨old, k e (by simp) _ he⟩, hi.at fun o q => k it (by simp) o q, hne⟩
  item := by
    intro X hP hw hK hc i pins s σ H E I hf st hg
    subst hP hw hK
    obtain ⟨⟨old, he⟩, hit, hne⟩ := st
    obtain ⟨xs, hq, hi⟩ := hg
    obtain ⟨its, rv, p, hz⟩ := I.tuple hq
    have hel : e < s.heap.objs.size := Heap.lt_size he
    have hil : it < s.heap.objs.size := by obtain ⟨_, q, _⟩ := hit; exact Heap.lt_size q
    have hl := rv.length
    refine wpAny_pyNext_enum_itemD (Draws.tuple (A := X.A.in1) (I.ok.hd hc) it a hai its.toArray) he ⟨hit, p⟩ (by simp; omega) hne (by simp; exact ⟨hne, Ne.symm hae⟩) ?_
    intro u h' tk hu ho st' hT hsz hk
    refine ⟨_, rfl, wpAny_letOwnedTupleGo_enum (s := { s with heap := h', toks := tk + 1 }) ho fun h'' he' sb => ?_⟩
    have hT2 : h''.get? s.heap.objs.size = some { cls := .type "tuple", data := .seq #[.int i tk, u] } := (sb.2 _ (Nat.ne_of_gt hel)).trans hT
    obtain ⟨x, hx, ru⟩ : ∃ x, xs[i]? = some x ∧ RelV x u := by
      have e1 : xs[i]? = some xs[i] := List.getElem?_eq_getElem hi
      obtain ⟨u', e2, r⟩ := rv.get e1
      have e3 : its[i]? = some u := by simpa using hu
      rw [e3] at e2
      cases e2
      exact ⟨_, e1, r⟩
    have new : ObjOk X.prog X.w (upd H s.heap.objs.size (.tup [.int (i : Nat), x])) h'' s.heap.objs.size (.tup [.int (i : Nat), x]) :=
      ⟨by show 2 ≤ sizeLine; decide, [.int i tk, u], .cons ⟨_, rfl⟩ (.cons ru .nil), ⟨_, hT2, rfl, _, rfl⟩⟩
    have I1 : Inv X pins σ (upd H s.heap.objs.size (.tup [.int (i : Nat), x])) { s with heap := h'', toks := tk + 1 } := by
      refine I.turnedNew (ch := [e, it]) (fun b ob hb q => ?_) hf (Nat.le_refl _) new
      have n1 : b ≠ e := fun z => hb (by simp [z])
      have n2 : b ≠ it := fun z => hb (by simp [z])
      exact (sb.2 b n1).trans (hk b ob n1 n2 q)
    refine ⟨.ref s.heap.objs.size, _, I1, rfl, ⟨_, x, rfl, I.hok.fresh (Nat.le_refl _), rfl, fun ys hy => by rw [I.tuple_inj hy hq]; exact hx⟩, ⟨⟨u, ?_⟩, st'.1.at fun o q => (sb.2 it (Ne.symm hne)).trans q, hne⟩, fun b hb => ?_⟩
    · have e1 : ((i + 1 : Nat) : Int) = (i : Int) + 1 := by omega
      rw [e1]
      exact he'
    · have hb' : b < s.heap.objs.size := by
        rcases (by simpa using hb : b = e ∨ b = it) with z | z
        · rw [z]; exact hel
        · rw [z]; exact hil
      rw [upd_ne (Nat.ne_of_lt hb')]
      exact (hf b hb).1
  done := by
    intro X hP hw hK hc i pins s σ H E I hf st hg
    subst hP hw hK
    obtain ⟨⟨old, he⟩, hit, hne⟩ := st
    obtain ⟨xs, hq, hx⟩ := hg
    obtain ⟨its, rv, p, hz⟩ := I.tuple hq
    obtain ⟨f0, f1, f2, f3, f4, f5⟩ := hf it (by simp)
    have hl := rv.length
    have ei : i = its.toArray.size := by simp; omega
    refine wpAny_pyNext_enum_endD (Draws.tuple (A := X.A.in1) (I.ok.hd hc) it a hai its.toArray) he ⟨ei ▸ hit, p⟩ fun h' eb => ?_
    exact ⟨rfl, I.turned (t' := s.toks) (fun b o hb q => eb b o hb q) f0 f1 f3 f4 f5⟩
  self := fun A i s Q E st h => by
    obtain ⟨⟨_, he⟩, _⟩ := st
    exact wpAny_pyIter_enum he h
def iEnumT (K : PySem.W.Frag) (ta : TA) : TI := fun σ H R => ta σ H fun vs H1 => ∃ a xs, vs = [.ref a] ∧ SqT K H1 a xs ∧ R (ItE K a) H1
theorem pi_enumT {X : Cx} {e : Expr} {ta : TA} {p pos tpos : Pos} {elts : List Expr} {kk : Nat} (hg : Gl X "enumerate") (hm : X.mg "enumerate" = none) (ha : PA X [e] ta) (hs : starEach [e] X.env = [(false, eval e X.env)] := by rfl) :
    PI X (.Tuple elts kk tpos) (.Call (.Name "enumerate" p) [e] [] pos) (iEnumT X.K ta) := by
  constructor
  intro pins s σ H R I h
  refine Call_ (ld_blt I hg hm boot_enumerate (PyProof.Rows.callWith_type1 (thn (ha.run pos pins s σ H _ I h) fun us s1 z => ?_) hs rfl))
  obtain ⟨vs, H1, I1, r1, a, xs, ex, hq, q⟩ := z
  subst ex
  cases r1 with
  | cons r rr =>
    cases rr
    cases r
    obtain ⟨its, rv, p', hz⟩ := I1.tuple hq
    refine call_enum_tup p' fun h' he hit hk => wpAny_pyIter_enum he ?_
    have I2 : Inv X pins σ H1 { s1 with heap := h' } := I1.kept (t' := s1.toks) hk
    have hal : a < s1.heap.objs.size := p'.lt
    refine ⟨s1.heap.objs.size + 1, [s1.heap.objs.size + 1, s1.heap.objs.size], _, _, H1, rfl, I2, turn_enumT a (s1.heap.objs.size + 1) s1.heap.objs.size (Nat.ne_of_lt (Nat.lt_succ_of_lt hal)) (Nat.ne_of_lt hal), ⟨⟨.none, he⟩, hit, Nat.succ_ne_self _⟩, fun b hb => ?_, q⟩
    have hle : s1.heap.objs.size ≤ b := by
      rcases (by simpa using hb : b = s1.heap.objs.size + 1 ∨ b = s1.heap.objs.size) with z | z
      · rw [z]; exact Nat.le_add_right _ _
      · rw [z]; exact Nat.le_refl _
    exact I1.fpOk hle (I1.hok.fresh hle)
theorem walk_enumT {K : PySem.W.Frag} {a : Addr} {xs : List V} : Walk (ItE K a) xs.length (fun H => H a = some (.tup xs)) (YPair (fun i => some (.int (i : Nat))) (fun i => xs[i]?)) where
  goes := fun i H hi h => ⟨xs, SqT.of h, hi⟩
  stops := fun H h => ⟨xs, SqT.of h, rfl⟩
  yields := fun i H x H' hi h z => by
    obtain ⟨T, y, rfl, hT, rfl, f⟩ := z
    exact ⟨T, _, y, rfl, hT, rfl, rfl, f xs (SqT.of h)⟩
end G3
end
section
set_option maxHeartbeats 4000000
/-! own operators, also from the right; t[::-1]; t * k -/
namespace G3
open PySem PySem.Spec PyProof.Rows L2
section
variable {prog : Program} {w : World} {A : Around} {E : Value → Shared → Prop} {s : Shared} {K : PySem.W.Frag} {x C L f g : Addr} {h₀ : Heap} {m : Str → Option Value} {ox : Obj} {od : Option Obj}
open PySem.W
theorem slot_py {M : Model} {h : Heap} {nm : String} (X : K.In h) (hs : findIn K (.ref C) (PySem.dunder nm) = some (some (.ref f))) (hr : findIn K (.ref C) (PySem.dunderR nm) = some (some (.ref g))) : Looks M h (numberSlotInPython (.ref C) nm) true := by
  intro A Q E s k q
  unfold numberSlotInPython
  refine wpAny_bind (looks_findIn X hs A _ E s k ?_)
  refine wpAny_bind (wpAny_pure ?_)
  refine wpAny_bind (looks_findIn X hr A _ E s k ?_)
  refine wpAny_bind (wpAny_pure ?_)
  exact wpAny_pure q
/-- the class's operator, an int or a tuple (or what is like them) at its right -/
theorem binop_left {op : Operator} {sym nm : String} {b : Value} {T : String} {r : Bool} {o : Option Value} {Q : Value → Shared → Prop} (hi : op.info = (sym, nm)) (F : Fr h₀ L s.heap m) (X₀ : K.In h₀) (I : InstAt s.heap x ox C od) (hb : Looks (model prog w) s.heap (typeOf b) (.type T)) (hc : selfFirst K C = true)
    (hT : fillsNumberSlot (.type T) nm = pure r) (hsub : subIn K (.type T) (.ref C) = some false) (ho : typeLookup (.type T) (PySem.dunderR nm) = pure o)
    (hs : findIn K (.ref C) (PySem.dunder nm) = some (some (.ref f))) (hs2 : findIn K (.ref C) (PySem.dunderR nm) = some (some (.ref g))) (hf : isFn K (.ref f) = true)
    (h : wpAny (model prog w) A (call (.ref f) [.ref x, b]) (PySem.W.CmpBack Q) E s) : wpAny (model prog w) A (binaryOp op (.ref x) b) Q E s := by
  have X := X₀.keeps F.keep
  obtain ⟨cd, hcd, hm⟩ := any_some hc
  obtain ⟨rest, hm⟩ : ∃ rest, cd.mro = .ref C :: rest := by
    cases q : cd.mro with
    | nil => rw [q] at hm; cases hm
    | cons a r => rw [q] at hm; exact ⟨r, by rw [List.head?_cons] at hm; cases (beq_iff_eq.mp hm); rfl⟩
  simp only [binaryOp, hi]
  refine wpAny_holding (wpAny_bind ?_)
  unfold binaryOp1
  refine wpAny_bind (I.type.here (wpAny_bind (hb.here (wpAny_bind ((fills_K X hcd hm hs).here ?_)))))
  have hne : (Value.ref C == Value.type T) = false := rfl
  simp only [hne, Bool.false_eq_true, if_false]
  refine wpAny_bind (wpAny_of_eq hT ?_)
  have fin : wpAny (model prog w) A (tryMethod (.ref x) (PySem.dunder nm) b) (fun r s' => ∃ v, r = some v ∧ Q v s') E s := by
    unfold tryMethod
    refine wpAny_bind (special_fn X I hs (beq_iff_eq.mp hf) (wpAny_mono h (fun v s' hv => ?_) fun _ _ e => e))
    cases v <;> first | exact hv.elim | exact wpAny_pure ⟨_, rfl, hv⟩
  cases r with
  | false =>
    simp only [Bool.and_false, Bool.false_eq_true, if_false, Bool.false_and, pure_bind]
    simp only [if_true]
    refine wpAny_bind (wpAny_mono fin (fun r s' z => ?_) fun _ _ e => e)
    obtain ⟨v, rfl, hq⟩ := z
    exact wpAny_pure (wpAny_pure hq)
  | true =>
    simp only [Bool.and_self, if_true]
    refine wpAny_bind ((looks_subIn X hsub).here ?_)
    simp only [Bool.false_eq_true, if_false, Bool.not_false, Bool.and_self, if_true, pure_bind]
    refine wpAny_bind ((slot_py X hs hs2).here ?_)
    have hpy : numberSlotInPython (.type T) nm = pure false := rfl
    simp only [hpy, if_true, Bool.not_false, pure_bind, ho]
    refine wpAny_bind (wpAny_mono fin (fun r s' z => ?_) fun _ _ e => e)
    obtain ⟨v, rfl, hq⟩ := z
    exact wpAny_pure (wpAny_pure hq)
/-- the class's reflected operator behind a tuple (its type has no such number slot) -/
theorem binop_rightT {op : Operator} {sym nm : String} {a : Value} {T : String} {Q : Value → Shared → Prop} (hi : op.info = (sym, nm)) (F : Fr h₀ L s.heap m) (X₀ : K.In h₀) (I : InstAt s.heap x ox C od) (ha : Looks (model prog w) s.heap (typeOf a) (.type T)) (hc : selfFirst K C = true)
    (hT : fillsNumberSlot (.type T) nm = pure false)
    (hs : findIn K (.ref C) (PySem.dunder nm) = some (some (.ref f))) (hs2 : findIn K (.ref C) (PySem.dunderR nm) = some (some (.ref g))) (hf : isFn K (.ref g) = true)
    (h : wpAny (model prog w) A (call (.ref g) [.ref x, a]) (PySem.W.CmpBack Q) E s) : wpAny (model prog w) A (binaryOp op a (.ref x)) Q E s := by
  have X := X₀.keeps F.keep
  obtain ⟨cd, hcd, hm⟩ := any_some hc
  obtain ⟨rest, hm⟩ : ∃ rest, cd.mro = .ref C :: rest := by
    cases q : cd.mro with
    | nil => rw [q] at hm; cases hm
    | cons a r => rw [q] at hm; exact ⟨r, by rw [List.head?_cons] at hm; cases (beq_iff_eq.mp hm); rfl⟩
  simp only [binaryOp, hi]
  refine wpAny_holding (wpAny_bind ?_)
  unfold binaryOp1
  refine wpAny_bind (ha.here (wpAny_bind (I.type.here (wpAny_bind (wpAny_of_eq hT ?_)))))
  have hne : (Value.type T == Value.ref C) = false := rfl
  simp only [hne, Bool.false_eq_true, if_false]
  refine wpAny_bind ((fills_K X hcd hm hs).here ?_)
  simp only [Bool.false_and, Bool.false_eq_true, if_false, pure_bind, Bool.not_false, Bool.and_self, if_true]
  refine wpAny_bind (m := tryMethod (.ref x) _ a) ?_
  unfold tryMethod
  refine wpAny_bind (special_fn X I hs2 (beq_iff_eq.mp hf) (wpAny_mono h (fun v s' hv => ?_) fun _ _ e => e))
  cases v <;> first | exact hv.elim | exact wpAny_pure (wpAny_bind (wpAny_rule (wpAny_pure (wpAny_pure hv))))
/-- .. behind an int, whose own operator gives NotImplemented -/
theorem binop_rightI {op : Operator} {sym nm : String} {a : Value} {T id : String} {Q : Value → Shared → Prop} (hi : op.info = (sym, nm)) (F : Fr h₀ L s.heap m) (X₀ : K.In h₀) (I : InstAt s.heap x ox C od) (ha : s.TypeIs a T) (hc : selfFirst K C = true)
    (hT : fillsNumberSlot (.type T) nm = pure true) (hsub : subIn K (.ref C) (.type T) = some false) (sl : Slot T (PySem.dunder nm) id)
    (hcall : ∀ (Q' : Value → Shared → Prop), Q' .notImplemented s → wpAny (model prog w) A (call (.builtin id) [a, .ref x]) Q' E s)
    (hs : findIn K (.ref C) (PySem.dunder nm) = some (some (.ref f))) (hs2 : findIn K (.ref C) (PySem.dunderR nm) = some (some (.ref g))) (hf : isFn K (.ref g) = true)
    (h : wpAny (model prog w) A (call (.ref g) [.ref x, a]) (PySem.W.CmpBack Q) E s) : wpAny (model prog w) A (binaryOp op a (.ref x)) Q E s := by
  have X := X₀.keeps F.keep
  obtain ⟨cd, hcd, hm⟩ := any_some hc
  obtain ⟨rest, hm⟩ : ∃ rest, cd.mro = .ref C :: rest := by
    cases q : cd.mro with
    | nil => rw [q] at hm; cases hm
    | cons a r => rw [q] at hm; exact ⟨r, by rw [List.head?_cons] at hm; cases (beq_iff_eq.mp hm); rfl⟩
  simp only [binaryOp, hi]
  refine wpAny_holding (wpAny_bind ?_)
  unfold binaryOp1
  refine wpAny_bind (wpAny_typeOf ha (wpAny_bind (I.type.here (wpAny_bind (wpAny_of_eq hT ?_)))))
  have hne : (Value.type T == Value.ref C) = false := rfl
  simp only [hne, Bool.false_eq_true, if_false]
  refine wpAny_bind ((fills_K X hcd hm hs).here ?_)
  simp only [Bool.and_self, if_true]
  refine wpAny_bind ((looks_subIn X hsub).here ?_)
  have hpy : numberSlotInPython (.type T) nm = pure false := rfl
  simp only [Bool.false_eq_true, if_false, Bool.not_false, Bool.and_self, if_true, pure_bind, hpy]
  refine wpAny_bind (wpAny_tryMethod_declines ha sl (hcall _ ⟨rfl, ?_⟩))
  refine wpAny_bind (m := tryMethod (.ref x) _ a) ?_
  unfold tryMethod
  refine wpAny_bind (special_fn X I hs2 (beq_iff_eq.mp hf) (wpAny_mono h (fun v s' hv => ?_) fun _ _ e => e))
  cases v <;> first | exact hv.elim | exact wpAny_pure (wpAny_bind (wpAny_rule (wpAny_pure (wpAny_pure hv))))
/-- - x -/
theorem neg_own {Q : Value → Shared → Prop} (F : Fr h₀ L s.heap m) (X₀ : K.In h₀) (I : InstAt s.heap x ox C od) (hs : findIn K (.ref C) "__neg__" = some (some (.ref f))) (hf : isFn K (.ref f) = true)
    (h : wpAny (model prog w) A (call (.ref f) [.ref x]) Q E s) : wpAny (model prog w) A (unaryOp .USub (.ref x)) Q E s := by
  have X := X₀.keeps F.keep
  unfold unaryOp
  refine wpAny_holding ?_
  show wpAny _ _ (callSpecial? (.ref x) "__neg__" >>= _) _ _ s
  exact wpAny_bind (special_fn X I hs (beq_iff_eq.mp hf) (wpAny_mono h (fun v s' hv => wpAny_pure hv) fun _ _ e => e))
end
/-! ### an int's operators decline an instance -/
theorem int_add_ins (a : Int) (t : Tok) (l C dx : Addr) : Meets (Builtin.«int.__add__» ⟨[.int a t, .ref l], []⟩) (fun _ R s => s.heap.get? l = some (PySem.W.instObj C dx) ∧ R (.ok (.ret Value.notImplemented)) s) :=
  .of_wp fun prog w A R s h => by obtain ⟨hp, g, d, tk, os⟩ := s; obtain ⟨hl, h⟩ := h; unfold PySem.W.instObj at hl; wp_walk using wpAny_loadPart' hl; exact ⟨_, rfl, h⟩
theorem int_sub_ins (a : Int) (t : Tok) (l C dx : Addr) : Meets (Builtin.«int.__sub__» ⟨[.int a t, .ref l], []⟩) (fun _ R s => s.heap.get? l = some (PySem.W.instObj C dx) ∧ R (.ok (.ret Value.notImplemented)) s) :=
  .of_wp fun prog w A R s h => by obtain ⟨hp, g, d, tk, os⟩ := s; obtain ⟨hl, h⟩ := h; unfold PySem.W.instObj at hl; wp_walk using wpAny_loadPart' hl; exact ⟨_, rfl, h⟩
theorem int_mul_ins (a : Int) (t : Tok) (l C dx : Addr) : Meets (Builtin.«int.__mul__» ⟨[.int a t, .ref l], []⟩) (fun _ R s => s.heap.get? l = some (PySem.W.instObj C dx) ∧ R (.ok (.ret Value.notImplemented)) s) :=
  .of_wp fun prog w A R s h => by obtain ⟨hp, g, d, tk, os⟩ := s; obtain ⟨hl, h⟩ := h; unfold PySem.W.instObj at hl; wp_walk using wpAny_loadPart' hl; exact ⟨_, rfl, h⟩
/-! ### methods -/
structure Met (P : Program) (w : World) (K : PySem.W.Frag) (mg : Str → Option Value) (base : Heap) (CX : CXT) (k : Nat) (C : Addr) (m : Str) (sp : Sp) : Prop where
  ex : ∃ (f : Addr) (fd : FuncData) (ps : List Str), FnOk P w K mg base CX k f fd ps sp ∧ Meth K C m f ∧ Binds K fd ps []
section
variable {X : Cx} {CX : CXT} {j k : Nat} {C : Addr} {m : Str} {sp : Sp} {E : XK} {p pos apos : Pos} {e o : Expr} {es : List Expr} {t : TA} {ta : TE}
theorem pe_met {pl : Sem Bool} (c : Met X.prog X.w X.K X.mg X.base CX k C m sp) (cl : Cls X.K C) (hr : Room j X.A) (hk : k ≤ j) (hx : Passes CX X E) (he : PE X o ta) (ha : PA X (e :: es) t)
    (hst : starEach (e :: es) X.env = (false, eval e X.env) :: starEach es X.env := by rfl) (hpl : (backTo pos (starEach es X.env)).any (·.1) = false := by rfl)
    (ht : eval (.Call (.Attribute o m apos) (e :: es) [] pos) X.env = (do
      let ov ← eval o X.env
      standAt apos.atName
      let (f, first) ← holding [ov] (getMethod ov m pl)
      callWith pos f first (backTo pos (starEach (e :: es) X.env)) (backToKw pos (keywordEach [] X.env))) := by rfl) :
    PE X (.Call (.Attribute o m apos) (e :: es) [] pos) (tMeth C m sp [] E ta t) := by
  obtain ⟨f, fd, ps, F, M, b⟩ := c.ex
  exact pe_meth he cl M F (hr.mono hk) b .nil hx ha hst hpl ht
theorem pe_met0 {pl : Sem Bool} (c : Met X.prog X.w X.K X.mg X.base CX k C m sp) (cl : Cls X.K C) (hr : Room j X.A) (hk : k ≤ j) (hx : Passes CX X E) (he : PE X o ta)
    (ht : eval (.Call (.Attribute o m apos) [] [] pos) X.env = (do
      let ov ← eval o X.env
      standAt apos.atName
      let (f, first) ← holding [ov] (getMethod ov m pl)
      callWith pos f first (backTo pos (starEach [] X.env)) (backToKw pos (keywordEach [] X.env))) := by rfl) :
    PE X (.Call (.Attribute o m apos) [] [] pos) (tMeth C m sp [] E ta tNil) := by
  obtain ⟨f, fd, ps, F, M, b⟩ := c.ex
  exact pe_meth0 he cl M F (hr.mono hk) b .nil hx ht
/-- what the class's text must have for own operators -/
structure OwnF (K : PySem.W.Frag) (C : Addr) : Prop where
  sf : PySem.W.selfFirst K C = true
  iC : PySem.W.subIn K (.type "int") (.ref C) = some false
  tC : PySem.W.subIn K (.type "tuple") (.ref C) = some false
  lC : PySem.W.subIn K (.type "list") (.ref C) = some false
  Ci : PySem.W.subIn K (.ref C) (.type "int") = some false
/-- what of the builtin types an operator needs -/
structure OpF (op : Operator) (sym nm : String) (m mr : Str) : Prop where
  hi : op.info = (sym, nm)
  m_ : PySem.dunder nm = m
  mr_ : PySem.dunderR nm = mr
  tf : fillsNumberSlot (.type "tuple") nm = pure false
  to : ∃ o, typeLookup (.type "tuple") (PySem.dunderR nm) = pure o
  if_ : fillsNumberSlot (.type "int") nm = pure true
  io : ∃ o, typeLookup (.type "int") (PySem.dunderR nm) = pure o
  dec : ∃ id, Slot "int" (PySem.dunder nm) id ∧ ∀ (prog : Program) (w : World) (A : Around) (E : Value → Shared → Prop) (s : Shared) (i : Int) (t : Tok) (x C dx : Addr), s.heap.get? x = some (PySem.W.instObj C dx) →
    ∀ (Q' : Value → Shared → Prop), Q' .notImplemented s → wpAny (model prog w) A (call (.builtin id) [.int i t, .ref x]) Q' E s
theorem noL_tuple_sub : typeLookup (.type "tuple") (PySem.dunder "sub") = pure none := by rw [typeLookup_type, builtinLookup_eq_fast]; kernel_rfl
theorem noR_tuple_sub : typeLookup (.type "tuple") (PySem.dunderR "sub") = pure none := by rw [typeLookup_type, builtinLookup_eq_fast]; kernel_rfl
theorem opf_add : OpF .Add "+" "add" "__add__" "__radd__" := ⟨rfl, by decide +kernel, by decide +kernel, noFill_tuple_add, ⟨_, noR_tuple_add⟩, PySem.F.fills_int_add, ⟨_, PySem.F.slot_int_radd.lookup⟩,
  _, PySem.F.slot_int_add, fun _ _ _ _ _ i t x C dx hx Q' q => call_meets PySem.F.slot_int_add (typeIs_int _ i t) PySem.F.entry_int_add (PySem.F.args_int_add_2 _ _) (int_add_ins i t x C dx) ⟨hx, q⟩⟩
theorem opf_sub : OpF .Sub "-" "sub" "__sub__" "__rsub__" := ⟨rfl, by decide +kernel, by decide +kernel, by simp only [fillsNumberSlot, noL_tuple_sub, noR_tuple_sub, pure_bind]; rfl, ⟨_, noR_tuple_sub⟩, PySem.F.fills_int_sub, ⟨_, PySem.F.slot_int_rsub.lookup⟩,
  _, PySem.F.slot_int_sub, fun _ _ _ _ _ i t x C dx hx Q' q => call_meets PySem.F.slot_int_sub (typeIs_int _ i t) PySem.F.entry_int_sub (PySem.F.args_int_sub_2 _ _) (int_sub_ins i t x C dx) ⟨hx, q⟩⟩
theorem opf_mul : OpF .Mult "*" "mul" "__mul__" "__rmul__" := ⟨rfl, by decide +kernel, by decide +kernel, noFill_tuple_mul, ⟨_, PySem.F.slot_tuple_rmul.lookup⟩, PySem.F.fills_int_mul, ⟨_, PySem.F.slot_int_rmul.lookup⟩,
  _, PySem.F.slot_int_mul, fun _ _ _ _ _ i t x C dx hx Q' q => call_meets PySem.F.slot_int_mul (typeIs_int _ i t) PySem.F.entry_int_mul (PySem.F.args_int_mul_2 _ _) (int_mul_ins i t x C dx) ⟨hx, q⟩⟩
/-- a promise whose answer is an object or a bool -/
def OwnA (sp : Sp) (vs : List V) (H : Hp) (Q : VK) (E : XK) : Prop := sp vs H (fun v H' => ((∃ p, v = .ref p) ∨ ∃ b, v = .bl b) ∧ Q v H') E
theorem own_run {f : Addr} {fd : FuncData} {ps : List Str} {pins : List (Addr × Obj)} {σ : L2.St} {H : Hp} {s : Shared} {Q : VK} {us : List Value} {vs : List V} (F : FnOk X.prog X.w X.K X.mg X.base CX k f fd ps sp) (hr : Room k X.A) (hb : Binds X.K fd ps []) (hx : Passes CX X E)
    (I : Inv X pins σ H s) (r : Vals vs us) (h : OwnA sp vs H Q E) : wpAny (model X.prog X.w) X.A (call (.ref f) us) (PySem.W.CmpBack (EP X pins σ Q)) X.xe s := by
  refine wpAny_mono (run_fn (dvs := []) (ds := []) F hr hb .nil hx I r (by rw [List.append_nil]; exact h)) (fun u s' z => ?_) fun _ _ e => e
  obtain ⟨v, H', I', rv, hv, q⟩ := z
  rcases hv with ⟨p, rfl⟩ | ⟨b, rfl⟩
  · cases rv
    exact ⟨.ref p, H', I', rfl, q⟩
  · cases rv
    exact ⟨.bl b, H', I', rfl, q⟩
def rOwnL (K : PySem.W.Frag) (C : Addr) (sp : Sp) (E : XK) : R2 := fun x y H Q => ∃ a dx fs, x = .ref a ∧ H a = some (.ins C dx fs) ∧ ((∃ b dy gs, y = .ref b ∧ H b = some (.ins C dy gs)) ∨ (∃ i, y = .int i) ∨ ∃ b ys, y = .ref b ∧ SqT K H b ys) ∧ OwnA sp [x, y] H Q E
def rOwnR (K : PySem.W.Frag) (C : Addr) (sp : Sp) (E : XK) : R2 := fun y x H Q => ∃ a dx fs, x = .ref a ∧ H a = some (.ins C dx fs) ∧ ((∃ i, y = .int i) ∨ ∃ b ys, y = .ref b ∧ SqT K H b ys) ∧ OwnA sp [x, y] H Q E
theorem op_ownL {op : Operator} {sym nm : String} {mr : Str} {k' : Nat} {sp' : Sp} {CX' : CXT} (O : OpF op sym nm m mr) (W : OwnF X.K C) (c : Met X.prog X.w X.K X.mg X.base CX k C m sp) (c' : Met X.prog X.w X.K X.mg X.base CX' k' C mr sp') (hr : Room j X.A) (hk : k ≤ j) (hx : Passes CX X E) :
    OpR X (binaryOp op) (rOwnL X.K C sp E) := by
  intro pins s σ H x y v u Q I rx ry h
  obtain ⟨f, fd, ps, F, M, b⟩ := c.ex
  obtain ⟨f', fd', ps', F', M', b'⟩ := c'.ex
  obtain ⟨hi, rfl, rfl, tf, ⟨to, hto⟩, if_, ⟨io, hio⟩, dec⟩ := O
  obtain ⟨a, dx, fs, rfl, ha, hy, q⟩ := h
  cases rx
  obtain ⟨mA, J, _⟩ := ins_get I.hok ha
  obtain ⟨od, J, _⟩ := J.look
  obtain ⟨m, hF⟩ := I.fr
  rcases hy with ⟨b0, dy, gs, rfl, hb⟩ | ⟨i, rfl⟩ | ⟨b0, ys, rfl, hb⟩
  · cases ry
    obtain ⟨mB, J', _⟩ := ins_get I.hok hb
    obtain ⟨od', J', _⟩ := J'.look
    refine PySem.W.binop_K hF I.ok.mod.kin J J'.type W.sf (f := f) (by rw [hi]; exact M.at_) M.fn ?_
    exact own_run F (hr.mono hk) b hx I (vs := [.ref a, .ref b0]) (.cons rfl (.cons rfl .nil)) q
  · obtain ⟨t, rfl⟩ := ry
    refine binop_left hi hF I.ok.mod.kin J (T := "int") (PySem.W.Looks.of_pure rfl) W.sf if_ W.iC hio M.at_ M'.at_ M.fn ?_
    exact own_run F (hr.mono hk) b hx I (vs := [.ref a, .int i]) (.cons rfl (.cons ⟨_, rfl⟩ .nil)) q
  · cases ry
    obtain ⟨its, rv, p', hz⟩ := I.tuple hb
    refine binop_left hi hF I.ok.mod.kin J (T := "tuple") ?_ W.sf tf W.tC hto M.at_ M'.at_ M.fn ?_
    · obtain ⟨o, ho, hc, _⟩ := p'
      intro A Q E s k q
      exact wpAny_typeOf (T := "tuple") ⟨o, k _ _ ho, hc⟩ q
    · exact own_run F (hr.mono hk) b hx I (vs := [.ref a, .ref b0]) (.cons rfl (.cons rfl .nil)) q
theorem op_ownR {op : Operator} {sym nm : String} {ml : Str} {k' : Nat} {sp' : Sp} {CX' : CXT} (O : OpF op sym nm ml m) (W : OwnF X.K C) (c : Met X.prog X.w X.K X.mg X.base CX k C m sp) (c' : Met X.prog X.w X.K X.mg X.base CX' k' C ml sp') (hr : Room j X.A) (hk : k ≤ j) (hx : Passes CX X E) :
    OpR X (binaryOp op) (rOwnR X.K C sp E) := by
  intro pins s σ H y x u v Q I ry rx h
  obtain ⟨f, fd, ps, F, M, b⟩ := c.ex
  obtain ⟨f', fd', ps', F', M', b'⟩ := c'.ex
  obtain ⟨hi, rfl, rfl, tf, _, if_, _, ⟨id, sl, dec⟩⟩ := O
  obtain ⟨a, dx, fs, rfl, ha, hy, q⟩ := h
  cases rx
  obtain ⟨mA, J0, _⟩ := ins_get I.hok ha
  obtain ⟨od, J, _⟩ := J0.look
  obtain ⟨m, hF⟩ := I.fr
  rcases hy with ⟨i, rfl⟩ | ⟨b0, ys, rfl, hb⟩
  · obtain ⟨t, rfl⟩ := ry
    refine binop_rightI hi hF I.ok.mod.kin J (T := "int") rfl W.sf if_ W.Ci sl (dec _ _ _ _ _ i t a C dx J0.obj) M'.at_ M.at_ M.fn ?_
    exact own_run F (hr.mono hk) b hx I (vs := [.ref a, .int i]) (.cons rfl (.cons ⟨_, rfl⟩ .nil)) q
  · cases ry
    obtain ⟨its, rv, p', hz⟩ := I.tuple hb
    refine binop_rightT hi hF I.ok.mod.kin J (T := "tuple") ?_ W.sf tf M'.at_ M.at_ M.fn ?_
    · obtain ⟨o, ho, hc, _⟩ := p'
      intro A Q E s k q
      exact wpAny_typeOf (T := "tuple") ⟨o, k _ _ ho, hc⟩ q
    · exact own_run F (hr.mono hk) b hx I (vs := [.ref a, .ref b0]) (.cons rfl (.cons rfl .nil)) q
/-- - x -/
def rOwnN (C : Addr) (sp : Sp) (E : XK) : V → Hp → VK → Prop := fun x H Q => ∃ a dx fs, x = .ref a ∧ H a = some (.ins C dx fs) ∧ sp [x] H Q E
theorem un_own (c : Met X.prog X.w X.K X.mg X.base CX k C "__neg__" sp) (hr : Room j X.A) (hk : k ≤ j) (hx : Passes CX X E) : UnR X (unaryOp .USub) (rOwnN C sp E) := by
  intro pins s σ H x v Q I rx h
  obtain ⟨f, fd, ps, F, M, b⟩ := c.ex
  obtain ⟨a, dx, fs, rfl, ha, q⟩ := h
  cases rx
  obtain ⟨mA, J0, _⟩ := ins_get I.hok ha
  obtain ⟨od, J, _⟩ := J0.look
  obtain ⟨m, hF⟩ := I.fr
  refine neg_own hF I.ok.mod.kin J M.at_ M.fn ?_
  exact run_fn (dvs := []) (ds := []) (vs := [.ref a]) F (hr.mono hk) b .nil hx I (.cons rfl .nil) q
/-- x == y, x an instance -/
def rOwnE (K : PySem.W.Frag) (C : Addr) (sp : Sp) (E : XK) : R2 := fun x y H Q => ∃ a dx fs, x = .ref a ∧ H a = some (.ins C dx fs) ∧ ((∃ b dy gs, y = .ref b ∧ H b = some (.ins C dy gs)) ∨ (∃ i, y = .int i) ∨ ∃ b ys, y = .ref b ∧ SqT K H b ys) ∧ OwnA sp [x, y] H Q E
theorem op_ownE (W : OwnF X.K C) (c : Met X.prog X.w X.K X.mg X.base CX k C "__eq__" sp) (hr : Room j X.A) (hk : k ≤ j) (hx : Passes CX X E) : OpR X (compareOp .Eq) (rOwnE X.K C sp E) := by
  intro pins s σ H x y v u Q I rx ry h
  obtain ⟨f, fd, ps, F, M, b⟩ := c.ex
  obtain ⟨a, dx, fs, rfl, ha, hy, q⟩ := h
  cases rx
  obtain ⟨mA, J, _⟩ := ins_get I.hok ha
  obtain ⟨od, J, _⟩ := J.look
  obtain ⟨m, hF⟩ := I.fr
  show wpAny _ _ (richCompare .Eq _ _) _ _ _
  have hu : X.A.units < cLine := by have := hr.un; omega
  rcases hy with ⟨b0, dy, gs, rfl, hb⟩ | ⟨i, rfl⟩ | ⟨b0, ys, rfl, hb⟩
  · cases ry
    obtain ⟨mB, J', _⟩ := ins_get I.hok hb
    obtain ⟨od', J', _⟩ := J'.look
    refine PySem.W.cmp_K (op := .Eq) (tb := .ref C) hu hF I.ok.mod.kin J J'.type (by simp [PySem.W.notFirst]) M.at_ M.fn ?_
    exact own_run F (hr.mono hk) b hx I (vs := [.ref a, .ref b0]) (.cons rfl (.cons rfl .nil)) q
  · obtain ⟨t, rfl⟩ := ry
    refine PySem.W.cmp_K (op := .Eq) (tb := .type "int") hu hF I.ok.mod.kin J (PySem.W.Looks.of_pure rfl) (by simp [PySem.W.notFirst, W.iC]) M.at_ M.fn ?_
    exact own_run F (hr.mono hk) b hx I (vs := [.ref a, .int i]) (.cons rfl (.cons ⟨_, rfl⟩ .nil)) q
  · cases ry
    obtain ⟨its, rv, p', hz⟩ := I.tuple hb
    refine PySem.W.cmp_K (op := .Eq) (tb := .type "tuple") hu hF I.ok.mod.kin J ?_ (by simp [PySem.W.notFirst, W.tC]) M.at_ M.fn ?_
    · obtain ⟨o, ho, hc, _⟩ := p'
      intro A Q E s k q
      exact wpAny_typeOf (T := "tuple") ⟨o, k _ _ ho, hc⟩ q
    · exact own_run F (hr.mono hk) b hx I (vs := [.ref a, .ref b0]) (.cons rfl (.cons rfl .nil)) q
end
/-! ### t[::-1], t a tuple -/
section
variable {prog : Program} {w : World} {A : Around} {E : Value → Shared → Prop} {s : Shared}
theorem applied_rev {sl : Addr} {vl vu vs : Value} {n : Nat} {Q : Int × Int × Nat → Shared → Prop} (hs : s.heap.IsSliceOf sl vl vu vs) (pl : IsPart vl none) (pu : IsPart vu none) (ps : IsPart vs (some (-1)))
    (h : Q ((n : Int) - 1, -1, n) s) : wpAny (model prog w) A (Builtin.Slice.sliceApplied (.ref sl) (pure (n : Int))) Q E s := by
  obtain ⟨os, hos, hcs, hds⟩ := id hs
  unfold Builtin.Slice.sliceApplied Builtin.Slice.sliceFields
  refine wpAny_bind (wpAny_bind (wpAny_field hos hds (x := vl) rfl (wpAny_bind (wpAny_field hos hds (x := vu) rfl (wpAny_bind (wpAny_field hos hds (x := vs) rfl (wpAny_pure ?_)))))))
  refine wpAny_bind (HT.slicePart_ ps ?_)
  show wpAny _ _ (if ((-1 : Int) == 0) = true then _ else _) _ _ s
  rw [if_neg (by decide)]
  refine wpAny_bind (HT.slicePart_ pl (wpAny_bind (HT.slicePart_ pu (wpAny_bind (wpAny_pure ?_)))))
  have e : Builtin.Slice.slicePlaces ((n : Int) - 1) (-1) (-1) = n := by
    unfold Builtin.Slice.slicePlaces
    have h1 : ¬ ((-1 : Int) > 0) := by decide
    simp only [h1, if_false]
    by_cases hn : (n : Int) - 1 > -1
    · simp only [hn, if_true]
      have e1 : ((n : Int) - 1 - -1 - 1) / (- -1) = (n : Int) - 1 := by
        rw [show (- -1 : Int) = 1 by decide, Int.ediv_one]
        omega
      rw [e1]
      omega
    · simp only [hn, if_false]
      omega
  show wpAny _ _ (pure ((n : Int) - 1, (-1 : Int), Builtin.Slice.slicePlaces ((n : Int) - 1) (-1) (-1))) _ _ s
  rw [e]
  exact wpAny_pure h
theorem fm_congr {α β : Type} {f g : α → Option β} : ∀ {l : List α}, (∀ x ∈ l, f x = g x) → l.filterMap f = l.filterMap g
  | [], _ => rfl
  | a :: l, h => by
    rw [List.filterMap_cons, List.filterMap_cons, h a List.mem_cons_self, fm_congr fun x hx => h x (List.mem_cons_of_mem _ hx)]
theorem pick_rev (xs : Array Value) : ((List.range xs.size).filterMap fun (k : Nat) => xs[((xs.size : Int) - 1 + (k : Int) * (-1)).toNat]?) = xs.toList.reverse := by
  have h : ∀ k ∈ List.range xs.size, xs[((xs.size : Int) - 1 + (k : Int) * (-1)).toNat]? = xs.toList.reverse[k]? := by
    intro k hk
    have hk := List.mem_range.mp hk
    have e : ((xs.size : Int) - 1 + (k : Int) * (-1)).toNat = xs.size - 1 - k := by omega
    rw [e, List.getElem?_reverse (by simpa using hk)]
    simp
  rw [fm_congr h]
  have e2 : ∀ (l : List Value), (List.range l.length).filterMap (fun k => l[k]?) = l := by
    intro l
    induction l with
    | nil => rfl
    | cons a t ih =>
      rw [List.length_cons, List.range_succ_eq_map, List.filterMap_cons]
      simp only [List.getElem?_cons_zero, List.filterMap_map]
      exact congrArg _ ih
  have e3 := e2 xs.toList.reverse
  simpa using e3
theorem get_rev {t sl : Addr} {items : Array Value} {vl vu vs : Value} {Q : Value → Shared → Prop} (ht : IsTup s.heap t items) (hs : s.heap.IsSliceOf sl vl vu vs) (pl : IsPart vl none) (pu : IsPart vu none) (ps : IsPart vs (some (-1)))
    (h : Q (.ref s.heap.objs.size) { s with heap := s.heap.push { cls := .type "tuple", data := .seq items.toList.reverse.toArray } }) (hsz : items.size ≤ sizeLine) : wpAny (model prog w) A (getItem (.ref t) (.ref sl)) Q E s := by
  have htake : sizeOk (.seq items.toList.reverse.toArray) := by
    show items.toList.reverse.toArray.size ≤ sizeLine
    rw [List.size_toArray, List.length_reverse, Array.length_toList]
    exact hsz
  obtain ⟨os, hos, hcs, hds⟩ := id hs
  have hTs : s.TypeIs (.ref sl) "slice" := ⟨os, hos, hcs⟩
  unfold getItem
  refine wpAny_holding ?_
  refine wpAny_bind (wpAny_sequenceKey ht.typeIs (by decide) ?_)
  refine wpAny_bind (wpAny_callSpecial?_slot (name := Str.ofString "__getitem__") ht.typeIs PyProof.Rows.slot_tuple_getitem
    (wpAny_call_entry PyProof.Rows.slot_tuple_getitem ht.typeIs entry_tuple_getitem ?_ (args_tuple_getitem _ _)))
  show wpAny _ _ (Builtin.Tuple.tupleItemsOf (.ref t) >>= _) _ _ s
  refine wpAny_bind (tupleItemsOf_ ht ?_)
  refine wpAny_bind (wpAny_typeOf hTs ?_)
  rw [if_pos (by decide)]
  refine wpAny_bind (applied_rev hs pl pu ps ?_)
  have hno : ¬ ((((items.size : Int) - 1) == 0 && (-1 : Int) == 1 && items.size == items.size) = true) := by
    intro q
    rw [Bool.and_eq_true, Bool.and_eq_true] at q
    exact absurd q.1.2 (by decide)
  show wpAny _ _ (if (((items.size : Int) - 1) == 0 && (-1 : Int) == 1 && items.size == items.size) = true then _ else _) _ _ s
  rw [if_neg hno, pick_rev]
  first
    | exact wpAny_bind (m := Builtin.Tuple.tupleExact _) (wpAny_newObj_type (wpAny_pure ⟨_, rfl, wpAny_pure h⟩) htake)
    | exact wpAny_bind (m := Builtin.Tuple.tupleExact _) (wpAny_newObj_type (wpAny_bind (wpAny_pure (wpAny_pure ⟨_, rfl, wpAny_pure h⟩))) htake)
    | exact wpAny_bind (wpAny_bind (m := Builtin.Tuple.tupleExact _) (wpAny_newObj_type (wpAny_pure (wpAny_pure ⟨_, rfl, wpAny_pure h⟩)) htake))
end
def tRevT (K : PySem.W.Frag) (te : TE) : TE := fun σ H Q => te σ H fun x H1 => ∃ a xs, x = .ref a ∧ SqT K H1 a xs ∧ ∀ p, H1 p = none → Q (.ref p) (upd H1 p (.tup xs.reverse))
theorem pe_revT {X : Cx} {e : Expr} {te : TE} {k : Nat} {p1 p2 p3 pos : Pos} (he : PE X e te) : PE X (.Subscript e (.Slice none none (some (.UnaryOp .USub (.Constant (.int 1) k p1) p2)) p3) pos) (tRevT X.K te) := by
  constructor
  intro pins s σ H Q I h
  refine Subscript_ (thn (he.run pins s σ H _ I h) ?_)
  intro v s1 z
  obtain ⟨x, H1, I1, r1, a, xs, rfl, hx, q⟩ := z
  cases r1
  have hst : PO X (some (.UnaryOp .USub (.Constant (.int 1) k p1) p2)) (tPart (tUn (rU fun i => .int (-i)) (tC (.int 1)))) := po_some (pe_un un_neg pe_int)
  refine wpAny_Slice (thn (po_none.run pins s1 σ H1 (fun o H2 => o = none ∧ H2 = H1) I1 ⟨rfl, rfl⟩) ?_)
  intro vl s2 z
  obtain ⟨l, H2, I2, pl, rfl, rfl⟩ := z
  refine thn (po_none.run pins s2 σ H2 (fun o H3 => o = none ∧ H3 = H2) I2 ⟨rfl, rfl⟩) ?_
  intro vu s3 z
  obtain ⟨u, H3, I3, pu, rfl, rfl⟩ := z
  refine thn (hst.run pins s3 σ H3 (fun o H4 => o = some (-1) ∧ H4 = H3) I3 ⟨1, rfl, -1, rfl, rfl, rfl⟩) ?_
  intro vs s4 z
  obtain ⟨o, H4, I4, ps, rfl, rfl⟩ := z
  have I5 : Inv X pins σ H4 { s4 with heap := s4.heap.push { cls := .type "slice", data := .fields #[vl, vu, vs] } } := I4.kept (t' := s4.toks) fun b ob q => Heap.get?_push_of_some _ q
  obtain ⟨its, r, ht, hz⟩ := I5.tuple hx
  have hlen := r.length
  show wpAny (model X.prog X.w) X.A (subscriptTail e (.Slice none none (some (.UnaryOp .USub (.Constant (.int 1) k p1) p2)) p3) (.ref a) (.ref s4.heap.objs.size)) (EP X pins σ Q) X.xe { s4 with heap := s4.heap.push { cls := .type "slice", data := .fields #[vl, vu, vs] } }
  refine tail_any (ops := [.ref a, .ref s4.heap.objs.size]) ht.typeIs (PyProof.Rows.slot_tuple_getitem.lookup) ?_ (by with_unfolding_all rfl)
  refine get_rev ht (Heap.IsSliceOf.new _ vl vu vs) pl pu ps ?_ (by rw [List.size_toArray]; omega)
  refine ⟨.ref _, _, I5.laid (t' := s4.toks) (o := .tup xs.reverse) (fun b ob q => Heap.get?_push_of_some _ q) (Nat.le_refl _) ?_, rfl, q _ (I5.hok.fresh (Nat.le_refl _))⟩
  exact ⟨by rw [List.length_reverse]; exact hz, _, r.reverse, IsTup.new _ _⟩
/-! ### t * k, k below 2 -/
theorem tuple_mul1 (l : Addr) (items : Array Value) (n : Nat) (dd : Option Addr) (sl : Array (Option Value)) (u : Tok) :
    Meets (Builtin.«tuple.__mul__» ⟨[.ref l, .int 1 u], []⟩) (fun _ R s => s.heap.get? l = some { cls := .type "tuple", dict := dd, data := .seq items n, slots := sl } ∧ R (.ok (.ret (Value.ref l))) s) :=
  .of_wp fun prog w A R s h => by
    obtain ⟨hp, g, d, tk, os⟩ := s
    obtain ⟨hl, h⟩ := h
    have f1 := AutoSeq1.idx_int
    have c1 : (items.isEmpty || ((1 : Int) == 1)) = true := by simp
    wp_walk using wpAny_loadPart' hl
    repeat (first
      | (refine wpAny_ite_true (decide_eq_true c1) ?_; wp_walk using wpAny_loadPart' hl)
      | (refine wpAny_ite_false (decide_eq_false (by decide)) ?_; wp_walk using wpAny_loadPart' hl))
    exact ⟨_, rfl, h⟩
theorem tuple_mul0 (l : Addr) (v : Value) (vs : List Value) (n : Nat) (dd : Option Addr) (sl : Array (Option Value)) (x : Int) (u : Tok) (hx : x ≤ 0) (hx2 : -(2 ^ 63) ≤ x) :
    Meets (Builtin.«tuple.__mul__» ⟨[.ref l, .int x u], []⟩) (fun _ R s => s.heap.get? l = some { cls := .type "tuple", dict := dd, data := .seq (v :: vs).toArray n, slots := sl } ∧
      R (.ok (.ret (Value.ref s.heap.objs.size))) { s with heap := s.heap.push { cls := Value.type "tuple", data := Data.seq #[] }, toks := s.toks }) :=
  .of_wp fun prog w A R s h => by
    obtain ⟨hp, g, d, tk, os⟩ := s
    obtain ⟨hl, h⟩ := h
    have f1 := AutoSeq1.idx_int
    have c0 : (decide (x < -(2 ^ 63)) || decide (x ≥ 2 ^ 63)) = false := by
      rw [decide_eq_false (by omega), decide_eq_false (by omega)] <;> rfl
    have c1 : ((v :: vs).toArray.isEmpty || x == 1) = false := by
      rw [show (v :: vs).toArray.isEmpty = false from rfl, Bool.false_or]
      exact beq_eq_false_iff_ne.mpr (by omega)
    have c2 : (decide (x ≤ 0) || (v :: vs).toArray.isEmpty) = true := by
      rw [decide_eq_true hx]; rfl
    wp_walk using wpAny_loadPart' hl
    repeat (first
      | (refine wpAny_ite_false (decide_eq_false (by rw [c0]; exact Bool.false_ne_true)) ?_; wp_walk using wpAny_loadPart' hl)
      | (refine wpAny_ite_false (decide_eq_false (by rw [c1]; exact Bool.false_ne_true)) ?_; wp_walk using wpAny_loadPart' hl)
      | (refine wpAny_ite_true (decide_eq_true c2) ?_; wp_walk using wpAny_loadPart' hl))
    exact ⟨_, rfl, h⟩
/-- t * k, t not empty: for k = 1 t itself -/
def rRepA (K : PySem.W.Frag) : R2 := fun x y H Q => ∃ l k xs, x = .ref l ∧ y = .int k ∧ SqT K H l xs ∧ xs ≠ [] ∧ -1000 ≤ k ∧ k ≤ 1000 ∧ xs.length ≤ 1000 ∧
  (k = 1 → Q (.ref l) H) ∧ (k ≠ 1 → ∀ p, H p = none → Q (.ref p) (upd H p (.tup (List.replicate k.toNat xs).flatten)))
theorem op_repA {X : Cx} : OpR X (binaryOp .Mult) (rRepA X.K) := by
  intro pins s σ H x y v u Q I rx ry h
  obtain ⟨l, k, xs, rfl, rfl, hT, hne, h1, h2, hz, q1, q2⟩ := h
  by_cases hk : 2 ≤ k
  · exact op_repT pins s σ H _ _ v u Q I rx ry ⟨l, k, xs, rfl, rfl, hT, hne, hk, h2, hz, q2 (by omega)⟩
  · cases rx
    obtain ⟨t, rfl⟩ := ry
    obtain ⟨its, r, ⟨⟨cls, dd, data, sl⟩, ho, hc, n, hd⟩, hs⟩ := I.tuple hT
    simp only at hc hd
    subst hc hd
    cases its with
    | nil => cases r; exact absurd rfl hne
    | cons v vs =>
      by_cases h10 : k = 1
      · subst h10
        refine wpAny_binaryOp_repeat_ref (T := "tuple") (U := "int") (by decide) ⟨_, ho, rfl⟩ (fun s' => typeIs_int s' 1 t) noFill_tuple_mul F.fills_int_mul F.slot_int_rmul repeat_tuple F.slot_int_index.lookup
          (call_meets F.slot_int_rmul (typeIs_int s 1 t) F.entry_int_rmul (F.args_int_rmul_2 _ _) (int_rmul_tuple 1 t l (v :: vs).toArray n dd sl)
            ⟨ho, rfl, ⟨_, ho, rfl⟩, call_meets F.slot_tuple_mul ⟨_, ho, rfl⟩ F.entry_tuple_mul (F.args_tuple_mul_2 _ _) (tuple_mul1 l (v :: vs).toArray n dd sl t) ⟨ho, ?_⟩⟩)
        exact ⟨.ref l, H, I, rfl, q1 rfl⟩
      · refine wpAny_binaryOp_repeat_ref (T := "tuple") (U := "int") (by decide) ⟨_, ho, rfl⟩ (fun s' => typeIs_int s' k t) noFill_tuple_mul F.fills_int_mul F.slot_int_rmul repeat_tuple F.slot_int_index.lookup
          (call_meets F.slot_int_rmul (typeIs_int s k t) F.entry_int_rmul (F.args_int_rmul_2 _ _) (int_rmul_tuple k t l (v :: vs).toArray n dd sl)
            ⟨ho, rfl, ⟨_, ho, rfl⟩, call_meets F.slot_tuple_mul ⟨_, ho, rfl⟩ F.entry_tuple_mul (F.args_tuple_mul_2 _ _) (tuple_mul0 l v vs n dd sl k t (by omega) (by omega)) ⟨ho, ?_⟩⟩)
        have q := q2 h10
        rw [show k.toNat = 0 by omega] at q
        refine ⟨.ref s.heap.objs.size, _, I.laid (t' := s.toks) (o := .tup []) (fun b ob q => Heap.get?_push_of_some _ q) (Nat.le_refl _) ?_, rfl, q _ (I.hok.fresh (Nat.le_refl _))⟩
        exact ⟨Nat.zero_le _, [], .nil, IsTup.new _ _⟩
end G3
end
section
set_option maxHeartbeats 0
namespace G3
open PySem L2
def fn : List He.DefD := [dBadNumber_init, dBadRow_init, dUnlike_init, d_is_whole, d_is_ratio, d_divisor, d_lowest, d_told, d_parts, d_plus, d_minus, d_times, d_share, d_lower, d_floor_of, d_bottom_of, d_ratio_text, dPoly_init, dPoly_eq, dPoly_add, dPoly_radd, dPoly_sub, dPoly_rsub, dPoly_mul, dPoly_rmul, dPoly_neg, dPoly_degree, dPoly_at, dPoly_slope, dPoly_moved, d_without_zeros, d_poly_told, d_added_up, d_summed, d_power_number, d_multiplied, d_divided, d_plain, d_common, d_law_pen, d_law_draw, d_law_pick, d_law_is_whole, d_law_gcd, d_law_q, d_law_plus, d_law_minus, d_law_times, d_law_share, d_law_less, d_law_passed, d_law_ratio, d_law_poly, d_law_p_plus, d_law_p_scaled, d_law_p_minus, d_law_p_times, d_law_p_at, d_law_p_slope, d_law_p_moved, d_law_p_divided, d_law_p_plain, d_law_p_short, d_law_p_common, d_law_made_poly, d_law_drawn, d_law_why, d_law_is, d_law_any, d_law_far, d_law_some_ratio, d_law_ratios_right, d_law_made_right, d_law_divided_right, d_law]
def fa1 : List He.Fa := [.glo "is_whole", .glo "is_ratio", .glo "divisor", .glo "lowest", .glo "told", .glo "parts", .glo "plus", .glo "minus", .glo "times", .glo "share", .glo "lower", .glo "floor_of", .glo "bottom_of", .glo "ratio_text", .glo "without_zeros", .glo "poly_told", .glo "added_up", .glo "summed", .glo "power_number", .glo "multiplied", .glo "divided", .glo "plain", .glo "common", .glo "_law_pen", .glo "_law_draw", .glo "_law_pick", .glo "_law_is_whole", .glo "_law_gcd", .glo "_law_q", .glo "_law_plus", .glo "_law_minus", .glo "_law_times", .glo "_law_share", .glo "_law_less", .glo "_law_passed"]
def fa2 : List He.Fa := [.glo "_law_ratio", .glo "_law_poly", .glo "_law_p_plus", .glo "_law_p_scaled", .glo "_law_p_minus", .glo "_law_p_times", .glo "_law_p_at", .glo "_law_p_slope", .glo "_law_p_moved", .glo "_law_p_divided", .glo "_law_p_plain", .glo "_law_p_short", .glo "_law_p_common", .glo "_law_made_poly", .glo "_law_drawn", .glo "_law_why", .glo "_law_is", .glo "_law_any", .glo "_law_far", .glo "_law_some_ratio", .glo "_law_ratios_right", .glo "_law_made_right", .glo "_law_divided_right", .glo "law", .glo "LookError", .glo "BadNumber", .glo "BadRow", .glo "Unlike", .glo "Poly", .free "isinstance", .free "int", .free "bool", .free "tuple", .free "list", .free "len"]
def fa3 : List He.Fa := [.free "str", .free "max", .free "min", .free "range", .free "all", .free "enumerate", .free "zip", .free "abs", .free "repr", .cls "Poly", .noat "Poly" "numbers", .mkr "Poly", .meth "Poly" "__init__", .meth "Poly" "__eq__", .meth "Poly" "__add__", .meth "Poly" "__radd__", .meth "Poly" "__sub__", .meth "Poly" "__rsub__", .meth "Poly" "__mul__", .meth "Poly" "__rmul__", .meth "Poly" "__neg__", .meth "Poly" "degree", .meth "Poly" "at", .meth "Poly" "slope", .meth "Poly" "moved", .exm "BadNumber" "BadNumber" true, .exm "BadRow" "BadNumber" false, .exm "BadRow" "BadRow" true]
def fa : List He.Fa := fa1 ++ fa2 ++ fa3
def tf : List He.Defn := [("law", none), ("_law_ratios_right", none), ("_law_made_right", none), ("_law_divided_right", none)]
def ex (K : PySem.W.Frag) : Bool := (exfB K (He.ga K "BadNumber") ["what", "number"]) &&
  ((exfB K (He.ga K "BadRow") ["row"]) &&
  ((lkB K (He.ga K "LookError")) &&
  ((decide (PySem.W.nsIn K mainGlobals "gcd" = some (some (.builtin "math.gcd")))) &&
  ((decide (PySem.W.findIn K (.ref (He.ga K "Poly")) "__class__" = some (some (.builtin "object.__class__")))) &&
  ((PySem.W.selfFirst K (He.ga K "Poly")) &&
  ((decide (PySem.W.subIn K (.type "int") (.ref (He.ga K "Poly")) = some false)) &&
  ((decide (PySem.W.subIn K (.type "tuple") (.ref (He.ga K "Poly")) = some false)) &&
  ((decide (PySem.W.subIn K (.type "list") (.ref (He.ga K "Poly")) = some false)) &&
  ((decide (PySem.W.subIn K (.ref (He.ga K "Poly")) (.type "int") = some false)) &&
  ((decide (PySem.W.kitOne K (.type "int") (.ref (He.ga K "Poly")) = some false)) &&
  ((decide (PySem.W.kitOne K (.type "tuple") (.ref (He.ga K "Poly")) = some false)) &&
  ((decide (PySem.W.kitOne K (.type "list") (.ref (He.ga K "Poly")) = some false)) &&
  ((decide (PySem.W.kitOne K (.ref (He.ga K "Poly")) (.ref (He.ga K "Poly")) = some true)) &&
  ((decide (PySem.W.specialIn K (.builtin "object.__class__") "__get__" = some (some (.builtin "getset_descriptor.__get__")))) &&
  ((decide (PySem.W.takesIn K (.builtin "object.__class__") = some true)) &&
  ((decide (PySem.W.mroIn K (He.ga K "Poly") (.type "object") = some true)) &&
  (decide ((tf.map fun p => (He.cT K p).2).Nodup))))))))))))))))))
def loose1 : List Str := [("LookError" : Str), ("BadNumber" : Str), ("BadRow" : Str), ("Unlike" : Str), ("Poly" : Str), ("is_whole" : Str), ("is_ratio" : Str), ("divisor" : Str), ("lowest" : Str), ("told" : Str), ("parts" : Str), ("plus" : Str), ("minus" : Str), ("times" : Str), ("share" : Str), ("lower" : Str), ("floor_of" : Str), ("bottom_of" : Str), ("ratio_text" : Str), ("without_zeros" : Str), ("poly_told" : Str), ("added_up" : Str), ("summed" : Str), ("power_number" : Str), ("multiplied" : Str), ("divided" : Str), ("plain" : Str), ("common" : Str), ("_law_pen" : Str), ("_law_draw" : Str), ("_law_pick" : Str), ("_law_is_whole" : Str), ("_law_gcd" : Str), ("_law_q" : Str), ("_law_plus" : Str)]
def loose2 : List Str := [("_law_minus" : Str), ("_law_times" : Str), ("_law_share" : Str), ("_law_less" : Str), ("_law_passed" : Str), ("_law_ratio" : Str), ("_law_poly" : Str), ("_law_p_plus" : Str), ("_law_p_scaled" : Str), ("_law_p_minus" : Str), ("_law_p_times" : Str), ("_law_p_at" : Str), ("_law_p_slope" : Str), ("_law_p_moved" : Str), ("_law_p_divided" : Str), ("_law_p_plain" : Str), ("_law_p_short" : Str), ("_law_p_common" : Str), ("_law_made_poly" : Str), ("_law_drawn" : Str), ("_law_why" : Str), ("_law_is" : Str), ("_law_any" : Str), ("_law_far" : Str), ("_law_some_ratio" : Str), ("_law_ratios_right" : Str), ("_law_made_right" : Str), ("_law_divided_right" : Str)]
def loose : List Str := loose1 ++ loose2
abbrev R : PySem.W.OpenRow := PySem.W.OpenLaw.row PySem.Challenge.rw_bestlooks_k01_whole_ratios_and_polynomia
/-- what the names reach, and the statics (readsIn looks there) -/
def frS (g : Addr → Option Obj) : PySem.W.Frag := He.frT g (He.asD g 5 ++ [cStatics])
def obS (g : Addr → Option Obj) : He.AlX := (He.obsT fa fn [] (frS g), ex (frS g) && He.tabsB g tf (frS g))
theorem saysS {w : World} {h : Heap} (e : obS h.get? = He.valX fn [] w) : He.SaysX fa fn [] tf ex w h (frS h.get?) := by
  obtain ⟨e1, e2⟩ := Prod.mk.inj e
  obtain ⟨h1, h2⟩ := He.ba e2
  have key : ∀ p ∈ tf, PySem.W.codeHdIn (frS h.get?) (He.cT (frS h.get?) p).1 (He.cT (frS h.get?) p).2 = true ∧ ∃ o, h.get? (He.cT (frS h.get?) p).2 = some o ∧ He.emptyTab o = true := by
    intro p hp
    obtain ⟨z1, z2⟩ := He.ba (List.all_eq_true.mp h2 p hp)
    refine ⟨z1, ?_⟩
    cases q : h.get? (He.cT (frS h.get?) p).2 with
    | none => rw [q] at z2; cases z2
    | some o => rw [q] at z2; exact ⟨o, rfl, z2⟩
  refine ⟨e1, h1, fun p hp => (key p hp).1, fun p hp => ?_, fun p hp => ?_⟩
  · obtain ⟨_, o, q, z⟩ := key p hp
    exact He.frT_none q z
  · obtain ⟨_, o, q, z⟩ := key p hp
    rw [q, He.emptyTab_eq z]
def hk : PySem.W.Hook where
  α := He.AlX
  obs := fun s => obS s.heap.get?
  val := He.valX fn []
  says := (He.hookX 5 fa fn [] tf ex).says
  of := fun _ _ e => ⟨_, He.frT_in, saysS e⟩
  keeps := (He.hookX 5 fa fn [] tf ex).keeps
def ob (s : PySem.W.SharedT) : He.AlX := obS (HandSHeadRun.getT s)
theorem ob_eq (s : PySem.W.SharedT) : ob s = hk.obs s.abs := by
  have e : HandSHeadRun.getT s = s.abs.heap.get? := funext (HandSHeadRun.getT_eq s)
  show obS _ = obS _
  rw [e]
theorem run (w : World) : HandSHeadRun.RunEqI R (PySem.W.view R.prog [0, 68]) hk ob 40000 loose w := by
  unfold HandSHeadRun.RunEqI
  kernel_rfl
end G3
end
section
set_option maxHeartbeats 4000000
namespace G3
open PySem PySem.Spec PyProof.Rows L2
/-- what the program s top has left -/
structure Tx (K : PySem.W.Frag) (mg : Str → Option Value) : Prop where
  m_BadNumber_init : ∃ fd, FunD K "__init__" "BadNumber.__init__" (defArgs sBadNumber_init) (defBody sBadNumber_init) (defScope sBadNumber_init) [] [] (He.ma K (He.ga K "BadNumber") "__init__") fd
  m_BadRow_init : ∃ fd, FunD K "__init__" "BadRow.__init__" (defArgs sBadRow_init) (defBody sBadRow_init) (defScope sBadRow_init) [] [] (He.ma K (He.ga K "BadRow") "__init__") fd
  m_Unlike_init : ∃ fd, FunD K "__init__" "Unlike.__init__" (defArgs sUnlike_init) (defBody sUnlike_init) (defScope sUnlike_init) [] [] (He.ma K (He.ga K "Unlike") "__init__") fd
  f_is_whole : ∃ fd, FnP K "is_whole" s_is_whole (He.ga K "is_whole") fd
  g_is_whole : mg "is_whole" = some (.ref (He.ga K "is_whole"))
  f_is_ratio : ∃ fd, FnP K "is_ratio" s_is_ratio (He.ga K "is_ratio") fd
  g_is_ratio : mg "is_ratio" = some (.ref (He.ga K "is_ratio"))
  f_divisor : ∃ fd, FnP K "divisor" s_divisor (He.ga K "divisor") fd
  g_divisor : mg "divisor" = some (.ref (He.ga K "divisor"))
  f_lowest : ∃ fd, FnP K "lowest" s_lowest (He.ga K "lowest") fd
  g_lowest : mg "lowest" = some (.ref (He.ga K "lowest"))
  f_told : ∃ fd, FnP K "told" s_told (He.ga K "told") fd
  g_told : mg "told" = some (.ref (He.ga K "told"))
  f_parts : ∃ fd, FnP K "parts" s_parts (He.ga K "parts") fd
  g_parts : mg "parts" = some (.ref (He.ga K "parts"))
  f_plus : ∃ fd, FnP K "plus" s_plus (He.ga K "plus") fd
  g_plus : mg "plus" = some (.ref (He.ga K "plus"))
  f_minus : ∃ fd, FnP K "minus" s_minus (He.ga K "minus") fd
  g_minus : mg "minus" = some (.ref (He.ga K "minus"))
  f_times : ∃ fd, FnP K "times" s_times (He.ga K "times") fd
  g_times : mg "times" = some (.ref (He.ga K "times"))
  f_share : ∃ fd, FnP K "share" s_share (He.ga K "share") fd
  g_share : mg "share" = some (.ref (He.ga K "share"))
  f_lower : ∃ fd, FnP K "lower" s_lower (He.ga K "lower") fd
  g_lower : mg "lower" = some (.ref (He.ga K "lower"))
  f_floor_of : ∃ fd, FnP K "floor_of" s_floor_of (He.ga K "floor_of") fd
  g_floor_of : mg "floor_of" = some (.ref (He.ga K "floor_of"))
  f_bottom_of : ∃ fd, FnP K "bottom_of" s_bottom_of (He.ga K "bottom_of") fd
  g_bottom_of : mg "bottom_of" = some (.ref (He.ga K "bottom_of"))
  f_ratio_text : ∃ fd, FnP K "ratio_text" s_ratio_text (He.ga K "ratio_text") fd
  g_ratio_text : mg "ratio_text" = some (.ref (He.ga K "ratio_text"))
  m_Poly_init : ∃ fd, FunD K "__init__" "Poly.__init__" (defArgs sPoly_init) (defBody sPoly_init) (defScope sPoly_init) [] [] (He.ma K (He.ga K "Poly") "__init__") fd
  t_init : Meth K (He.ga K "Poly") "__init__" (He.ma K (He.ga K "Poly") "__init__")
  m_Poly_eq : ∃ fd, FunD K "__eq__" "Poly.__eq__" (defArgs sPoly_eq) (defBody sPoly_eq) (defScope sPoly_eq) [] [] (He.ma K (He.ga K "Poly") "__eq__") fd
  t_eq : Meth K (He.ga K "Poly") "__eq__" (He.ma K (He.ga K "Poly") "__eq__")
  m_Poly_add : ∃ fd, FunD K "__add__" "Poly.__add__" (defArgs sPoly_add) (defBody sPoly_add) (defScope sPoly_add) [] [] (He.ma K (He.ga K "Poly") "__add__") fd
  t_add : Meth K (He.ga K "Poly") "__add__" (He.ma K (He.ga K "Poly") "__add__")
  m_Poly_radd : ∃ fd, FunD K "__radd__" "Poly.__radd__" (defArgs sPoly_radd) (defBody sPoly_radd) (defScope sPoly_radd) [] [] (He.ma K (He.ga K "Poly") "__radd__") fd
  t_radd : Meth K (He.ga K "Poly") "__radd__" (He.ma K (He.ga K "Poly") "__radd__")
  m_Poly_sub : ∃ fd, FunD K "__sub__" "Poly.__sub__" (defArgs sPoly_sub) (defBody sPoly_sub) (defScope sPoly_sub) [] [] (He.ma K (He.ga K "Poly") "__sub__") fd
  t_sub : Meth K (He.ga K "Poly") "__sub__" (He.ma K (He.ga K "Poly") "__sub__")
  m_Poly_rsub : ∃ fd, FunD K "__rsub__" "Poly.__rsub__" (defArgs sPoly_rsub) (defBody sPoly_rsub) (defScope sPoly_rsub) [] [] (He.ma K (He.ga K "Poly") "__rsub__") fd
  t_rsub : Meth K (He.ga K "Poly") "__rsub__" (He.ma K (He.ga K "Poly") "__rsub__")
  m_Poly_mul : ∃ fd, FunD K "__mul__" "Poly.__mul__" (defArgs sPoly_mul) (defBody sPoly_mul) (defScope sPoly_mul) [] [] (He.ma K (He.ga K "Poly") "__mul__") fd
  t_mul : Meth K (He.ga K "Poly") "__mul__" (He.ma K (He.ga K "Poly") "__mul__")
  m_Poly_rmul : ∃ fd, FunD K "__rmul__" "Poly.__rmul__" (defArgs sPoly_rmul) (defBody sPoly_rmul) (defScope sPoly_rmul) [] [] (He.ma K (He.ga K "Poly") "__rmul__") fd
  t_rmul : Meth K (He.ga K "Poly") "__rmul__" (He.ma K (He.ga K "Poly") "__rmul__")
  m_Poly_neg : ∃ fd, FunD K "__neg__" "Poly.__neg__" (defArgs sPoly_neg) (defBody sPoly_neg) (defScope sPoly_neg) [] [] (He.ma K (He.ga K "Poly") "__neg__") fd
  t_neg : Meth K (He.ga K "Poly") "__neg__" (He.ma K (He.ga K "Poly") "__neg__")
  m_Poly_degree : ∃ fd, FunD K "degree" "Poly.degree" (defArgs sPoly_degree) (defBody sPoly_degree) (defScope sPoly_degree) [] [] (He.ma K (He.ga K "Poly") "degree") fd
  t_degree : Meth K (He.ga K "Poly") "degree" (He.ma K (He.ga K "Poly") "degree")
  m_Poly_at : ∃ fd, FunD K "at" "Poly.at" (defArgs sPoly_at) (defBody sPoly_at) (defScope sPoly_at) [] [] (He.ma K (He.ga K "Poly") "at") fd
  t_at : Meth K (He.ga K "Poly") "at" (He.ma K (He.ga K "Poly") "at")
  m_Poly_slope : ∃ fd, FunD K "slope" "Poly.slope" (defArgs sPoly_slope) (defBody sPoly_slope) (defScope sPoly_slope) [] [] (He.ma K (He.ga K "Poly") "slope") fd
  t_slope : Meth K (He.ga K "Poly") "slope" (He.ma K (He.ga K "Poly") "slope")
  m_Poly_moved : ∃ fd, FunD K "moved" "Poly.moved" (defArgs sPoly_moved) (defBody sPoly_moved) (defScope sPoly_moved) [] [] (He.ma K (He.ga K "Poly") "moved") fd
  t_moved : Meth K (He.ga K "Poly") "moved" (He.ma K (He.ga K "Poly") "moved")
  f_without_zeros : ∃ fd, FnP K "without_zeros" s_without_zeros (He.ga K "without_zeros") fd
  g_without_zeros : mg "without_zeros" = some (.ref (He.ga K "without_zeros"))
  f_poly_told : ∃ fd, FnP K "poly_told" s_poly_told (He.ga K "poly_told") fd
  g_poly_told : mg "poly_told" = some (.ref (He.ga K "poly_told"))
  f_added_up : ∃ fd, FnP K "added_up" s_added_up (He.ga K "added_up") fd
  g_added_up : mg "added_up" = some (.ref (He.ga K "added_up"))
  f_summed : ∃ fd, FnP K "summed" s_summed (He.ga K "summed") fd
  g_summed : mg "summed" = some (.ref (He.ga K "summed"))
  f_power_number : ∃ fd, FnP K "power_number" s_power_number (He.ga K "power_number") fd
  g_power_number : mg "power_number" = some (.ref (He.ga K "power_number"))
  f_multiplied : ∃ fd, FnP K "multiplied" s_multiplied (He.ga K "multiplied") fd
  g_multiplied : mg "multiplied" = some (.ref (He.ga K "multiplied"))
  f_divided : ∃ fd, FnP K "divided" s_divided (He.ga K "divided") fd
  g_divided : mg "divided" = some (.ref (He.ga K "divided"))
  f_plain : ∃ fd, FnP K "plain" s_plain (He.ga K "plain") fd
  g_plain : mg "plain" = some (.ref (He.ga K "plain"))
  f_common : ∃ fd, FnP K "common" s_common (He.ga K "common") fd
  g_common : mg "common" = some (.ref (He.ga K "common"))
  f_law_pen : ∃ fd, FnP K "_law_pen" s_law_pen (He.ga K "_law_pen") fd
  g_law_pen : mg "_law_pen" = some (.ref (He.ga K "_law_pen"))
  f_law_draw : ∃ fd, FnP K "_law_draw" s_law_draw (He.ga K "_law_draw") fd
  g_law_draw : mg "_law_draw" = some (.ref (He.ga K "_law_draw"))
  f_law_pick : ∃ fd, FnP K "_law_pick" s_law_pick (He.ga K "_law_pick") fd
  g_law_pick : mg "_law_pick" = some (.ref (He.ga K "_law_pick"))
  f_law_is_whole : ∃ fd, FnP K "_law_is_whole" s_law_is_whole (He.ga K "_law_is_whole") fd
  g_law_is_whole : mg "_law_is_whole" = some (.ref (He.ga K "_law_is_whole"))
  f_law_gcd : ∃ fd, FnP K "_law_gcd" s_law_gcd (He.ga K "_law_gcd") fd
  g_law_gcd : mg "_law_gcd" = some (.ref (He.ga K "_law_gcd"))
  f_law_q : ∃ fd, FnP K "_law_q" s_law_q (He.ga K "_law_q") fd
  g_law_q : mg "_law_q" = some (.ref (He.ga K "_law_q"))
  f_law_plus : ∃ fd, FnP K "_law_plus" s_law_plus (He.ga K "_law_plus") fd
  g_law_plus : mg "_law_plus" = some (.ref (He.ga K "_law_plus"))
  f_law_minus : ∃ fd, FnP K "_law_minus" s_law_minus (He.ga K "_law_minus") fd
  g_law_minus : mg "_law_minus" = some (.ref (He.ga K "_law_minus"))
  f_law_times : ∃ fd, FnP K "_law_times" s_law_times (He.ga K "_law_times") fd
  g_law_times : mg "_law_times" = some (.ref (He.ga K "_law_times"))
  f_law_share : ∃ fd, FnP K "_law_share" s_law_share (He.ga K "_law_share") fd
  g_law_share : mg "_law_share" = some (.ref (He.ga K "_law_share"))
  f_law_less : ∃ fd, FnP K "_law_less" s_law_less (He.ga K "_law_less") fd
  g_law_less : mg "_law_less" = some (.ref (He.ga K "_law_less"))
  f_law_passed : ∃ fd, FnP K "_law_passed" s_law_passed (He.ga K "_law_passed") fd
  g_law_passed : mg "_law_passed" = some (.ref (He.ga K "_law_passed"))
  f_law_ratio : ∃ fd, FnP K "_law_ratio" s_law_ratio (He.ga K "_law_ratio") fd
  g_law_ratio : mg "_law_ratio" = some (.ref (He.ga K "_law_ratio"))
  f_law_poly : ∃ fd, FnP K "_law_poly" s_law_poly (He.ga K "_law_poly") fd
  g_law_poly : mg "_law_poly" = some (.ref (He.ga K "_law_poly"))
  f_law_p_plus : ∃ fd, FnP K "_law_p_plus" s_law_p_plus (He.ga K "_law_p_plus") fd
  g_law_p_plus : mg "_law_p_plus" = some (.ref (He.ga K "_law_p_plus"))
  f_law_p_scaled : ∃ fd, FnP K "_law_p_scaled" s_law_p_scaled (He.ga K "_law_p_scaled") fd
  g_law_p_scaled : mg "_law_p_scaled" = some (.ref (He.ga K "_law_p_scaled"))
  f_law_p_minus : ∃ fd, FnP K "_law_p_minus" s_law_p_minus (He.ga K "_law_p_minus") fd
  g_law_p_minus : mg "_law_p_minus" = some (.ref (He.ga K "_law_p_minus"))
  f_law_p_times : ∃ fd, FnP K "_law_p_times" s_law_p_times (He.ga K "_law_p_times") fd
  g_law_p_times : mg "_law_p_times" = some (.ref (He.ga K "_law_p_times"))
  f_law_p_at : ∃ fd, FnP K "_law_p_at" s_law_p_at (He.ga K "_law_p_at") fd
  g_law_p_at : mg "_law_p_at" = some (.ref (He.ga K "_law_p_at"))
  f_law_p_slope : ∃ fd, FnP K "_law_p_slope" s_law_p_slope (He.ga K "_law_p_slope") fd
  g_law_p_slope : mg "_law_p_slope" = some (.ref (He.ga K "_law_p_slope"))
  f_law_p_moved : ∃ fd, FnP K "_law_p_moved" s_law_p_moved (He.ga K "_law_p_moved") fd
  g_law_p_moved : mg "_law_p_moved" = some (.ref (He.ga K "_law_p_moved"))
  f_law_p_divided : ∃ fd, FnP K "_law_p_divided" s_law_p_divided (He.ga K "_law_p_divided") fd
  g_law_p_divided : mg "_law_p_divided" = some (.ref (He.ga K "_law_p_divided"))
  f_law_p_plain : ∃ fd, FnP K "_law_p_plain" s_law_p_plain (He.ga K "_law_p_plain") fd
  g_law_p_plain : mg "_law_p_plain" = some (.ref (He.ga K "_law_p_plain"))
  f_law_p_short : ∃ fd, FnP K "_law_p_short" s_law_p_short (He.ga K "_law_p_short") fd
  g_law_p_short : mg "_law_p_short" = some (.ref (He.ga K "_law_p_short"))
  f_law_p_common : ∃ fd, FnP K "_law_p_common" s_law_p_common (He.ga K "_law_p_common") fd
  g_law_p_common : mg "_law_p_common" = some (.ref (He.ga K "_law_p_common"))
  f_law_made_poly : ∃ fd, FnP K "_law_made_poly" s_law_made_poly (He.ga K "_law_made_poly") fd
  g_law_made_poly : mg "_law_made_poly" = some (.ref (He.ga K "_law_made_poly"))
  f_law_drawn : ∃ fd, FnP K "_law_drawn" s_law_drawn (He.ga K "_law_drawn") fd
  g_law_drawn : mg "_law_drawn" = some (.ref (He.ga K "_law_drawn"))
  f_law_why : ∃ fd, FnP K "_law_why" s_law_why (He.ga K "_law_why") fd
  g_law_why : mg "_law_why" = some (.ref (He.ga K "_law_why"))
  f_law_is : ∃ fd, FnP K "_law_is" s_law_is (He.ga K "_law_is") fd
  g_law_is : mg "_law_is" = some (.ref (He.ga K "_law_is"))
  f_law_any : ∃ fd, FnP K "_law_any" s_law_any (He.ga K "_law_any") fd
  g_law_any : mg "_law_any" = some (.ref (He.ga K "_law_any"))
  f_law_far : ∃ fd, FnP K "_law_far" s_law_far (He.ga K "_law_far") fd
  g_law_far : mg "_law_far" = some (.ref (He.ga K "_law_far"))
  f_law_some_ratio : ∃ fd, FnP K "_law_some_ratio" s_law_some_ratio (He.ga K "_law_some_ratio") fd
  g_law_some_ratio : mg "_law_some_ratio" = some (.ref (He.ga K "_law_some_ratio"))
  f_law_ratios_right : ∃ fd, FnP K "_law_ratios_right" s_law_ratios_right (He.ga K "_law_ratios_right") fd
  g_law_ratios_right : mg "_law_ratios_right" = some (.ref (He.ga K "_law_ratios_right"))
  f_law_made_right : ∃ fd, FnP K "_law_made_right" s_law_made_right (He.ga K "_law_made_right") fd
  g_law_made_right : mg "_law_made_right" = some (.ref (He.ga K "_law_made_right"))
  f_law_divided_right : ∃ fd, FnP K "_law_divided_right" s_law_divided_right (He.ga K "_law_divided_right") fd
  g_law_divided_right : mg "_law_divided_right" = some (.ref (He.ga K "_law_divided_right"))
  f_law : ∃ fd, FnP K "law" s_law (He.ga K "law") fd
  g_law : mg "law" = some (.ref (He.ga K "law"))
  g_LookError : mg "LookError" = some (.ref (He.ga K "LookError"))
  g_BadNumber : mg "BadNumber" = some (.ref (He.ga K "BadNumber"))
  g_BadRow : mg "BadRow" = some (.ref (He.ga K "BadRow"))
  g_Unlike : mg "Unlike" = some (.ref (He.ga K "Unlike"))
  g_Poly : mg "Poly" = some (.ref (He.ga K "Poly"))
  b_isinstance : mg "isinstance" = none
  b_int : mg "int" = none
  b_bool : mg "bool" = none
  b_tuple : mg "tuple" = none
  b_list : mg "list" = none
  b_len : mg "len" = none
  b_str : mg "str" = none
  b_max : mg "max" = none
  b_min : mg "min" = none
  b_range : mg "range" = none
  b_all : mg "all" = none
  b_enumerate : mg "enumerate" = none
  b_zip : mg "zip" = none
  b_abs : mg "abs" = none
  b_repr : mg "repr" = none
  g_gcd : mg "gcd" = some (.builtin "math.gcd")
  cl : Cls K (He.ga K "Poly")
  na : NoAttr K (He.ga K "Poly") "numbers"
  mkP : Mk K (He.ga K "Poly") (He.ma K (He.ga K "Poly") "__init__")
  nn : ExF K (He.ga K "BadNumber") ["what", "number"]
  nr : ExF K (He.ga K "BadRow") ["row"]
  le : LkF K (He.ga K "LookError")
  x_nn : PySem.W.exmOne K (.ref (He.ga K "BadNumber")) (.ref (He.ga K "BadNumber")) = some true
  x_rn : PySem.W.exmOne K (.ref (He.ga K "BadRow")) (.ref (He.ga K "BadNumber")) = some false
  x_rr : PySem.W.exmOne K (.ref (He.ga K "BadRow")) (.ref (He.ga K "BadRow")) = some true
  kc : PySem.W.findIn K (.ref (He.ga K "Poly")) "__class__" = some (some (.builtin "object.__class__"))
  ow : OwnF K (He.ga K "Poly")
  k_int : PySem.W.kitOne K (.type "int") (.ref (He.ga K "Poly")) = some false
  k_tup : PySem.W.kitOne K (.type "tuple") (.ref (He.ga K "Poly")) = some false
  k_lst : PySem.W.kitOne K (.type "list") (.ref (He.ga K "Poly")) = some false
  k_own : PySem.W.kitOne K (.ref (He.ga K "Poly")) (.ref (He.ga K "Poly")) = some true
  kc2 : PySem.W.specialIn K (.builtin "object.__class__") "__get__" = some (some (.builtin "getset_descriptor.__get__"))
  kc3 : PySem.W.takesIn K (.builtin "object.__class__") = some true
  kc4 : PySem.W.mroIn K (He.ga K "Poly") (.type "object") = some true
section
variable {P : Program} {w : World} {K : PySem.W.Frag} {mg : Str → Option Value} {base : Heap}
/-- a def that raises nothing, by its body -/
theorem cal0 {CX : CXT} {x : Str} {st : Stmt} {f : Addr} {fd : FuncData} {N ps : List Str} {k : Nat} {sp : Sp} (F : FnP K x st f fd) (g : mg x = some (.ref f)) (S : FnScope N ps (defScope st))
    (hb : ∀ (kV doc pm : Value) (an : Option Addr) (cdv ct : Value) (us : List Value), us.length = ps.length → bindArgs (PySem.W.fnOf x x (defArgs st) (defBody st) (defScope st) .none kV doc pm an cdv ct) ⟨us, []⟩ = pure (ps.zip us))
    (len : ∀ vs H Q E, sp vs H Q E → vs.length = ps.length)
    (h : ∀ (cdv : Value) (A : Around) (outer : List Env) (s : Shared) (H : Hp) (vs : List V) (Q : VK) (E : XK), Room k (A.deeper (envOfC x (defScope st) s.heap.objs.size f cdv)) → sp vs H Q E →
      ∃ t, PSs (cxOf CX P w K mg base N x (defScope st) f cdv A outer s H E).nox (defBody st) t ∧ t { nx := fun _ H' => Q .non H', rt := Q } (start N vs) H) : Cal P w K mg base CX (k + 1) x sp :=
  ⟨f, fd, ps, F.ok S len fun cdv A outer s H vs Q E hr hs => let ⟨t, a, b⟩ := h cdv A outer s H vs Q E hr hs; ⟨t, a.nox, b⟩, g, F.kp, F.bindsN hb⟩
/-- a def that may raise -/
theorem calX {x : Str} {st : Stmt} {f : Addr} {fd : FuncData} {N ps : List Str} {k : Nat} {sp : Sp} (F : FnP K x st f fd) (g : mg x = some (.ref f)) (S : FnScope N ps (defScope st))
    (hb : ∀ (kV doc pm : Value) (an : Option Addr) (cdv ct : Value) (us : List Value), us.length = ps.length → bindArgs (PySem.W.fnOf x x (defArgs st) (defBody st) (defScope st) .none kV doc pm an cdv ct) ⟨us, []⟩ = pure (ps.zip us))
    (len : ∀ vs H Q E, sp vs H Q E → vs.length = ps.length)
    (h : ∀ (cdv : Value) (A : Around) (outer : List Env) (s : Shared) (H : Hp) (vs : List V) (Q : VK) (E : XK), Room k (A.deeper (envOfC x (defScope st) s.heap.objs.size f cdv)) → sp vs H Q E →
      ∃ t, PSs (cxOf (L2.CX P w) P w K mg base N x (defScope st) f cdv A outer s H E) (defBody st) t ∧ t { nx := fun _ H' => Q .non H', rt := Q } (start N vs) H) : Cal P w K mg base (L2.CX P w) (k + 1) x sp :=
  ⟨f, fd, ps, F.ok S len h, g, F.kp, F.bindsN hb⟩
end
/-! ### BadNumber(what, number), BadRow(row): made to be raised -/
abbrev N_BadNumber_init : List Str := ["self", "what", "number"]
theorem sc_BadNumber_init : FnScope N_BadNumber_init ["self", "what", "number"] (defScope sBadNumber_init) := ⟨rfl, rfl, rfl, by decide +kernel, rfl, by decide +kernel, by decide +kernel⟩
abbrev N_BadRow_init : List Str := ["self", "row"]
theorem sc_BadRow_init : FnScope N_BadRow_init ["self", "row"] (defScope sBadRow_init) := ⟨rfl, rfl, rfl, by decide +kernel, rfl, by decide +kernel, by decide +kernel⟩
/-- the fields are kept, the exception stays one that is being made -/
def spBN (C : Addr) : Sp := fun vs H Q _ => ∃ a x y, vs = [.ref a, x, y] ∧ H a = some (exo a C none) ∧ ∀ d, H d = none → d ≠ a → Q .non (upd (upd (upd H d (exd d [("what", x)])) a (exo a C (some d))) d (exd d [("number", y), ("what", x)]))
def spBR (C : Addr) : Sp := fun vs H Q _ => ∃ a x, vs = [.ref a, x] ∧ H a = some (exo a C none) ∧ ∀ d, H d = none → d ≠ a → Q .non (upd (upd H d (exd d [("row", x)])) a (exo a C (some d)))
section
variable {P : Program} {w : World} {K : PySem.W.Frag} {mg : Str → Option Value} {base : Heap}
theorem ok_BN {CX : CXT} {fd : FuncData} (T : Tx K mg) (F : FunD K "__init__" "BadNumber.__init__" (defArgs sBadNumber_init) (defBody sBadNumber_init) (defScope sBadNumber_init) [] [] (He.ma K (He.ga K "BadNumber") "__init__") fd) :
    FnOk P w K mg base CX 1 (He.ma K (He.ga K "BadNumber") "__init__") fd ["self", "what", "number"] (spBN (He.ga K "BadNumber")) := by
  refine F.ok sc_BadNumber_init (fun vs H Q E h => ?_) (fun cdv A outer s H vs Q E hr h => ?_)
  · obtain ⟨a, x, y, rfl, _⟩ := h
    rfl
  · obtain ⟨a, x, y, rfl, ha, k⟩ := h
    refine ⟨_, PSs.nox (pss_cons (ps_expr (pe_lkinit T.le (by rfl) T.g_LookError (pa_cons (pv 0) (pa_cons pe_str pa_nil)))) (pss_cons (ps_ost (pv 0) (pv 1)) (pss_one (ps_ost (pv 0) (pv 2))))), ?_⟩
    refine ⟨_, rfl, a, He.ga K "BadNumber", _, rfl, by decide, T.nn.ox, ha, ?_⟩
    refine ⟨_, rfl, _, rfl, a, _, rfl, T.nn.ox, T.nn.nf _ (by simp), .inl ⟨ha, fun d hd hne => ?_⟩⟩
    refine ⟨_, rfl, _, rfl, a, _, rfl, T.nn.ox, T.nn.nf _ (by simp), .inr ⟨d, _, upd_same, (by rw [upd_ne hne, upd_same]), (by show 1 ≤ 900; decide), ?_⟩⟩
    exact k d hd hne
theorem ok_BR {CX : CXT} {fd : FuncData} (T : Tx K mg) (F : FunD K "__init__" "BadRow.__init__" (defArgs sBadRow_init) (defBody sBadRow_init) (defScope sBadRow_init) [] [] (He.ma K (He.ga K "BadRow") "__init__") fd) :
    FnOk P w K mg base CX 1 (He.ma K (He.ga K "BadRow") "__init__") fd ["self", "row"] (spBR (He.ga K "BadRow")) := by
  refine F.ok sc_BadRow_init (fun vs H Q E h => ?_) (fun cdv A outer s H vs Q E hr h => ?_)
  · obtain ⟨a, x, rfl, _⟩ := h
    rfl
  · obtain ⟨a, x, rfl, ha, k⟩ := h
    refine ⟨_, PSs.nox (pss_cons (ps_expr (pe_lkinit T.le (by rfl) T.g_LookError (pa_cons (pv 0) (pa_cons pe_str pa_nil)))) (pss_one (ps_ost (pv 0) (pv 1)))), ?_⟩
    refine ⟨_, rfl, a, He.ga K "BadRow", _, rfl, by decide, T.nr.ox, ha, ?_⟩
    exact ⟨_, rfl, _, rfl, a, _, rfl, T.nr.ox, T.nr.nf _ (by simp), .inl ⟨ha, fun d hd hne => k d hd hne⟩⟩
end
/-- an own error with these fields: its class, its dict, new -/
def Exn (C : Addr) (fs : List (Str × V)) (H : Hp) (E : XK) : Prop := ∀ d H', H d = none → Sm [] [] H H' → H' d = some (.xd fs) → E (.ref C) (some d) H'
theorem exn_end {C a d : Addr} {o1 : HO} {fs : List (Str × V)} {H : Hp} {E : XK} (k : Exn C fs H E) (ha : H a = none) (hd : (upd H a o1) d = none) (hne : d ≠ a) {H2 : Hp} (e : ∀ b, b ≠ a → b ≠ d → H2 b = H b) :
    E (.ref C) (some d) (upd (del H2 a) d (.xd fs)) := by
  have hd0 : H d = none := by
    rw [upd_ne hne] at hd
    exact hd
  refine k d _ hd0 (fun b o h => .inl ?_) upd_same
  have nb : b ≠ a := ne_of_none h ha
  have nd : b ≠ d := ne_of_none h hd0
  rw [upd_ne nd, del_ne nb, e b nb nd]
  exact h
/-- an argument list's reading, weakened -/
def tWk (ta : TA) : TA := fun σ H Q => ∃ Q0, ta σ H Q0 ∧ ∀ vs H1, Q0 vs H1 → Q vs H1
theorem pa_wk {X : Cx} {es : List Expr} {ta : TA} (ha : PA X es ta) : PA X es (tWk ta) := by
  constructor
  intro pos pins s σ H Q I h
  obtain ⟨Q0, h, k⟩ := h
  refine thn (ha.run pos pins s σ H Q0 I h) ?_
  intro us s1 z
  obtain ⟨vs, H1, I1, r, q⟩ := z
  exact ⟨vs, H1, I1, r, k _ _ q⟩
section
variable {X : Cx} {es : List Expr} {e : Expr} {ta : TA} {p pos : Pos} {j : Nat}
/-- BadNumber(what, number), to be raised -/
def tMkBN (C : Addr) (ta : TA) : L2.St → Hp → XK → Prop := fun σ H E => ta σ H fun vs H1 => ∃ x y, vs = [x, y] ∧ Exn C [("number", y), ("what", x)] H1 E
theorem pmk_BadNumber (T : Tx X.K X.mg) (hr : Room j X.A) (ha : PA X (e :: es) ta) (hj : 2 ≤ j := by decide) (hg : Gl X "BadNumber" := by rfl)
    (he : starEach (e :: es) X.env = (false, eval e X.env) :: starEach es X.env := by rfl) (hpl : (backTo pos (starEach es X.env)).any (·.1) = false := by rfl) :
    PMk X (.Call (.Name "BadNumber" p) (e :: es) [] pos) (tMkBN (He.ga X.K "BadNumber") ta) := by
  obtain ⟨fd, F⟩ := T.m_BadNumber_init
  have G := ok_BN (P := X.prog) (w := X.w) (base := X.base) (CX := CX0) T F
  have b : Binds X.K fd ["self", "what", "number"] [] := F.bindsN fun _ _ _ _ _ _ us hl => match us, hl with | [_, _, _], _ => rfl
  have m := pmk_oex (p := p) (pos := pos) (dvs := []) T.nn.ox T.nn.init T.nn.ty G (hr.mono hj) b .nil pass0 hg T.g_BadNumber (pa_wk ha) (by decide) he hpl
  intro pins s σ H Q I h
  refine m pins s σ H Q I ⟨_, h, fun vs H1 z => ?_⟩
  obtain ⟨x, y, rfl, k⟩ := z
  refine ⟨(by show 2 ≤ 1000; decide), fun a na => ⟨a, x, y, rfl, upd_same, fun d hd hne => ⟨rfl, d, _, ?_, upd_same, ?_, ?_⟩⟩⟩
  · rw [upd_ne hne.symm, upd_same]
  · rw [upd_ne hne] at hd
    exact hd
  · exact exn_end k na hd hne fun b n1 n2 => by rw [upd_ne n2, upd_ne n1, upd_ne n2, upd_ne n1]
def tMkBR (C : Addr) (ta : TA) : L2.St → Hp → XK → Prop := fun σ H E => ta σ H fun vs H1 => ∃ x, vs = [x] ∧ Exn C [("row", x)] H1 E
theorem pmk_BadRow (T : Tx X.K X.mg) (hr : Room j X.A) (ha : PA X (e :: es) ta) (hj : 2 ≤ j := by decide) (hg : Gl X "BadRow" := by rfl)
    (he : starEach (e :: es) X.env = (false, eval e X.env) :: starEach es X.env := by rfl) (hpl : (backTo pos (starEach es X.env)).any (·.1) = false := by rfl) :
    PMk X (.Call (.Name "BadRow" p) (e :: es) [] pos) (tMkBR (He.ga X.K "BadRow") ta) := by
  obtain ⟨fd, F⟩ := T.m_BadRow_init
  have G := ok_BR (P := X.prog) (w := X.w) (base := X.base) (CX := CX0) T F
  have b : Binds X.K fd ["self", "row"] [] := F.bindsN fun _ _ _ _ _ _ us hl => match us, hl with | [_, _], _ => rfl
  have m := pmk_oex (p := p) (pos := pos) (dvs := []) T.nr.ox T.nr.init T.nr.ty G (hr.mono hj) b .nil pass0 hg T.g_BadRow (pa_wk ha) (by decide) he hpl
  intro pins s σ H Q I h
  refine m pins s σ H Q I ⟨_, h, fun vs H1 z => ?_⟩
  obtain ⟨x, rfl, k⟩ := z
  refine ⟨(by show 1 ≤ 1000; decide), fun a na => ⟨a, x, rfl, upd_same, fun d hd hne => ⟨rfl, d, [("row", x)], upd_same, ?_, ?_, ?_⟩⟩⟩
  · rw [upd_ne hne, upd_same]
  · rw [upd_ne hne] at hd
    exact hd
  · exact exn_end k na hd hne fun b n1 n2 => by rw [upd_ne n1, upd_ne n2, upd_ne n1]
end
end G3
end
section
set_option maxHeartbeats 4000000
/-! the facts of the head as Tx -/
namespace G3
open PySem L2
theorem tx_of {K : PySem.W.Frag} {h : Heap} {mg : Str → Option Value} {w : World} (X : K.In h) (G : h.Ns mainGlobals mg) (c : He.SaysX fa fn [] tf ex w h K) : Tx K mg := by
  have e := c.more
  obtain ⟨b0, e⟩ := He.ba e
  obtain ⟨b1, e⟩ := He.ba e
  obtain ⟨b2, e⟩ := He.ba e
  obtain ⟨b3, e⟩ := He.ba e
  obtain ⟨b4, e⟩ := He.ba e
  obtain ⟨b5, e⟩ := He.ba e
  obtain ⟨b6, e⟩ := He.ba e
  obtain ⟨b7, e⟩ := He.ba e
  obtain ⟨b8, e⟩ := He.ba e
  obtain ⟨b9, e⟩ := He.ba e
  obtain ⟨b10, e⟩ := He.ba e
  obtain ⟨b11, e⟩ := He.ba e
  obtain ⟨b12, e⟩ := He.ba e
  obtain ⟨b13, e⟩ := He.ba e
  obtain ⟨b14, e⟩ := He.ba e
  obtain ⟨b15, e⟩ := He.ba e
  obtain ⟨b16, e⟩ := He.ba e
  exact {
m_BadNumber_init := c.t.d.def_ 0 (d := dBadNumber_init) rfl,
    m_BadRow_init := c.t.d.def_ 1 (d := dBadRow_init) rfl,
    m_Unlike_init := c.t.d.def_ 2 (d := dUnlike_init) rfl,
    f_is_whole := c.t.d.def_ 3 (d := d_is_whole) rfl,
    g_is_whole := He.glo_ok X G (c.t.d.fact 0 (f := .glo "is_whole") rfl),
    f_is_ratio := c.t.d.def_ 4 (d := d_is_ratio) rfl,
    g_is_ratio := He.glo_ok X G (c.t.d.fact 1 (f := .glo "is_ratio") rfl),
    f_divisor := c.t.d.def_ 5 (d := d_divisor) rfl,
    g_divisor := He.glo_ok X G (c.t.d.fact 2 (f := .glo "divisor") rfl),
    f_lowest := c.t.d.def_ 6 (d := d_lowest) rfl,
    g_lowest := He.glo_ok X G (c.t.d.fact 3 (f := .glo "lowest") rfl),
    f_told := c.t.d.def_ 7 (d := d_told) rfl,
    g_told := He.glo_ok X G (c.t.d.fact 4 (f := .glo "told") rfl),
    f_parts := c.t.d.def_ 8 (d := d_parts) rfl,
    g_parts := He.glo_ok X G (c.t.d.fact 5 (f := .glo "parts") rfl),
    f_plus := c.t.d.def_ 9 (d := d_plus) rfl,
    g_plus := He.glo_ok X G (c.t.d.fact 6 (f := .glo "plus") rfl),
    f_minus := c.t.d.def_ 10 (d := d_minus) rfl,
    g_minus := He.glo_ok X G (c.t.d.fact 7 (f := .glo "minus") rfl),
    f_times := c.t.d.def_ 11 (d := d_times) rfl,
    g_times := He.glo_ok X G (c.t.d.fact 8 (f := .glo "times") rfl),
    f_share := c.t.d.def_ 12 (d := d_share) rfl,
    g_share := He.glo_ok X G (c.t.d.fact 9 (f := .glo "share") rfl),
    f_lower := c.t.d.def_ 13 (d := d_lower) rfl,
    g_lower := He.glo_ok X G (c.t.d.fact 10 (f := .glo "lower") rfl),
    f_floor_of := c.t.d.def_ 14 (d := d_floor_of) rfl,
    g_floor_of := He.glo_ok X G (c.t.d.fact 11 (f := .glo "floor_of") rfl),
    f_bottom_of := c.t.d.def_ 15 (d := d_bottom_of) rfl,
    g_bottom_of := He.glo_ok X G (c.t.d.fact 12 (f := .glo "bottom_of") rfl),
    f_ratio_text := c.t.d.def_ 16 (d := d_ratio_text) rfl,
    g_ratio_text := He.glo_ok X G (c.t.d.fact 13 (f := .glo "ratio_text") rfl),
    m_Poly_init := c.t.d.def_ 17 (d := dPoly_init) rfl,
    t_init := He.meth_ok (c.t.d.fact 82 (f := .meth "Poly" "__init__") rfl),
    m_Poly_eq := c.t.d.def_ 18 (d := dPoly_eq) rfl,
    t_eq := He.meth_ok (c.t.d.fact 83 (f := .meth "Poly" "__eq__") rfl),
    m_Poly_add := c.t.d.def_ 19 (d := dPoly_add) rfl,
    t_add := He.meth_ok (c.t.d.fact 84 (f := .meth "Poly" "__add__") rfl),
    m_Poly_radd := c.t.d.def_ 20 (d := dPoly_radd) rfl,
    t_radd := He.meth_ok (c.t.d.fact 85 (f := .meth "Poly" "__radd__") rfl),
    m_Poly_sub := c.t.d.def_ 21 (d := dPoly_sub) rfl,
    t_sub := He.meth_ok (c.t.d.fact 86 (f := .meth "Poly" "__sub__") rfl),
    m_Poly_rsub := c.t.d.def_ 22 (d := dPoly_rsub) rfl,
    t_rsub := He.meth_ok (c.t.d.fact 87 (f := .meth "Poly" "__rsub__") rfl),
    m_Poly_mul := c.t.d.def_ 23 (d := dPoly_mul) rfl,
    t_mul := He.meth_ok (c.t.d.fact 88 (f := .meth "Poly" "__mul__") rfl),
    m_Poly_rmul := c.t.d.def_ 24 (d := dPoly_rmul) rfl,
    t_rmul := He.meth_ok (c.t.d.fact 89 (f := .meth "Poly" "__rmul__") rfl),
    m_Poly_neg := c.t.d.def_ 25 (d := dPoly_neg) rfl,
    t_neg := He.meth_ok (c.t.d.fact 90 (f := .meth "Poly" "__neg__") rfl),
    m_Poly_degree := c.t.d.def_ 26 (d := dPoly_degree) rfl,
    t_degree := He.meth_ok (c.t.d.fact 91 (f := .meth "Poly" "degree") rfl),
    m_Poly_at := c.t.d.def_ 27 (d := dPoly_at) rfl,
    t_at := He.meth_ok (c.t.d.fact 92 (f := .meth "Poly" "at") rfl),
    m_Poly_slope := c.t.d.def_ 28 (d := dPoly_slope) rfl,
    t_slope := He.meth_ok (c.t.d.fact 93 (f := .meth "Poly" "slope") rfl),
    m_Poly_moved := c.t.d.def_ 29 (d := dPoly_moved) rfl,
    t_moved := He.meth_ok (c.t.d.fact 94 (f := .meth "Poly" "moved") rfl),
    f_without_zeros := c.t.d.def_ 30 (d := d_without_zeros) rfl,
    g_without_zeros := He.glo_ok X G (c.t.d.fact 14 (f := .glo "without_zeros") rfl),
    f_poly_told := c.t.d.def_ 31 (d := d_poly_told) rfl,
    g_poly_told := He.glo_ok X G (c.t.d.fact 15 (f := .glo "poly_told") rfl),
    f_added_up := c.t.d.def_ 32 (d := d_added_up) rfl,
    g_added_up := He.glo_ok X G (c.t.d.fact 16 (f := .glo "added_up") rfl),
    f_summed := c.t.d.def_ 33 (d := d_summed) rfl,
    g_summed := He.glo_ok X G (c.t.d.fact 17 (f := .glo "summed") rfl),
    f_power_number := c.t.d.def_ 34 (d := d_power_number) rfl,
    g_power_number := He.glo_ok X G (c.t.d.fact 18 (f := .glo "power_number") rfl),
    f_multiplied := c.t.d.def_ 35 (d := d_multiplied) rfl,
    g_multiplied := He.glo_ok X G (c.t.d.fact 19 (f := .glo "multiplied") rfl),
    f_divided := c.t.d.def_ 36 (d := d_divided) rfl,
    g_divided := He.glo_ok X G (c.t.d.fact 20 (f := .glo "divided") rfl),
    f_plain := c.t.d.def_ 37 (d := d_plain) rfl,
    g_plain := He.glo_ok X G (c.t.d.fact 21 (f := .glo "plain") rfl),
    f_common := c.t.d.def_ 38 (d := d_common) rfl,
    g_common := He.glo_ok X G (c.t.d.fact 22 (f := .glo "common") rfl),
    f_law_pen := c.t.d.def_ 39 (d := d_law_pen) rfl,
    g_law_pen := He.glo_ok X G (c.t.d.fact 23 (f := .glo "_law_pen") rfl),
    f_law_draw := c.t.d.def_ 40 (d := d_law_draw) rfl,
    g_law_draw := He.glo_ok X G (c.t.d.fact 24 (f := .glo "_law_draw") rfl),
    f_law_pick := c.t.d.def_ 41 (d := d_law_pick) rfl,
    g_law_pick := He.glo_ok X G (c.t.d.fact 25 (f := .glo "_law_pick") rfl),
    f_law_is_whole := c.t.d.def_ 42 (d := d_law_is_whole) rfl,
    g_law_is_whole := He.glo_ok X G (c.t.d.fact 26 (f := .glo "_law_is_whole") rfl),
    f_law_gcd := c.t.d.def_ 43 (d := d_law_gcd) rfl,
    g_law_gcd := He.glo_ok X G (c.t.d.fact 27 (f := .glo "_law_gcd") rfl),
    f_law_q := c.t.d.def_ 44 (d := d_law_q) rfl,
    g_law_q := He.glo_ok X G (c.t.d.fact 28 (f := .glo "_law_q") rfl),
    f_law_plus := c.t.d.def_ 45 (d := d_law_plus) rfl,
    g_law_plus := He.glo_ok X G (c.t.d.fact 29 (f := .glo "_law_plus") rfl),
    f_law_minus := c.t.d.def_ 46 (d := d_law_minus) rfl,
    g_law_minus := He.glo_ok X G (c.t.d.fact 30 (f := .glo "_law_minus") rfl),
    f_law_times := c.t.d.def_ 47 (d := d_law_times) rfl,
    g_law_times := He.glo_ok X G (c.t.d.fact 31 (f := .glo "_law_times") rfl),
    f_law_share := c.t.d.def_ 48 (d := d_law_share) rfl,
    g_law_share := He.glo_ok X G (c.t.d.fact 32 (f := .glo "_law_share") rfl),
    f_law_less := c.t.d.def_ 49 (d := d_law_less) rfl,
    g_law_less := He.glo_ok X G (c.t.d.fact 33 (f := .glo "_law_less") rfl),
    f_law_passed := c.t.d.def_ 50 (d := d_law_passed) rfl,
    g_law_passed := He.glo_ok X G (c.t.d.fact 34 (f := .glo "_law_passed") rfl),
    f_law_ratio := c.t.d.def_ 51 (d := d_law_ratio) rfl,
    g_law_ratio := He.glo_ok X G (c.t.d.fact 35 (f := .glo "_law_ratio") rfl),
    f_law_poly := c.t.d.def_ 52 (d := d_law_poly) rfl,
    g_law_poly := He.glo_ok X G (c.t.d.fact 36 (f := .glo "_law_poly") rfl),
    f_law_p_plus := c.t.d.def_ 53 (d := d_law_p_plus) rfl,
    g_law_p_plus := He.glo_ok X G (c.t.d.fact 37 (f := .glo "_law_p_plus") rfl),
    f_law_p_scaled := c.t.d.def_ 54 (d := d_law_p_scaled) rfl,
    g_law_p_scaled := He.glo_ok X G (c.t.d.fact 38 (f := .glo "_law_p_scaled") rfl),
    f_law_p_minus := c.t.d.def_ 55 (d := d_law_p_minus) rfl,
    g_law_p_minus := He.glo_ok X G (c.t.d.fact 39 (f := .glo "_law_p_minus") rfl),
    f_law_p_times := c.t.d.def_ 56 (d := d_law_p_times) rfl,
    g_law_p_times := He.glo_ok X G (c.t.d.fact 40 (f := .glo "_law_p_times") rfl),
    f_law_p_at := c.t.d.def_ 57 (d := d_law_p_at) rfl,
    g_law_p_at := He.glo_ok X G (c.t.d.fact 41 (f := .glo "_law_p_at") rfl),
    f_law_p_slope := c.t.d.def_ 58 (d := d_law_p_slope) rfl,
    g_law_p_slope := He.glo_ok X G (c.t.d.fact 42 (f := .glo "_law_p_slope") rfl),
    f_law_p_moved := c.t.d.def_ 59 (d := d_law_p_moved) rfl,
    g_law_p_moved := He.glo_ok X G (c.t.d.fact 43 (f := .glo "_law_p_moved") rfl),
    f_law_p_divided := c.t.d.def_ 60 (d := d_law_p_divided) rfl,
    g_law_p_divided := He.glo_ok X G (c.t.d.fact 44 (f := .glo "_law_p_divided") rfl),
    f_law_p_plain := c.t.d.def_ 61 (d := d_law_p_plain) rfl,
    g_law_p_plain := He.glo_ok X G (c.t.d.fact 45 (f := .glo "_law_p_plain") rfl),
    f_law_p_short := c.t.d.def_ 62 (d := d_law_p_short) rfl,
    g_law_p_short := He.glo_ok X G (c.t.d.fact 46 (f := .glo "_law_p_short") rfl),
    f_law_p_common := c.t.d.def_ 63 (d := d_law_p_common) rfl,
    g_law_p_common := He.glo_ok X G (c.t.d.fact 47 (f := .glo "_law_p_common") rfl),
    f_law_made_poly := c.t.d.def_ 64 (d := d_law_made_poly) rfl,
    g_law_made_poly := He.glo_ok X G (c.t.d.fact 48 (f := .glo "_law_made_poly") rfl),
    f_law_drawn := c.t.d.def_ 65 (d := d_law_drawn) rfl,
    g_law_drawn := He.glo_ok X G (c.t.d.fact 49 (f := .glo "_law_drawn") rfl),
    f_law_why := c.t.d.def_ 66 (d := d_law_why) rfl,
    g_law_why := He.glo_ok X G (c.t.d.fact 50 (f := .glo "_law_why") rfl),
    f_law_is := c.t.d.def_ 67 (d := d_law_is) rfl,
    g_law_is := He.glo_ok X G (c.t.d.fact 51 (f := .glo "_law_is") rfl),
    f_law_any := c.t.d.def_ 68 (d := d_law_any) rfl,
    g_law_any := He.glo_ok X G (c.t.d.fact 52 (f := .glo "_law_any") rfl),
    f_law_far := c.t.d.def_ 69 (d := d_law_far) rfl,
    g_law_far := He.glo_ok X G (c.t.d.fact 53 (f := .glo "_law_far") rfl),
    f_law_some_ratio := c.t.d.def_ 70 (d := d_law_some_ratio) rfl,
    g_law_some_ratio := He.glo_ok X G (c.t.d.fact 54 (f := .glo "_law_some_ratio") rfl),
    f_law_ratios_right := c.t.d.def_ 71 (d := d_law_ratios_right) rfl,
    g_law_ratios_right := He.glo_ok X G (c.t.d.fact 55 (f := .glo "_law_ratios_right") rfl),
    f_law_made_right := c.t.d.def_ 72 (d := d_law_made_right) rfl,
    g_law_made_right := He.glo_ok X G (c.t.d.fact 56 (f := .glo "_law_made_right") rfl),
    f_law_divided_right := c.t.d.def_ 73 (d := d_law_divided_right) rfl,
    g_law_divided_right := He.glo_ok X G (c.t.d.fact 57 (f := .glo "_law_divided_right") rfl),
    f_law := c.t.d.def_ 74 (d := d_law) rfl,
    g_law := He.glo_ok X G (c.t.d.fact 58 (f := .glo "law") rfl),
    g_LookError := He.glo_ok X G (c.t.d.fact 59 (f := .glo "LookError") rfl),
    g_BadNumber := He.glo_ok X G (c.t.d.fact 60 (f := .glo "BadNumber") rfl),
    g_BadRow := He.glo_ok X G (c.t.d.fact 61 (f := .glo "BadRow") rfl),
    g_Unlike := He.glo_ok X G (c.t.d.fact 62 (f := .glo "Unlike") rfl),
    g_Poly := He.glo_ok X G (c.t.d.fact 63 (f := .glo "Poly") rfl),
    b_isinstance := He.free_ok X G (c.t.d.fact 64 (f := .free "isinstance") rfl),
    b_int := He.free_ok X G (c.t.d.fact 65 (f := .free "int") rfl),
    b_bool := He.free_ok X G (c.t.d.fact 66 (f := .free "bool") rfl),
    b_tuple := He.free_ok X G (c.t.d.fact 67 (f := .free "tuple") rfl),
    b_list := He.free_ok X G (c.t.d.fact 68 (f := .free "list") rfl),
    b_len := He.free_ok X G (c.t.d.fact 69 (f := .free "len") rfl),
    b_str := He.free_ok X G (c.t.d.fact 70 (f := .free "str") rfl),
    b_max := He.free_ok X G (c.t.d.fact 71 (f := .free "max") rfl),
    b_min := He.free_ok X G (c.t.d.fact 72 (f := .free "min") rfl),
    b_range := He.free_ok X G (c.t.d.fact 73 (f := .free "range") rfl),
    b_all := He.free_ok X G (c.t.d.fact 74 (f := .free "all") rfl),
    b_enumerate := He.free_ok X G (c.t.d.fact 75 (f := .free "enumerate") rfl),
    b_zip := He.free_ok X G (c.t.d.fact 76 (f := .free "zip") rfl),
    b_abs := He.free_ok X G (c.t.d.fact 77 (f := .free "abs") rfl),
    b_repr := He.free_ok X G (c.t.d.fact 78 (f := .free "repr") rfl),
    g_gcd := PySem.W.mg_of X G (of_decide_eq_true b3),
    cl := He.cls_ok (c.t.d.fact 79 (f := .cls "Poly") rfl),
    na := He.noat_ok (c.t.d.fact 80 (f := .noat "Poly" "numbers") rfl),
    mkP := He.mkr_ok (c.t.d.fact 81 (f := .mkr "Poly") rfl),
    nn := exfB_ok b0,
    nr := exfB_ok b1,
    le := lkB_ok b2,
    x_nn := He.exm_ok (c.t.d.fact 95 (f := .exm "BadNumber" "BadNumber" true) rfl),
    x_rn := He.exm_ok (c.t.d.fact 96 (f := .exm "BadRow" "BadNumber" false) rfl),
    x_rr := He.exm_ok (c.t.d.fact 97 (f := .exm "BadRow" "BadRow" true) rfl),
    kc := of_decide_eq_true b4,
    ow := ⟨b5, of_decide_eq_true b6, of_decide_eq_true b7, of_decide_eq_true b8, of_decide_eq_true b9⟩,
    k_int := of_decide_eq_true b10,
    k_tup := of_decide_eq_true b11,
    k_lst := of_decide_eq_true b12,
    k_own := of_decide_eq_true b13,
    kc2 := of_decide_eq_true b14,
    kc3 := of_decide_eq_true b15,
    kc4 := of_decide_eq_true b16 }
theorem tabs_nodup {K : PySem.W.Frag} {h : Heap} {w : World} (c : He.SaysX fa fn [] tf ex w h K) : (tf.map fun p => (He.cT K p).2).Nodup := by
  have e := c.more
  obtain ⟨b0, e⟩ := He.ba e
  obtain ⟨b1, e⟩ := He.ba e
  obtain ⟨b2, e⟩ := He.ba e
  obtain ⟨b3, e⟩ := He.ba e
  obtain ⟨b4, e⟩ := He.ba e
  obtain ⟨b5, e⟩ := He.ba e
  obtain ⟨b6, e⟩ := He.ba e
  obtain ⟨b7, e⟩ := He.ba e
  obtain ⟨b8, e⟩ := He.ba e
  obtain ⟨b9, e⟩ := He.ba e
  obtain ⟨b10, e⟩ := He.ba e
  obtain ⟨b11, e⟩ := He.ba e
  obtain ⟨b12, e⟩ := He.ba e
  obtain ⟨b13, e⟩ := He.ba e
  obtain ⟨b14, e⟩ := He.ba e
  obtain ⟨b15, e⟩ := He.ba e
  obtain ⟨b16, e⟩ := He.ba e
  exact of_decide_eq_true e
end G3
end
section
set_option maxHeartbeats 4000000
namespace G3
open PySem PySem.Spec PyProof.Rows L2
def NT (xs : List V) (H : Hp) (Q : VK) : Prop := xs.length ≤ sizeLine ∧ ∀ p, H p = none → Q (.ref p) (upd H p (.tup xs))
def NL (xs : List V) (H : Hp) (Q : VK) : Prop := xs.length ≤ sizeLine ∧ ∀ p, H p = none → Q (.ref p) (upd H p (.lst xs))
theorem tTup_nt {t : TA} {σ : L2.St} {H : Hp} {Q : VK} : tTup t σ H Q = t σ H fun xs H1 => NT xs H1 Q := rfl
theorem tLst_nl {t : TA} {σ : L2.St} {H : Hp} {Q : VK} : tLst t σ H Q = t σ H fun xs H1 => NL xs H1 Q := rfl
theorem nt_of {xs : List V} {H : Hp} {Q : VK} (h : ∀ p H', H p = none → Sm [] [] H H' → H' p = some (.tup xs) → Q (.ref p) H') (hl : xs.length ≤ 1000 := by simp) : NT xs H Q :=
  ⟨Nat.le_of_lt (small1000 hl), fun p np => h p _ np (Sm.new np) upd_same⟩
theorem nl_of {xs : List V} {H : Hp} {Q : VK} (h : ∀ p H', H p = none → Sm [] [] H H' → H' p = some (.lst xs) → Q (.ref p) H') (hl : xs.length ≤ 1000 := by simp) : NL xs H Q :=
  ⟨Nat.le_of_lt (small1000 hl), fun p np => h p _ np (Sm.new np) upd_same⟩
theorem cxOf_K {CX : CXT} {P : Program} {w : World} {K : PySem.W.Frag} {mg : Str → Option Value} {base : Heap} {N : List Str} {q : Str} {sc : Scope} {f : Addr} {cd : Value} {A : Around} {outer : List Env} {s : Shared} {H : Hp} {E : XK} : (cxOf CX P w K mg base N q sc f cd A outer s H E).K = K := rfl
theorem rI0_int {g : Int → Int → V} {i j : Int} {H : Hp} {Q : VK} : rI0 g (.int i) (.int j) H Q = Q (g i j) H := propext ⟨fun ⟨_, _, e1, e2, q⟩ => by cases e1; cases e2; exact q, fun q => ⟨_, _, rfl, rfl, q⟩⟩
theorem rI_int {C : Int → Int → Prop} {g : Int → Int → V} {i j : Int} {H : Hp} {Q : VK} : rI C g (.int i) (.int j) H Q = (C i j ∧ Q (g i j) H) := propext ⟨fun ⟨_, _, e1, e2, c, q⟩ => by cases e1; cases e2; exact ⟨c, q⟩, fun q => ⟨_, _, rfl, rfl, q.1, q.2⟩⟩
theorem rU_int {g : Int → V} {i : Int} {H : Hp} {Q : VK} : rU g (.int i) H Q = Q (g i) H := propext ⟨fun ⟨_, e1, q⟩ => by cases e1; exact q, fun q => ⟨_, rfl, q⟩⟩
theorem rEq_int {i j : Int} {H : Hp} {Q : VK} : rEq (.int i) (.int j) H Q = Q (.bl (decide (i = j))) H := propext ⟨fun ⟨_, q⟩ => by simpa only [V.int.injEq] using q, fun q => ⟨rfl, by simpa only [V.int.injEq] using q⟩⟩
theorem rNe_int {i j : Int} {H : Hp} {Q : VK} : rNe (.int i) (.int j) H Q = Q (.bl (!decide (i = j))) H := propext ⟨fun ⟨_, q⟩ => by simpa only [V.int.injEq] using q, fun q => ⟨rfl, by simpa only [V.int.injEq] using q⟩⟩
/-! ### a, b = a pair -/
theorem gTup2 {K : PySem.W.Frag} {n i j : Nat} {a : Addr} {x y : V} {σ : L2.St} {H : Hp} {Q : L2.St → Hp → Prop} (h : H a = some (.tup [x, y])) (q : Q ((σ.set i (some x)).set j (some y)) H) (hn : 2 = n := by rfl) :
    gTup K n (gCons (gName i) (gCons (gName j) gNil)) (.ref a) σ H Q := ⟨a, _, rfl, L2.SqT.of h, hn, x, _, rfl, y, _, rfl, rfl, q⟩
def gSeq (K : PySem.W.Frag) (n : Nat) (t : TGs) : TG := fun v σ H Q => gTup K n t v σ H Q ∨ gLst K n t v σ H Q
theorem pg_seq {X : Cx} {pos : Pos} {es : List Expr} {k : Nat} {t : TGs} {n : Nat} (hc : X.calm = true) (h : PGs X es t)
    (hn : (assignEach es X.env).length = n := by rfl) (hst : (assignEach es X.env).findIdx? (·.1) = none := by rfl) : PG X (.Tuple es k pos) (gSeq X.K n t) := by
  constructor
  intro pins s σ H v u Q I r h2
  rcases h2 with h2 | h2
  · exact (pg_tup (k := k) (pos := pos) hc h hn hst).run pins s σ H v u Q I r h2
  · exact (pg_lst (k := k) (pos := pos) hc h hn hst).run pins s σ H v u Q I r h2
theorem gSeq2 {K : PySem.W.Frag} {n i j : Nat} {a : Addr} {x y : V} {σ : L2.St} {H : Hp} {Q : L2.St → Hp → Prop} (h : Sq H a [x, y]) (q : Q ((σ.set i (some x)).set j (some y)) H) (hn : 2 = n := by rfl) :
    gSeq K n (gCons (gName i) (gCons (gName j) gNil)) (.ref a) σ H Q := by
  rcases h with h | h
  · exact .inl (gTup2 h q hn)
  · exact .inr ⟨a, _, rfl, L2.SqL.of h, hn, x, _, rfl, y, _, rfl, rfl, q⟩
end G3
end
section
namespace G3
theorem fdiv_pos {a c g : Int} (hg : 0 < g) (e : a = g * c) : a.fdiv g = c := by
  subst e
  rw [Int.fdiv_eq_ediv_of_nonneg _ (Int.le_of_lt hg)]
  exact Int.mul_ediv_cancel_left c (by omega)
theorem fdiv_neg' {a c g : Int} (hg : 0 < g) (e : a = g * c) : a.fdiv (-g) = -c := by
  subst e
  have h2 : g * c = (-g) * (-c) := by rw [Int.neg_mul_neg]
  rw [h2]
  exact Int.mul_fdiv_cancel_left (-c) (by omega)
theorem lowest_eq {a b : Int} (hb : b ≠ 0) : (Rat.divInt a b).num = a.fdiv (if 0 < b then ((Nat.gcd a.natAbs b.natAbs : Nat) : Int) else -((Nat.gcd a.natAbs b.natAbs : Nat) : Int)) ∧
    (((Rat.divInt a b).den : Nat) : Int) = b.fdiv (if 0 < b then ((Nat.gcd a.natAbs b.natAbs : Nat) : Int) else -((Nat.gcd a.natAbs b.natAbs : Nat) : Int)) := by
  have hg : b.gcd a = Nat.gcd a.natAbs b.natAbs := by rw [Int.gcd, Nat.gcd_comm]
  have hpos : 0 < Nat.gcd a.natAbs b.natAbs := Nat.gcd_pos_of_pos_right _ (by omega)
  obtain ⟨c, hc⟩ : ((Nat.gcd a.natAbs b.natAbs : Nat) : Int) ∣ a := Int.ofNat_dvd_left.mpr (Nat.gcd_dvd_left _ _)
  obtain ⟨d, hd⟩ : ((Nat.gcd a.natAbs b.natAbs : Nat) : Int) ∣ b := Int.ofNat_dvd_left.mpr (Nat.gcd_dvd_right _ _)
  have gp : (0 : Int) < ((Nat.gcd a.natAbs b.natAbs : Nat) : Int) := by omega
  rw [Rat.num_divInt, Rat.den_divInt, if_neg hb, hg]
  generalize hG : Nat.gcd a.natAbs b.natAbs = g at *
  by_cases p : 0 < b
  · rw [if_pos p, fdiv_pos gp hc, fdiv_pos gp hd, Int.sign_eq_one_of_pos p, Int.one_mul]
    refine ⟨?_, ?_⟩
    · rw [hc]; exact Int.mul_ediv_cancel_left c (by omega)
    · rw [Int.natCast_ediv, Int.natAbs_of_nonneg (by omega), hd]
      exact Int.mul_ediv_cancel_left d (by omega)
  · have n : b < 0 := by omega
    rw [if_neg p, fdiv_neg' gp hc, fdiv_neg' gp hd, Int.sign_eq_neg_one_of_neg n]
    refine ⟨?_, ?_⟩
    · rw [hc, show (-1 : Int) * ((g : Int) * c) = (g : Int) * (-c) by rw [Int.mul_neg]; omega]
      exact Int.mul_ediv_cancel_left (-c) (by omega)
    · rw [Int.natCast_ediv, Int.ofNat_natAbs_of_nonpos (by omega), hd, ← Int.mul_neg]
      exact Int.mul_ediv_cancel_left (-d) (by omega)
theorem int_divInt (n : Int) : Rat.divInt n 1 = (n : Rat) := by
  have h := Rat.num_divInt_den (n : Rat)
  exact h
end G3
end
section
set_option maxHeartbeats 4000000
namespace G3
open PySem PySem.Spec PyProof.Rows L2
local macro_rules | `(tactic| walk_at "rd") => `(tactic| simp only [tVar, tC, tOp, tUn, tCons, tNil, tCB, tCall, tRet, tSeq, tAsg, gName, tIfS, tIf, tTest, tB, tNot, tAnd, tOr, tNotV, tAndV, tOrV, rI0_int, rI_int, rU_int, rEq_int, rNe_int, tPar, tNext, tDrop, tTup_nt, tLst_nl, tMkBN, tMkBR, cxOf_K, L2.start, List.map_cons, List.map_nil, List.length_cons, List.length_nil, List.cons_append, List.nil_append, List.append_nil, List.replicate_succ, List.replicate_zero, Nat.reduceAdd, Nat.reduceSub, Nat.sub_self, List.getElem?_cons_zero, List.getElem?_cons_succ, List.set_cons_zero, List.set_cons_succ, Option.some.injEq, V.int.injEq, V.bl.injEq, exists_eq_left', exists_eq_left, exists_eq_right, exists_eq_right', true_and, and_true, if_true, if_false, ite_true, ite_false, Bool.false_eq_true, Bool.not_true, Bool.not_false, reduceIte])
local macro_rules | `(tactic| walk_at "ix") => `(tactic| repeat (first | refine Sq.ix (by assumption) (by rfl) ?_ | (walk_at "rd"; refine ⟨Sz.mul (by assumption) (by assumption), ?_⟩)))
/-! ### kinds of values -/
inductive An (H : Hp) : V → String → Prop where
  | non : An H .non "NoneType"
  | bl (b : Bool) : An H (.bl b) "bool"
  | int (i : Int) : An H (.int i) "int"
  | str (x : Str) : An H (.str x) "str"
  | lst {a : Addr} {xs : List V} (e : H a = some (.lst xs)) : An H (.ref a) "list"
  | tup {a : Addr} {xs : List V} (e : H a = some (.tup xs)) : An H (.ref a) "tuple"
  | dK {a : Addr} {kvs : List (Key × V)} (e : H a = some (.dK kvs)) : An H (.ref a) "dict"
theorem An.ty {K : PySem.W.Frag} {H : Hp} {v : V} {n : String} (h : An H v n) : TyX K H v (.type n) := by
  cases h with
  | non => exact .base .non
  | bl b => exact .base (.bl b)
  | int i => exact .base (.int i)
  | str x => exact .base (.str x)
  | lst e => exact .base (.lst e)
  | tup e => exact .base (.tup e)
  | dK e => exact .base (.dK e)
def wh : V → Bool
  | .int _ => true
  | _ => false
theorem An.int? {H : Hp} {v : V} {n : String} (h : An H v n) : kitB n "int" = some (wh v || decide (n = "bool")) ∧ kitB n "bool" = some (decide (n = "bool")) ∧ (n = "bool" → wh v = false) := by
  cases h with
  | non => exact ⟨show kitB "NoneType" "int" = some false by decide +kernel, show kitB "NoneType" "bool" = some false by decide +kernel, fun _ => rfl⟩
  | bl b => exact ⟨show kitB "bool" "int" = some true by decide +kernel, show kitB "bool" "bool" = some true by decide +kernel, fun _ => rfl⟩
  | int i => exact ⟨show kitB "int" "int" = some true by decide +kernel, show kitB "int" "bool" = some false by decide +kernel, fun e => absurd e (by decide)⟩
  | str x => exact ⟨show kitB "str" "int" = some false by decide +kernel, show kitB "str" "bool" = some false by decide +kernel, fun _ => rfl⟩
  | lst e => exact ⟨show kitB "list" "int" = some false by decide +kernel, show kitB "list" "bool" = some false by decide +kernel, fun _ => rfl⟩
  | tup e => exact ⟨show kitB "tuple" "int" = some false by decide +kernel, show kitB "tuple" "bool" = some false by decide +kernel, fun _ => rfl⟩
  | dK e => exact ⟨show kitB "dict" "int" = some false by decide +kernel, show kitB "dict" "bool" = some false by decide +kernel, fun _ => rfl⟩
theorem isi_of {K : PySem.W.Frag} {H : Hp} {v : V} {n m : String} {b : Bool} {Q : VK} (h : An H v n) (k : kitB n m = some b) (q : Q (.bl b) H) : rIsi K [v, .ty m] H Q :=
  ⟨_, _, _, _, _, rfl, .ty _, h.ty, kit_ty k, q⟩
theorem isiT_of {K : PySem.W.Frag} {H : Hp} {v : V} {n : String} {p : Addr} {b : Bool} {Q : VK} (h : An H v n) (hp : H p = some (.tup [.ty "tuple", .ty "list"])) (k : b = (decide (n = "tuple") || decide (n = "list"))) (q : Q (.bl b) H) : rIsiT K [v, .ref p] H Q := by
  have e : PySem.W.kitAny K (.type n) [.type "tuple", .type "list"] = some b := by
    rw [k]
    cases h with
    | non => exact kitAny_cons (b := false) (kit_ty (by decide +kernel)) (fun _ => kitAny_cons (b := false) (kit_ty (by decide +kernel)) (fun _ => kitAny_nil) (fun z => by cases z)) (fun z => by cases z)
    | bl => exact kitAny_cons (b := false) (kit_ty (by decide +kernel)) (fun _ => kitAny_cons (b := false) (kit_ty (by decide +kernel)) (fun _ => kitAny_nil) (fun z => by cases z)) (fun z => by cases z)
    | int => exact kitAny_cons (b := false) (kit_ty (by decide +kernel)) (fun _ => kitAny_cons (b := false) (kit_ty (by decide +kernel)) (fun _ => kitAny_nil) (fun z => by cases z)) (fun z => by cases z)
    | str => exact kitAny_cons (b := false) (kit_ty (by decide +kernel)) (fun _ => kitAny_cons (b := false) (kit_ty (by decide +kernel)) (fun _ => kitAny_nil) (fun z => by cases z)) (fun z => by cases z)
    | dK => exact kitAny_cons (b := false) (kit_ty (by decide +kernel)) (fun _ => kitAny_cons (b := false) (kit_ty (by decide +kernel)) (fun _ => kitAny_nil) (fun z => by cases z)) (fun z => by cases z)
    | tup => exact kitAny_cons (b := true) (kit_ty (by decide +kernel)) (fun z => by cases z) (fun _ => rfl)
    | lst => exact kitAny_cons (b := false) (kit_ty (by decide +kernel)) (fun _ => kitAny_cons (b := true) (kit_ty (by decide +kernel)) (fun z => by cases z) (fun _ => rfl)) (fun z => by cases z)
  exact ⟨_, _, _, _, _, _, rfl, hp, .cons (.ty _) (.cons (.ty _) .nil), h.ty, e, q⟩
section
variable {P : Program} {w : World} {K : PySem.W.Frag} {mg : Str → Option Value} {base : Heap}
abbrev N_is_whole : List Str := ["value"]
theorem sc_is_whole : FnScope N_is_whole ["value"] (defScope s_is_whole) := ⟨rfl, rfl, rfl, by decide +kernel, rfl, by decide +kernel, by decide +kernel⟩
def spWhole : Sp := fun vs H Q _ => ∃ v n, vs = [v] ∧ An H v n ∧ Q (.bl (wh v)) H
theorem ok_is_whole (T : Tx K mg) : Cal P w K mg base CX0 1 "is_whole" spWhole := by
  obtain ⟨fd, F⟩ := T.f_is_whole
  refine cal0 F T.g_is_whole sc_is_whole (ps := ["value"]) (fun _ _ _ _ _ _ us hl => match us, hl with | [_], _ => rfl) (fun vs H Q E h => ?_) (fun cdv A outer s H vs Q E hr h => ?_)
  · obtain ⟨v, n, rfl, _⟩ := h
    rfl
  · obtain ⟨v, n, rfl, hv, k⟩ := h
    refine ⟨_, (pss_one (ps_ret (pe_and (pe_callB call_isi (by rfl) T.b_isinstance (by decide +kernel) (pa_cons (pv 0) (pa_cons (pe_bltn (v := .ty "int") (by rfl) T.b_int (by decide +kernel) rfl) pa_nil))) (pe_one (pe_not (pe_callB call_isi (by rfl) T.b_isinstance (by decide +kernel) (pa_cons (pv 0) (pa_cons (pe_bltn (v := .ty "bool") (by rfl) T.b_bool (by decide +kernel) rfl) pa_nil)))))))), ?_⟩
    obtain ⟨k1, k2, k3⟩ := hv.int?
    walk_at "rd"
    refine isi_of hv k1 ?_
    walk_at "rd"
    by_cases e : n = "bool"
    · rw [k3 e] at k ⊢
      simp only [e, decide_true, Bool.or_true, if_true]
      refine isi_of hv k2 ?_
      walk_at "rd"
      simpa only [e, decide_true, Bool.not_true] using k
    · cases hw : wh v with
      | false =>
        simp only [e, decide_false, Bool.or_false, Bool.false_eq_true, if_false]
        rw [hw] at k
        exact k
      | true =>
        simp only [Bool.true_or, if_true]
        refine isi_of hv k2 ?_
        walk_at "rd"
        rw [hw] at k
        simpa only [e, decide_false, Bool.not_false] using k
/-! ### what is no ratio -/
inductive NoRat (H : Hp) : V → Prop where
  | any {v : V} {n : String} (h : An H v n) (h1 : n ≠ "int") (h2 : n ≠ "tuple") (h3 : n ≠ "list") : NoRat H v
  | len {p : Addr} {xs : List V} (h : Sq H p xs) (hl : xs.length ≠ 2) : NoRat H (.ref p)
  | two {p : Addr} {x y : V} {n m : String} (h : Sq H p [x, y]) (hx : An H x n) (hy : An H y m) (hz : wh x = false ∨ wh y = false ∨ ∃ b : Int, y = .int b ∧ b ≤ 0) : NoRat H (.ref p)
theorem An.m {H H' : Hp} {v : V} {n : String} (h : An H v n) (s : Sm [] [] H H') : An H' v n := by
  cases h with
  | non => exact .non
  | bl b => exact .bl b
  | int i => exact .int i
  | str x => exact .str x
  | lst e => exact .lst (s.lst e List.not_mem_nil)
  | tup e => exact .tup (s.tup e)
  | dK e => exact .dK (s.dct e List.not_mem_nil)
theorem NoRat.m {H H' : Hp} {v : V} (h : NoRat H v) (s : Sm [] [] H H') : NoRat H' v := by
  cases h with
  | any h h1 h2 h3 => exact .any (h.m s) h1 h2 h3
  | len h hl => exact .len (h.m s) hl
  | two h hx hy hz => exact .two (h.m s) (hx.m s) (hy.m s) hz
theorem Sq.an {H : Hp} {p : Addr} {xs : List V} (h : Sq H p xs) : ∃ n, An H (.ref p) n ∧ (decide (n = "tuple") || decide (n = "list")) = true := by
  rcases h with h | h
  · exact ⟨_, .tup h, rfl⟩
  · exact ⟨_, .lst h, rfl⟩
theorem wh_no {H : Hp} {v : V} {n : String} (h : An H v n) (e : n ≠ "int") : wh v = false := by
  cases h <;> first | rfl | exact absurd rfl e
theorem wh_int {v : V} (h : wh v = true) : ∃ i, v = .int i := by
  cases v with
  | int i => exact ⟨i, rfl⟩
  | _ => cases h
abbrev N_is_ratio : List Str := ["value"]
theorem sc_is_ratio : FnScope N_is_ratio ["value"] (defScope s_is_ratio) := ⟨rfl, rfl, rfl, by decide +kernel, rfl, by decide +kernel, by decide +kernel⟩
def spRatio : Sp := fun vs H Q _ => ∃ v, vs = [v] ∧ ((∃ a b, RatV H v a b ∧ ∀ H', Sm [] [] H H' → Q (.bl true) H') ∨ (NoRat H v ∧ ∀ H', Sm [] [] H H' → Q (.bl false) H'))
theorem ok_is_ratio (T : Tx K mg) : Cal P w K mg base CX0 2 "is_ratio" spRatio := by
  have c_is_whole := ok_is_whole (P := P) (w := w) (base := base) T
  obtain ⟨fd, F⟩ := T.f_is_ratio
  refine cal0 F T.g_is_ratio sc_is_ratio (ps := ["value"]) (fun _ _ _ _ _ _ us hl => match us, hl with | [_], _ => rfl) (fun vs H Q E h => ?_) (fun cdv A outer s H vs Q E hr h => ?_)
  · obtain ⟨v, rfl, _⟩ := h
    rfl
  · obtain ⟨v, rfl, h⟩ := h
    refine ⟨_, (pss_cons (ps_if (pt_val (pe_cal c_is_whole hr (by decide) pass0 (pa_cons (pv 0) pa_nil))) (pss_one (ps_ret pe_bl)) pss_nil)
      (pss_cons (ps_if (PW.pt (pw_or (pt_not (pt_val (pe_callB call_isiT (by rfl) T.b_isinstance (by decide +kernel) (pa_cons (pv 0) (pa_cons (pe_tup (pa_cons (pe_bltn (v := .ty "tuple") (by rfl) T.b_tuple (by decide +kernel) rfl) (pa_cons (pe_bltn (v := .ty "list") (by rfl) T.b_list (by decide +kernel) rfl) pa_nil))) pa_nil))))) (pw_or1 (pt_cmpR op_ne (pe_callB call_len_seq (by rfl) T.b_len (by decide +kernel) (pa_cons (pv 0) pa_nil)) pe_int (nomark _))))) (pss_one (ps_ret pe_bl)) pss_nil)
      (pss_one (ps_ret (pe_and (pe_cal c_is_whole hr (by decide) pass0 (pa_cons (pe_ix ix_seq (pv 0) pe_int (fun _ _ => rfl)) pa_nil)) (pe_and (pe_cal c_is_whole hr (by decide) pass0 (pa_cons (pe_ix ix_seq (pv 0) pe_int (fun _ _ => rfl)) pa_nil)) (pe_one (pe_cmpR op_gt (pe_ix ix_seq (pv 0) pe_int (fun _ _ => rfl)) pe_int (nomark _))))))))), ?_⟩
    walk_at "rd"
    rcases h with ⟨a, b, h, k⟩ | ⟨h, k⟩
    · cases h with
      | int n => exact ⟨_, _, rfl, .int _, _, rfl, iteT (k _ Sm.refl)⟩
      | @sq p _ _ hp hb =>
        obtain ⟨n, hn, hk⟩ := hp.an
        refine ⟨_, _, rfl, hn, false, rfl, iteF ?_⟩
        refine nt_of fun p1 H1 np s1 h1 => ?_
        have hp1 := hp.m s1
        refine isiT_of (hn.m s1) h1 hk.symm ⟨_, rfl, iteF ?_⟩
        refine ⟨_, _, rfl, hp1.rd, iteF ?_⟩
        refine hp1.ix rfl ⟨_, _, rfl, .int _, _, rfl, iteT ?_⟩
        refine hp1.ix rfl ⟨_, _, rfl, .int _, _, rfl, iteT ?_⟩
        refine hp1.ix rfl ?_
        walk_at "rd"
        rw [decide_eq_true hb]
        exact k _ s1
    · cases h with
      | @any _ n hn h1 h2 h3 =>
        refine ⟨_, _, rfl, hn, false, by rw [wh_no hn h1], iteF ?_⟩
        refine nt_of fun p1 H1 np s1 hp1 => ?_
        exact isiT_of (hn.m s1) hp1 (b := false) (by simp [h2, h3]) ⟨_, rfl, iteT (k _ s1)⟩
      | @len p xs hp hl =>
        obtain ⟨n, hn, hk⟩ := hp.an
        refine ⟨_, _, rfl, hn, false, rfl, iteF ?_⟩
        refine nt_of fun p1 H1 np s1 h1 => ?_
        refine isiT_of (hn.m s1) h1 hk.symm ⟨_, rfl, iteF ?_⟩
        refine ⟨_, _, rfl, (hp.m s1).rd, ?_⟩
        have e : decide (((xs.length : Nat) : Int) = 2) = false := decide_eq_false (by omega)
        rw [e]
        exact iteT (k _ s1)
      | @two p x y n m hp hx hy hz =>
        obtain ⟨n0, hn, hk⟩ := hp.an
        refine ⟨_, _, rfl, hn, false, rfl, iteF ?_⟩
        refine nt_of fun p1 H1 np s1 h1 => ?_
        have hp1 := hp.m s1
        refine isiT_of (hn.m s1) h1 hk.symm ⟨_, rfl, iteF ?_⟩
        refine ⟨_, _, rfl, hp1.rd, iteF ?_⟩
        refine hp1.ix rfl ⟨_, _, rfl, hx.m s1, _, rfl, ?_⟩
        cases hwx : wh x with
        | false => exact iteF (k _ s1)
        | true =>
          refine iteT ?_
          refine hp1.ix rfl ⟨_, _, rfl, hy.m s1, _, rfl, ?_⟩
          cases hwy : wh y with
          | false => exact iteF (k _ s1)
          | true =>
            refine iteT ?_
            rcases hz with hz | hz | ⟨b, rfl, hb⟩
            · rw [hwx] at hz; cases hz
            · rw [hwy] at hz; cases hz
            · refine hp1.ix rfl ?_
              walk_at "rd"
              rw [decide_eq_false (by omega)]
              exact k _ s1
/-! ### divisor, lowest -/
abbrev N_divisor : List Str := ["one", "other"]
theorem sc_divisor : FnScope N_divisor ["one", "other"] (defScope s_divisor) := ⟨rfl, rfl, rfl, by decide +kernel, rfl, by decide +kernel, by decide +kernel⟩
def spDivisor : Sp := fun vs H Q _ => ∃ a b : Int, vs = [.int a, .int b] ∧ Q (.int ((Nat.gcd a.natAbs b.natAbs : Nat) : Int)) H
theorem ok_divisor (T : Tx K mg) : Cal P w K mg base CX0 1 "divisor" spDivisor := by
  obtain ⟨fd, F⟩ := T.f_divisor
  refine cal0 F T.g_divisor sc_divisor (ps := ["one", "other"]) (fun _ _ _ _ _ _ us hl => match us, hl with | [_, _], _ => rfl) (fun vs H Q E h => ?_) (fun cdv A outer s H vs Q E hr h => ?_)
  · obtain ⟨a, b, rfl, _⟩ := h
    rfl
  · obtain ⟨a, b, rfl, k⟩ := h
    refine ⟨_, (pss_one (ps_ret (pe_callBfun cr_gcd (by rfl) T.g_gcd (pa_cons (pv 0) (pa_cons (pv 1) pa_nil))))), ?_⟩
    walk_at "rd"
    exact ⟨_, _, rfl, k⟩
abbrev N_lowest : List Str := ["top", "bottom", "by"]
theorem sc_lowest : FnScope N_lowest ["top", "bottom"] (defScope s_lowest) := ⟨rfl, rfl, rfl, by decide +kernel, rfl, by decide +kernel, by decide +kernel⟩
def spLowest : Sp := fun vs H Q _ => ∃ a b : Int, vs = [.int a, .int b] ∧ b ≠ 0 ∧ b.natAbs < 2 ^ 9000 ∧ ∀ v H', Sm [] [] H H' → IsQ H' v (Rat.divInt a b) → Q v H'
theorem ok_lowest (T : Tx K mg) : Cal P w K mg base CX0 2 "lowest" spLowest := by
  have c_divisor := ok_divisor (P := P) (w := w) (base := base) T
  obtain ⟨fd, F⟩ := T.f_lowest
  refine cal0 F T.g_lowest sc_lowest (ps := ["top", "bottom"]) (fun _ _ _ _ _ _ us hl => match us, hl with | [_, _], _ => rfl) (fun vs H Q E h => ?_) (fun cdv A outer s H vs Q E hr h => ?_)
  · obtain ⟨a, b, rfl, _⟩ := h
    rfl
  · obtain ⟨a, b, rfl, hb, hz, k⟩ := h
    refine ⟨_, (pss_cons (ps_set (i := 2) sc_lowest.nd rfl (Or.inl rfl) (pe_ifExp (pt_cmpR op_gt (pv 1) pe_int (nomark _)) (pe_cal c_divisor hr (by decide) pass0 (pa_cons (pv 0) (pa_cons (pv 1) pa_nil))) (pe_un un_neg (pe_cal c_divisor hr (by decide) pass0 (pa_cons (pv 0) (pa_cons (pv 1) pa_nil))))))
      (pss_one (ps_ret (pe_tup (pa_cons (pe_op op_fdivS (pv 0) (pv 2)) (pa_cons (pe_op op_fdivS (pv 1) (pv 2)) pa_nil)))))), ?_⟩
    walk_at "rd"
    obtain ⟨e1, e2⟩ := lowest_eq (a := a) hb
    have gpos : 0 < Nat.gcd a.natAbs b.natAbs := Nat.gcd_pos_of_pos_right _ (by omega)
    have gle : Nat.gcd a.natAbs b.natAbs ≤ b.natAbs := Nat.gcd_le_right _ (by omega)
    by_cases p : 0 < b
    · rw [if_pos p] at e1 e2
      have c1 : ∀ z : Int, CDivS z ((Nat.gcd a.natAbs b.natAbs : Nat) : Int) := fun z => ⟨by omega, Nat.lt_of_le_of_lt (by omega) hz⟩
      rw [decide_eq_true p]
      refine iteT ⟨_, _, rfl, ?_⟩
      walk_at "rd"
      refine ⟨c1 _, c1 _, nt_of fun q H1 nq s1 hq => k _ _ s1 ⟨q, rfl, ?_⟩⟩
      rw [e1, e2]
      exact hq
    · rw [if_neg p] at e1 e2
      have c1 : ∀ z : Int, CDivS z (-((Nat.gcd a.natAbs b.natAbs : Nat) : Int)) := fun z => ⟨by omega, Nat.lt_of_le_of_lt (by omega) hz⟩
      rw [decide_eq_false p]
      refine iteF ⟨_, _, rfl, ?_⟩
      walk_at "rd"
      refine ⟨c1 _, c1 _, nt_of fun q H1 nq s1 hq => k _ _ s1 ⟨q, rfl, ?_⟩⟩
      rw [e1, e2]
      exact hq
/-! ### told, parts -/
abbrev N_told : List Str := ["value", "what"]
theorem sc_told : FnScope N_told ["value", "what"] (defScope s_told) := ⟨rfl, rfl, rfl, by decide +kernel, rfl, by decide +kernel, by decide +kernel⟩
/-- a ratio: its pair; any other value: BadNumber -/
def spTold (C : Addr) : Sp := fun vs H Q E => ∃ v z, vs = [v, z] ∧ ((∃ a b, RatV H v a b ∧ b.natAbs < 2 ^ 9000 ∧ ∀ u H', Sm [] [] H H' → IsQ H' u (Rat.divInt a b) → Q u H') ∨ (NoRat H v ∧ Exn C [("number", v), ("what", z)] H E))
theorem Exn.m {C : Addr} {fs : List (Str × V)} {H H1 : Hp} {E : XK} (h : Exn C fs H E) (s : Sm [] [] H H1) : Exn C fs H1 E := fun d H' hd s' hx => h d H' (s.free hd) (s.trans s') hx
theorem ok_told (T : Tx K mg) : Cal P w K mg base (L2.CX P w) 3 "told" (spTold (He.ga K "BadNumber")) := by
  have c_is_whole := ok_is_whole (P := P) (w := w) (base := base) T
  have c_is_ratio := ok_is_ratio (P := P) (w := w) (base := base) T
  have c_lowest := ok_lowest (P := P) (w := w) (base := base) T
  obtain ⟨fd, F⟩ := T.f_told
  refine calX F T.g_told sc_told (ps := ["value", "what"]) (fun _ _ _ _ _ _ us hl => match us, hl with | [_, _], _ => rfl) (fun vs H Q E h => ?_) (fun cdv A outer s H vs Q E hr h => ?_)
  · obtain ⟨v, z, rfl, _⟩ := h
    rfl
  · obtain ⟨v, z, rfl, h⟩ := h
    have tk := takes_of (X := cxOf (L2.CX P w) P w K mg base N_told "told" (defScope s_told) (He.ga K "told") cdv A outer s H E) rfl rfl rfl rfl
    refine ⟨_, (pss_cons (ps_if (pt_not (pt_val (pe_cal c_is_ratio hr (by decide) pass0 (pa_cons (pv 0) pa_nil)))) (pss_one (ps_raise rfl tk (pmk_BadNumber T hr (pa_cons (pv 1) (pa_cons (pv 0) pa_nil))))) pss_nil)
      (pss_one (ps_ret (pe_ifExp (pt_val (pe_cal c_is_whole hr (by decide) pass0 (pa_cons (pv 0) pa_nil))) (pe_tup (pa_cons (pv 0) (pa_cons pe_int pa_nil))) (pe_cal c_lowest hr (by decide) pass0 (pa_cons (pe_ix ix_seq (pv 0) pe_int (fun _ _ => rfl)) (pa_cons (pe_ix ix_seq (pv 0) pe_int (fun _ _ => rfl)) pa_nil))))))), ?_⟩
    walk_at "rd"
    rcases h with ⟨a, b, h, hz, k⟩ | ⟨h, k⟩
    · refine ⟨_, rfl, .inl ⟨a, b, h, fun H1 s1 => ⟨_, rfl, iteF ?_⟩⟩⟩
      cases h with
      | int n =>
        refine ⟨_, _, rfl, .int _, _, rfl, iteT (nt_of fun p H2 np s2 h2 => ?_)⟩
        refine k _ _ (s1.trans s2) ⟨p, rfl, ?_⟩
        rw [h2, int_divInt]
        rfl
      | @sq p _ _ hp hb =>
        obtain ⟨n, hn, hk⟩ := (hp.m s1).an
        refine ⟨_, _, rfl, hn, _, rfl, iteF ?_⟩
        refine (hp.m s1).ix rfl ((hp.m s1).ix rfl ?_)
        exact ⟨_, _, rfl, by omega, hz, fun v H' s2 hv => k _ _ (s1.trans s2) hv⟩
    · exact ⟨_, rfl, .inr ⟨h, fun H1 s1 => ⟨_, rfl, iteT ⟨_, _, rfl, k.m s1⟩⟩⟩⟩
abbrev N_parts : List Str := ["value"]
theorem sc_parts : FnScope N_parts ["value"] (defScope s_parts) := ⟨rfl, rfl, rfl, by decide +kernel, rfl, by decide +kernel, by decide +kernel⟩
/-- a ratio in any form: a pair; any other value: BadNumber -/
def spParts (C : Addr) : Sp := fun vs H Q E => ∃ v, vs = [v] ∧ ((∃ a b, RatV H v a b ∧ ∀ p H', Sm [] [] H H' → Sq H' p [.int a, .int b] → Q (.ref p) H') ∨ (NoRat H v ∧ Exn C [("number", v), ("what", .str "ratio")] H E))
theorem ok_parts (T : Tx K mg) : Cal P w K mg base (L2.CX P w) 3 "parts" (spParts (He.ga K "BadNumber")) := by
  have c_is_whole := ok_is_whole (P := P) (w := w) (base := base) T
  have c_is_ratio := ok_is_ratio (P := P) (w := w) (base := base) T
  obtain ⟨fd, F⟩ := T.f_parts
  refine calX F T.g_parts sc_parts (ps := ["value"]) (fun _ _ _ _ _ _ us hl => match us, hl with | [_], _ => rfl) (fun vs H Q E h => ?_) (fun cdv A outer s H vs Q E hr h => ?_)
  · obtain ⟨v, rfl, _⟩ := h
    rfl
  · obtain ⟨v, rfl, h⟩ := h
    have tk := takes_of (X := cxOf (L2.CX P w) P w K mg base N_parts "parts" (defScope s_parts) (He.ga K "parts") cdv A outer s H E) rfl rfl rfl rfl
    refine ⟨_, (pss_cons (ps_if (pt_not (pt_val (pe_cal c_is_ratio hr (by decide) pass0 (pa_cons (pv 0) pa_nil)))) (pss_one (ps_raise rfl tk (pmk_BadNumber T hr (pa_cons pe_str (pa_cons (pv 0) pa_nil))))) pss_nil)
      (pss_one (ps_ret (pe_ifExp (pt_val (pe_cal c_is_whole hr (by decide) pass0 (pa_cons (pv 0) pa_nil))) (pe_tup (pa_cons (pv 0) (pa_cons pe_int pa_nil))) (pv 0))))), ?_⟩
    walk_at "rd"
    rcases h with ⟨a, b, h, k⟩ | ⟨h, k⟩
    · refine ⟨_, rfl, .inl ⟨a, b, h, fun H1 s1 => ⟨_, rfl, iteF ?_⟩⟩⟩
      cases h with
      | int n =>
        refine ⟨_, _, rfl, .int _, _, rfl, iteT (nt_of fun p H2 np s2 h2 => ?_)⟩
        exact k _ _ (s1.trans s2) (.inl h2)
      | @sq p _ _ hp hb =>
        obtain ⟨n, hn, hk⟩ := (hp.m s1).an
        exact ⟨_, _, rfl, hn, _, rfl, iteF (k _ _ s1 (hp.m s1))⟩
    · exact ⟨_, rfl, .inr ⟨h, fun H1 s1 => ⟨_, rfl, iteT ⟨_, _, rfl, k.m s1⟩⟩⟩⟩
/-! ### sums, products -/
abbrev N_plus : List Str := ["one", "other", "first", "second"]
theorem sc_plus : FnScope N_plus ["one", "other"] (defScope s_plus) := ⟨rfl, rfl, rfl, by decide +kernel, rfl, by decide +kernel, by decide +kernel⟩
/-- two ratios: f of them; the first other value: BadNumber -/
def spBin (C : Addr) (f : Int → Int → Int → Int → Rat) : Sp := fun vs H Q E => ∃ v u, vs = [v, u] ∧
  ((∃ a b c d, RatV H v a b ∧ RatV H u c d ∧ Sz a ∧ Sz b ∧ Sz c ∧ Sz d ∧ ∀ r H', Sm [] [] H H' → IsQ H' r (f a b c d) → Q r H') ∨
   (NoRat H v ∧ Exn C [("number", v), ("what", .str "ratio")] H E) ∨ (∃ a b, RatV H v a b ∧ NoRat H u ∧ Exn C [("number", u), ("what", .str "ratio")] H E))
theorem ok_plus (T : Tx K mg) : Cal P w K mg base (L2.CX P w) 4 "plus" (spBin (He.ga K "BadNumber") fun a b c d => Rat.divInt (a * d + c * b) (b * d)) := by
  have c_parts := ok_parts (P := P) (w := w) (base := base) T
  have c_lowest := ok_lowest (P := P) (w := w) (base := base) T
  obtain ⟨fd, F⟩ := T.f_plus
  refine calX F T.g_plus sc_plus (ps := ["one", "other"]) (fun _ _ _ _ _ _ us hl => match us, hl with | [_, _], _ => rfl) (fun vs H Q E h => ?_) (fun cdv A outer s H vs Q E hr h => ?_)
  · obtain ⟨v, u, rfl, _⟩ := h
    rfl
  · obtain ⟨v, u, rfl, h⟩ := h
    have tk := takes_of (X := cxOf (L2.CX P w) P w K mg base N_plus "plus" (defScope s_plus) (He.ga K "plus") cdv A outer s H E) rfl rfl rfl rfl
    have px : Passes (L2.CX P w) _ E := passes_call tk (fun _ _ _ _ z => z)
    refine ⟨_, (pss_cons (ps_par (i := 2) (j := 3) rfl sc_plus.nd rfl rfl (by decide) rfl rfl (pa_cons (pe_cal c_parts hr (by decide) px (pa_cons (pv 0) pa_nil)) (pa_cons (pe_cal c_parts hr (by decide) px (pa_cons (pv 1) pa_nil)) pa_nil)) (by rfl))
      (pss_one (ps_ret (pe_cal c_lowest hr (by decide) pass0 (pa_cons (pe_op op_add (pe_op op_mulS (pe_ix ix_seq (pv 2) pe_int (fun _ _ => rfl)) (pe_ix ix_seq (pv 3) pe_int (fun _ _ => rfl))) (pe_op op_mulS (pe_ix ix_seq (pv 3) pe_int (fun _ _ => rfl)) (pe_ix ix_seq (pv 2) pe_int (fun _ _ => rfl)))) (pa_cons (pe_op op_mulS (pe_ix ix_seq (pv 2) pe_int (fun _ _ => rfl)) (pe_ix ix_seq (pv 3) pe_int (fun _ _ => rfl))) pa_nil)))))), ?_⟩
    walk_at "rd"
    rcases h with ⟨a, b, c, d, h1, h2, za, zb, zc, zd, k⟩ | ⟨h, k⟩ | ⟨a, b, h1, h2, k⟩
    · refine ⟨_, rfl, .inl ⟨a, b, h1, fun p H1 s1 hp0 => ⟨_, rfl, .inl ⟨c, d, h2.m s1, fun q H2 s2 hq => ⟨_, _, rfl, ?_⟩⟩⟩⟩⟩
      have hp := hp0.m s2
      clear hp0
      have b0 := h1.pos
      have d0 := h2.pos
      walk_at "ix"
      exact ⟨_, _, rfl, Int.ne_of_gt (Int.mul_pos b0 d0), Nat.lt_of_lt_of_le (Sz.sq zb zd) (Nat.pow_le_pow_right (by decide) (by decide)), fun v H' s3 hv => k _ _ ((s1.trans s2).trans s3) hv⟩
    · exact ⟨_, rfl, .inr ⟨h, k⟩⟩
    · exact ⟨_, rfl, .inl ⟨a, b, h1, fun p H1 s1 hp0 => ⟨_, rfl, .inr ⟨h2.m s1, k.m s1⟩⟩⟩⟩
abbrev N_minus : List Str := ["one", "other", "first", "second"]
theorem sc_minus : FnScope N_minus ["one", "other"] (defScope s_minus) := ⟨rfl, rfl, rfl, by decide +kernel, rfl, by decide +kernel, by decide +kernel⟩
theorem ok_minus (T : Tx K mg) : Cal P w K mg base (L2.CX P w) 4 "minus" (spBin (He.ga K "BadNumber") fun a b c d => Rat.divInt (a * d - c * b) (b * d)) := by
  have c_parts := ok_parts (P := P) (w := w) (base := base) T
  have c_lowest := ok_lowest (P := P) (w := w) (base := base) T
  obtain ⟨fd, F⟩ := T.f_minus
  refine calX F T.g_minus sc_minus (ps := ["one", "other"]) (fun _ _ _ _ _ _ us hl => match us, hl with | [_, _], _ => rfl) (fun vs H Q E h => ?_) (fun cdv A outer s H vs Q E hr h => ?_)
  · obtain ⟨v, u, rfl, _⟩ := h
    rfl
  · obtain ⟨v, u, rfl, h⟩ := h
    have tk := takes_of (X := cxOf (L2.CX P w) P w K mg base N_minus "minus" (defScope s_minus) (He.ga K "minus") cdv A outer s H E) rfl rfl rfl rfl
    have px : Passes (L2.CX P w) _ E := passes_call tk (fun _ _ _ _ z => z)
    refine ⟨_, (pss_cons (ps_par (i := 2) (j := 3) rfl sc_minus.nd rfl rfl (by decide) rfl rfl (pa_cons (pe_cal c_parts hr (by decide) px (pa_cons (pv 0) pa_nil)) (pa_cons (pe_cal c_parts hr (by decide) px (pa_cons (pv 1) pa_nil)) pa_nil)) (by rfl))
      (pss_one (ps_ret (pe_cal c_lowest hr (by decide) pass0 (pa_cons (pe_op op_sub (pe_op op_mulS (pe_ix ix_seq (pv 2) pe_int (fun _ _ => rfl)) (pe_ix ix_seq (pv 3) pe_int (fun _ _ => rfl))) (pe_op op_mulS (pe_ix ix_seq (pv 3) pe_int (fun _ _ => rfl)) (pe_ix ix_seq (pv 2) pe_int (fun _ _ => rfl)))) (pa_cons (pe_op op_mulS (pe_ix ix_seq (pv 2) pe_int (fun _ _ => rfl)) (pe_ix ix_seq (pv 3) pe_int (fun _ _ => rfl))) pa_nil)))))), ?_⟩
    walk_at "rd"
    rcases h with ⟨a, b, c, d, h1, h2, za, zb, zc, zd, k⟩ | ⟨h, k⟩ | ⟨a, b, h1, h2, k⟩
    · refine ⟨_, rfl, .inl ⟨a, b, h1, fun p H1 s1 hp0 => ⟨_, rfl, .inl ⟨c, d, h2.m s1, fun q H2 s2 hq => ⟨_, _, rfl, ?_⟩⟩⟩⟩⟩
      have hp := hp0.m s2
      clear hp0
      have b0 := h1.pos
      have d0 := h2.pos
      walk_at "ix"
      exact ⟨_, _, rfl, Int.ne_of_gt (Int.mul_pos b0 d0), Nat.lt_of_lt_of_le (Sz.sq zb zd) (Nat.pow_le_pow_right (by decide) (by decide)), fun v H' s3 hv => k _ _ ((s1.trans s2).trans s3) hv⟩
    · exact ⟨_, rfl, .inr ⟨h, k⟩⟩
    · exact ⟨_, rfl, .inl ⟨a, b, h1, fun p H1 s1 hp0 => ⟨_, rfl, .inr ⟨h2.m s1, k.m s1⟩⟩⟩⟩
abbrev N_times : List Str := ["one", "other", "first", "second"]
theorem sc_times : FnScope N_times ["one", "other"] (defScope s_times) := ⟨rfl, rfl, rfl, by decide +kernel, rfl, by decide +kernel, by decide +kernel⟩
theorem ok_times (T : Tx K mg) : Cal P w K mg base (L2.CX P w) 4 "times" (spBin (He.ga K "BadNumber") fun a b c d => Rat.divInt (a * c) (b * d)) := by
  have c_parts := ok_parts (P := P) (w := w) (base := base) T
  have c_lowest := ok_lowest (P := P) (w := w) (base := base) T
  obtain ⟨fd, F⟩ := T.f_times
  refine calX F T.g_times sc_times (ps := ["one", "other"]) (fun _ _ _ _ _ _ us hl => match us, hl with | [_, _], _ => rfl) (fun vs H Q E h => ?_) (fun cdv A outer s H vs Q E hr h => ?_)
  · obtain ⟨v, u, rfl, _⟩ := h
    rfl
  · obtain ⟨v, u, rfl, h⟩ := h
    have tk := takes_of (X := cxOf (L2.CX P w) P w K mg base N_times "times" (defScope s_times) (He.ga K "times") cdv A outer s H E) rfl rfl rfl rfl
    have px : Passes (L2.CX P w) _ E := passes_call tk (fun _ _ _ _ z => z)
    refine ⟨_, (pss_cons (ps_par (i := 2) (j := 3) rfl sc_times.nd rfl rfl (by decide) rfl rfl (pa_cons (pe_cal c_parts hr (by decide) px (pa_cons (pv 0) pa_nil)) (pa_cons (pe_cal c_parts hr (by decide) px (pa_cons (pv 1) pa_nil)) pa_nil)) (by rfl))
      (pss_one (ps_ret (pe_cal c_lowest hr (by decide) pass0 (pa_cons (pe_op op_mulS (pe_ix ix_seq (pv 2) pe_int (fun _ _ => rfl)) (pe_ix ix_seq (pv 3) pe_int (fun _ _ => rfl))) (pa_cons (pe_op op_mulS (pe_ix ix_seq (pv 2) pe_int (fun _ _ => rfl)) (pe_ix ix_seq (pv 3) pe_int (fun _ _ => rfl))) pa_nil)))))), ?_⟩
    walk_at "rd"
    rcases h with ⟨a, b, c, d, h1, h2, za, zb, zc, zd, k⟩ | ⟨h, k⟩ | ⟨a, b, h1, h2, k⟩
    · refine ⟨_, rfl, .inl ⟨a, b, h1, fun p H1 s1 hp0 => ⟨_, rfl, .inl ⟨c, d, h2.m s1, fun q H2 s2 hq => ⟨_, _, rfl, ?_⟩⟩⟩⟩⟩
      have hp := hp0.m s2
      clear hp0
      have b0 := h1.pos
      have d0 := h2.pos
      walk_at "ix"
      exact ⟨_, _, rfl, Int.ne_of_gt (Int.mul_pos b0 d0), Nat.lt_of_lt_of_le (Sz.sq zb zd) (Nat.pow_le_pow_right (by decide) (by decide)), fun v H' s3 hv => k _ _ ((s1.trans s2).trans s3) hv⟩
    · exact ⟨_, rfl, .inr ⟨h, k⟩⟩
    · exact ⟨_, rfl, .inl ⟨a, b, h1, fun p H1 s1 hp0 => ⟨_, rfl, .inr ⟨h2.m s1, k.m s1⟩⟩⟩⟩
abbrev N_share : List Str := ["one", "other", "first", "second"]
theorem sc_share : FnScope N_share ["one", "other"] (defScope s_share) := ⟨rfl, rfl, rfl, by decide +kernel, rfl, by decide +kernel, by decide +kernel⟩
/-- one divided by other; a divisor 0: BadNumber -/
def spShare (C : Addr) : Sp := fun vs H Q E => ∃ v u, vs = [v, u] ∧
  ((∃ a b c d, RatV H v a b ∧ RatV H u c d ∧ Sz a ∧ Sz b ∧ Sz c ∧ Sz d ∧ (c ≠ 0 → ∀ r H', Sm [] [] H H' → IsQ H' r (Rat.divInt (a * d) (b * c)) → Q r H') ∧ (c = 0 → Exn C [("number", u), ("what", .str "divisor")] H E)) ∨
   (NoRat H v ∧ Exn C [("number", v), ("what", .str "ratio")] H E) ∨ (∃ a b, RatV H v a b ∧ NoRat H u ∧ Exn C [("number", u), ("what", .str "ratio")] H E))
theorem ok_share (T : Tx K mg) : Cal P w K mg base (L2.CX P w) 4 "share" (spShare (He.ga K "BadNumber")) := by
  have c_parts := ok_parts (P := P) (w := w) (base := base) T
  have c_lowest := ok_lowest (P := P) (w := w) (base := base) T
  obtain ⟨fd, F⟩ := T.f_share
  refine calX F T.g_share sc_share (ps := ["one", "other"]) (fun _ _ _ _ _ _ us hl => match us, hl with | [_, _], _ => rfl) (fun vs H Q E h => ?_) (fun cdv A outer s H vs Q E hr h => ?_)
  · obtain ⟨v, u, rfl, _⟩ := h
    rfl
  · obtain ⟨v, u, rfl, h⟩ := h
    have tk := takes_of (X := cxOf (L2.CX P w) P w K mg base N_share "share" (defScope s_share) (He.ga K "share") cdv A outer s H E) rfl rfl rfl rfl
    have px : Passes (L2.CX P w) _ E := passes_call tk (fun _ _ _ _ z => z)
    refine ⟨_, (pss_cons (ps_par (i := 2) (j := 3) rfl sc_share.nd rfl rfl (by decide) rfl rfl (pa_cons (pe_cal c_parts hr (by decide) px (pa_cons (pv 0) pa_nil)) (pa_cons (pe_cal c_parts hr (by decide) px (pa_cons (pv 1) pa_nil)) pa_nil)) (by rfl))
      (pss_cons (ps_if (pt_cmpR op_eq (pe_ix ix_seq (pv 3) pe_int (fun _ _ => rfl)) pe_int (nomark _)) (pss_one (ps_raise rfl tk (pmk_BadNumber T hr (pa_cons pe_str (pa_cons (pv 1) pa_nil))))) pss_nil)
      (pss_one (ps_ret (pe_cal c_lowest hr (by decide) pass0 (pa_cons (pe_op op_mulS (pe_ix ix_seq (pv 2) pe_int (fun _ _ => rfl)) (pe_ix ix_seq (pv 3) pe_int (fun _ _ => rfl))) (pa_cons (pe_op op_mulS (pe_ix ix_seq (pv 2) pe_int (fun _ _ => rfl)) (pe_ix ix_seq (pv 3) pe_int (fun _ _ => rfl))) pa_nil))))))), ?_⟩
    walk_at "rd"
    rcases h with ⟨a, b, c, d, h1, h2, za, zb, zc, zd, k, k0⟩ | ⟨h, k⟩ | ⟨a, b, h1, h2, k⟩
    · refine ⟨_, rfl, .inl ⟨a, b, h1, fun p H1 s1 hp0 => ⟨_, rfl, .inl ⟨c, d, h2.m s1, fun q H2 s2 hq => ⟨_, _, rfl, ?_⟩⟩⟩⟩⟩
      have hp := hp0.m s2
      clear hp0
      have b0 := h1.pos
      have d0 := h2.pos
      walk_at "ix"
      walk_at "rd"
      by_cases c0 : c = 0
      · rw [decide_eq_true c0]
        refine iteT ⟨_, _, rfl, ?_⟩
        exact (k0 c0).m (s1.trans s2)
      · rw [decide_eq_false c0]
        refine iteF ?_
        walk_at "ix"
        exact ⟨_, _, rfl, Int.mul_ne_zero (Int.ne_of_gt b0) c0, Nat.lt_of_lt_of_le (Sz.sq zb zc) (Nat.pow_le_pow_right (by decide) (by decide)), fun v H' s3 hv => k c0 _ _ ((s1.trans s2).trans s3) hv⟩
    · exact ⟨_, rfl, .inr ⟨h, k⟩⟩
    · exact ⟨_, rfl, .inl ⟨a, b, h1, fun p H1 s1 hp0 => ⟨_, rfl, .inr ⟨h2.m s1, k.m s1⟩⟩⟩⟩
abbrev N_lower : List Str := ["one", "other", "first", "second"]
theorem sc_lower : FnScope N_lower ["one", "other"] (defScope s_lower) := ⟨rfl, rfl, rfl, by decide +kernel, rfl, by decide +kernel, by decide +kernel⟩
def spLower (C : Addr) : Sp := fun vs H Q E => ∃ v u, vs = [v, u] ∧
  ((∃ a b c d, RatV H v a b ∧ RatV H u c d ∧ Sz a ∧ Sz b ∧ Sz c ∧ Sz d ∧ ∀ H', Sm [] [] H H' → Q (.bl (decide (a * d < c * b))) H') ∨
   (NoRat H v ∧ Exn C [("number", v), ("what", .str "ratio")] H E) ∨ (∃ a b, RatV H v a b ∧ NoRat H u ∧ Exn C [("number", u), ("what", .str "ratio")] H E))
theorem ok_lower (T : Tx K mg) : Cal P w K mg base (L2.CX P w) 4 "lower" (spLower (He.ga K "BadNumber")) := by
  have c_parts := ok_parts (P := P) (w := w) (base := base) T
  obtain ⟨fd, F⟩ := T.f_lower
  refine calX F T.g_lower sc_lower (ps := ["one", "other"]) (fun _ _ _ _ _ _ us hl => match us, hl with | [_, _], _ => rfl) (fun vs H Q E h => ?_) (fun cdv A outer s H vs Q E hr h => ?_)
  · obtain ⟨v, u, rfl, _⟩ := h
    rfl
  · obtain ⟨v, u, rfl, h⟩ := h
    have tk := takes_of (X := cxOf (L2.CX P w) P w K mg base N_lower "lower" (defScope s_lower) (He.ga K "lower") cdv A outer s H E) rfl rfl rfl rfl
    have px : Passes (L2.CX P w) _ E := passes_call tk (fun _ _ _ _ z => z)
    refine ⟨_, (pss_cons (ps_par (i := 2) (j := 3) rfl sc_lower.nd rfl rfl (by decide) rfl rfl (pa_cons (pe_cal c_parts hr (by decide) px (pa_cons (pv 0) pa_nil)) (pa_cons (pe_cal c_parts hr (by decide) px (pa_cons (pv 1) pa_nil)) pa_nil)) (by rfl))
      (pss_one (ps_ret (pe_cmpR op_lt (pe_op op_mulS (pe_ix ix_seq (pv 2) pe_int (fun _ _ => rfl)) (pe_ix ix_seq (pv 3) pe_int (fun _ _ => rfl))) (pe_op op_mulS (pe_ix ix_seq (pv 3) pe_int (fun _ _ => rfl)) (pe_ix ix_seq (pv 2) pe_int (fun _ _ => rfl))) (nomark _))))), ?_⟩
    walk_at "rd"
    rcases h with ⟨a, b, c, d, h1, h2, za, zb, zc, zd, k⟩ | ⟨h, k⟩ | ⟨a, b, h1, h2, k⟩
    · refine ⟨_, rfl, .inl ⟨a, b, h1, fun p H1 s1 hp0 => ⟨_, rfl, .inl ⟨c, d, h2.m s1, fun q H2 s2 hq => ⟨_, _, rfl, ?_⟩⟩⟩⟩⟩
      have hp := hp0.m s2
      clear hp0
      have b0 := h1.pos
      have d0 := h2.pos
      walk_at "ix"
      exact k _ (s1.trans s2)
    · exact ⟨_, rfl, .inr ⟨h, k⟩⟩
    · exact ⟨_, rfl, .inl ⟨a, b, h1, fun p H1 s1 hp0 => ⟨_, rfl, .inr ⟨h2.m s1, k.m s1⟩⟩⟩⟩
/-! ### floor_of, ratio_text -/
abbrev N_floor_of : List Str := ["value", "top", "bottom"]
theorem sc_floor_of : FnScope N_floor_of ["value"] (defScope s_floor_of) := ⟨rfl, rfl, rfl, by decide +kernel, rfl, by decide +kernel, by decide +kernel⟩
def spFloor (C : Addr) : Sp := fun vs H Q E => ∃ v, vs = [v] ∧ ((∃ a b, RatV H v a b ∧ b.natAbs < 2 ^ 9000 ∧ ∀ H', Sm [] [] H H' → Q (.int (a.fdiv b)) H') ∨ (NoRat H v ∧ Exn C [("number", v), ("what", .str "ratio")] H E))
theorem ok_floor_of (T : Tx K mg) : Cal P w K mg base (L2.CX P w) 4 "floor_of" (spFloor (He.ga K "BadNumber")) := by
  have c_parts := ok_parts (P := P) (w := w) (base := base) T
  obtain ⟨fd, F⟩ := T.f_floor_of
  refine calX F T.g_floor_of sc_floor_of (ps := ["value"]) (fun _ _ _ _ _ _ us hl => match us, hl with | [_], _ => rfl) (fun vs H Q E h => ?_) (fun cdv A outer s H vs Q E hr h => ?_)
  · obtain ⟨v, rfl, _⟩ := h
    rfl
  · obtain ⟨v, rfl, h⟩ := h
    have tk := takes_of (X := cxOf (L2.CX P w) P w K mg base N_floor_of "floor_of" (defScope s_floor_of) (He.ga K "floor_of") cdv A outer s H E) rfl rfl rfl rfl
    have px : Passes (L2.CX P w) _ E := passes_call tk (fun _ _ _ _ z => z)
    refine ⟨_, (pss_cons (ps_asg (pe_cal c_parts hr (by decide) px (pa_cons (pv 0) pa_nil)) (pg_seq rfl (pgs_cons (pg_name (i := 1) sc_floor_of.nd rfl (Or.inl rfl)) (pgs_cons (pg_name (i := 2) sc_floor_of.nd rfl (Or.inl rfl)) pgs_nil))))
      (pss_one (ps_ret (pe_op op_fdivS (pv 1) (pv 2))))), ?_⟩
    walk_at "rd"
    rcases h with ⟨a, b, h, hz, k⟩ | ⟨h, k⟩
    · refine ⟨_, rfl, .inl ⟨a, b, h, fun p H1 s1 hp => gSeq2 hp ?_⟩⟩
      walk_at "rd"
      have b0 := h.pos
      exact ⟨⟨by omega, hz⟩, k _ s1⟩
    · exact ⟨_, rfl, .inr ⟨h, k⟩⟩
abbrev N_ratio_text : List Str := ["value", "top", "bottom"]
theorem sc_ratio_text : FnScope N_ratio_text ["value"] (defScope s_ratio_text) := ⟨rfl, rfl, rfl, by decide +kernel, rfl, by decide +kernel, by decide +kernel⟩
/-- the text of a ratio -/
def qText (q : Rat) : Str := if q.den = 1 then Str.ofString (toString q.num) else Str.ofString (toString q.num) ++ ("/" : Str) ++ Str.ofString (toString ((q.den : Nat) : Int))
def spText (C : Addr) : Sp := fun vs H Q E => ∃ v, vs = [v] ∧ ((∃ a b, RatV H v a b ∧ b.natAbs < 2 ^ 9000 ∧ (Rat.divInt a b).num.natAbs < 2 ^ 1900 ∧ (Rat.divInt a b).den < 2 ^ 1900 ∧ ∀ H', Sm [] [] H H' → Q (.str (qText (Rat.divInt a b))) H') ∨
  (NoRat H v ∧ Exn C [("number", v), ("what", .str "ratio")] H E))
theorem ok_ratio_text (T : Tx K mg) : Cal P w K mg base (L2.CX P w) 4 "ratio_text" (spText (He.ga K "BadNumber")) := by
  have c_told := ok_told (P := P) (w := w) (base := base) T
  obtain ⟨fd, F⟩ := T.f_ratio_text
  refine calX F T.g_ratio_text sc_ratio_text (ps := ["value"]) (fun _ _ _ _ _ _ us hl => match us, hl with | [_], _ => rfl) (fun vs H Q E h => ?_) (fun cdv A outer s H vs Q E hr h => ?_)
  · obtain ⟨v, rfl, _⟩ := h
    rfl
  · obtain ⟨v, rfl, h⟩ := h
    have tk := takes_of (X := cxOf (L2.CX P w) P w K mg base N_ratio_text "ratio_text" (defScope s_ratio_text) (He.ga K "ratio_text") cdv A outer s H E) rfl rfl rfl rfl
    have px : Passes (L2.CX P w) _ E := passes_call tk (fun _ _ _ _ z => z)
    refine ⟨_, (pss_cons (ps_asg (pe_cal c_told hr (by decide) px (pa_cons (pv 0) (pa_cons pe_str pa_nil))) (pg_tup (n := 2) rfl (pgs_cons (pg_name (i := 1) sc_ratio_text.nd rfl (Or.inl rfl)) (pgs_cons (pg_name (i := 2) sc_ratio_text.nd rfl (Or.inl rfl)) pgs_nil))))
      (pss_one (ps_ret (pe_ifExp (pt_cmpR op_eq (pv 2) pe_int (nomark _)) (pe_callTy call_str_int (by rfl) T.b_str (by decide +kernel) (pa_cons (pv 1) pa_nil)) (pe_op op_add_str (pe_op op_add_str (pe_callTy call_str_int (by rfl) T.b_str (by decide +kernel) (pa_cons (pv 1) pa_nil)) pe_str) (pe_callTy call_str_int (by rfl) T.b_str (by decide +kernel) (pa_cons (pv 2) pa_nil))))))), ?_⟩
    walk_at "rd"
    rcases h with ⟨a, b, h, hz, z1, z2, k⟩ | ⟨h, k⟩
    · refine ⟨_, _, rfl, .inl ⟨a, b, h, hz, fun u H1 s1 hu => ?_⟩⟩
      obtain ⟨p, rfl, hp⟩ := hu
      refine gTup2 hp ?_
      walk_at "rd"
      have l1 : (Rat.divInt a b).num.natAbs.log2 < 1920 := Nat.lt_of_lt_of_le (PySem.Flt.log2_lt_of (k := 1900) (by decide) z1) (by decide)
      have l2 : (((Rat.divInt a b).den : Nat) : Int).natAbs.log2 < 1920 := Nat.lt_of_lt_of_le (PySem.Flt.log2_lt_of (k := 1900) (by decide) (by rw [Int.natAbs_natCast]; exact z2)) (by decide)
      have f1 := int_text_length_le (by decide) l1
      have f2 := int_text_length_le (by decide) l2
      by_cases e : (Rat.divInt a b).den = 1
      · rw [decide_eq_true (show (((Rat.divInt a b).den : Nat) : Int) = 1 by omega)]
        refine iteT ⟨_, rfl, l1, ?_⟩
        have q := k _ s1
        unfold qText at q
        rw [if_pos e] at q
        exact q
      · rw [decide_eq_false (show ¬ (((Rat.divInt a b).den : Nat) : Int) = 1 by omega)]
        refine iteF ⟨_, rfl, l1, _, _, rfl, rfl, ?_, _, rfl, l2, _, _, rfl, rfl, ?_, ?_⟩
        · rw [PySem.ofString_length, PySem.ofString_length, sizeLine_eq]
          have : ("/" : String).length = 1 := rfl
          omega
        · rw [strLen_append, PySem.ofString_length, PySem.ofString_length, PySem.ofString_length, sizeLine_eq]
          have : ("/" : String).length = 1 := rfl
          omega
        · have q := k _ s1
          unfold qText at q
          rw [if_neg e] at q
          exact q
    · exact ⟨_, _, rfl, .inr ⟨h, k⟩⟩
end
end G3
end
section
set_option maxHeartbeats 4000000
/-! numbers of a polynomial, in plain Lean -/
namespace G3
def cf (l : List Rat) (i : Nat) : Rat := l.getD i 0
theorem cf_nil (i : Nat) : cf [] i = 0 := by simp [cf]
theorem cf_zero (a : Rat) (l : List Rat) : cf (a :: l) 0 = a := by simp [cf]
theorem cf_succ (a : Rat) (l : List Rat) (i : Nat) : cf (a :: l) (i + 1) = cf l i := by simp [cf]
theorem cf_ge {l : List Rat} {i : Nat} (h : l.length ≤ i) : cf l i = 0 := by simp [cf, h]
theorem cf_lt {l : List Rat} {i : Nat} (h : i < l.length) : l[i]? = some (cf l i) := by simp [cf, h]
theorem cf_of {l : List Rat} {i : Nat} {q : Rat} (h : l[i]? = some q) : cf l i = q := by simp [cf, h]
theorem cf_append {a b : List Rat} {i : Nat} : cf (a ++ b) i = if i < a.length then cf a i else cf b (i - a.length) := by
  unfold cf
  rw [List.getD_eq_getElem?_getD, List.getD_eq_getElem?_getD, List.getD_eq_getElem?_getD, List.getElem?_append]
  split <;> rfl
def strip : List Rat → List Rat
  | [] => []
  | a :: l => if strip l = [] ∧ a = 0 then [] else a :: strip l
/-- no zero at its end -/
def Nf (l : List Rat) : Prop := l = [] ∨ cf l (l.length - 1) ≠ 0
theorem nf_nil : Nf [] := .inl rfl
theorem cf_strip : ∀ (l : List Rat) (i : Nat), cf (strip l) i = cf l i
  | [], _ => rfl
  | a :: l, i => by
    unfold strip
    split
    · rename_i h
      cases i with
      | zero => rw [cf_nil, cf_zero, h.2]
      | succ i => rw [cf_nil, cf_succ, ← cf_strip l i, h.1, cf_nil]
    · cases i with
      | zero => rw [cf_zero, cf_zero]
      | succ i => rw [cf_succ, cf_succ, cf_strip l i]
theorem strip_take : ∀ (l : List Rat), strip l = l.take (strip l).length
  | [] => rfl
  | a :: l => by
    unfold strip
    split
    · rfl
    · rw [List.length_cons, List.take_succ_cons, ← strip_take l]
theorem strip_le (l : List Rat) : (strip l).length ≤ l.length := by
  rw [strip_take, List.length_take]; exact Nat.min_le_right _ _
theorem nf_strip : ∀ (l : List Rat), Nf (strip l)
  | [] => .inl rfl
  | a :: l => by
    unfold strip
    split
    · exact .inl rfl
    · rename_i h
      right
      rw [List.length_cons, Nat.add_sub_cancel]
      rcases nf_strip l with e | e
      · rw [e] at h ⊢
        simp only [List.length_nil, cf_zero]
        exact fun z => h ⟨rfl, z⟩
      · cases hl : strip l with
        | nil => rw [hl] at e h; simp only [List.length_nil, cf_zero]; exact fun z => h ⟨rfl, z⟩
        | cons b m => rw [hl] at e; rw [List.length_cons, cf_succ]; simpa using e
theorem Nf.top {l : List Rat} (h : Nf l) (hl : 0 < l.length) : cf l (l.length - 1) ≠ 0 := by
  rcases h with h | h
  · rw [h] at hl; exact absurd hl (by decide)
  · exact h
theorem Nf.len {a b : List Rat} (ha : Nf a) (h : ∀ i, cf a i = cf b i) : a.length ≤ b.length := by
  rcases Nat.lt_or_ge b.length a.length with z | z
  · have e := ha.top (by omega)
    rw [h, cf_ge (by omega)] at e
    exact absurd rfl e
  · exact z
theorem ext_cf {a b : List Rat} (hl : a.length = b.length) (h : ∀ i, cf a i = cf b i) : a = b := by
  apply List.ext_getElem? 
  intro i
  rcases Nat.lt_or_ge i a.length with z | z
  · rw [cf_lt z, cf_lt (hl ▸ z), h]
  · rw [List.getElem?_eq_none z, List.getElem?_eq_none (hl ▸ z)]
theorem Nf.ext {a b : List Rat} (ha : Nf a) (hb : Nf b) (h : ∀ i, cf a i = cf b i) : a = b :=
  ext_cf (Nat.le_antisymm (ha.len h) (hb.len fun i => (h i).symm)) h
theorem strip_nf {l : List Rat} (h : Nf l) : strip l = l := (nf_strip l).ext h (cf_strip l)
theorem strip_ext {a b : List Rat} (h : ∀ i, cf a i = cf b i) : strip a = strip b :=
  (nf_strip a).ext (nf_strip b) fun i => by rw [cf_strip, cf_strip, h]
theorem strip_lt {l : List Rat} {i : Nat} (h : cf l i ≠ 0) : i < (strip l).length := by
  rcases Nat.lt_or_ge i (strip l).length with z | z
  · exact z
  · exact absurd (by rw [← cf_strip, cf_ge z]) h
/-- the numbers f 0 .. f (n - 1), without zeros -/
def pO (n : Nat) (f : Nat → Rat) : List Rat := strip ((List.range n).map f)
theorem cf_map (n : Nat) (f : Nat → Rat) (i : Nat) : cf ((List.range n).map f) i = if i < n then f i else 0 := by
  by_cases h : i < n
  · rw [if_pos h]; simp [cf, h]
  · rw [if_neg h, cf_ge (by simpa using h)]
theorem cf_pO (n : Nat) (f : Nat → Rat) (i : Nat) : cf (pO n f) i = if i < n then f i else 0 := by rw [pO, cf_strip, cf_map]
theorem cf_pO' {n : Nat} {f : Nat → Rat} (h : ∀ i, n ≤ i → f i = 0) (i : Nat) : cf (pO n f) i = f i := by
  rw [cf_pO]
  by_cases hi : i < n
  · rw [if_pos hi]
  · rw [if_neg hi, h i (by omega)]
theorem nf_pO (n : Nat) (f : Nat → Rat) : Nf (pO n f) := nf_strip _
theorem pO_le (n : Nat) (f : Nat → Rat) : (pO n f).length ≤ n := by have := strip_le ((List.range n).map f); simpa [pO] using this
theorem strip_pO {l : List Rat} {n : Nat} {f : Nat → Rat} (hl : l.length = n) (h : ∀ i, i < n → cf l i = f i) : strip l = pO n f := strip_ext fun i => by
  rw [cf_map]
  by_cases hi : i < n
  · rw [if_pos hi, h i hi]
  · rw [if_neg hi, cf_ge (by omega)]
/-- f 0 + .. + f (n - 1) -/
def sm (f : Nat → Rat) : Nat → Rat
  | 0 => 0
  | n + 1 => sm f n + f n
theorem sm_congr {f g : Nat → Rat} : ∀ {n : Nat}, (∀ i, i < n → f i = g i) → sm f n = sm g n
  | 0, _ => rfl
  | n + 1, h => by unfold sm; rw [sm_congr fun i hi => h i (by omega), h n (by omega)]
theorem sm_zero {f : Nat → Rat} : ∀ {n : Nat}, (∀ i, i < n → f i = 0) → sm f n = 0
  | 0, _ => rfl
  | n + 1, h => by unfold sm; rw [sm_zero fun i hi => h i (by omega), h n (by omega)]; exact Rat.add_zero 0
theorem sm_add {f g : Nat → Rat} : ∀ {n : Nat}, sm (fun i => f i + g i) n = sm f n + sm g n
  | 0 => by show (0 : Rat) = 0 + 0; exact (Rat.add_zero 0).symm
  | n + 1 => by unfold sm; rw [sm_add]; grind
theorem sm_mul {c : Rat} {f : Nat → Rat} : ∀ {n : Nat}, sm (fun i => c * f i) n = c * sm f n
  | 0 => by simp [sm]
  | n + 1 => by unfold sm; rw [sm_mul]; grind
theorem sm_shift {f : Nat → Rat} {a : Nat} : ∀ {n : Nat}, (∀ i, i < a → f i = 0) → sm f (a + n) = sm (fun i => f (a + i)) n
  | 0, h => by rw [Nat.add_zero, sm_zero h]; rfl
  | n + 1, h => by
    show sm f (a + n) + f (a + n) = sm (fun i => f (a + i)) n + f (a + n)
    rw [sm_shift h]
theorem sm_cut {f : Nat → Rat} {m : Nat} : ∀ {n : Nat}, (∀ i, m ≤ i → f i = 0) → m ≤ n → sm f n = sm f m
  | 0, _, hn => by rw [Nat.le_zero.mp hn]
  | n + 1, h, hn => by
    by_cases e : m = n + 1
    · rw [e]
    · show sm f n + f n = sm f m
      rw [sm_cut h (by omega), h n (by omega), Rat.add_zero]
/-- the i-th number of a product -/
def conv (f g : Nat → Rat) (i : Nat) : Rat := sm (fun k => f k * g (i - k)) (i + 1)
/-! ### heights -/
def Hq (n : Nat) (q : Rat) : Prop := q.num.natAbs < 2 ^ n ∧ q.den < 2 ^ n
theorem Hq.mono {m n : Nat} {q : Rat} (h : Hq m q) (hm : m ≤ n) : Hq n q :=
  ⟨Nat.lt_of_lt_of_le h.1 (Nat.pow_le_pow_right (by decide) hm), Nat.lt_of_lt_of_le h.2 (Nat.pow_le_pow_right (by decide) hm)⟩
theorem Hq.pos {n : Nat} {q : Rat} (h : Hq n q) : 0 < n := by
  rcases Nat.eq_zero_or_pos n with z | z
  · have := h.2; have := q.den_pos; subst z; simp at *; omega
  · exact z
theorem hq_int {n : Nat} {i : Int} (h : i.natAbs < 2 ^ n) (hn : 0 < n) : Hq n (i : Rat) := ⟨by simpa using h, by simpa using Nat.one_lt_two_pow (by omega)⟩
theorem divInt_le (a b : Int) (hb : b ≠ 0) : (Rat.divInt a b).num.natAbs ≤ a.natAbs ∧ (Rat.divInt a b).den ≤ b.natAbs := by
  obtain ⟨e1, e2⟩ := lowest_eq (a := a) hb
  have gpos : 0 < Nat.gcd a.natAbs b.natAbs := Nat.gcd_pos_of_pos_right _ (by omega)
  have key : ∀ (x : Int) (g : Nat), 0 < g → (Int.fdiv x (g : Int)).natAbs ≤ x.natAbs ∨ ¬ ((g : Int) ∣ x) := by
    intro x g hg
    by_cases hd : (g : Int) ∣ x
    · left
      obtain ⟨c, rfl⟩ := hd
      rw [Int.mul_fdiv_cancel_left c (by omega), Int.natAbs_mul]
      exact Nat.le_mul_of_pos_left _ (by omega)
    · exact .inr hd
  have key2 : ∀ (x : Int) (g : Nat), 0 < g → (Int.fdiv x (-(g : Int))).natAbs ≤ x.natAbs ∨ ¬ ((g : Int) ∣ x) := by
    intro x g hg
    by_cases hd : (g : Int) ∣ x
    · left
      obtain ⟨c, rfl⟩ := hd
      rw [show (g : Int) * c = (-(g : Int)) * (-c) by rw [Int.neg_mul_neg], Int.mul_fdiv_cancel_left _ (by omega), Int.natAbs_mul]
      exact Nat.le_mul_of_pos_left _ (by omega)
    · exact .inr hd
  have da : ((Nat.gcd a.natAbs b.natAbs : Nat) : Int) ∣ a := Int.ofNat_dvd_left.mpr (Nat.gcd_dvd_left _ _)
  have db : ((Nat.gcd a.natAbs b.natAbs : Nat) : Int) ∣ b := Int.ofNat_dvd_left.mpr (Nat.gcd_dvd_right _ _)
  by_cases hp : 0 < b
  · rw [if_pos hp] at e1 e2
    constructor
    · rw [e1]; exact (key a _ gpos).resolve_right (fun h => h da)
    · have := (key b _ gpos).resolve_right (fun h => h db)
      rw [← e2] at this
      simpa using this
  · rw [if_neg hp] at e1 e2
    constructor
    · rw [e1]; exact (key2 a _ gpos).resolve_right (fun h => h da)
    · have := (key2 b _ gpos).resolve_right (fun h => h db)
      rw [← e2] at this
      simpa using this
theorem hq_divInt {n : Nat} {a b : Int} (hb : b ≠ 0) (h1 : a.natAbs < 2 ^ n) (h2 : b.natAbs < 2 ^ n) : Hq n (Rat.divInt a b) :=
  ⟨Nat.lt_of_le_of_lt (divInt_le a b hb).1 h1, Nat.lt_of_le_of_lt (divInt_le a b hb).2 h2⟩
theorem pow_lt {m n a b : Nat} (h1 : a < 2 ^ m) (h2 : b < 2 ^ n) : a * b < 2 ^ (m + n) := by
  rw [Nat.pow_add]; exact Nat.mul_lt_mul'' h1 h2
theorem rat_self (q : Rat) : Rat.divInt q.num q.den = q := Rat.num_divInt_den q
theorem add_eq (p q : Rat) : p + q = Rat.divInt (p.num * q.den + q.num * p.den) (p.den * q.den) := by
  have h1 : (p.den : Int) ≠ 0 := by have := p.den_nz; omega
  have h2 : (q.den : Int) ≠ 0 := by have := q.den_nz; omega
  conv => lhs; rw [← rat_self p, ← rat_self q]
  exact Rat.divInt_add_divInt _ _ h1 h2
theorem mul_eq (p q : Rat) : p * q = Rat.divInt (p.num * q.num) (p.den * q.den) := by
  conv => lhs; rw [← rat_self p, ← rat_self q]
  exact Rat.divInt_mul_divInt _ _
theorem Hq.add {m n : Nat} {p q : Rat} (hp : Hq m p) (hq : Hq n q) : Hq (m + n + 1) (p + q) := by
  rw [add_eq]
  have h1 := p.den_pos
  have h2 := q.den_pos
  refine hq_divInt (Int.mul_ne_zero (by omega) (by omega)) ?_ ?_
  · have a1 : (p.num * (q.den : Int)).natAbs < 2 ^ (m + n) := by rw [Int.natAbs_mul]; exact pow_lt hp.1 (by simpa using hq.2)
    have a2 : (q.num * (p.den : Int)).natAbs < 2 ^ (m + n) := by rw [Int.natAbs_mul, Nat.add_comm m n]; exact pow_lt hq.1 (by simpa using hp.2)
    rw [Nat.pow_succ]
    have := Int.natAbs_add_le (p.num * (q.den : Int)) (q.num * (p.den : Int))
    omega
  · have a1 : ((p.den : Int) * (q.den : Int)).natAbs < 2 ^ (m + n) := by rw [Int.natAbs_mul]; exact pow_lt (by simpa using hp.2) (by simpa using hq.2)
    exact Nat.lt_of_lt_of_le a1 (Nat.pow_le_pow_right (by decide) (by omega))
theorem Hq.mul {m n : Nat} {p q : Rat} (hp : Hq m p) (hq : Hq n q) : Hq (m + n) (p * q) := by
  rw [mul_eq]
  have h1 := p.den_pos
  have h2 := q.den_pos
  refine hq_divInt (Int.mul_ne_zero (by omega) (by omega)) ?_ ?_
  · rw [Int.natAbs_mul]; exact pow_lt hp.1 hq.1
  · rw [Int.natAbs_mul]; exact pow_lt (by simpa using hp.2) (by simpa using hq.2)
theorem Hq.neg {n : Nat} {q : Rat} (h : Hq n q) : Hq n (-q) := ⟨by have e : (-q).num = -q.num := rfl; rw [e, Int.natAbs_neg]; exact h.1, h.2⟩
theorem Hq.sub {m n : Nat} {p q : Rat} (hp : Hq m p) (hq : Hq n q) : Hq (m + n + 1) (p - q) := by rw [Rat.sub_eq_add_neg]; exact hp.add hq.neg
theorem hq_zero {n : Nat} (hn : 0 < n) : Hq n 0 := hq_int (i := 0) (by simpa using Nat.pow_pos (by decide)) hn
theorem Hq.szn {n : Nat} {q : Rat} (h : Hq n q) (hn : n ≤ 4400) : Sz q.num := Nat.lt_of_lt_of_le h.1 (Nat.pow_le_pow_right (by decide) hn)
theorem Hq.szd {n : Nat} {q : Rat} (h : Hq n q) (hn : n ≤ 4400) : Sz (q.den : Int) := Nat.lt_of_lt_of_le (by simpa using h.2) (Nat.pow_le_pow_right (by decide) hn)
theorem hq_sm {n : Nat} {f : Nat → Rat} : ∀ {k : Nat}, (∀ i, i < k → Hq n (f i)) → Hq (k * (n + 1) + 1) (sm f k)
  | 0, _ => hq_zero (by omega)
  | k + 1, h => ((hq_sm fun i hi => h i (by omega)).add (h k (by omega))).mono (by rw [Nat.add_mul]; omega)
/-- what a quotient, a product, .. of pairs is -/
theorem q_plus (p q : Rat) : Rat.divInt (p.num * (q.den : Int) + q.num * (p.den : Int)) ((p.den : Int) * (q.den : Int)) = p + q := (add_eq p q).symm
theorem q_times (p q : Rat) : Rat.divInt (p.num * q.num) ((p.den : Int) * (q.den : Int)) = p * q := (mul_eq p q).symm
/-- the greatest place of a number that is not 0, from its end -/
theorem many_max {l : List Rat} {ns : List Int} {m : Int} (hn : ∀ x, x ∈ ns ↔ ∃ k : Nat, k < l.length ∧ cf l k ≠ 0 ∧ x = (k : Int) + 1) (hm : m ∈ (0 : Int) :: ns) (hx : ∀ y, y ∈ (0 : Int) :: ns → y ≤ m) : m = (((strip l).length : Nat) : Int) := by
  have h0 := hx 0 List.mem_cons_self
  apply Int.le_antisymm
  · rcases List.mem_cons.mp hm with e | e
    · omega
    · obtain ⟨k, hk, hc, rfl⟩ := (hn m).mp e
      have := strip_lt hc
      omega
  · rcases Nat.eq_zero_or_pos (strip l).length with e | e
    · omega
    · have ht := (nf_strip l).top e
      rw [cf_strip] at ht
      have hle := strip_le l
      have := hx _ (List.mem_cons_of_mem _ ((hn (((strip l).length - 1 : Nat) + 1 : Int)).mpr ⟨_, by omega, ht, rfl⟩))
      omega
/-! ### sums, products -/
def padd (s : Int) (a b : List Rat) : List Rat := pO (max a.length b.length) fun i => cf a i + (s : Rat) * cf b i
def pmul (a b : List Rat) : List Rat := pO (a.length + b.length) (conv (cf a) (cf b))
def pneg (a : List Rat) : List Rat := pO a.length fun i => -cf a i
def pslope (a : List Rat) : List Rat := pO (a.length - 1) fun i => (((i + 1 : Nat) : Int) : Rat) * cf a (i + 1)
theorem cf_padd (s : Int) (a b : List Rat) (i : Nat) : cf (padd s a b) i = cf a i + (s : Rat) * cf b i := cf_pO' (fun i hi => by
  rw [cf_ge (by omega), cf_ge (by omega)]; grind) i
theorem conv_ge {a b : List Rat} {i : Nat} (h : a.length + b.length ≤ i + 1) : conv (cf a) (cf b) i = 0 := sm_zero fun k hk => by
  rcases Nat.lt_or_ge k a.length with z | z
  · rw [cf_ge (l := b) (by omega)]; grind
  · rw [cf_ge z]; grind
theorem cf_pmul (a b : List Rat) (i : Nat) : cf (pmul a b) i = conv (cf a) (cf b) i := cf_pO' (fun i hi => conv_ge (by omega)) i
theorem cf_pneg (a : List Rat) (i : Nat) : cf (pneg a) i = -cf a i := cf_pO' (fun i hi => by rw [cf_ge hi]; grind) i
theorem cf_pslope (a : List Rat) (i : Nat) : cf (pslope a) i = (((i + 1 : Nat) : Int) : Rat) * cf a (i + 1) := cf_pO' (fun i hi => by rw [cf_ge (l := a) (by omega)]; grind) i
/-- the product's i-th number, summed from lo up to hi - 1 -/
theorem conv_part {a b : List Rat} {i lo hi : Nat} (hlo : lo = i + 1 - b.length) (hhi : hi = min (i + 1) a.length) : conv (cf a) (cf b) i = sm (fun k => cf a (lo + k) * cf b (i - (lo + k))) (hi - lo) := by
  have h1 : ∀ k, hi ≤ k → k < i + 1 → cf a k * cf b (i - k) = 0 := fun k hk hk2 => by
    rw [cf_ge (l := a) (by omega)]; grind
  have h2 : ∀ k, k < lo → cf a k * cf b (i - k) = 0 := fun k hk => by
    rw [cf_ge (l := b) (by omega)]; grind
  unfold conv
  have e1 : sm (fun k => cf a k * cf b (i - k)) (i + 1) = sm (fun k => cf a k * cf b (i - k)) hi := by
    have : ∀ n, hi + n ≤ i + 1 → sm (fun k => cf a k * cf b (i - k)) (hi + n) = sm (fun k => cf a k * cf b (i - k)) hi := by
      intro n
      induction n with
      | zero => intro _; rfl
      | succ n ih =>
        intro hn
        show sm _ (hi + n) + cf a (hi + n) * cf b (i - (hi + n)) = _
        rw [ih (by omega), h1 (hi + n) (by omega) (by omega), Rat.add_zero]
    have := this (i + 1 - hi) (by omega)
    rwa [show hi + (i + 1 - hi) = i + 1 by omega] at this
  rw [e1]
  rcases Nat.le_total lo hi with z | z
  · have := sm_shift (f := fun k => cf a k * cf b (i - k)) (n := hi - lo) h2
    rwa [show lo + (hi - lo) = hi by omega] at this
  · rw [show hi - lo = 0 by omega, sm_zero fun k hk => h2 k (by omega)]
    rfl
/-- every number of l is below 2 ^ n in top and bottom -/
def Hl (n : Nat) (l : List Rat) : Prop := ∀ i, Hq n (cf l i)
theorem Hl.mono {m n : Nat} {l : List Rat} (h : Hl m l) (hm : m ≤ n) : Hl n l := fun i => (h i).mono hm
theorem hl_of {n : Nat} {l : List Rat} (hn : 0 < n) (h : ∀ i, i < l.length → Hq n (cf l i)) : Hl n l := fun i => by
  rcases Nat.lt_or_ge i l.length with z | z
  · exact h i z
  · rw [cf_ge z]; exact hq_zero hn
theorem hl_pO {n k : Nat} {f : Nat → Rat} (hn : 0 < n) (h : ∀ i, i < k → Hq n (f i)) : Hl n (pO k f) := fun i => by
  rw [cf_pO]
  split
  · exact h i (by assumption)
  · exact hq_zero hn
theorem conv_hq {a b : List Rat} {m n : Nat} (ha : Hl m a) (hb : Hl n b) (i : Nat) : Hq (min a.length b.length * (m + n + 1) + 1) (conv (cf a) (cf b) i) := by
  rw [conv_part rfl rfl]
  refine (hq_sm (n := m + n) fun k _ => (ha _).mul (hb _)).mono ?_
  exact Nat.add_le_add_right (Nat.mul_le_mul_right _ (by omega)) _
theorem hl_pmul {a b : List Rat} {m n : Nat} (ha : Hl m a) (hb : Hl n b) : Hl (min a.length b.length * (m + n + 1) + 1) (pmul a b) := fun i => by
  rw [cf_pmul]; exact conv_hq ha hb i
theorem hl_padd {a b : List Rat} {m n : Nat} {s : Int} (hs : s = 1 ∨ s = -1) (ha : Hl m a) (hb : Hl n b) : Hl (m + n + 1) (padd s a b) := fun i => by
  rw [cf_padd]
  rcases hs with rfl | rfl
  · have e : ((1 : Int) : Rat) * cf b i = cf b i := by show (1 : Rat) * _ = _; grind
    rw [e]; exact (ha i).add (hb i)
  · have e : ((-1 : Int) : Rat) * cf b i = -cf b i := by
      have : ((-1 : Int) : Rat) = -1 := rfl
      rw [this]; grind
    rw [e]; exact (ha i).add (hb i).neg
theorem hl_pneg {a : List Rat} {m : Nat} (ha : Hl m a) : Hl m (pneg a) := fun i => by rw [cf_pneg]; exact (ha i).neg
theorem map_cf (l : List Rat) : (List.range l.length).map (cf l) = l := ext_cf (by simp) fun i => by
  rw [cf_map]
  by_cases hi : i < l.length
  · rw [if_pos hi]
  · rw [if_neg hi, cf_ge (by omega)]
theorem cf_pad (l : List Rat) (k i : Nat) : cf (l ++ List.replicate k 0) i = cf l i := by
  rw [cf_append]
  split
  · rfl
  · rename_i h
    rw [cf_ge (l := l) (by omega)]
    unfold cf
    rw [List.getD_eq_getElem?_getD, List.getElem?_replicate]
    split <;> rfl
end G3
end
section
set_option maxHeartbeats 4000000
/-! lists of told pairs; comprehensions that make a list item by item -/
namespace G3
open PySem PySem.Spec PyProof.Rows L2
def Qs (H : Hp) (vs : List V) (l : List Rat) : Prop := vs.length = l.length ∧ ∀ (i : Nat) (q : Rat), l[i]? = some q → ∃ v, vs[i]? = some v ∧ IsQ H v q
section
variable {D L : List Addr} {H H' : Hp} {vs us : List V} {l l2 : List Rat} {v : V} {q : Rat} {i : Nat}
theorem Qs.mo (h : Qs H vs l) (k : ∀ v q, IsQ H v q → IsQ H' v q) : Qs H' vs l := ⟨h.1, fun i q e => let ⟨v, a, b⟩ := h.2 i q e; ⟨v, a, k v q b⟩⟩
theorem Qs.m (h : Qs H vs l) (s : Sm D L H H') : Qs H' vs l := h.mo fun _ _ b => b.m s
theorem Qs.nil : Qs H [] [] := ⟨rfl, fun i q e => by simp at e⟩
theorem Qs.cons (h : IsQ H v q) (t : Qs H vs l) : Qs H (v :: vs) (q :: l) := ⟨by simp [t.1], fun i p e => by
  cases i with
  | zero => simp at e; subst e; exact ⟨v, rfl, h⟩
  | succ i => simpa using t.2 i p (by simpa using e)⟩
theorem Qs.one (h : IsQ H v q) : Qs H [v] [q] := .cons h .nil
theorem Qs.get (h : Qs H vs l) (e : vs[i]? = some v) : IsQ H v (cf l i) := by
  have hi : i < vs.length := by
    rcases Nat.lt_or_ge i vs.length with z | z
    · exact z
    · rw [List.getElem?_eq_none z] at e; cases e
  have hl : i < l.length := h.1 ▸ hi
  obtain ⟨u, a, b⟩ := h.2 i (cf l i) (cf_lt hl)
  rw [e] at a
  cases a
  exact b
theorem Qs.at_ (h : Qs H vs l) (hi : i < l.length) : ∃ v, vs[i]? = some v ∧ IsQ H v (cf l i) := h.2 i _ (cf_lt hi)
theorem Qs.snoc (h : Qs H vs l) (k : IsQ H v q) : Qs H (vs ++ [v]) (l ++ [q]) := ⟨by simp [h.1], fun i p e => by
  rcases Nat.lt_or_ge i l.length with z | z
  · rw [List.getElem?_append_left z] at e
    rw [List.getElem?_append_left (h.1 ▸ z)]
    exact h.2 i p e
  · rw [List.getElem?_append_right z] at e
    rw [List.getElem?_append_right (h.1 ▸ z), h.1]
    cases hz : i - l.length with
    | zero => rw [hz] at e; simp at e; subst e; exact ⟨v, rfl, k⟩
    | succ j => rw [hz] at e; simp at e⟩
theorem Qs.append (h : Qs H vs l) (k : Qs H us l2) : Qs H (vs ++ us) (l ++ l2) := ⟨by simp [h.1, k.1], fun i p e => by
  rcases Nat.lt_or_ge i l.length with z | z
  · rw [List.getElem?_append_left z] at e
    rw [List.getElem?_append_left (h.1 ▸ z)]
    exact h.2 i p e
  · rw [List.getElem?_append_right z] at e
    rw [List.getElem?_append_right (h.1 ▸ z), h.1]
    exact k.2 _ p e⟩
theorem Qs.take (h : Qs H vs l) (n : Nat) : Qs H (vs.take n) (l.take n) := ⟨by simp [h.1], fun i p e => by
  rw [List.getElem?_take] at e ⊢
  split at e
  · rename_i z
    rw [if_pos z]
    exact h.2 i p e
  · cases e⟩
theorem Qs.drop (h : Qs H vs l) (n : Nat) : Qs H (vs.drop n) (l.drop n) := ⟨by simp [h.1], fun i p e => by
  rw [List.getElem?_drop] at e ⊢
  exact h.2 _ p e⟩
theorem Qs.set (h : Qs H vs l) (k : IsQ H v q) (i : Nat) : Qs H (vs.set i v) (l.set i q) := ⟨by simp [h.1], fun j p e => by
  rw [List.getElem?_set] at e ⊢
  by_cases hj : i = j
  · subst hj
    rw [if_pos rfl] at e ⊢
    split at e
    · rename_i z
      cases e
      rw [if_pos (h.1 ▸ z)]
      exact ⟨v, rfl, k⟩
    · cases e
  · rw [if_neg hj] at e ⊢
    exact h.2 j p e⟩
theorem Qs.rep (k : IsQ H v q) (n : Nat) : Qs H (List.replicate n v) (List.replicate n q) := ⟨by simp, fun i p e => by
  rw [List.getElem?_replicate] at e ⊢
  split at e
  · rename_i z
    cases e
    rw [if_pos z]
    exact ⟨v, rfl, k⟩
  · cases e⟩
theorem Qs.rev (h : Qs H vs l) : Qs H vs.reverse l.reverse := ⟨by simp [h.1], fun i p e => by
  have hi : i < l.reverse.length := by
    rcases Nat.lt_or_ge i l.reverse.length with z | z
    · exact z
    · rw [List.getElem?_eq_none z] at e; cases e
  rw [List.getElem?_reverse (by simpa using hi)] at e
  rw [List.getElem?_reverse (by rw [h.1]; simpa using hi), h.1]
  exact h.2 _ p e⟩
theorem Qs.pop (h : Qs H vs l) : Qs H vs.dropLast l.dropLast := by rw [List.dropLast_eq_take, List.dropLast_eq_take, h.1]; exact h.take _
end
/-- a tuple, a list, a polynomial of told pairs -/
def TQ (H : Hp) (v : V) (l : List Rat) : Prop := ∃ p vs, v = .ref p ∧ H p = some (.tup vs) ∧ Qs H vs l
def LQ (H : Hp) (v : V) (l : List Rat) : Prop := ∃ p vs, v = .ref p ∧ H p = some (.lst vs) ∧ Qs H vs l
def PoV (C : Addr) (H : Hp) (v : V) (l : List Rat) : Prop := ∃ a dx u, v = .ref a ∧ H a = some (.ins C dx [("numbers", u)]) ∧ TQ H u l
section
variable {D L : List Addr} {H H' : Hp} {v : V} {l : List Rat} {C : Addr}
theorem TQ.m (h : TQ H v l) (s : Sm D L H H') : TQ H' v l := let ⟨p, vs, e, a, b⟩ := h; ⟨p, vs, e, s.tup a, b.m s⟩
theorem LQ.m (h : LQ H v l) (s : Sm D [] H H') : LQ H' v l := let ⟨p, vs, e, a, b⟩ := h; ⟨p, vs, e, s.lst a List.not_mem_nil, b.m s⟩
theorem PoV.m (h : PoV C H v l) (s : Sm D L H H') : PoV C H' v l := let ⟨a, dx, u, e, x, y⟩ := h; ⟨a, dx, u, e, s.ins x, y.m s⟩
end
/-- a ratio in any form that is q -/
def IsR (H : Hp) (v : V) (q : Rat) : Prop := ∃ a b, RatV H v a b ∧ Sz a ∧ Sz b ∧ Rat.divInt a b = q
theorem IsR.m {D : List Addr} {H H' : Hp} {v : V} {q : Rat} (h : IsR H v q) (s : Sm D [] H H') : IsR H' v q := let ⟨a, b, x, y, z, e⟩ := h; ⟨a, b, x.m s, y, z, e⟩
theorem IsQ.r {H : Hp} {v : V} {q : Rat} {n : Nat} (h : IsQ H v q) (z : Hq n q) (hn : n ≤ 4400 := by omega) : IsR H v q := ⟨_, _, h.rat, z.szn hn, z.szd hn, rat_self q⟩
theorem isR_int {H : Hp} {i : Int} (h : Sz i) : IsR H (.int i) (i : Rat) := ⟨i, 1, .int i, h, by show (1 : Int).natAbs < 2 ^ 4400; exact Nat.one_lt_two_pow (by decide), by rw [int_divInt]⟩
/-! ### a comprehension that keeps every item -/
/-- w: what it goes over; R: what is known of the i-th item; P: what else is known after i items -/
theorem lc_list {J : It} {n : Nat} {G : Hp → Prop} {Y : Nat → Hp → V → Hp → Prop} (w : Walk J n G Y) {g : TG} {te : TE} {vs : List Nat} {σ : L2.St} {H1 : Hp} {D : Addr} {Dm : List Addr} {Q : VK}
    (R : Nat → V → Hp → Prop) (P : Nat → Hp → Prop) (nD : H1 D = none) (hn : n ≤ 1000) (h0 : P 0 (upd H1 D (.lst [])))
    (mono : ∀ i v H H', R i v H → Sm Dm [D] H H' → R i v H') (pm : ∀ i H xs ys, P i H → H D = some (.lst xs) → P i (upd H D (.lst ys)))
    (hG : ∀ H, Sm Dm [] H1 H → G H)
    (hs : ∀ i x H H' (C : V → Hp → Prop), i < n → Sm Dm [] H1 H → (H D ≠ none) → P i H → Y i H x H' → (∀ y H4, Sm Dm [] H H4 → R i y H4 → P (i + 1) H4 → C y H4) → g x (wipe σ vs) H' fun σ2 H2 => wipe σ2 vs = wipe σ vs ∧ te σ2 H2 C)
    (hd : ∀ acc H, Sm Dm [] H1 H → H D = some (.lst acc) → acc.length = n → (∀ i v, acc[i]? = some v → R i v H) → P n H → Q (.ref D) H) :
    ∃ W : Nat → Nat → Hp → Prop, (∃ m, W 0 m (upd H1 D (.lst []))) ∧ ∀ i m H, W i m H →
      (J.stop i H ∧ Q (.ref D) H) ∨ (J.go i H ∧ ∃ Nx : Hp → Prop, (∀ H', Nx H' → ∃ m', m' < m ∧ W (i + 1) m' H') ∧ ∀ x H', J.yld i H x H' → g x (wipe σ vs) H' fun σ2 H2 => wipe σ2 vs = wipe σ vs ∧ tYes σ2 H2 fun b H3 =>
        if b = true then te σ2 H3 fun y H4 => ∃ acc, H4 D = some (.lst acc) ∧ acc.length < sizeLine ∧ Nx (upd H4 D (.lst (acc ++ [y]))) else Nx H3) := by
  refine lc_it w (fun i H => Sm Dm [] H1 H ∧ P i H ∧ ∃ acc, H D = some (.lst acc) ∧ acc.length = i ∧ ∀ j v, acc[j]? = some v → R j v H) ?_ ?_ ?_ ?_
  · exact ⟨Sm.new nD, h0, [], upd_same, rfl, fun j v e => by simp at e⟩
  · intro i H _ z
    exact hG H z.1
  · intro i x H H' hi z y
    obtain ⟨s1, p, acc, hD, hl, hr⟩ := z
    refine hs i x H H' _ hi s1 (by rw [hD]; intro e; cases e) p y ?_
    intro y4 H4 s4 r4 p4
    have hD4 : H4 D = some (.lst acc) := s4.lst hD List.not_mem_nil
    have s5 : Sm Dm [D] H4 (upd H4 D (.lst (acc ++ [y4]))) := Sm.put hD4 (List.mem_singleton.mpr rfl)
    refine ⟨acc, hD4, by rw [hl, sizeLine_eq]; omega, ?_, pm _ _ _ _ p4 hD4, acc ++ [y4], upd_same, by simp [hl], ?_⟩
    · exact (((s1.trans s4).w (fun _ h => h) (fun _ h => nomatch h)).trans s5).drop nD
    · intro j v e
      rcases Nat.lt_or_ge j acc.length with q | q
      · rw [List.getElem?_append_left q] at e
        exact mono j v _ _ (mono j v _ _ (hr j v e) (s4.w (fun _ h => h) (fun _ h => nomatch h))) s5
      · rw [List.getElem?_append_right q] at e
        cases hz : j - acc.length with
        | zero =>
          rw [hz] at e
          simp at e
          subst e
          have : j = i := by omega
          subst this
          exact mono _ _ _ _ r4 s5
        | succ k => rw [hz] at e; simp at e
  · intro H z
    obtain ⟨s1, p, acc, hD, hl, hr⟩ := z
    exact hd acc H s1 hD hl hr p
/-- items that are told pairs -/
theorem qs_of {H : Hp} {acc : List V} {n : Nat} {f : Nat → Rat} (hl : acc.length = n) (hr : ∀ i v, acc[i]? = some v → IsQ H v (f i)) : Qs H acc ((List.range n).map f) := by
  refine ⟨by simp [hl], fun i q e => ?_⟩
  have hi : i < n := by
    rcases Nat.lt_or_ge i n with z | z
    · exact z
    · rw [List.getElem?_eq_none (by simpa using z)] at e; cases e
  have hi2 : i < acc.length := hl ▸ hi
  refine ⟨acc[i], List.getElem?_eq_getElem hi2, ?_⟩
  have e2 : q = f i := by
    rw [List.getElem?_map, List.getElem?_range hi] at e
    cases e
    rfl
  rw [e2]
  exact hr i _ (List.getElem?_eq_getElem hi2)
end G3
end
section
set_option maxHeartbeats 4000000
namespace G3
open PySem PySem.Spec PyProof.Rows L2
/-- over a list or a tuple, whichever it is, as it stands -/
def iSeq (tl : TE) : TI := fun σ H R => tl σ H fun x H1 => ∃ a xs, x = .ref a ∧ Sq H1 a xs ∧ ∀ J, Walk J xs.length (fun H' => H' a = H1 a) (YAt xs) → R J H1
theorem pi_seq {X : Cx} {tg l : Expr} {tl : TE} (hl : PE X l tl) : PI X tg l (iSeq tl) := by
  constructor
  intro pins s σ H R I h
  refine thn (hl.run pins s σ H _ I h) ?_
  intro v s1 z
  obtain ⟨x, H1, I1, r1, a, xs, rfl, hq, q⟩ := z
  cases r1
  have new : FpOk X pins H1 s1.heap.objs.size := I1.fpOk (Nat.le_refl _) (I1.hok.fresh (Nat.le_refl _))
  have kept := fun (o : Obj) => I1.kept (t' := s1.toks) (h' := s1.heap.push o) fun b ob e => Heap.get?_push_of_some _ e
  have one : ∀ b ∈ [s1.heap.objs.size], FpOk X pins H1 b := fun b hb => by
    rw [List.mem_singleton.mp hb]
    exact new
  rcases hq with hq | hq
  · have w : Walk (Itt X.K a) xs.length (fun H' => H' a = H1 a) (YAt xs) := walk_tup.mono (fun H' e => L2.SqT.of (e.trans hq)) fun _ _ _ _ _ _ y => y
    obtain ⟨its, rv, p, hz⟩ := I1.tuple (L2.SqT.of (K := X.K) hq)
    have p' : s1.heap.IsTuple a its.toArray := p
    exact wpAny_pyIter_tuple p' ⟨_, _, _, _, _, rfl, kept _, turn_tuple a _, ⟨_, Heap.get?_push_size _ rfl, rfl, rfl⟩, one, q _ w⟩
  · have w : Walk (Itl X.K a) xs.length (fun H' => H' a = H1 a) (YAt xs) := walk_list.mono (fun H' e => L2.SqL.of (e.trans hq)) fun _ _ _ _ _ _ y => y
    obtain ⟨its, rv, p, hz⟩ := I1.list (L2.SqL.of (K := X.K) hq)
    exact wpAny_pyIter_list p.isList ⟨_, _, _, _, _, rfl, kept _, turn_list a _, ⟨_, Heap.get?_push_size _ rfl, rfl, rfl⟩, one, q _ w⟩
/-- a reading made weaker -/
theorem pe_imp {X : Cx} {e : Expr} {t t' : TE} (h : PE X e t) (k : ∀ σ H Q, t' σ H Q → t σ H Q) : PE X e t' := ⟨fun pins s σ H Q I q => h.run pins s σ H Q I (k σ H Q q)⟩
/-! ### a raised error, weaker -/
/-! ### C(v): a new instance -/
/-- __init__(self, v): the instance is new and bare; u is what becomes its field -/
def spInit (C : Addr) (f : Str) (S : V → Hp → (V → Hp → Prop) → XK → Prop) : Sp := fun vs H Q E => ∃ x dx v, vs = [.ref x, v] ∧ H x = some (.ins C dx []) ∧
  S v H (fun u H1 => H1 x = some (.ins C dx []) ∧ Q .non (upd H1 x (.ins C dx [(f, u)]))) E
structure MkC (P : Program) (w : World) (K : PySem.W.Frag) (mg : Str → Option Value) (base : Heap) (CX : CXT) (k : Nat) (C : Addr) (sp : Sp) : Prop where
  ex : ∃ (fd : FuncData) (ps : List Str), FnOk P w K mg base CX k (He.ma K C "__init__") fd ps sp ∧ Binds K fd ps []
/-! ### rules within a comprehension: the text's K named -/
theorem ix_tupK {X : Cx} {K : PySem.W.Frag} (h : X.K = K) : IxR X (rIxT K) := by subst h; exact ix_tup
theorem ix_listK {X : Cx} {K : PySem.W.Frag} (h : X.K = K) : IxR X (rIxL K) := by subst h; exact ix_list
theorem ix_seqK {X : Cx} {K : PySem.W.Frag} (h : X.K = K) : IxR X (rIx K) := by subst h; exact ix_seq
theorem pe_fldK {X : Cx} {K : PySem.W.Frag} {o : Expr} {ta : TE} {f : Str} {pos : Pos} (h : X.K = K) (ha : PE X o ta) (hd : attributeBase o f X.env (eval o X.env) = eval o X.env) : PE X (.Attribute o f pos) (tFld K ta f) := by subst h; exact pe_fld ha hd
theorem pg_tupK {X : Cx} {K : PySem.W.Frag} {pos : Pos} {es : List Expr} {k : Nat} {t : TGs} {n : Nat} (hK : X.K = K) (hc : X.calm = true) (h : PGs X es t)
    (hn : (assignEach es X.env).length = n := by rfl) (hst : (assignEach es X.env).findIdx? (·.1) = none := by rfl) : PG X (.Tuple es k pos) (gTup K n t) := by subst hK; exact pg_tup hc h hn hst
/-! ### loops and comprehensions, their bodies not looked at by simp -/
def LcW (J : It) (g : TG) (tt : TT) (te : TE) (vs : List Nat) (σ : L2.St) (H1 : Hp) (D : Addr) (Qd : Hp → Prop) : Prop := ∃ W : Nat → Nat → Hp → Prop, (∃ m, W 0 m (upd H1 D (.lst []))) ∧ ∀ i m H, W i m H →
  (J.stop i H ∧ Qd H) ∨ (J.go i H ∧ ∃ Nx : Hp → Prop, (∀ H', Nx H' → ∃ m', m' < m ∧ W (i + 1) m' H') ∧ ∀ x H', J.yld i H x H' → g x (wipe σ vs) H' fun σ2 H2 => wipe σ2 vs = wipe σ vs ∧ tt σ2 H2 fun b H3 =>
    if b = true then te σ2 H3 fun y H4 => ∃ acc, H4 D = some (.lst acc) ∧ acc.length < sizeLine ∧ Nx (upd H4 D (.lst (acc ++ [y]))) else Nx H3)
theorem tLc_eq {wi : TI} {g : TG} {tt : TT} {te : TE} {vs : List Nat} {σ : L2.St} {H : Hp} {Q : VK} : tLc wi g tt te vs σ H Q = wi σ H fun J H1 => ∀ D, H1 D = none → LcW J g tt te vs σ H1 D (Q (.ref D)) := rfl
def FoW (J : It) (g : TG) (tb : TS) (D : Ends) (σ : L2.St) (H1 : Hp) : Prop := ∃ W : Nat → Nat → L2.St → Hp → Prop, (∃ m, W 0 m σ H1) ∧ ∀ i m σ H, W i m σ H →
  (J.stop i H ∧ D.nx σ H) ∨ (J.go i H ∧ ∃ N : L2.St → Hp → Prop, (∀ σ' H', N σ' H' → ∃ m', m' < m ∧ W (i + 1) m' σ' H') ∧ ∀ x H', J.yld i H x H' → g x σ H' fun σ2 H2 => tb { D with nx := N, ct := N, bk := D.nx } σ2 H2)
theorem tFor_eq {wi : TI} {g : TG} {tb : TS} {D : Ends} {σ : L2.St} {H : Hp} : tFor wi g tb D σ H = wi σ H fun J H1 => FoW J g tb D σ H1 := rfl
theorem lc_it' {J : It} {n : Nat} {G : Hp → Prop} {Y : Nat → Hp → V → Hp → Prop} (w : Walk J n G Y) {g : TG} {tt : TT} {te : TE} {vs : List Nat} {σ : L2.St} {H1 : Hp} {D : Addr} {Qd : Hp → Prop} (Pv : Nat → Hp → Prop) (h0 : Pv 0 (upd H1 D (.lst []))) (hG : ∀ i H, i ≤ n → Pv i H → G H)
    (hs : ∀ i x H H', i < n → Pv i H → Y i H x H' → g x (wipe σ vs) H' fun σ2 H2 => wipe σ2 vs = wipe σ vs ∧ tt σ2 H2 fun b H3 =>
      if b = true then te σ2 H3 fun y H4 => ∃ acc, H4 D = some (.lst acc) ∧ acc.length < sizeLine ∧ Pv (i + 1) (upd H4 D (.lst (acc ++ [y]))) else Pv (i + 1) H3) (hd : ∀ H, Pv n H → Qd H) : LcW J g tt te vs σ H1 D Qd := lc_it w Pv h0 hG hs hd
theorem for_it' {J : It} {n : Nat} {G : Hp → Prop} {Y : Nat → Hp → V → Hp → Prop} (w : Walk J n G Y) {g : TG} {tb : TS} {D : Ends} {σ : L2.St} {H : Hp} (Pv : Nat → L2.St → Hp → Prop) (h0 : Pv 0 σ H) (hG : ∀ i σ H, i ≤ n → Pv i σ H → G H)
    (hs : ∀ i x σ H H', i < n → Pv i σ H → Y i H x H' → g x σ H' fun σ2 H2 => tb { D with nx := Pv (i + 1), ct := Pv (i + 1), bk := D.nx } σ2 H2) (hd : ∀ σ H, Pv n σ H → D.nx σ H) : FoW J g tb D σ H := for_it w Pv h0 hG hs hd
/-- a comprehension that keeps every item (lc_list) -/
theorem lc_list' {J : It} {n : Nat} {G : Hp → Prop} {Y : Nat → Hp → V → Hp → Prop} (w : Walk J n G Y) {g : TG} {te : TE} {vs : List Nat} {σ : L2.St} {H1 : Hp} {D : Addr} {Dm : List Addr} {Qd : Hp → Prop}
    (R : Nat → V → Hp → Prop) (P : Nat → Hp → Prop) (nD : H1 D = none) (hn : n ≤ 1000) (h0 : P 0 (upd H1 D (.lst [])))
    (mono : ∀ i v H H', R i v H → Sm Dm [D] H H' → R i v H') (pm : ∀ i H xs ys, P i H → H D = some (.lst xs) → P i (upd H D (.lst ys)))
    (hG : ∀ H, Sm Dm [] H1 H → G H)
    (hs : ∀ i x H H' (C : V → Hp → Prop), i < n → Sm Dm [] H1 H → (H D ≠ none) → P i H → Y i H x H' → (∀ y H4, Sm Dm [] H H4 → R i y H4 → P (i + 1) H4 → C y H4) → g x (wipe σ vs) H' fun σ2 H2 => wipe σ2 vs = wipe σ vs ∧ te σ2 H2 C)
    (hd : ∀ acc H, Sm Dm [] H1 H → H D = some (.lst acc) → acc.length = n → (∀ i v, acc[i]? = some v → R i v H) → P n H → Qd H) : LcW J g tYes te vs σ H1 D Qd :=
  lc_list w (Q := fun _ H => Qd H) R P nD hn h0 mono pm hG hs hd
theorem cut_take (vs : List V) (m : Nat) (hm : m ≤ vs.length) : cutV vs none (some ((m : Nat) : Int)) = vs.take m := by
  unfold cutV
  rw [HT.sIx_none, HT.sIx_nat, List.drop_zero, Nat.sub_zero, Nat.min_eq_left hm]
theorem slA_take {K : PySem.W.Frag} {H : Hp} {p : Addr} {vs : List V} {l : List Rat} {m : Nat} {Q : VK} (h : H p = some (.tup vs)) (hq : Qs H vs l) (hm : m ≤ l.length) (k : ∀ u H', Sm [] [] H H' → TQ H' u (l.take m) → Q u H') :
    rSlA K (.ref p) none (some ((m : Nat) : Int)) H Q := by
  have hm' : m ≤ vs.length := hq.1 ▸ hm
  refine ⟨p, vs, rfl, L2.SqT.of h, fun z => ?_, fun _ a na => ?_⟩
  · rw [HT.sIx_nat, Nat.min_eq_left hm'] at z
    refine k _ _ Sm.refl ⟨p, vs, rfl, h, ?_⟩
    have e : l.take m = l := by rw [z.2, hq.1, List.take_length]
    rw [e]
    exact hq
  · have s : Sm [] [] H (upd H a (.tup (cutV vs none (some ((m : Nat) : Int))))) := Sm.new na
    refine k _ _ s ⟨a, vs.take m, rfl, by rw [upd_same, cut_take vs m hm'], (hq.take m).m s⟩
theorem Sq.eq {D : List Addr} {H H' : Hp} {p : Addr} {xs : List V} (h : Sq H p xs) (s : Sm D [] H H') : H' p = H p := by
  rcases h with h | h
  · rw [h, s.tup h]
  · rw [h, s.lst h List.not_mem_nil]
theorem acc_of {acc : List V} {n : Nat} {f : Nat → V} (hl : acc.length = n) (hr : ∀ i v, acc[i]? = some v → v = f i) : acc = (List.range n).map f := by
  apply List.ext_getElem?
  intro i
  rcases Nat.lt_or_ge i n with z | z
  · have hz : i < acc.length := hl ▸ z
    rw [List.getElem?_map, List.getElem?_range z, List.getElem?_eq_getElem hz]
    rw [hr i _ (List.getElem?_eq_getElem hz)]
    rfl
  · rw [List.getElem?_eq_none (hl ▸ z), List.getElem?_eq_none (by simpa using z)]
section
variable {P : Program} {w : World} {K : PySem.W.Frag} {mg : Str → Option Value} {base : Heap}
/-- a method that raises nothing, by its body -/
theorem met0 {CX : CXT} {C : Addr} {x q : Str} {st : Stmt} {f : Addr} {fd : FuncData} {N ps : List Str} {k : Nat} {sp : Sp} (F : FunD K x q (defArgs st) (defBody st) (defScope st) [] [] f fd) (g : Meth K C x f) (S : FnScope N ps (defScope st))
    (hb : ∀ (kV doc pm : Value) (an : Option Addr) (cdv ct : Value) (us : List Value), us.length = ps.length → bindArgs (PySem.W.fnOf x q (defArgs st) (defBody st) (defScope st) .none kV doc pm an cdv ct) ⟨us, []⟩ = pure (ps.zip us))
    (len : ∀ vs H Q E, sp vs H Q E → vs.length = ps.length)
    (h : ∀ (cdv : Value) (A : Around) (outer : List Env) (s : Shared) (H : Hp) (vs : List V) (Q : VK) (E : XK), Room k (A.deeper (envOfC q (defScope st) s.heap.objs.size f cdv)) → sp vs H Q E →
      ∃ t, PSs (cxOf CX P w K mg base N q (defScope st) f cdv A outer s H E).nox (defBody st) t ∧ t { nx := fun _ H' => Q .non H', rt := Q } (start N vs) H) : Met P w K mg base CX (k + 1) C x sp :=
  ⟨f, fd, ps, F.ok S len fun cdv A outer s H vs Q E hr hs => let ⟨t, a, b⟩ := h cdv A outer s H vs Q E hr hs; ⟨t, a.nox, b⟩, g, F.bindsN hb⟩
/-- a method that may raise -/
theorem metX {C : Addr} {x q : Str} {st : Stmt} {f : Addr} {fd : FuncData} {N ps : List Str} {k : Nat} {sp : Sp} (F : FunD K x q (defArgs st) (defBody st) (defScope st) [] [] f fd) (g : Meth K C x f) (S : FnScope N ps (defScope st))
    (hb : ∀ (kV doc pm : Value) (an : Option Addr) (cdv ct : Value) (us : List Value), us.length = ps.length → bindArgs (PySem.W.fnOf x q (defArgs st) (defBody st) (defScope st) .none kV doc pm an cdv ct) ⟨us, []⟩ = pure (ps.zip us))
    (len : ∀ vs H Q E, sp vs H Q E → vs.length = ps.length)
    (h : ∀ (cdv : Value) (A : Around) (outer : List Env) (s : Shared) (H : Hp) (vs : List V) (Q : VK) (E : XK), Room k (A.deeper (envOfC q (defScope st) s.heap.objs.size f cdv)) → sp vs H Q E →
      ∃ t, PSs (cxOf (L2.CX P w) P w K mg base N q (defScope st) f cdv A outer s H E) (defBody st) t ∧ t { nx := fun _ H' => Q .non H', rt := Q } (start N vs) H) : Met P w K mg base (L2.CX P w) (k + 1) C x sp :=
  ⟨f, fd, ps, F.ok S len h, g, F.bindsN hb⟩
end
/-- e.f read, e given -/
def gF (K : PySem.W.Frag) (f : Str) (x : V) (H : Hp) (Q : VK) : Prop := ∃ a C dx fs v, x = .ref a ∧ H a = some (.ins C dx fs) ∧ Cls K C ∧ NoAttr K C f ∧ fs.lookup f = some v ∧ Q v H
theorem tFld_eq {K : PySem.W.Frag} {ta : TE} {f : Str} {σ : L2.St} {H : Hp} {Q : VK} : tFld K ta f σ H Q = ta σ H fun x H1 => gF K f x H1 Q := rfl
theorem po_num {K : PySem.W.Frag} {mg : Str → Option Value} {H : Hp} {v : V} {l : List Rat} {Q : VK} (T : Tx K mg) (h : PoV (He.ga K "Poly") H v l) (k : ∀ p vs, H p = some (.tup vs) → Qs H vs l → Q (.ref p) H) : gF K "numbers" v H Q := by
  obtain ⟨a, dx, u, rfl, ha, p, vs, rfl, hp, hq⟩ := h
  exact ⟨a, _, dx, _, _, rfl, ha, T.cl, T.na, rfl, k p vs hp hq⟩
theorem den_ne (b : Int) (h : 0 < b) : b ≠ 0 := by omega
theorem walk_zipT {K : PySem.W.Frag} {a b : Addr} {xs ys : List V} {n : Nat} (hx : xs.length = n) (hy : ys.length = n) :
    Walk (RZ.ItzT K a b) n (fun H => H a = some (.tup xs) ∧ H b = some (.tup ys)) (YPair (fun i => xs[i]?) (fun i => ys[i]?)) where
  goes := fun i H hi h => ⟨xs, ys, xs[i], ys[i], L2.SqT.of h.1, L2.SqT.of h.2, List.getElem?_eq_getElem _, List.getElem?_eq_getElem _⟩
  stops := fun H h => ⟨xs, ys, L2.SqT.of h.1, L2.SqT.of h.2, .inl (by omega)⟩
  yields := fun i H x H' hi h z => by
    obtain ⟨T, y, u, rfl, hT, rfl, f, g⟩ := z
    exact ⟨T, y, u, rfl, hT, rfl, f xs (L2.SqT.of h.1), g ys (L2.SqT.of h.2)⟩
theorem rep_flat (x : V) : ∀ k : Nat, (List.replicate k [x]).flatten = List.replicate k x
  | 0 => rfl
  | k + 1 => by rw [List.replicate_succ, List.flatten_cons, rep_flat x k, List.replicate_succ]; rfl
/-- t + ((0, 1),) * k -/
theorem pad_ok {K : PySem.W.Frag} {H : Hp} {p q : Addr} {x : V} {vs : List V} {a : List Rat} {k : Nat} {F : VK} (hp : H p = some (.tup vs)) (hq : Qs H vs a) (h1 : H q = some (.tup [x])) (hx : IsQ H x 0) (hk : k ≤ 900) (ha : a.length ≤ 900)
    (h : ∀ r us H', Sm [] [] H H' → H' r = some (.tup us) → Qs H' us (a ++ List.replicate k 0) → F (.ref r) H') : rRepA K (.ref q) (.int (k : Nat)) H fun y H2 => rCatA K (.ref p) y H2 F := by
  have cat : ∀ r H2, Sm [] [] H H2 → H2 r = some (.tup (List.replicate k x)) → rCatA K (.ref p) (.ref r) H2 F := by
    intro r H2 s hr
    have hl : vs.length = a.length := hq.1
    refine ⟨p, r, vs, List.replicate k x, rfl, rfl, L2.SqT.of (s.tup hp), L2.SqT.of hr, by rw [List.length_replicate, sizeLine_eq]; omega, fun e => ?_, fun _ e => ?_, fun _ _ c nc => ?_⟩
    · have ea : a = [] := List.eq_nil_of_length_eq_zero (by rw [← hl, e]; rfl)
      rw [ea] at h
      exact h r _ H2 s hr ((Qs.rep hx k).m s)
    · have ek : k = 0 := by simpa using e
      subst ek
      refine h p vs H2 s (s.tup hp) ?_
      rw [List.replicate_zero, List.append_nil]
      exact hq.m s
    · have s2 : Sm [] [] H (upd H2 c (.tup (vs ++ List.replicate k x))) := s.trans (Sm.new nc)
      exact h c _ _ s2 upd_same ((hq.append (Qs.rep hx k)).m s2)
  refine ⟨q, k, [x], rfl, rfl, L2.SqT.of h1, by simp, by omega, by omega, by simp, fun e => ?_, fun e c nc => ?_⟩
  · have ek : k = 1 := by omega
    subst ek
    exact cat q H Sm.refl h1
  · rw [Int.toNat_natCast, rep_flat]
    exact cat c _ (Sm.new nc) upd_same
theorem isQ_zero {H : Hp} {p : Addr} (h : H p = some (.tup [.int 0, .int 1])) : IsQ H (.ref p) 0 := ⟨p, rfl, h⟩
theorem isQ_of {H : Hp} {p : Addr} {a b : Int} {q : Rat} (h : H p = some (.tup [.int a, .int b])) (e1 : q.num = a) (e2 : (q.den : Int) = b) : IsQ H (.ref p) q := ⟨p, rfl, by rw [e1, e2]; exact h⟩
theorem atI_neg1 {xs : List V} {v : V} (h : xs[xs.length - 1]? = some v) : atI xs (-1) = some v := by
  rcases List.eq_nil_or_concat xs with e | ⟨ys, y, e⟩
  · subst e; cases h
  · rw [List.concat_eq_append] at e
    subst e
    rw [List.length_append, List.length_singleton, Nat.add_sub_cancel, List.getElem?_append_right (Nat.le_refl _), Nat.sub_self] at h
    cases h
    exact atI_last ys _
theorem ixN_nat {n j : Nat} (h : j < n) : ixN n (j : Int) = some j := by
  unfold ixN
  rw [if_pos (by omega), if_pos (by omega)]
  simp
theorem rs_qs {H : Hp} {vs : List V} {l : List Rat} {n : Nat} (h : Qs H vs l) (hl : Hl n l) (hn : n ≤ 4400) : vs.length = l.length ∧ ∀ (i : Nat) (v : V), vs[i]? = some v → IsR H v (cf l i) := ⟨h.1, fun i v e => (h.get e).r (hl i) hn⟩
theorem cf_take (l : List Rat) (n i : Nat) : cf (l.take n) i = if i < n then cf l i else 0 := by
  unfold cf
  rw [List.getD_eq_getElem?_getD, List.getElem?_take]
  split
  · rw [List.getD_eq_getElem?_getD]
  · rfl
theorem cf_set (l : List Rat) (j : Nat) (q : Rat) (i : Nat) (hj : j < l.length) : cf (l.set j q) i = if i = j then q else cf l i := by
  unfold cf
  rw [List.getD_eq_getElem?_getD, List.getElem?_set]
  by_cases h : j = i
  · subst h; rw [if_pos rfl, if_pos hj, if_pos rfl]; rfl
  · rw [if_neg h, if_neg (fun z => h z.symm), List.getD_eq_getElem?_getD]
theorem rgV_rev {m j : Nat} (h : j < m) : (rgV 0 (m : Nat)).reverse[j]? = some (.int ((m - 1 - j : Nat) : Int)) := by
  have hl : (rgV 0 (m : Nat)).length = m := by rw [rgV_length]; omega
  rw [List.getElem?_reverse (by omega), hl]
  unfold rgV
  rw [List.getElem?_map, List.getElem?_range (by omega)]
  simp
/-- t + [(0, 1)] * k, lists -/
theorem padL_ok {H : Hp} {p q : Addr} {x : V} {vs : List V} {a : List Rat} {k : Nat} {F : VK} (hp : H p = some (.lst vs)) (hq : Qs H vs a) (h1 : H q = some (.lst [x])) (hx : IsQ H x 0) (hk : k ≤ 900) (ha : a.length ≤ 900)
    (h : ∀ r us H', Sm [] [] H H' → H' r = some (.lst us) → Qs H' us (a ++ List.replicate k 0) → F (.ref r) H') : rRep (.ref q) (.int (k : Nat)) H fun y H2 => rCat (.ref p) y H2 F := by
  refine ⟨q, k, [x], rfl, rfl, h1, by omega, by omega, by rw [List.length_singleton, sizeLine_eq]; omega, fun c nc => ?_⟩
  rw [Int.toNat_natCast, rep_flat]
  have s : Sm [] [] H (upd H c (.lst (List.replicate k x))) := Sm.new nc
  have hl : vs.length = a.length := hq.1
  refine ⟨p, c, vs, _, rfl, rfl, s.lst hp List.not_mem_nil, upd_same, by rw [List.length_replicate, sizeLine_eq]; omega, fun d nd => ?_⟩
  have s2 := s.trans (Sm.new (D := []) (L := []) (o := .lst (vs ++ List.replicate k x)) nd)
  exact h d _ _ s2 upd_same ((hq.append (Qs.rep hx k)).m s2)
theorem atI_int {xs : List V} {i : Int} {v : V} (h0 : 0 ≤ i) (h : xs[i.toNat]? = some v) : atI xs i = some v := by
  obtain ⟨j, rfl⟩ := Int.eq_ofNat_of_zero_le h0
  exact atI_nat (by simpa using h)
end G3
end
section
set_option maxHeartbeats 4000000
/-! numbers as data: equality -/
namespace G3
open PySem PySem.Spec PyProof.Rows L2
def qd (q : Rat) : PyData := .tuple [.int q.num, .int q.den]
def pd (l : List Rat) : PyData := .tuple (l.map qd)
theorem dp_q {K : PySem.W.Frag} {H : Hp} {v : V} {q : Rat} (h : IsQ H v q) : Dp K H v (qd q) := by
  obtain ⟨p, rfl, h⟩ := h
  exact .tup (L2.SqT.of h) (.cons (.int _) (.cons (.int _) .nil))
theorem Qs.tail {H : Hp} {v : V} {vs : List V} {q : Rat} {l : List Rat} (h : Qs H (v :: vs) (q :: l)) : IsQ H v q ∧ Qs H vs l := by
  refine ⟨?_, by have := h.1; simpa using this, fun i p e => ?_⟩
  · obtain ⟨u, e, hu⟩ := h.2 0 q rfl
    cases e
    exact hu
  · obtain ⟨u, e, hu⟩ := h.2 (i + 1) p (by simpa using e)
    exact ⟨u, by simpa using e, hu⟩
theorem dp_qs {K : PySem.W.Frag} {H : Hp} : ∀ {vs : List V} {l : List Rat}, Qs H vs l → DpAll K H vs (l.map qd)
  | [], [], _ => .nil
  | [], q :: l, h => by have := h.1; cases this
  | v :: vs, [], h => by have := h.1; cases this
  | v :: vs, q :: l, h => .cons (dp_q h.tail.1) (dp_qs h.tail.2)
theorem dp_t {K : PySem.W.Frag} {H : Hp} {v : V} {l : List Rat} (h : TQ H v l) : Dp K H v (pd l) := by
  obtain ⟨p, vs, rfl, hp, hq⟩ := h
  exact .tup (L2.SqT.of hp) (dp_qs hq)
theorem qd_eqv (p q : Rat) : PyData.eqv (qd p) (qd q) = decide (p = q) := by
  have e : PyData.eqv (qd p) (qd q) = ((p.num == q.num) && (((p.den : Int) == (q.den : Int)) && true)) := by simp only [qd, PyData.eqv, PyData.eqvAll]
  rw [e]
  by_cases h : p = q
  · subst h; simp
  · rw [decide_eq_false h]
    by_cases h1 : p.num = q.num
    · have h2 : (p.den : Int) ≠ (q.den : Int) := fun z => h (Rat.ext h1 (by omega))
      rw [beq_eq_false_iff_ne.mpr h2, Bool.false_and, Bool.and_false]
    · rw [beq_eq_false_iff_ne.mpr h1, Bool.false_and]
theorem qds_eqv : ∀ (a b : List Rat), PyData.eqvAll (a.map qd) (b.map qd) = decide (a = b)
  | [], [] => by simp [PyData.eqvAll]
  | [], q :: l => by simp [PyData.eqvAll]
  | q :: l, [] => by simp [PyData.eqvAll]
  | p :: a, q :: b => by
    rw [List.map_cons, List.map_cons, PyData.eqvAll, qd_eqv, qds_eqv a b]
    by_cases h : p = q
    · by_cases h2 : a = b
      · subst h h2; simp
      · simp [h, h2]
    · simp [h]
theorem pd_eqv (a b : List Rat) : PyData.eqv (pd a) (pd b) = decide (a = b) := by
  unfold pd
  rw [PyData.eqv]
  exact qds_eqv a b
theorem qd_depth (q : Rat) : (qd q).depth = 1 := by simp [qd, PyData.depth, PyData.depthAll]
theorem qds_lay : ∀ l : List Rat, PyData.canLayAll0 (l.map qd) = true
  | [] => by simp [PyData.canLayAll0]
  | q :: l => by simp [PyData.canLayAll0, qd, PyData.canLay0, qds_lay l]
theorem qds_depth : ∀ l : List Rat, PyData.depthAll (l.map qd) ≤ 1
  | [] => by simp [PyData.depthAll]
  | q :: l => by
    have h1 := qds_depth l
    have h2 := qd_depth q
    simp only [List.map_cons, PyData.depthAll]
    omega
theorem pd_depth (l : List Rat) : (pd l).depth ≤ 2 := by
  have := qds_depth l
  simp only [pd, PyData.depth]
  omega
theorem pd_lay (l : List Rat) : (pd l).canLay0 = true := by simp only [pd, PyData.canLay0]; exact qds_lay l
theorem pd_shaped (l : List Rat) : SeqAt.shaped (pd l) = true := by
  have := pd_depth l
  show ((pd l).canLay0 && decide ((pd l).depth ≤ 64)) = true
  rw [Bool.and_eq_true]
  exact ⟨pd_lay l, decide_eq_true (by omega)⟩
theorem room64 {k : Nat} {A : Around} (hr : Room k A) : A.units + 64 < cLine := by have := hr.un; omega
end G3
end
section
set_option maxHeartbeats 4000000
/-! at, moved, divided: what they compute -/
namespace G3
/-- the value at x, from the greatest number down -/
def hn (l : List Rat) (x : Rat) : Nat → Rat
  | 0 => 0
  | i + 1 => hn l x i * x + cf l (l.length - 1 - i)
/-- l at a + b * x, from the greatest number down -/
def mv (l : List Rat) (a b : Rat) : Nat → List Rat
  | 0 => []
  | i + 1 => padd 1 (pmul (mv l a b i) (strip [a, b])) (strip [cf l (l.length - 1 - i)])
theorem nf_padd (s : Int) (a b : List Rat) : Nf (padd s a b) := nf_pO _ _
theorem nf_pmul (a b : List Rat) : Nf (pmul a b) := nf_pO _ _
theorem len_of {l : List Rat} (h : Nf l) {n : Nat} (hz : ∀ i, n ≤ i → cf l i = 0) : l.length ≤ n := by
  rcases Nat.lt_or_ge n l.length with z | z
  · exact absurd (hz _ (by omega)) (h.top (by omega))
  · exact z
theorem pmul_le (a b : List Rat) : (pmul a b).length ≤ a.length + b.length - 1 := len_of (nf_pmul a b) fun i hi => by
  rw [cf_pmul]
  rcases Nat.eq_zero_or_pos a.length with z | z
  · have : a = [] := List.eq_nil_of_length_eq_zero z
    subst this
    exact sm_zero fun k _ => by rw [cf_nil]; grind
  · exact conv_ge (by omega)
theorem pmul_nil (b : List Rat) : pmul [] b = [] := by
  have : (pmul [] b).length ≤ 0 := len_of (nf_pmul [] b) fun i _ => by
    rw [cf_pmul]; exact sm_zero fun k _ => by rw [cf_nil]; grind
  exact List.eq_nil_of_length_eq_zero (by omega)
theorem padd_le (s : Int) (a b : List Rat) : (padd s a b).length ≤ max a.length b.length := pO_le _ _
theorem mv_le (l : List Rat) (a b : Rat) : ∀ i, (mv l a b i).length ≤ i
  | 0 => Nat.le_refl _
  | i + 1 => by
    show (padd 1 _ _).length ≤ _
    have h1 := padd_le 1 (pmul (mv l a b i) (strip [a, b])) (strip [cf l (l.length - 1 - i)])
    have h2 := strip_le [cf l (l.length - 1 - i)]
    have h3 := strip_le [a, b]
    have h4 := mv_le l a b i
    simp only [List.length_cons, List.length_nil] at h2 h3
    have h5 := pmul_le (mv l a b i) (strip [a, b])
    rcases Nat.eq_zero_or_pos i with z | z
    · subst z
      have e : pmul (mv l a b 0) (strip [a, b]) = [] := pmul_nil _
      rw [e] at h1 ⊢
      simp only [List.length_nil] at h1
      omega
    · omega
/-- its height -/
def mB (n1 n2 : Nat) : Nat → Nat
  | 0 => 1
  | i + 1 => min i 2 * (mB n1 n2 i + n2 + 1) + 1 + n1 + 1
theorem hl_strip {n : Nat} {l : List Rat} (h : Hl n l) : Hl n (strip l) := fun i => by rw [cf_strip]; exact h i
theorem hl_one {n : Nat} {q : Rat} (h : Hq n q) : Hl n [q] := fun i => by
  cases i with
  | zero => exact h
  | succ i => rw [cf_succ, cf_nil]; exact hq_zero h.pos
theorem hl_two {n : Nat} {p q : Rat} (h : Hq n p) (k : Hq n q) : Hl n [p, q] := fun i => by
  cases i with
  | zero => exact h
  | succ i => exact hl_one k i
theorem hl_mv {l : List Rat} {a b : Rat} {n1 n2 : Nat} (hl : Hl n1 l) (ha : Hq n2 a) (hb : Hq n2 b) : ∀ i, Hl (mB n1 n2 i) (mv l a b i)
  | 0 => fun j => by rw [show mv l a b 0 = [] from rfl, cf_nil]; exact hq_zero (show 0 < 1 by decide)
  | i + 1 => by
    have h1 := hl_pmul (hl_mv hl ha hb i) (hl_strip (hl_two ha hb))
    have h2 := hl_padd (s := 1) (.inl rfl) h1 (hl_strip (hl_one (hl (l.length - 1 - i))))
    refine h2.mono ?_
    show _ ≤ min i 2 * (mB n1 n2 i + n2 + 1) + 1 + n1 + 1
    have h3 := strip_le [a, b]
    have h4 := mv_le l a b i
    simp only [List.length_cons, List.length_nil] at h3
    have h5 : min (mv l a b i).length (strip [a, b]).length ≤ min i 2 := by omega
    have := Nat.mul_le_mul_right (mB n1 n2 i + n2 + 1) h5
    omega
theorem mB_le (n1 n2 : Nat) : ∀ i, mB n1 n2 i ≤ mB n1 n2 (i + 3)
  | 0 => by simp [mB]
  | i + 1 => by
    have h := mB_le n1 n2 i
    show min i 2 * (mB n1 n2 i + n2 + 1) + 1 + n1 + 1 ≤ min (i + 3) 2 * (mB n1 n2 (i + 3) + n2 + 1) + 1 + n1 + 1
    have := Nat.mul_le_mul (show min i 2 ≤ min (i + 3) 2 by omega) (show mB n1 n2 i + n2 + 1 ≤ mB n1 n2 (i + 3) + n2 + 1 by omega)
    omega
/-! ### division -/
/-- the greatest place of the quotient, from its end -/
def pl (a b : List Rat) (j : Nat) : Nat := a.length - b.length - j
/-- the rest after j steps -/
def dv (a b : List Rat) : Nat → Nat → Rat
  | 0 => cf a
  | j + 1 => fun i => dv a b j i - (if pl a b j ≤ i then dv a b j (pl a b j + (b.length - 1)) / cf b (b.length - 1) * cf b (i - pl a b j) else 0)
/-- the factor of step j -/
def by_ (a b : List Rat) (j : Nat) : Rat := dv a b j (pl a b j + (b.length - 1)) / cf b (b.length - 1)
theorem dv_succ (a b : List Rat) (j i : Nat) : dv a b (j + 1) i = dv a b j i - (if pl a b j ≤ i then by_ a b j * cf b (i - pl a b j) else 0) := rfl
/-- how many steps -/
def dm (a b : List Rat) : Nat := a.length + 1 - b.length
def quo (a b : List Rat) : List Rat := pO (dm a b) fun i => by_ a b (dm a b - 1 - i)
def rem (a b : List Rat) : List Rat := pO (b.length - 1) (dv a b (dm a b))
/-- behind j steps all above is 0 -/
theorem dv_zero {a b : List Rat} (hb : Nf b) (hl : 0 < b.length) : ∀ j, j ≤ dm a b → ∀ i, a.length ≤ i + j → b.length ≤ i + 1 → dv a b j i = 0
  | 0, _, i, h, _ => cf_ge (by omega)
  | j + 1, hj, i, h, h2 => by
    have ht := hb.top hl
    have hd : dm a b = a.length + 1 - b.length := rfl
    have hp : pl a b j = a.length - b.length - j := rfl
    rw [dv_succ, if_pos (by omega)]
    rcases Nat.lt_or_ge i (a.length - j) with z | z
    · have e : i = pl a b j + (b.length - 1) := by omega
      have e2 : i - pl a b j = b.length - 1 := by omega
      rw [e2, by_, ← e]
      have : dv a b j i / cf b (b.length - 1) * cf b (b.length - 1) = dv a b j i := Rat.div_mul_cancel ht
      rw [this]
      grind
    · rw [dv_zero hb hl j (by omega) i (by omega) h2, cf_ge (l := b) (by omega)]
      grind
/-- the whole rest is rem -/
theorem rem_all {a b : List Rat} (hb : Nf b) (hl : 0 < b.length) {n : Nat} (hn : b.length ≤ n + 1) : pO n (dv a b (dm a b)) = rem a b := by
  refine (nf_pO _ _).ext (nf_pO _ _) fun i => ?_
  rw [cf_pO, rem, cf_pO]
  by_cases h : i < b.length - 1
  · rw [if_pos (by omega), if_pos h]
  · rw [if_neg h]
    split
    · refine dv_zero hb hl _ (Nat.le_refl _) i ?_ (by omega)
      have : dm a b = a.length + 1 - b.length := rfl
      omega
    · rfl
/-- every number that a division meets is small -/
def DivSz (a b : List Rat) : Prop := (∀ j i, j ≤ dm a b → Hq 4400 (dv a b j i)) ∧ (∀ j, j < dm a b → Hq 4400 (by_ a b j)) ∧ (∀ j i, j < dm a b → Hq 4400 (by_ a b j * cf b i)) ∧ Hl 4400 b
def pplain (l : List Rat) : List Rat := pO l.length fun i => cf l i / cf l (l.length - 1)
theorem nf_pplain (l : List Rat) : Nf (pplain l) := nf_pO _ _
theorem nf_rem (a b : List Rat) : Nf (rem a b) := nf_pO _ _
theorem rem_le (a b : List Rat) : (rem a b).length ≤ b.length - 1 := pO_le _ _
theorem pplain_le (l : List Rat) : (pplain l).length ≤ l.length := pO_le _ _
/-- a chain of divisions that ends: s 0, s 1 the two, s (n + 1) empty -/
structure Chain (s : Nat → List Rat) (n : Nat) : Prop where
  nf : ∀ i, i ≤ n + 1 → Nf (s i)
  le : ∀ i, i ≤ n + 1 → (s i).length ≤ 400
  ne : ∀ i, i < n → 0 < (s (i + 1)).length
  dz : ∀ i, i < n → DivSz (s i) (s (i + 1))
  pz : ∀ i, i < n → Hl 4400 (rem (s i) (s (i + 1))) ∧ Hl 4400 (pplain (rem (s i) (s (i + 1))))
  st : ∀ i, i < n → s (i + 2) = pplain (rem (s i) (s (i + 1)))
  en : s (n + 1) = []
  fz : Hl 4400 (s n) ∧ Hl 4400 (pplain (s n))
theorem dv_ge {a b : List Rat} : ∀ j, j ≤ dm a b → ∀ i, a.length ≤ i → dv a b j i = 0
  | 0, _, i, h => cf_ge h
  | j + 1, hj, i, h => by
    have hp : pl a b j = a.length - b.length - j := rfl
    have hd : dm a b = a.length + 1 - b.length := rfl
    rw [dv_succ, dv_ge j (by omega) i h, cf_ge (l := b) (i := i - pl a b j) (by omega)]
    split <;> grind
end G3
end
section
set_option maxHeartbeats 4000000
namespace G3
open PySem PySem.Spec PyProof.Rows L2
local macro_rules | `(tactic| walk_at "rd") => `(tactic| simp only [wipe, sDPut, tDGet, tDisp, tPairs, tBM0, tBM, tBreak, sFld, tPar3, tRevL, tLstRg, tRg1, tRg2, gSub, rSetL,  tSl, tNoPart, tPart, iRng1, iRng2, iRng3, tRevT, tLc_eq, tFor_eq, iEnumT, iSeq, iList, iTup, RZ.iZipA, tFld_eq, tMeth, tVar, tC, tOp, tUn, tCons, tNil, tCB, tCall, tRet, tSeq, tAsg, gName, tIfS, tIf, tTest, tB, tNot, tAnd, tOr, tNotV, tAndV, tOrV, rI0_int, rI_int, rU_int, rEq_int, rNe_int, tPar, tNext, tDrop, tTup_nt, tLst_nl, tMkBN, tMkBR, cxOf_K, L2.start, List.map_cons, List.map_nil, List.length_cons, List.length_nil, List.cons_append, List.nil_append, List.append_nil, List.replicate_succ, List.replicate_zero, Nat.reduceAdd, Nat.reduceSub, Nat.sub_self, List.getElem?_cons_zero, List.getElem?_cons_succ, List.set_cons_zero, List.set_cons_succ, Option.some.injEq, V.int.injEq, V.bl.injEq, exists_eq_left', exists_eq_left, exists_eq_right, exists_eq_right', true_and, and_true, if_true, if_false, ite_true, ite_false, Bool.false_eq_true, Bool.not_true, Bool.not_false, reduceIte])
local macro_rules | `(tactic| walk_at "ix") => `(tactic| repeat (first | refine Sq.ix (by assumption) (by rfl) ?_ | (walk_at "rd"; refine ⟨Sz.mul (by assumption) (by assumption), ?_⟩)))
section
variable {P : Program} {w : World} {K : PySem.W.Frag} {mg : Str → Option Value} {base : Heap}
abbrev N_without_zeros : List Str := ["numbers", "many", "k", "ratio"]
theorem sc_without_zeros : FnScope N_without_zeros ["numbers"] (defScope s_without_zeros) := ⟨rfl, rfl, rfl, by decide +kernel, rfl, by decide +kernel, by decide +kernel⟩
def spWz : Sp := fun vs H Q _ => ∃ v l, vs = [v] ∧ TQ H v l ∧ l.length ≤ 900 ∧ ∀ u H', Sm [] [] H H' → TQ H' u (strip l) → Q u H'
theorem ok_without_zeros (T : Tx K mg) : Cal P w K mg base CX0 1 "without_zeros" spWz := by
  obtain ⟨fd, F⟩ := T.f_without_zeros
  refine cal0 F T.g_without_zeros sc_without_zeros (ps := ["numbers"]) (fun _ _ _ _ _ _ us hl => match us, hl with | [_], _ => rfl) (fun vs H Q E h => ?_) (fun cdv A outer s H vs Q E hr h => ?_)
  · obtain ⟨v, l, rfl, _⟩ := h
    rfl
  · obtain ⟨v, l, rfl, hv, hl, k⟩ := h
    refine ⟨_, (pss_cons (ps_set (i := 1) sc_without_zeros.nd rfl (Or.inl rfl) (pe_callB (cr_max rfl) (by rfl) T.b_max (by decide +kernel) (pa_cons (pe_op op_cat (pe_lst (pa_cons pe_int pa_nil)) (pe_lc (own := [("k", 2), ("ratio", 3)]) rfl sc_without_zeros.nd (pi_enumT (by rfl) T.b_enumerate (pa_cons (pv 0) pa_nil)) (blkOk_by (own := [("k", 2), ("ratio", 3)]) (N := N_without_zeros) (sc := defScope s_without_zeros) (by decide +kernel)) (fun _ _ _ _ _ => (pg_tupK (K := K) (n := 2) rfl rfl (pgs_cons (pg_name (i := 2) sc_without_zeros.nd rfl (Or.inl rfl) (Or.inr rfl)) (pgs_cons (pg_name (i := 3) sc_without_zeros.nd rfl (Or.inl rfl) (Or.inr rfl)) pgs_nil)))) (fun _ _ _ _ _ => (pts_one (pt_cmpR op_ne (pe_ix (ix_tupK (K := K) rfl) (pv 3) pe_int (fun _ _ => rfl)) pe_int (nomark _)))) (fun _ _ _ _ _ => (pe_op op_add (pv 2) pe_int)))) pa_nil)))
      (pss_one (ps_ret (pe_slice sl_tupA (pv 0) po_none (po_some (pv 1)))))), ?_⟩
    walk_at "rd"
    refine nl_of fun a H1 na s1 ha => ?_
    obtain ⟨pv, vs, rfl, hp, hq⟩ := hv
    refine ⟨pv, vs, rfl, L2.SqT.of (s1.tup hp), fun D nD => ?_⟩
    have hvl := hq.1
    refine lc_it' (walk_enumT (xs := vs)) (fun i H => Sm [] [] H1 H ∧ ∃ ns : List Int, H D = some (.lst (ns.map V.int)) ∧ ns.length ≤ i ∧ ∀ x, x ∈ ns ↔ ∃ k : Nat, k < i ∧ cf l k ≠ 0 ∧ x = (k : Int) + 1) ?_ ?_ ?_ ?_
    · exact ⟨Sm.new nD, [], upd_same, Nat.le_refl _, fun x => ⟨fun z => (by simp at z), fun ⟨k, hk, _⟩ => absurd hk (Nat.not_lt_zero _)⟩⟩
    · intro i H2 _ z
      exact z.1.tup (s1.tup hp)
    · intro i x H2 H3 hi z y
      obtain ⟨s2, ns, hD, hz, hc⟩ := z
      obtain ⟨TT, x1, x2, rfl, nT, rfl, e1, e2⟩ := y
      cases e1
      obtain ⟨u, rfl, hu⟩ := hq.get e2
      have s3 : Sm [] [] H2 (upd H2 TT (.tup [.int (i : Nat), .ref u])) := Sm.new nT
      have hu3 := s3.tup (s2.tup (s1.tup hu))
      have hD3 := s3.lst hD List.not_mem_nil
      refine gTup2 upd_same ⟨rfl, ?_⟩
      walk_at "rd"
      refine SqT.ix hu3 rfl ?_
      walk_at "rd"
      have hnum : (cf l i).num = 0 ↔ cf l i = 0 := Rat.num_eq_zero
      by_cases e : cf l i = 0
      · rw [decide_eq_true (hnum.mpr e), if_neg (by decide)]
        refine ⟨s2.trans s3, ns, hD3, by omega, fun x => ⟨fun z => ?_, fun z => ?_⟩⟩
        · obtain ⟨k, hk, r⟩ := (hc x).mp z
          exact ⟨k, by omega, r⟩
        · obtain ⟨k, hk, r⟩ := z
          refine (hc x).mpr ⟨k, ?_, r⟩
          rcases Nat.lt_or_ge k i with q | q
          · exact q
          · have : k = i := by omega
            subst this
            exact absurd e r.1
      · rw [decide_eq_false (fun z => e (hnum.mp z)), if_pos (by decide)]
        refine ⟨ns.map V.int, hD3, by rw [List.length_map, sizeLine_eq]; omega, ?_, ns ++ [(i : Int) + 1], ?_, by simp; omega, fun x => ⟨fun z => ?_, fun z => ?_⟩⟩
        · exact ((s2.trans s3).w (fun _ h => h) (fun _ h => nomatch h) |>.trans (Sm.put (D := []) hD3 (List.mem_singleton.mpr rfl))).drop nD
        · rw [upd_same, List.map_append]; rfl
        · rcases List.mem_append.mp z with z | z
          · obtain ⟨k, hk, r⟩ := (hc x).mp z
            exact ⟨k, by omega, r⟩
          · exact ⟨i, by omega, e, List.mem_singleton.mp z⟩
        · obtain ⟨k, hk, r⟩ := z
          rcases Nat.lt_or_ge k i with q | q
          · exact List.mem_append_left _ ((hc x).mpr ⟨k, q, r⟩)
          · have : k = i := by omega
            subst this
            exact List.mem_append_right _ (List.mem_singleton.mpr r.2)
    · intro H2 z
      obtain ⟨s2, ns, hD, hz, hc⟩ := z
      rw [hvl] at hc hz
      refine ⟨a, D, [.int 0], _, rfl, rfl, s2.lst ha List.not_mem_nil, hD, by rw [List.length_map, sizeLine_eq]; simp; omega, fun p np => ?_⟩
      refine ⟨p, 0 :: ns, rfl, L2.SqL.of upd_same, by simp, fun m hm hx => ?_⟩
      have em := many_max hc hm hx
      have hle := strip_le l
      have s3 : Sm [] [] H (upd H2 p (.lst (V.int 0 :: ns.map V.int))) := (s1.trans s2).trans (Sm.new np)
      subst em
      have hp3 := s3.tup hp
      walk_at "rd"
      refine slA_take hp3 (hq.m s3) hle fun u H' s4 hu => k _ _ (s3.trans s4) ?_
      rw [strip_take]
      exact hu
/-! ### Poly.__init__ -/
abbrev N_Poly_init : List Str := ["self", "numbers", "ratio"]
theorem sc_Poly_init : FnScope N_Poly_init ["self", "numbers"] (defScope sPoly_init) := ⟨rfl, rfl, rfl, by decide +kernel, rfl, by decide +kernel, by decide +kernel⟩
def Rs (H : Hp) (xs : List V) (l : List Rat) : Prop := xs.length = l.length ∧ ∀ (i : Nat) (v : V), xs[i]? = some v → IsR H v (cf l i)
theorem Sq.inj {H : Hp} {p : Addr} {xs ys : List V} (h : Sq H p xs) (k : Sq H p ys) : xs = ys := by
  rcases h with h | h <;> rcases k with k | k <;> (rw [h] at k; cases k <;> rfl)
theorem NoRat.not {H : Hp} {v : V} {a b : Int} (h : NoRat H v) (r : RatV H v a b) : False := by
  cases r with
  | int n =>
    cases h with
    | any h h1 h2 h3 => cases h; exact h1 rfl
  | sq hq hb =>
    cases h with
    | any h h1 h2 h3 =>
      cases h with
      | lst e => exact h3 rfl
      | tup e => exact h2 rfl
      | dK e => rcases hq with hq | hq <;> (rw [e] at hq; cases hq)
    | len h hl => have e := h.inj hq; subst e; exact hl rfl
    | two h hx hy hz =>
      have e := h.inj hq
      cases e
      rcases hz with z | z | ⟨c, e, z⟩
      · cases z
      · cases z
      · cases e; omega
/-- a ratio, or surely none -/
def AnyR (H : Hp) (v : V) : Prop := (∃ a b, RatV H v a b) ∨ NoRat H v
/-- what Poly(v) makes of v: its numbers, or BadRow -/
def SPoly (C : Addr) (v : V) (H : Hp) (k : V → Hp → Prop) (E : XK) : Prop :=
  (∃ p xs l, v = .ref p ∧ Sq H p xs ∧ Rs H xs l ∧ l.length ≤ 900 ∧ ∀ u H', Sm [] [] H H' → TQ H' u (strip l) → k u H') ∨
  ((∃ n, An H v n ∧ n ≠ "tuple" ∧ n ≠ "list") ∧ Exn C [("row", v)] H E) ∨
  (∃ p xs, v = .ref p ∧ Sq H p xs ∧ xs.length ≤ 900 ∧ (∀ x ∈ xs, AnyR H x) ∧ (∃ x ∈ xs, NoRat H x) ∧ Exn C [("row", v)] H E)
theorem ok_init (T : Tx K mg) : MkC P w K mg base (L2.CX P w) 4 (He.ga K "Poly") (spInit (He.ga K "Poly") "numbers" (SPoly (He.ga K "BadRow"))) := by
  have c_is_ratio := ok_is_ratio (P := P) (w := w) (base := base) T
  have c_told := ok_told (P := P) (w := w) (base := base) T
  have c_without_zeros := ok_without_zeros (P := P) (w := w) (base := base) T
  obtain ⟨fd, F⟩ := T.m_Poly_init
  refine ⟨fd, ["self", "numbers"], F.ok sc_Poly_init (fun vs H Q E h => ?_) (fun cdv A outer s H vs Q E hr h => ?_), F.bindsN (fun _ _ _ _ _ _ us hl => match us, hl with | [_, _], _ => rfl)⟩
  · obtain ⟨x, dx, v, rfl, _⟩ := h
    rfl
  · obtain ⟨x, dx, v, rfl, hx, h⟩ := h
    have tk := takes_of (X := cxOf (L2.CX P w) P w K mg base N_Poly_init "Poly.__init__" (defScope sPoly_init) (He.ma K (He.ga K "Poly") "__init__") cdv A outer s H E) rfl rfl rfl rfl
    have px : Passes (L2.CX P w) _ E := passes_call tk (fun _ _ _ _ z => z)
    refine ⟨_, (pss_cons (ps_if (PW.pt (pw_or (pt_not (pt_val (pe_callB call_isiT (by rfl) T.b_isinstance (by decide +kernel) (pa_cons (pv 1) (pa_cons (pe_tup (pa_cons (pe_bltn (v := .ty "tuple") (by rfl) T.b_tuple (by decide +kernel) rfl) (pa_cons (pe_bltn (v := .ty "list") (by rfl) T.b_list (by decide +kernel) rfl) pa_nil))) pa_nil))))) (pw_or1 (pt_not (pt_val (pe_callB (cr_all rfl) (by rfl) T.b_all (by decide +kernel) (pa_cons (pe_lc (own := [("ratio", 2)]) rfl sc_Poly_init.nd (pi_seq (pv 1)) (blkOk_by (own := [("ratio", 2)]) (N := N_Poly_init) (sc := defScope sPoly_init) (by decide +kernel)) (fun _ _ _ _ _ => (pg_name (i := 2) sc_Poly_init.nd rfl (Or.inl rfl) (Or.inr rfl))) (fun _ _ _ _ _ => pts_nil) (fun _ _ _ _ _ => (pe_cal c_is_ratio hr (by decide) pass0 (pa_cons (pv 2) pa_nil)))) pa_nil))))))) (pss_one (ps_raise rfl tk (pmk_BadRow T hr (pa_cons (pv 1) pa_nil)))) pss_nil)
      (pss_one (ps_fld (pv 0) (pe_cal c_without_zeros hr (by decide) pass0 (pa_cons (pe_callTy call_tuple_of (by rfl) T.b_tuple (by decide +kernel) (pa_cons (pe_lc (own := [("ratio", 2)]) rfl sc_Poly_init.nd (pi_seq (pv 1)) (blkOk_by (own := [("ratio", 2)]) (N := N_Poly_init) (sc := defScope sPoly_init) (by decide +kernel)) (fun _ _ _ _ _ => (pg_name (i := 2) sc_Poly_init.nd rfl (Or.inl rfl) (Or.inr rfl))) (fun _ _ _ _ _ => pts_nil) (fun _ _ _ _ _ => (pe_cal c_told hr (by decide) passL (pa_cons (pv 2) (pa_cons pe_str pa_nil))))) pa_nil)) pa_nil)) rfl))), ?_⟩
    walk_at "rd"
    have ns : Sm [] [] H H := Sm.refl
    have first : ∀ (xs : List V) (bs : Nat → Bool) (p : Addr) (H1 : Hp) (J : It) (Qd : Hp → Prop) (σ0 : L2.St) (D : Addr), σ0 = [some (.ref x), some (.ref p), none] → xs.length ≤ 900 → Sq H1 p xs → H1 D = none → Walk J xs.length (fun H' => H' p = H1 p) (YAt xs) →
        (∀ i v, xs[i]? = some v → (bs i = true ∧ ∃ a b, RatV H1 v a b) ∨ (bs i = false ∧ NoRat H1 v)) →
        (∀ H2, Sm [] [] H1 H2 → H2 D = some (.lst (((List.range xs.length).map bs).map V.bl)) → Qd H2) →
        LcW J (gName 2) tYes (tCall spRatio [] E0 (tCons (tVar 2) tNil)) [2] σ0 H1 D Qd := by
      intro xs bs p H1 J Qd σ0 D e0 hl hp nD w hb hd
      subst e0
      refine lc_list' w (Dm := []) (R := fun i v _ => v = .bl (bs i)) (P := fun _ _ => True) nD (by omega) trivial (fun _ _ _ _ h _ => h) (fun _ _ _ _ _ _ => trivial) (fun H2 s2 => hp.eq s2) ?_ ?_
      · intro i y H2 H3 C hi s2 _ _ hy hc
        obtain ⟨rfl, hy⟩ := hy
        walk_at "rd"
        refine ⟨_, rfl, ?_⟩
        rcases hb i y hy with ⟨b1, a, b, h⟩ | ⟨b1, h⟩
        · exact .inl ⟨a, b, h.m s2, fun H4 s4 => hc _ _ s4 (by rw [b1]) trivial⟩
        · exact .inr ⟨h.m s2, fun H4 s4 => hc _ _ s4 (by rw [b1]) trivial⟩
      · intro acc H2 s2 hD hl2 hr _
        refine hd H2 s2 ?_
        rw [hD, List.map_map]
        exact congrArg (fun z => some (HO.lst z)) (acc_of hl2 hr)
    rcases h with ⟨p, xs, l, rfl, hp, hr2, hl, k⟩ | ⟨⟨n, hn, n1, n2⟩, k⟩ | ⟨p, xs, rfl, hp, hl, hany, hno, k⟩
    · refine nt_of fun p1 H1 np s1 h1 => ?_
      obtain ⟨n, hn, hk⟩ := hp.an
      refine isiT_of (hn.m s1) h1 hk.symm ⟨_, rfl, iteF ?_⟩
      have hp1 := hp.m s1
      have hrl := hr2.1
      refine ⟨p, xs, rfl, hp1, fun J w D nD => first xs (fun _ => true) p H1 J _ _ D rfl (by omega) hp1 nD w (fun i v e => .inl ⟨rfl, ?_⟩) fun H2 s2 hD => ?_⟩
      · obtain ⟨a, b, r, _⟩ := hr2.2 i v e
        exact ⟨a, b, r.m s1⟩
      · refine ⟨D, _, rfl, L2.SqL.of hD, ?_⟩
        refine ⟨_, rfl, ?_⟩
        have e : ((List.range xs.length).map (fun _ => true)).all id = true := by simp
        rw [e]
        refine iteF ?_
        have s02 := s1.trans s2
        have hp2 := hp.m s02
        refine ⟨p, xs, rfl, hp2, fun J2 w2 D2 nD2 => ?_⟩
        refine lc_list' w2 (Dm := []) (R := fun i v H => IsQ H v (cf l i)) (P := fun _ _ => True) nD2 (by omega) trivial (fun _ _ _ _ h s => h.m s) (fun _ _ _ _ _ _ => trivial) (fun H2 s2 => hp2.eq s2) ?_ ?_
        · intro i y H3 H4 C hi s3 _ _ hy hc
          obtain ⟨rfl, hy⟩ := hy
          obtain ⟨a, b, r, za, zb, e⟩ := hr2.2 i y hy
          walk_at "rd"
          refine ⟨_, _, rfl, .inl ⟨a, b, r.m (s02.trans s3), Nat.lt_of_lt_of_le zb (Nat.pow_le_pow_right (by decide) (by decide)), fun u H5 s5 hu => hc _ _ s5 ?_ trivial⟩⟩
          rw [← e]
          exact hu
        · intro acc H3 s3 hD3 hl3 hr3 _
          have hq : Qs H3 acc ((List.range l.length).map (cf l)) := qs_of (by omega) hr3
          have el : (List.range l.length).map (cf l) = l := ext_cf (by simp) fun i => by
            rw [cf_map]
            by_cases hi : i < l.length
            · rw [if_pos hi]
            · rw [if_neg hi, cf_ge (by omega)]
          rw [el] at hq
          refine ⟨D2, acc, rfl, .inl ⟨L2.SqL.of hD3, fun q nq => ?_⟩⟩
          have s4 : Sm [] [] H3 (upd H3 q (.tup acc)) := Sm.new nq
          refine ⟨_, l, rfl, ⟨q, acc, rfl, upd_same, hq.m s4⟩, hl, fun u H5 s5 hu => ?_⟩
          have st := ((s02.trans s3).trans s4).trans s5
          obtain ⟨hx5, hq5⟩ := k u H5 st hu
          walk_at "rd"
          exact ⟨x, _, dx, [], rfl, hx5, T.cl, T.na, by decide, hq5⟩
    · refine nt_of fun p1 H1 np s1 h1 => ?_
      refine isiT_of (hn.m s1) h1 (b := false) (by simp [n1, n2]) ⟨_, rfl, iteT ⟨_, rfl, k.m s1⟩⟩
    · refine nt_of fun p1 H1 np s1 h1 => ?_
      obtain ⟨n, hn, hk⟩ := hp.an
      refine isiT_of (hn.m s1) h1 hk.symm ⟨_, rfl, iteF ?_⟩
      have hp1 := hp.m s1
      have : ∃ bs : Nat → Bool, ∀ i v, xs[i]? = some v → (bs i = true ∧ ∃ a b, RatV H1 v a b) ∨ (bs i = false ∧ NoRat H1 v) := by
        classical
        refine ⟨fun i => decide (∃ v a b, xs[i]? = some v ∧ RatV H1 v a b), fun i v e => ?_⟩
        by_cases z : ∃ v a b, xs[i]? = some v ∧ RatV H1 v a b
        · left
          refine ⟨by simpa using z, ?_⟩
          obtain ⟨v', a, b, e', r⟩ := z
          rw [e] at e'
          cases e'
          exact ⟨a, b, r⟩
        · right
          refine ⟨by simpa using z, ?_⟩
          rcases hany v (List.mem_of_getElem? e) with ⟨a, b, r⟩ | r
          · exact absurd ⟨v, a, b, e, r.m s1⟩ z
          · exact r.m s1
      obtain ⟨bs, hbs⟩ := this
      refine ⟨p, xs, rfl, hp1, fun J w D nD => first xs bs p H1 J _ _ D rfl (by omega) hp1 nD w hbs fun H2 s2 hD => ?_⟩
      refine ⟨D, _, rfl, L2.SqL.of hD, ?_⟩
      refine ⟨_, rfl, ?_⟩
      have e : ((List.range xs.length).map bs).all id = false := by
        obtain ⟨v, hv, hz⟩ := hno
        obtain ⟨i, hi, e⟩ := List.mem_iff_getElem.mp hv
        have ei : xs[i]? = some v := by rw [List.getElem?_eq_getElem hi, e]
        have hb : bs i = false := by
          rcases hbs i v ei with ⟨_, a, b, r⟩ | ⟨h, _⟩
          · exact absurd r (fun r => (hz.m s1).not r)
          · exact h
        rw [← Bool.not_eq_true, List.all_eq_true]
        intro z
        have := z (bs i) (List.mem_map.mpr ⟨i, List.mem_range.mpr hi, rfl⟩)
        rw [hb] at this
        cases this
      rw [e]
      exact iteT ⟨_, rfl, k.m (s1.trans s2)⟩
end
/-- Poly(v) -/
def spPoly (C R : Addr) : Sp := fun vs H Q E => ∃ v, vs = [v] ∧
  ((∃ p xs l, v = .ref p ∧ Sq H p xs ∧ Rs H xs l ∧ l.length ≤ 900 ∧ ∀ u H', Sm [] [] H H' → PoV C H' u (strip l) → Q u H') ∨
  ((∃ n, An H v n ∧ n ≠ "tuple" ∧ n ≠ "list") ∧ Exn R [("row", v)] H E) ∨
  (∃ p xs, v = .ref p ∧ Sq H p xs ∧ xs.length ≤ 900 ∧ (∀ x ∈ xs, AnyR H x) ∧ (∃ x ∈ xs, NoRat H x) ∧ Exn R [("row", v)] H E))
theorem Rs.m {D : List Addr} {H H' : Hp} {xs : List V} {l : List Rat} (h : Rs H xs l) (s : Sm D [] H H') : Rs H' xs l := ⟨h.1, fun i v e => (h.2 i v e).m s⟩
theorem AnyR.m {H H' : Hp} {v : V} (h : AnyR H v) (s : Sm [] [] H H') : AnyR H' v := by
  rcases h with ⟨a, b, h⟩ | h
  · exact .inl ⟨a, b, h.m s⟩
  · exact .inr (h.m s)
theorem pe_poly {X : Cx} {CX : CXT} {j k : Nat} {E : XK} {p pos : Pos} {e : Expr} {es : List Expr} {t : TA} (T : Tx X.K X.mg) (c : MkC X.prog X.w X.K X.mg X.base CX k (He.ga X.K "Poly") (spInit (He.ga X.K "Poly") "numbers" (SPoly (He.ga X.K "BadRow")))) (hr : Room j X.A) (hk : k + 1 ≤ j) (hx : Passes CX X E) (ha : PA X (e :: es) t)
    (hg : Gl X "Poly" := by rfl) (he : starEach (e :: es) X.env = (false, eval e X.env) :: starEach es X.env := by rfl) (hpl : (backTo pos (starEach es X.env)).any (·.1) = false := by rfl) :
    PE X (.Call (.Name "Poly" p) (e :: es) [] pos) (tCall (spPoly (He.ga X.K "Poly") (He.ga X.K "BadRow")) [] E t) := by
  obtain ⟨fd, ps, F, b⟩ := c.ex
  have h := pe_make (p := p) (pos := pos) T.mkP F (hr.mono hk) hg T.g_Poly b .nil hx (pa_wk ha) (by decide) he hpl
  refine pe_imp h fun σ H Q q => ⟨_, q, fun vs H1 z x dx nx ndx hne => ?_⟩
  rw [List.append_nil] at z ⊢
  obtain ⟨v, rfl, z⟩ := z
  have s1 : Sm [] [] H1 (upd (upd H1 dx (.own x)) x (.ins (He.ga X.K "Poly") dx [])) := (Sm.new ndx).trans (Sm.new (by rw [upd_ne hne.symm]; exact nx))
  refine ⟨x, dx, v, rfl, upd_same, ?_⟩
  rcases z with ⟨p, xs, l, rfl, hp, hr2, hl, k⟩ | ⟨⟨n, hn, n1, n2⟩, k⟩ | ⟨p, xs, rfl, hp, hl, hany, ⟨y, hy, hno⟩, k⟩
  · refine .inl ⟨p, xs, l, rfl, hp.m s1, hr2.m s1, hl, fun u H2 s2 hu => ?_⟩
    have hx2 := s2.ins (C := He.ga X.K "Poly") (dx := dx) (fs := []) (upd_same (H := upd H1 dx (.own x)))
    have keep : ∀ a ys, H2 a = some (.tup ys) → upd H2 x (.ins (He.ga X.K "Poly") dx [("numbers", u)]) a = some (.tup ys) := fun a ys e => by
      have hn : a ≠ x := fun z => by rw [z, hx2] at e; cases e
      rw [upd_ne hn]
      exact e
    refine ⟨hx2, rfl, k _ _ (fun a o e => ?_) ⟨x, dx, u, rfl, upd_same, ?_⟩⟩
    · have hn : a ≠ x := ne_of_none e nx
      rcases (s1.trans s2) a o e with z | ⟨m, _⟩ | ⟨m, _⟩
      · rw [upd_ne hn]; exact .inl z
      · cases m
      · cases m
    · obtain ⟨q, vs, rfl, hq, hv⟩ := hu
      exact ⟨q, vs, rfl, keep _ _ hq, hv.mo fun v r z => let ⟨a, e, z⟩ := z; ⟨a, e, keep _ _ z⟩⟩
  · exact .inr (.inl ⟨⟨n, hn.m s1, n1, n2⟩, k.m s1⟩)
  · exact .inr (.inr ⟨p, xs, rfl, hp.m s1, hl, fun x hx => (hany x hx).m s1, ⟨y, hy, hno.m s1⟩, k.m s1⟩)
end G3
end
section
set_option maxHeartbeats 4000000
namespace G3
open PySem PySem.Spec PyProof.Rows L2
local macro_rules | `(tactic| walk_at "rd") => `(tactic| simp only [wipe, sDPut, tDGet, tDisp, tPairs, tBM0, tBM, tBreak, sFld, tPar3, tRevL, tLstRg, tRg1, tRg2, gSub, rSetL,  tSl, tNoPart, tPart, iRng1, iRng2, iRng3, tRevT, tLc_eq, tFor_eq, iEnumT, iSeq, iList, iTup, RZ.iZipA, tFld_eq, tMeth, tVar, tC, tOp, tUn, tCons, tNil, tCB, tCall, tRet, tSeq, tAsg, gName, tIfS, tIf, tTest, tB, tNot, tAnd, tOr, tNotV, tAndV, tOrV, rI0_int, rI_int, rU_int, rEq_int, rNe_int, tPar, tNext, tDrop, tTup_nt, tLst_nl, tMkBN, tMkBR, cxOf_K, L2.start, List.map_cons, List.map_nil, List.length_cons, List.length_nil, List.cons_append, List.nil_append, List.append_nil, List.replicate_succ, List.replicate_zero, Nat.reduceAdd, Nat.reduceSub, Nat.sub_self, List.getElem?_cons_zero, List.getElem?_cons_succ, List.set_cons_zero, List.set_cons_succ, Option.some.injEq, V.int.injEq, V.bl.injEq, exists_eq_left', exists_eq_left, exists_eq_right, exists_eq_right', true_and, and_true, if_true, if_false, ite_true, ite_false, Bool.false_eq_true, Bool.not_true, Bool.not_false, reduceIte])
local macro_rules | `(tactic| walk_at "ix") => `(tactic| repeat (first | refine Sq.ix (by assumption) (by rfl) ?_ | (walk_at "rd"; refine ⟨Sz.mul (by assumption) (by assumption), ?_⟩)))
theorem rs_of {H : Hp} {acc : List V} {n m : Nat} {f : Nat → Rat} (hl : acc.length = n) (hr : ∀ i v, acc[i]? = some v → IsQ H v (f i)) (hq : ∀ i, i < n → Hq m (f i)) (hm : m ≤ 4400) : Rs H acc ((List.range n).map f) := by
  refine ⟨by simp [hl], fun i v e => ?_⟩
  have hi : i < n := by
    rcases Nat.lt_or_ge i acc.length with z | z
    · omega
    · rw [List.getElem?_eq_none z] at e; cases e
  rw [cf_map, if_pos hi]
  exact (hr i v e).r (hq i hi) hm
theorem plus_r {C : Addr} {H : Hp} {v u : V} {p q : Rat} {Q : VK} {E : XK} (hv : IsR H v p) (hu : IsR H u q) (k : ∀ r H', Sm [] [] H H' → IsQ H' r (p + q) → Q r H') :
    spBin C (fun a b c d => Rat.divInt (a * d + c * b) (b * d)) [v, u] H Q E := by
  obtain ⟨a, b, r1, za, zb, rfl⟩ := hv
  obtain ⟨c, d, r2, zc, zd, rfl⟩ := hu
  refine ⟨v, u, rfl, .inl ⟨a, b, c, d, r1, r2, za, zb, zc, zd, fun r H' s hr => k r H' s ?_⟩⟩
  rw [Rat.divInt_add_divInt _ _ (den_ne _ r1.pos) (den_ne _ r2.pos)]
  exact hr
theorem minus_r {C : Addr} {H : Hp} {v u : V} {p q : Rat} {Q : VK} {E : XK} (hv : IsR H v p) (hu : IsR H u q) (k : ∀ r H', Sm [] [] H H' → IsQ H' r (p - q) → Q r H') :
    spBin C (fun a b c d => Rat.divInt (a * d - c * b) (b * d)) [v, u] H Q E := by
  obtain ⟨a, b, r1, za, zb, rfl⟩ := hv
  obtain ⟨c, d, r2, zc, zd, rfl⟩ := hu
  refine ⟨v, u, rfl, .inl ⟨a, b, c, d, r1, r2, za, zb, zc, zd, fun r H' s hr => k r H' s ?_⟩⟩
  rw [Rat.divInt_sub_divInt _ _ (den_ne _ r1.pos) (den_ne _ r2.pos)]
  exact hr
theorem times_r {C : Addr} {H : Hp} {v u : V} {p q : Rat} {Q : VK} {E : XK} (hv : IsR H v p) (hu : IsR H u q) (k : ∀ r H', Sm [] [] H H' → IsQ H' r (p * q) → Q r H') :
    spBin C (fun a b c d => Rat.divInt (a * c) (b * d)) [v, u] H Q E := by
  obtain ⟨a, b, r1, za, zb, rfl⟩ := hv
  obtain ⟨c, d, r2, zc, zd, rfl⟩ := hu
  refine ⟨v, u, rfl, .inl ⟨a, b, c, d, r1, r2, za, zb, zc, zd, fun r H' s hr => k r H' s ?_⟩⟩
  rw [Rat.divInt_mul_divInt]
  exact hr
theorem share_r {C : Addr} {H : Hp} {v u : V} {p q : Rat} {Q : VK} {E : XK} (hv : IsR H v p) (hu : IsR H u q) (hq : q ≠ 0) (k : ∀ r H', Sm [] [] H H' → IsQ H' r (p / q) → Q r H') :
    spShare C [v, u] H Q E := by
  obtain ⟨a, b, r1, za, zb, rfl⟩ := hv
  obtain ⟨c, d, r2, zc, zd, rfl⟩ := hu
  have hc : c ≠ 0 := fun z => hq (by rw [z, Rat.zero_divInt])
  refine ⟨v, u, rfl, .inl ⟨a, b, c, d, r1, r2, za, zb, zc, zd, fun _ r H' s hr => k r H' s ?_, fun z => absurd z hc⟩⟩
  have e : Rat.divInt a b / Rat.divInt c d = Rat.divInt (a * d) (b * c) := by
    rw [Rat.div_def, Rat.inv_divInt, Rat.divInt_mul_divInt]
  rw [e]
  exact hr
section
variable {P : Program} {w : World} {K : PySem.W.Frag} {mg : Str → Option Value} {base : Heap}
abbrev N_Poly_degree : List Str := ["self"]
theorem sc_Poly_degree : FnScope N_Poly_degree ["self"] (defScope sPoly_degree) := ⟨rfl, rfl, rfl, by decide +kernel, rfl, by decide +kernel, by decide +kernel⟩
def spDeg (C : Addr) : Sp := fun vs H Q _ => ∃ v l, vs = [v] ∧ PoV C H v l ∧ Q (.int ((l.length : Int) - 1)) H
theorem ok_degree (T : Tx K mg) : Met P w K mg base CX0 1 (He.ga K "Poly") "degree" (spDeg (He.ga K "Poly")) := by
  obtain ⟨fd, F⟩ := T.m_Poly_degree
  refine met0 F T.t_degree sc_Poly_degree (ps := ["self"]) (fun _ _ _ _ _ _ us hl => match us, hl with | [_], _ => rfl) (fun vs H Q E h => ?_) (fun cdv A outer s H vs Q E hr h => ?_)
  · obtain ⟨v, l, rfl, _⟩ := h
    rfl
  · obtain ⟨v, l, rfl, hv, k⟩ := h
    refine ⟨_, (pss_one (ps_ret (pe_op op_sub (pe_callB call_len_seq (by rfl) T.b_len (by decide +kernel) (pa_cons (pe_fld (pv 0) rfl) pa_nil)) pe_int))), ?_⟩
    walk_at "rd"
    refine po_num T hv fun p vs hp hq => ⟨p, vs, rfl, .inr (L2.SqT.of hp), ?_⟩
    rw [hq.1]
    exact k
abbrev N_poly_told : List Str := ["value"]
theorem sc_poly_told : FnScope N_poly_told ["value"] (defScope s_poly_told) := ⟨rfl, rfl, rfl, by decide +kernel, rfl, by decide +kernel, by decide +kernel⟩
def spPT (C : Addr) : Sp := fun vs H Q _ => ∃ v, vs = [v] ∧ ((∃ l, PoV C H v l ∧ Q v H) ∨ (∃ q, IsR H v q ∧ ∀ u H', Sm [] [] H H' → PoV C H' u (strip [q]) → Q u H'))
theorem ok_poly_told (T : Tx K mg) : Cal P w K mg base CX0 6 "poly_told" (spPT (He.ga K "Poly")) := by
  have c_init := ok_init (P := P) (w := w) (base := base) T
  obtain ⟨fd, F⟩ := T.f_poly_told
  refine cal0 F T.g_poly_told sc_poly_told (ps := ["value"]) (fun _ _ _ _ _ _ us hl => match us, hl with | [_], _ => rfl) (fun vs H Q E h => ?_) (fun cdv A outer s H vs Q E hr h => ?_)
  · obtain ⟨v, rfl, _⟩ := h
    rfl
  · obtain ⟨v, rfl, h⟩ := h
    refine ⟨_, (pss_one (ps_ret (pe_ifExp (pt_val (pe_callB call_isi (by rfl) T.b_isinstance (by decide +kernel) (pa_cons (pv 0) (pa_cons (pe_glob (v := .ref (He.ga K "Poly")) rfl T.g_Poly rfl) pa_nil)))) (pv 0) (pe_poly T c_init hr (by decide) passL (pa_cons (pe_tup (pa_cons (pv 0) pa_nil)) pa_nil))))), ?_⟩
    walk_at "rd"
    rcases h with ⟨l, hv, k⟩ | ⟨q, hr2, k⟩
    · obtain ⟨a, dx, u, rfl, ha, hu⟩ := id hv
      exact ⟨_, _, _, _, _, rfl, .own _, .base (.ins ha T.cl T.kc T.kc2 T.kc3 T.kc4), T.k_own, _, rfl, iteT k⟩
    · have fin : NT [v] H fun x H1 => spPoly (He.ga K "Poly") (He.ga K "BadRow") [x] H1 Q E0 := by
        refine nt_of fun p H1 np s1 h1 => ⟨_, rfl, .inl ⟨p, [v], [q], rfl, .inl h1, ⟨rfl, fun i u e => ?_⟩, by show 1 ≤ 900; decide, fun u H2 s2 hu => k u H2 (s1.trans s2) hu⟩⟩
        cases i with
        | zero => cases e; exact hr2.m s1
        | succ i => simp at e
      obtain ⟨a, b, r, _⟩ := hr2
      cases r with
      | int n => exact ⟨_, _, _, _, _, rfl, .own _, .base (.int _), T.k_int, _, rfl, iteF fin⟩
      | sq h hb =>
        rcases h with h | h
        · exact ⟨_, _, _, _, _, rfl, .own _, .base (.tup h), T.k_tup, _, rfl, iteF fin⟩
        · exact ⟨_, _, _, _, _, rfl, .own _, .base (.lst h), T.k_lst, _, rfl, iteF fin⟩
abbrev N_added_up : List Str := ["ratios", "found", "ratio"]
theorem sc_added_up : FnScope N_added_up ["ratios"] (defScope s_added_up) := ⟨rfl, rfl, rfl, by decide +kernel, rfl, by decide +kernel, by decide +kernel⟩
def spAU : Sp := fun vs H Q _ => ∃ v l n, vs = [v] ∧ LQ H v l ∧ Hl n l ∧ l.length * (n + 1) + n + 2 ≤ 4400 ∧ ∀ u H', Sm [] [] H H' → IsQ H' u (sm (cf l) l.length) → Q u H'
theorem ok_added_up (T : Tx K mg) : Cal P w K mg base CX0 5 "added_up" spAU := by
  have c_plus := ok_plus (P := P) (w := w) (base := base) T
  obtain ⟨fd, F⟩ := T.f_added_up
  refine cal0 F T.g_added_up sc_added_up (ps := ["ratios"]) (fun _ _ _ _ _ _ us hl => match us, hl with | [_], _ => rfl) (fun vs H Q E h => ?_) (fun cdv A outer s H vs Q E hr h => ?_)
  · obtain ⟨v, l, n, rfl, _⟩ := h
    rfl
  · obtain ⟨v, l, n, rfl, hv, hh, hz, k⟩ := h
    refine ⟨_, (pss_cons (ps_set (i := 1) sc_added_up.nd rfl (Or.inl rfl) (pe_tup (pa_cons pe_int (pa_cons pe_int pa_nil))))
      (pss_cons (ps_for PassesOwn.never rfl (pi_seq (pv 0)) (pg_name (i := 2) sc_added_up.nd rfl (Or.inl rfl)) (pss_one (ps_set (i := 1) sc_added_up.nd rfl (Or.inl rfl) (pe_cal c_plus hr (by decide) passL (pa_cons (pv 1) (pa_cons (pv 2) pa_nil))))))
      (pss_one (ps_ret (pv 1))))), ?_⟩
    walk_at "rd"
    refine nt_of fun p H1 np s1 h1 => ?_
    obtain ⟨a, xs, rfl, ha, hq⟩ := hv
    have ha1 := s1.lst ha List.not_mem_nil
    have hxl := hq.1
    have step : ∀ i, i ≤ l.length → i * (n + 1) + 1 ≤ 4400 := fun i hi => by
      have := Nat.mul_le_mul_right (n + 1) hi
      omega
    refine ⟨a, xs, rfl, .inr ha1, fun J w => for_it' w (fun i σ H' => Sm [] [] H1 H' ∧ ∃ u o, σ = [some (.ref a), some u, o] ∧ IsQ H' u (sm (cf l) i)) ?_ ?_ ?_ ?_⟩
    · exact ⟨Sm.refl, _, _, rfl, p, rfl, h1⟩
    · intro i σ H2 _ z
      exact Sq.eq (.inr ha1) z.1
    · intro i x σ H2 H3 hi z y
      obtain ⟨s2, u, o, rfl, hu⟩ := z
      obtain ⟨rfl, y⟩ := y
      walk_at "rd"
      refine plus_r (hu.r (hq_sm (n := n) fun j _ => hh j) (step i (by omega))) (((hq.get y).m (s1.trans s2)).r (hh i) (by omega)) fun r H4 s4 hr4 => ?_
      exact ⟨s2.trans s4, r, _, rfl, hr4⟩
    · intro σ H2 z
      obtain ⟨s2, u, o, rfl, hu⟩ := z
      walk_at "rd"
      rw [hxl] at hu
      exact k _ _ (s1.trans s2) hu
abbrev N_power_number : List Str := ["one", "other", "place", "start", "stop", "k"]
theorem sc_power_number : FnScope N_power_number ["one", "other", "place"] (defScope s_power_number) := ⟨rfl, rfl, rfl, by decide +kernel, rfl, by decide +kernel, by decide +kernel⟩
def spPN (C : Addr) : Sp := fun vs H Q _ => ∃ v u a b i n1 n2, vs = [v, u, .int (i : Nat)] ∧ PoV C H v a ∧ PoV C H u b ∧ Hl n1 a ∧ Hl n2 b ∧ i ≤ 900 ∧ a.length ≤ 900 ∧ (min a.length b.length + 1) * (n1 + n2 + 2) ≤ 4400 ∧ ∀ r H', Sm [] [] H H' → IsQ H' r (conv (cf a) (cf b) i) → Q r H'
theorem ok_power_number (T : Tx K mg) : Cal P w K mg base CX0 6 "power_number" (spPN (He.ga K "Poly")) := by
  have c_times := ok_times (P := P) (w := w) (base := base) T
  have c_added_up := ok_added_up (P := P) (w := w) (base := base) T
  obtain ⟨fd, F⟩ := T.f_power_number
  refine cal0 F T.g_power_number sc_power_number (ps := ["one", "other", "place"]) (fun _ _ _ _ _ _ us hl => match us, hl with | [_, _, _], _ => rfl) (fun vs H Q E h => ?_) (fun cdv A outer s H vs Q E hr h => ?_)
  · obtain ⟨v, u, a, b, i, n1, n2, rfl, _⟩ := h
    rfl
  · obtain ⟨v, u, a, b, i, n1, n2, rfl, hv, hu, h1, h2, hi, ha, hz, k⟩ := h
    refine ⟨_, (pss_cons (ps_par (i := 3) (j := 4) rfl sc_power_number.nd rfl rfl (by decide) rfl rfl (pa_cons (pe_callB (cr_max rfl) (by rfl) T.b_max (by decide +kernel) (pa_cons (pe_lst (pa_cons pe_int (pa_cons (pe_op op_sub (pe_op op_add (pv 2) pe_int) (pe_callB call_len_seq (by rfl) T.b_len (by decide +kernel) (pa_cons (pe_fld (pv 1) rfl) pa_nil))) pa_nil))) pa_nil)) (pa_cons (pe_callB (cr_min rfl) (by rfl) T.b_min (by decide +kernel) (pa_cons (pe_lst (pa_cons (pe_op op_add (pv 2) pe_int) (pa_cons (pe_callB call_len_seq (by rfl) T.b_len (by decide +kernel) (pa_cons (pe_fld (pv 0) rfl) pa_nil)) pa_nil))) pa_nil)) pa_nil)) (by rfl))
      (pss_one (ps_ret (pe_cal c_added_up hr (by decide) pass0 (pa_cons (pe_lc (own := [("k", 5)]) rfl sc_power_number.nd (pi_range2 (by rfl) T.b_range (pa_cons (pv 3) (pa_cons (pv 4) pa_nil))) (blkOk_by (own := [("k", 5)]) (N := N_power_number) (sc := defScope s_power_number) (by decide +kernel)) (fun _ _ _ _ _ => (pg_name (i := 5) sc_power_number.nd rfl (Or.inl rfl) (Or.inr rfl))) (fun _ _ _ _ _ => pts_nil) (fun _ _ _ _ _ => (pe_cal c_times hr (by decide) passL (pa_cons (pe_ix (ix_tupK (K := K) rfl) (pe_fldK (K := K) rfl (pv 0) rfl) (pv 5) (fun _ _ => rfl)) (pa_cons (pe_ix (ix_tupK (K := K) rfl) (pe_fldK (K := K) rfl (pv 1) rfl) (pe_op op_sub (pv 2) (pv 5)) (fun _ _ => rfl)) pa_nil))))) pa_nil))))), ?_⟩
    walk_at "rd"
    refine po_num T hu fun p vs hp hq => ⟨p, vs, rfl, .inr (L2.SqT.of hp), ?_⟩
    rw [hq.1]
    refine nl_of fun q H1 _ s1 hq1 => ⟨q, [0, (i : Int) + 1 - b.length], rfl, L2.SqL.of hq1, by simp, fun lo hlo hlo2 => ?_⟩
    refine po_num T (hv.m s1) fun p2 vs2 hp2 hq2 => ⟨p2, vs2, rfl, .inr (L2.SqT.of hp2), ?_⟩
    rw [hq2.1]
    refine nl_of fun q2 H2 _ s2 hq3 => ⟨q2, [(i : Int) + 1, a.length], rfl, L2.SqL.of hq3, by simp, fun hi2 hhi hhi2 => ?_⟩
    have e1 : lo = ((i + 1 - b.length : Nat) : Int) := by
      have a1 := hlo2 0 (by simp)
      have a2 := hlo2 ((i : Int) + 1 - b.length) (by simp)
      rcases List.mem_cons.mp hlo with z | z
      · omega
      · have := List.mem_singleton.mp z; omega
    have e2 : hi2 = ((min (i + 1) a.length : Nat) : Int) := by
      have a1 := hhi2 ((i : Int) + 1) (by simp)
      have a2 := hhi2 (a.length : Int) (by simp)
      rcases List.mem_cons.mp hhi with z | z
      · omega
      · have := List.mem_singleton.mp z; omega
    subst e1 e2
    have s12 := s1.trans s2
    have en : (((min (i + 1) a.length : Nat) : Int) - ((i + 1 - b.length : Nat) : Int)).toNat = min (i + 1) a.length - (i + 1 - b.length) := by omega
    refine ⟨_, _, rfl, _, _, rfl, ⟨by omega, by omega, by omega, by omega⟩, ?_⟩
    rw [en]
    intro D nD
    generalize hloe : i + 1 - b.length = lo at *
    generalize hhie : min (i + 1) a.length = hi3 at *
    refine lc_list' (walk_range (lo := ((lo : Nat) : Int)) (n := hi3 - lo)) (Dm := []) (R := fun k v H => IsQ H v (cf a (lo + k) * cf b (i - (lo + k)))) (P := fun _ _ => True) nD (by omega) trivial (fun _ _ _ _ h s => h.m s) (fun _ _ _ _ _ _ => trivial) (fun _ _ => trivial) ?_ ?_
    · intro k x H3 H4 C hk s3 _ _ hy hc
      obtain ⟨rfl, rfl⟩ := hy
      have s123 := s12.trans s3
      walk_at "rd"
      have hv3 := hv.m s123
      have hu3 := hu.m s123
      refine po_num T hv3 fun p3 vs3 hp3 hq3 => ?_
      obtain ⟨x1, ex1, hx1⟩ := hq3.at_ (i := lo + k) (by omega)
      refine SqT.ix hp3 (v := x1) (by rw [show ((lo : Nat) : Int) + (k : Nat) = ((lo + k : Nat) : Int) by omega]; exact atI_nat ex1) ?_
      refine po_num T hu3 fun p4 vs4 hp4 hq4 => ?_
      obtain ⟨x2, ex2, hx2⟩ := hq4.at_ (i := i - (lo + k)) (by omega)
      refine SqT.ix hp4 (v := x2) (by rw [show (i : Int) - (((lo : Nat) : Int) + (k : Nat)) = ((i - (lo + k) : Nat) : Int) by omega]; exact atI_nat ex2) ?_
      have hb1 : n1 ≤ 4400 ∧ n2 ≤ 4400 := by
        have := Nat.le_mul_of_pos_left (n1 + n2 + 2) (show 0 < min a.length b.length + 1 by omega)
        omega
      refine times_r (hx1.r (h1 _) hb1.1) (hx2.r (h2 _) hb1.2) fun r H4 s4 hr4 => hc _ _ s4 hr4 trivial
    · intro acc H3 s3 hD hl3 hr3 _
      have hq : Qs H3 acc ((List.range (hi3 - lo)).map fun k => cf a (lo + k) * cf b (i - (lo + k))) := qs_of hl3 hr3
      have hm : hi3 - lo ≤ min a.length b.length := by omega
      refine ⟨_, _, n1 + n2, rfl, ⟨D, acc, rfl, hD, hq⟩, hl_of ?_ ?_, ?_, fun u H4 s4 hu4 => k u H4 ((s12.trans s3).trans s4) ?_⟩
      · have := (h1 0).pos; omega
      · intro j hj
        rw [cf_map, if_pos (by simpa using hj)]
        exact (h1 _).mul (h2 _)
      · rw [List.length_map, List.length_range]
        have := Nat.mul_le_mul_right (n1 + n2 + 1) hm
        have e3 : (min a.length b.length + 1) * (n1 + n2 + 2) = min a.length b.length * (n1 + n2 + 1) + min a.length b.length + (n1 + n2 + 2) := by
          rw [Nat.add_mul, Nat.one_mul, show n1 + n2 + 2 = (n1 + n2 + 1) + 1 by omega, Nat.mul_add]; omega
        omega
      · rw [conv_part hloe.symm hhie.symm]
        rw [List.length_map, List.length_range] at hu4
        have e4 : sm (cf ((List.range (hi3 - lo)).map fun k => cf a (lo + k) * cf b (i - (lo + k)))) (hi3 - lo) = sm (fun k => cf a (lo + k) * cf b (i - (lo + k))) (hi3 - lo) := sm_congr fun j hj => by rw [cf_map, if_pos hj]
        rw [e4] at hu4
        exact hu4
abbrev N_multiplied : List Str := ["one", "other", "k"]
theorem sc_multiplied : FnScope N_multiplied ["one", "other"] (defScope s_multiplied) := ⟨rfl, rfl, rfl, by decide +kernel, rfl, by decide +kernel, by decide +kernel⟩
def spMul (C : Addr) : Sp := fun vs H Q _ => ∃ v u a b n1 n2, vs = [v, u] ∧ PoV C H v a ∧ PoV C H u b ∧ Hl n1 a ∧ Hl n2 b ∧ a.length ≤ 400 ∧ b.length ≤ 400 ∧ (min a.length b.length + 1) * (n1 + n2 + 2) ≤ 4400 ∧ ∀ r H', Sm [] [] H H' → PoV C H' r (pmul a b) → Q r H'
theorem ok_multiplied (T : Tx K mg) : Cal P w K mg base CX0 7 "multiplied" (spMul (He.ga K "Poly")) := by
  have c_power_number := ok_power_number (P := P) (w := w) (base := base) T
  have c_init := ok_init (P := P) (w := w) (base := base) T
  obtain ⟨fd, F⟩ := T.f_multiplied
  refine cal0 F T.g_multiplied sc_multiplied (ps := ["one", "other"]) (fun _ _ _ _ _ _ us hl => match us, hl with | [_, _], _ => rfl) (fun vs H Q E h => ?_) (fun cdv A outer s H vs Q E hr h => ?_)
  · obtain ⟨v, u, a, b, n1, n2, rfl, _⟩ := h
    rfl
  · obtain ⟨v, u, a, b, n1, n2, rfl, hv, hu, h1, h2, ha, hb, hz, k⟩ := h
    refine ⟨_, (pss_one (ps_ret (pe_poly T c_init hr (by decide) passL (pa_cons (pe_lc (own := [("k", 2)]) rfl sc_multiplied.nd (pi_range1 (by rfl) T.b_range (pa_cons (pe_op op_add (pe_callB call_len_seq (by rfl) T.b_len (by decide +kernel) (pa_cons (pe_fld (pv 0) rfl) pa_nil)) (pe_callB call_len_seq (by rfl) T.b_len (by decide +kernel) (pa_cons (pe_fld (pv 1) rfl) pa_nil))) pa_nil)) (blkOk_by (own := [("k", 2)]) (N := N_multiplied) (sc := defScope s_multiplied) (by decide +kernel)) (fun _ _ _ _ _ => (pg_name (i := 2) sc_multiplied.nd rfl (Or.inl rfl) (Or.inr rfl))) (fun _ _ _ _ _ => pts_nil) (fun _ _ _ _ _ => (pe_cal c_power_number hr (by decide) pass0 (pa_cons (pv 0) (pa_cons (pv 1) (pa_cons (pv 2) pa_nil)))))) pa_nil)))), ?_⟩
    walk_at "rd"
    refine po_num T hv fun p vs hp hq => ⟨p, vs, rfl, .inr (L2.SqT.of hp), ?_⟩
    rw [hq.1]
    refine po_num T hu fun p2 vs2 hp2 hq2 => ⟨p2, vs2, rfl, .inr (L2.SqT.of hp2), ?_⟩
    rw [hq2.1]
    refine ⟨_, rfl, by omega, by omega, ?_⟩
    rw [show ((a.length : Int) + (b.length : Int)).toNat = a.length + b.length by omega]
    intro D nD
    refine lc_list' (walk_range (lo := 0) (n := a.length + b.length)) (Dm := []) (R := fun k v H => IsQ H v (conv (cf a) (cf b) k)) (P := fun _ _ => True) nD (by omega) trivial (fun _ _ _ _ h s => h.m s) (fun _ _ _ _ _ _ => trivial) (fun _ _ => trivial) ?_ ?_
    · intro k x H3 H4 C hk s3 _ _ hy hc
      obtain ⟨rfl, rfl⟩ := hy
      walk_at "rd"
      exact ⟨_, _, _, _, k, _, _, by rw [Int.zero_add], hv.m s3, hu.m s3, h1, h2, by omega, by omega, hz, fun r H4 s4 hr4 => hc _ _ s4 hr4 trivial⟩
    · intro acc H3 s3 hD hl3 hr3 _
      have hb : min a.length b.length * (n1 + n2 + 1) + 1 ≤ 4400 := by
        have e3 : (min a.length b.length + 1) * (n1 + n2 + 2) = min a.length b.length * (n1 + n2 + 1) + min a.length b.length + (n1 + n2 + 2) := by
          rw [Nat.add_mul, Nat.one_mul, show n1 + n2 + 2 = (n1 + n2 + 1) + 1 by omega, Nat.mul_add]; omega
        omega
      exact ⟨_, rfl, .inl ⟨D, acc, _, rfl, .inr hD, rs_of hl3 hr3 (fun i _ => conv_hq h1 h2 i) hb, by simp; omega, fun u H4 s4 hu4 => k u H4 (s3.trans s4) hu4⟩⟩
abbrev N_summed : List Str := ["one", "other", "sign", "wide", "first", "second", "a", "b"]
theorem sc_summed : FnScope N_summed ["one", "other", "sign"] (defScope s_summed) := ⟨rfl, rfl, rfl, by decide +kernel, rfl, by decide +kernel, by decide +kernel⟩
def spSum (C : Addr) : Sp := fun vs H Q _ => ∃ v u s a b n1 n2, vs = [v, u, .int s] ∧ (s = 1 ∨ s = -1) ∧ PoV C H v a ∧ PoV C H u b ∧ Hl n1 a ∧ Hl n2 b ∧ a.length ≤ 400 ∧ b.length ≤ 400 ∧ n1 + n2 ≤ 4300 ∧ ∀ r H', Sm [] [] H H' → PoV C H' r (padd s a b) → Q r H'
theorem ok_summed (T : Tx K mg) : Cal P w K mg base CX0 6 "summed" (spSum (He.ga K "Poly")) := by
  have c_plus := ok_plus (P := P) (w := w) (base := base) T
  have c_init := ok_init (P := P) (w := w) (base := base) T
  obtain ⟨fd, F⟩ := T.f_summed
  refine cal0 F T.g_summed sc_summed (ps := ["one", "other", "sign"]) (fun _ _ _ _ _ _ us hl => match us, hl with | [_, _, _], _ => rfl) (fun vs H Q E h => ?_) (fun cdv A outer s H vs Q E hr h => ?_)
  · obtain ⟨v, u, s, a, b, n1, n2, rfl, _⟩ := h
    rfl
  · obtain ⟨v, u, sg, a, b, n1, n2, rfl, hs, hv, hu, h1, h2, ha, hb, hz, k⟩ := h
    refine ⟨_, (pss_cons (ps_set (i := 3) sc_summed.nd rfl (Or.inl rfl) (pe_callB (cr_max rfl) (by rfl) T.b_max (by decide +kernel) (pa_cons (pe_lst (pa_cons (pe_callB call_len_seq (by rfl) T.b_len (by decide +kernel) (pa_cons (pe_fld (pv 0) rfl) pa_nil)) (pa_cons (pe_callB call_len_seq (by rfl) T.b_len (by decide +kernel) (pa_cons (pe_fld (pv 1) rfl) pa_nil)) pa_nil))) pa_nil)))
      (pss_cons (ps_set (i := 4) sc_summed.nd rfl (Or.inl rfl) (pe_op op_catA (pe_fld (pv 0) rfl) (pe_op op_repA (pe_tup (pa_cons (pe_tup (pa_cons pe_int (pa_cons pe_int pa_nil))) pa_nil)) (pe_op op_sub (pv 3) (pe_callB call_len_seq (by rfl) T.b_len (by decide +kernel) (pa_cons (pe_fld (pv 0) rfl) pa_nil))))))
      (pss_cons (ps_set (i := 5) sc_summed.nd rfl (Or.inl rfl) (pe_op op_catA (pe_fld (pv 1) rfl) (pe_op op_repA (pe_tup (pa_cons (pe_tup (pa_cons pe_int (pa_cons pe_int pa_nil))) pa_nil)) (pe_op op_sub (pv 3) (pe_callB call_len_seq (by rfl) T.b_len (by decide +kernel) (pa_cons (pe_fld (pv 1) rfl) pa_nil))))))
      (pss_one (ps_ret (pe_poly T c_init hr (by decide) passL (pa_cons (pe_lc (own := [("a", 6), ("b", 7)]) rfl sc_summed.nd (RZ.pi_zipA (by rfl) T.b_zip (pa_cons (pv 4) (pa_cons (pv 5) pa_nil))) (blkOk_by (own := [("a", 6), ("b", 7)]) (N := N_summed) (sc := defScope s_summed) (by decide +kernel)) (fun _ _ _ _ _ => (pg_tupK (K := K) (n := 2) rfl rfl (pgs_cons (pg_name (i := 6) sc_summed.nd rfl (Or.inl rfl) (Or.inr rfl)) (pgs_cons (pg_name (i := 7) sc_summed.nd rfl (Or.inl rfl) (Or.inr rfl)) pgs_nil)))) (fun _ _ _ _ _ => pts_nil) (fun _ _ _ _ _ => (pe_cal c_plus hr (by decide) passL (pa_cons (pv 6) (pa_cons (pe_tup (pa_cons (pe_op op_mulS (pv 2) (pe_ix (ix_tupK (K := K) rfl) (pv 7) pe_int (fun _ _ => rfl))) (pa_cons (pe_ix (ix_tupK (K := K) rfl) (pv 7) pe_int (fun _ _ => rfl)) pa_nil))) pa_nil))))) pa_nil))))))), ?_⟩
    walk_at "rd"
    refine po_num T hv fun p vs hp hq => ⟨p, vs, rfl, .inr (L2.SqT.of hp), ?_⟩
    rw [hq.1]
    refine po_num T hu fun p2 vs2 hp2 hq2 => ⟨p2, vs2, rfl, .inr (L2.SqT.of hp2), ?_⟩
    rw [hq2.1]
    refine nl_of fun q H1 _ s1 hq1 => ⟨q, [(a.length : Int), b.length], rfl, L2.SqL.of hq1, by simp, fun wd hw1 hw2 => ?_⟩
    have e1 : wd = ((max a.length b.length : Nat) : Int) := by
      have a1 := hw2 (a.length : Int) (by simp)
      have a2 := hw2 (b.length : Int) (by simp)
      rcases List.mem_cons.mp hw1 with z | z
      · omega
      · have := List.mem_singleton.mp z; omega
    subst e1
    have e2 : ((max a.length b.length : Nat) : Int) - (a.length : Int) = ((max a.length b.length - a.length : Nat) : Int) := by omega
    have e3 : ((max a.length b.length : Nat) : Int) - (b.length : Int) = ((max a.length b.length - b.length : Nat) : Int) := by omega
    refine po_num T (hv.m s1) fun p3 vs3 hp3 hq3 => ?_
    refine nt_of fun p4 H2 _ s2 h4 => nt_of fun p5 H3 _ s3 h5 => ?_
    have s13 := (s1.trans s2).trans s3
    refine po_num T (hv.m s13) fun p6 vs6 hp6 hq6 => ⟨p6, vs6, rfl, .inr (L2.SqT.of hp6), ?_⟩
    rw [hq6.1, rI0_int, e2]
    refine pad_ok ((s2.trans s3).tup hp3) (hq3.m (s2.trans s3)) h5 (isQ_zero (s3.tup h4)) (by omega) (by omega) fun r1 us1 H4 s4 hr1 hus1 => ?_
    have s14 := s13.trans s4
    refine po_num T (hu.m s14) fun p7 vs7 hp7 hq7 => ?_
    refine nt_of fun p8 H5 _ s5 h8 => nt_of fun p9 H6 _ s6 h9 => ?_
    have s16 := (s14.trans s5).trans s6
    refine po_num T (hu.m s16) fun p10 vs10 hp10 hq10 => ⟨p10, vs10, rfl, .inr (L2.SqT.of hp10), ?_⟩
    rw [hq10.1, rI0_int, e3]
    refine pad_ok ((s5.trans s6).tup hp7) (hq7.m (s5.trans s6)) h9 (isQ_zero (s6.tup h8)) (by omega) (by omega) fun r2 us2 H7 s7 hr2 hus2 => ?_
    have s47 := (s5.trans s6).trans s7
    have hr17 := s47.tup hr1
    have hus17 := hus1.m s47
    have s17 := s14.trans s47
    refine ⟨r1, r2, us1, us2, rfl, .inr ⟨L2.SqT.of hr17, L2.SqT.of hr2, fun D nD => ?_⟩⟩
    have l1 : us1.length = max a.length b.length := by rw [hus1.1]; simp; omega
    have l2 : us2.length = max a.length b.length := by rw [hus2.1]; simp; omega
    have n1p := (h1 0).pos
    have n2p := (h2 0).pos
    have bnd : ∀ i, Hq (n1 + n2 + 1) (cf a i + (sg : Rat) * cf b i) := fun i => by have := hl_padd hs h1 h2 i; rwa [cf_padd] at this
    refine lc_list' (walk_zipT (K := K) (a := r1) (b := r2) (xs := us1) (ys := us2) (n := max a.length b.length) l1 l2) (Dm := []) (R := fun k v H => IsQ H v (cf a k + (sg : Rat) * cf b k)) (P := fun _ _ => True) nD (by omega) trivial (fun _ _ _ _ h s => h.m s) (fun _ _ _ _ _ _ => trivial) (fun H s => ⟨s.tup hr17, s.tup hr2⟩) ?_ ?_
    · intro i x H8 H9 C hi s8 _ _ hy hc
      obtain ⟨TT, x1, x2, rfl, nT, rfl, ex1, ex2⟩ := hy
      have s9 : Sm [] [] H8 (upd H8 TT (.tup [x1, x2])) := Sm.new nT
      have hx1 := hus17.get ex1
      have hx2 := hus2.get ex2
      rw [cf_pad] at hx1 hx2
      obtain ⟨a2, rfl, ha2⟩ := hx2
      have s89 := s8.trans s9
      refine gTup2 upd_same ⟨rfl, ?_⟩
      walk_at "rd"
      refine SqT.ix (s89.tup ha2) rfl ?_
      walk_at "rd"
      have zb : Sz (cf b i).num := (h2 i).szn (by omega)
      refine ⟨⟨by rcases hs with rfl | rfl <;> exact Nat.one_lt_two_pow (by decide), (Sz.mul zb zb).1⟩, ?_⟩
      refine SqT.ix (s89.tup ha2) rfl ?_
      refine nt_of fun p11 H10 _ s10 h11 => ?_
      have hr3 : IsR H10 (.ref p11) ((sg : Rat) * cf b i) := by
        refine ⟨sg * (cf b i).num, (cf b i).den, .sq (.inl h11) (by have := (cf b i).den_pos; omega), ?_, (h2 i).szd (by omega), ?_⟩
        · rcases hs with rfl | rfl
          · rw [Int.one_mul]; exact zb
          · show (-1 * (cf b i).num).natAbs < 2 ^ 4400
            rw [Int.neg_one_mul, Int.natAbs_neg]; exact zb
        · conv => rhs; rw [← rat_self (cf b i)]
          rcases hs with rfl | rfl
          · rw [Int.one_mul]; show _ = (1 : Rat) * _; grind
          · rw [Int.neg_one_mul, ← Rat.neg_divInt]
            have : ((-1 : Int) : Rat) = -1 := rfl
            rw [this]; grind
      exact plus_r (((hx1.m s89).m s10).r (h1 i)) hr3 fun r H11 s11 hr11 => hc _ _ ((s9.trans s10).trans s11) hr11 trivial
    · intro acc H8 s8 hD hl3 hr3 _
      exact ⟨_, rfl, .inl ⟨D, acc, _, rfl, .inr hD, rs_of hl3 hr3 (fun i _ => bnd i) (by omega), by simp; omega, fun u H9 s9 hu9 => k u H9 ((s17.trans s8).trans s9) hu9⟩⟩
end
end G3
end
section
set_option maxHeartbeats 4000000
namespace G3
open PySem PySem.Spec PyProof.Rows L2
local macro_rules | `(tactic| walk_at "rd") => `(tactic| simp only [wipe, sDPut, tDGet, tDisp, tPairs, tBM0, tBM, tBreak, sFld, tPar3, tRevL, tLstRg, tRg1, tRg2, gSub, rSetL,  tSl, tNoPart, tPart, iRng1, iRng2, iRng3, tRevT, tLc_eq, tFor_eq, iEnumT, iSeq, iList, iTup, RZ.iZipA, tFld_eq, tMeth, tVar, tC, tOp, tUn, tCons, tNil, tCB, tCall, tRet, tSeq, tAsg, gName, tIfS, tIf, tTest, tB, tNot, tAnd, tOr, tNotV, tAndV, tOrV, rI0_int, rI_int, rU_int, rEq_int, rNe_int, tPar, tNext, tDrop, tTup_nt, tLst_nl, tMkBN, tMkBR, cxOf_K, L2.start, List.map_cons, List.map_nil, List.length_cons, List.length_nil, List.cons_append, List.nil_append, List.append_nil, List.replicate_succ, List.replicate_zero, Nat.reduceAdd, Nat.reduceSub, Nat.sub_self, List.getElem?_cons_zero, List.getElem?_cons_succ, List.set_cons_zero, List.set_cons_succ, Option.some.injEq, V.int.injEq, V.bl.injEq, exists_eq_left', exists_eq_left, exists_eq_right, exists_eq_right', true_and, and_true, if_true, if_false, ite_true, ite_false, Bool.false_eq_true, Bool.not_true, Bool.not_false, reduceIte])
local macro_rules | `(tactic| walk_at "ix") => `(tactic| repeat (first | refine Sq.ix (by assumption) (by rfl) ?_ | (walk_at "rd"; refine ⟨Sz.mul (by assumption) (by assumption), ?_⟩)))
/-- a polynomial, or a ratio in its place -/
def ArgP (C : Addr) (H : Hp) (u : V) (b : List Rat) : Prop := PoV C H u b ∨ ∃ q, IsR H u q ∧ b = strip [q]
theorem ArgP.m {C : Addr} {D : List Addr} {H H' : Hp} {u : V} {b : List Rat} (h : ArgP C H u b) (s : Sm D [] H H') : ArgP C H' u b := by
  rcases h with h | ⟨q, h, e⟩
  · exact .inl (h.m s)
  · exact .inr ⟨q, h.m s, e⟩
theorem pt_arg {C : Addr} {H : Hp} {u : V} {b : List Rat} {Q : VK} {E : XK} (h : ArgP C H u b) (k : ∀ r H', Sm [] [] H H' → PoV C H' r b → Q r H') : spPT C [u] H Q E := by
  rcases h with h | ⟨q, h, rfl⟩
  · exact ⟨u, rfl, .inl ⟨b, h, k u H Sm.refl h⟩⟩
  · exact ⟨u, rfl, .inr ⟨q, h, k⟩⟩
/-- self + s * other -/
def spAdd (C : Addr) (s : Int) : Sp := fun vs H Q _ => ∃ v u a b n1 n2, vs = [v, u] ∧ PoV C H v a ∧ ArgP C H u b ∧ Hl n1 a ∧ Hl n2 b ∧ a.length ≤ 400 ∧ b.length ≤ 400 ∧ n1 + n2 ≤ 4300 ∧ ∀ r H', Sm [] [] H H' → PoV C H' r (padd s a b) → Q r H'
/-- other + s * self -/
def spAddR (C : Addr) (s : Int) : Sp := fun vs H Q _ => ∃ v u a b n1 n2, vs = [v, u] ∧ PoV C H v a ∧ ArgP C H u b ∧ Hl n1 a ∧ Hl n2 b ∧ a.length ≤ 400 ∧ b.length ≤ 400 ∧ n1 + n2 ≤ 4300 ∧ ∀ r H', Sm [] [] H H' → PoV C H' r (padd s b a) → Q r H'
def spMulS (C : Addr) : Sp := fun vs H Q _ => ∃ v u a b n1 n2, vs = [v, u] ∧ PoV C H v a ∧ ArgP C H u b ∧ Hl n1 a ∧ Hl n2 b ∧ a.length ≤ 400 ∧ b.length ≤ 400 ∧ (min a.length b.length + 1) * (n1 + n2 + 2) ≤ 4400 ∧ ∀ r H', Sm [] [] H H' → PoV C H' r (pmul a b) → Q r H'
def spMulR (C : Addr) : Sp := fun vs H Q _ => ∃ v u a b n1 n2, vs = [v, u] ∧ PoV C H v a ∧ ArgP C H u b ∧ Hl n1 a ∧ Hl n2 b ∧ a.length ≤ 400 ∧ b.length ≤ 400 ∧ (min b.length a.length + 1) * (n2 + n1 + 2) ≤ 4400 ∧ ∀ r H', Sm [] [] H H' → PoV C H' r (pmul b a) → Q r H'
section
variable {P : Program} {w : World} {K : PySem.W.Frag} {mg : Str → Option Value} {base : Heap}
abbrev N_Poly_add : List Str := ["self", "other"]
theorem sc_Poly_add : FnScope N_Poly_add ["self", "other"] (defScope sPoly_add) := ⟨rfl, rfl, rfl, by decide +kernel, rfl, by decide +kernel, by decide +kernel⟩
theorem ok_add (T : Tx K mg) : Met P w K mg base CX0 7 (He.ga K "Poly") "__add__" (spAdd (He.ga K "Poly") 1) := by
  have c_poly_told := ok_poly_told (P := P) (w := w) (base := base) T
  have c_summed := ok_summed (P := P) (w := w) (base := base) T
  obtain ⟨fd, F⟩ := T.m_Poly_add
  refine met0 F T.t_add sc_Poly_add (ps := ["self", "other"]) (fun _ _ _ _ _ _ us hl => match us, hl with | [_, _], _ => rfl) (fun vs H Q E h => ?_) (fun cdv A outer s H vs Q E hr h => ?_)
  · obtain ⟨v, u, a, b, n1, n2, rfl, _⟩ := h
    rfl
  · obtain ⟨v, u, a, b, n1, n2, rfl, hv, hu, h1, h2, ha, hb, hz, k⟩ := h
    refine ⟨_, (pss_one (ps_ret (pe_cal c_summed hr (by decide) pass0 (pa_cons (pv 0) (pa_cons (pe_cal c_poly_told hr (by decide) pass0 (pa_cons (pv 1) pa_nil)) (pa_cons pe_int pa_nil)))))), ?_⟩
    walk_at "rd"
    exact pt_arg hu fun r H1 s1 hr1 => ⟨_, _, 1, a, b, n1, n2, rfl, by decide, hv.m s1, hr1, h1, h2, ha, hb, hz, fun r2 H2 s2 h => k r2 H2 (s1.trans s2) h⟩
abbrev N_Poly_sub : List Str := ["self", "other"]
theorem sc_Poly_sub : FnScope N_Poly_sub ["self", "other"] (defScope sPoly_sub) := ⟨rfl, rfl, rfl, by decide +kernel, rfl, by decide +kernel, by decide +kernel⟩
theorem ok_sub (T : Tx K mg) : Met P w K mg base CX0 7 (He.ga K "Poly") "__sub__" (spAdd (He.ga K "Poly") (-1)) := by
  have c_poly_told := ok_poly_told (P := P) (w := w) (base := base) T
  have c_summed := ok_summed (P := P) (w := w) (base := base) T
  obtain ⟨fd, F⟩ := T.m_Poly_sub
  refine met0 F T.t_sub sc_Poly_sub (ps := ["self", "other"]) (fun _ _ _ _ _ _ us hl => match us, hl with | [_, _], _ => rfl) (fun vs H Q E h => ?_) (fun cdv A outer s H vs Q E hr h => ?_)
  · obtain ⟨v, u, a, b, n1, n2, rfl, _⟩ := h
    rfl
  · obtain ⟨v, u, a, b, n1, n2, rfl, hv, hu, h1, h2, ha, hb, hz, k⟩ := h
    refine ⟨_, (pss_one (ps_ret (pe_cal c_summed hr (by decide) pass0 (pa_cons (pv 0) (pa_cons (pe_cal c_poly_told hr (by decide) pass0 (pa_cons (pv 1) pa_nil)) (pa_cons (pe_un un_neg pe_int) pa_nil)))))), ?_⟩
    walk_at "rd"
    exact pt_arg hu fun r H1 s1 hr1 => ⟨_, _, (-1), a, b, n1, n2, rfl, by decide, hv.m s1, hr1, h1, h2, ha, hb, hz, fun r2 H2 s2 h => k r2 H2 (s1.trans s2) h⟩
abbrev N_Poly_radd : List Str := ["self", "other"]
theorem sc_Poly_radd : FnScope N_Poly_radd ["self", "other"] (defScope sPoly_radd) := ⟨rfl, rfl, rfl, by decide +kernel, rfl, by decide +kernel, by decide +kernel⟩
theorem ok_radd (T : Tx K mg) : Met P w K mg base CX0 7 (He.ga K "Poly") "__radd__" (spAddR (He.ga K "Poly") 1) := by
  have c_poly_told := ok_poly_told (P := P) (w := w) (base := base) T
  have c_summed := ok_summed (P := P) (w := w) (base := base) T
  obtain ⟨fd, F⟩ := T.m_Poly_radd
  refine met0 F T.t_radd sc_Poly_radd (ps := ["self", "other"]) (fun _ _ _ _ _ _ us hl => match us, hl with | [_, _], _ => rfl) (fun vs H Q E h => ?_) (fun cdv A outer s H vs Q E hr h => ?_)
  · obtain ⟨v, u, a, b, n1, n2, rfl, _⟩ := h
    rfl
  · obtain ⟨v, u, a, b, n1, n2, rfl, hv, hu, h1, h2, ha, hb, hz, k⟩ := h
    refine ⟨_, (pss_one (ps_ret (pe_cal c_summed hr (by decide) pass0 (pa_cons (pe_cal c_poly_told hr (by decide) pass0 (pa_cons (pv 1) pa_nil)) (pa_cons (pv 0) (pa_cons pe_int pa_nil)))))), ?_⟩
    walk_at "rd"
    exact pt_arg hu fun r H1 s1 hr1 => ⟨_, _, 1, b, a, n2, n1, rfl, by decide, hr1, hv.m s1, h2, h1, hb, ha, by omega, fun r2 H2 s2 h => k r2 H2 (s1.trans s2) h⟩
abbrev N_Poly_rsub : List Str := ["self", "other"]
theorem sc_Poly_rsub : FnScope N_Poly_rsub ["self", "other"] (defScope sPoly_rsub) := ⟨rfl, rfl, rfl, by decide +kernel, rfl, by decide +kernel, by decide +kernel⟩
theorem ok_rsub (T : Tx K mg) : Met P w K mg base CX0 7 (He.ga K "Poly") "__rsub__" (spAddR (He.ga K "Poly") (-1)) := by
  have c_poly_told := ok_poly_told (P := P) (w := w) (base := base) T
  have c_summed := ok_summed (P := P) (w := w) (base := base) T
  obtain ⟨fd, F⟩ := T.m_Poly_rsub
  refine met0 F T.t_rsub sc_Poly_rsub (ps := ["self", "other"]) (fun _ _ _ _ _ _ us hl => match us, hl with | [_, _], _ => rfl) (fun vs H Q E h => ?_) (fun cdv A outer s H vs Q E hr h => ?_)
  · obtain ⟨v, u, a, b, n1, n2, rfl, _⟩ := h
    rfl
  · obtain ⟨v, u, a, b, n1, n2, rfl, hv, hu, h1, h2, ha, hb, hz, k⟩ := h
    refine ⟨_, (pss_one (ps_ret (pe_cal c_summed hr (by decide) pass0 (pa_cons (pe_cal c_poly_told hr (by decide) pass0 (pa_cons (pv 1) pa_nil)) (pa_cons (pv 0) (pa_cons (pe_un un_neg pe_int) pa_nil)))))), ?_⟩
    walk_at "rd"
    exact pt_arg hu fun r H1 s1 hr1 => ⟨_, _, (-1), b, a, n2, n1, rfl, by decide, hr1, hv.m s1, h2, h1, hb, ha, by omega, fun r2 H2 s2 h => k r2 H2 (s1.trans s2) h⟩
abbrev N_Poly_mul : List Str := ["self", "other"]
theorem sc_Poly_mul : FnScope N_Poly_mul ["self", "other"] (defScope sPoly_mul) := ⟨rfl, rfl, rfl, by decide +kernel, rfl, by decide +kernel, by decide +kernel⟩
theorem ok_mul (T : Tx K mg) : Met P w K mg base CX0 8 (He.ga K "Poly") "__mul__" (spMulS (He.ga K "Poly")) := by
  have c_poly_told := ok_poly_told (P := P) (w := w) (base := base) T
  have c_multiplied := ok_multiplied (P := P) (w := w) (base := base) T
  obtain ⟨fd, F⟩ := T.m_Poly_mul
  refine met0 F T.t_mul sc_Poly_mul (ps := ["self", "other"]) (fun _ _ _ _ _ _ us hl => match us, hl with | [_, _], _ => rfl) (fun vs H Q E h => ?_) (fun cdv A outer s H vs Q E hr h => ?_)
  · obtain ⟨v, u, a, b, n1, n2, rfl, _⟩ := h
    rfl
  · obtain ⟨v, u, a, b, n1, n2, rfl, hv, hu, h1, h2, ha, hb, hz, k⟩ := h
    refine ⟨_, (pss_one (ps_ret (pe_cal c_multiplied hr (by decide) pass0 (pa_cons (pv 0) (pa_cons (pe_cal c_poly_told hr (by decide) pass0 (pa_cons (pv 1) pa_nil)) pa_nil))))), ?_⟩
    walk_at "rd"
    exact pt_arg hu fun r H1 s1 hr1 => ⟨_, _, a, b, n1, n2, rfl, hv.m s1, hr1, h1, h2, ha, hb, hz, fun r2 H2 s2 h => k r2 H2 (s1.trans s2) h⟩
abbrev N_Poly_rmul : List Str := ["self", "other"]
theorem sc_Poly_rmul : FnScope N_Poly_rmul ["self", "other"] (defScope sPoly_rmul) := ⟨rfl, rfl, rfl, by decide +kernel, rfl, by decide +kernel, by decide +kernel⟩
theorem ok_rmul (T : Tx K mg) : Met P w K mg base CX0 8 (He.ga K "Poly") "__rmul__" (spMulR (He.ga K "Poly")) := by
  have c_poly_told := ok_poly_told (P := P) (w := w) (base := base) T
  have c_multiplied := ok_multiplied (P := P) (w := w) (base := base) T
  obtain ⟨fd, F⟩ := T.m_Poly_rmul
  refine met0 F T.t_rmul sc_Poly_rmul (ps := ["self", "other"]) (fun _ _ _ _ _ _ us hl => match us, hl with | [_, _], _ => rfl) (fun vs H Q E h => ?_) (fun cdv A outer s H vs Q E hr h => ?_)
  · obtain ⟨v, u, a, b, n1, n2, rfl, _⟩ := h
    rfl
  · obtain ⟨v, u, a, b, n1, n2, rfl, hv, hu, h1, h2, ha, hb, hz, k⟩ := h
    refine ⟨_, (pss_one (ps_ret (pe_cal c_multiplied hr (by decide) pass0 (pa_cons (pe_cal c_poly_told hr (by decide) pass0 (pa_cons (pv 1) pa_nil)) (pa_cons (pv 0) pa_nil))))), ?_⟩
    walk_at "rd"
    exact pt_arg hu fun r H1 s1 hr1 => ⟨_, _, b, a, n2, n1, rfl, hr1, hv.m s1, h2, h1, hb, ha, hz, fun r2 H2 s2 h => k r2 H2 (s1.trans s2) h⟩
abbrev N_Poly_neg : List Str := ["self", "top", "bottom"]
theorem sc_Poly_neg : FnScope N_Poly_neg ["self"] (defScope sPoly_neg) := ⟨rfl, rfl, rfl, by decide +kernel, rfl, by decide +kernel, by decide +kernel⟩
def spNeg (C : Addr) : Sp := fun vs H Q _ => ∃ v a n, vs = [v] ∧ PoV C H v a ∧ Hl n a ∧ n ≤ 4400 ∧ a.length ≤ 400 ∧ ∀ r H', Sm [] [] H H' → PoV C H' r (pneg a) → Q r H'
theorem ok_neg (T : Tx K mg) : Met P w K mg base CX0 6 (He.ga K "Poly") "__neg__" (spNeg (He.ga K "Poly")) := by
  have c_init := ok_init (P := P) (w := w) (base := base) T
  obtain ⟨fd, F⟩ := T.m_Poly_neg
  refine met0 F T.t_neg sc_Poly_neg (ps := ["self"]) (fun _ _ _ _ _ _ us hl => match us, hl with | [_], _ => rfl) (fun vs H Q E h => ?_) (fun cdv A outer s H vs Q E hr h => ?_)
  · obtain ⟨v, a, n, rfl, _⟩ := h
    rfl
  · obtain ⟨v, a, n, rfl, hv, h1, hn, ha, k⟩ := h
    refine ⟨_, (pss_one (ps_ret (pe_poly T c_init hr (by decide) passL (pa_cons (pe_lc (own := [("top", 1), ("bottom", 2)]) rfl sc_Poly_neg.nd (pi_seq (pe_fld (pv 0) rfl)) (blkOk_by (own := [("top", 1), ("bottom", 2)]) (N := N_Poly_neg) (sc := defScope sPoly_neg) (by decide +kernel)) (fun _ _ _ _ _ => (pg_tupK (K := K) (n := 2) rfl rfl (pgs_cons (pg_name (i := 1) sc_Poly_neg.nd rfl (Or.inl rfl) (Or.inr rfl)) (pgs_cons (pg_name (i := 2) sc_Poly_neg.nd rfl (Or.inl rfl) (Or.inr rfl)) pgs_nil)))) (fun _ _ _ _ _ => pts_nil) (fun _ _ _ _ _ => (pe_tup (pa_cons (pe_un un_neg (pv 1)) (pa_cons (pv 2) pa_nil))))) pa_nil)))), ?_⟩
    walk_at "rd"
    refine po_num T hv fun p vs hp hq => ⟨p, vs, rfl, .inl hp, fun J w D nD => ?_⟩
    refine lc_list' w (Dm := []) (R := fun k v H => IsQ H v (-cf a k)) (P := fun _ _ => True) nD (by rw [hq.1]; omega) trivial (fun _ _ _ _ h s => h.m s) (fun _ _ _ _ _ _ => trivial) (fun H s => Sq.eq (.inl hp) s) ?_ ?_
    · intro i x H3 H4 C hi s3 _ _ hy hc
      obtain ⟨rfl, hy⟩ := hy
      obtain ⟨c, rfl, hc2⟩ := hq.get hy
      refine gTup2 (s3.tup hc2) ⟨rfl, ?_⟩
      walk_at "rd"
      exact nt_of fun q H5 _ s5 h5 => hc _ _ s5 ⟨q, rfl, h5⟩ trivial
    · intro acc H3 s3 hD hl3 hr3 _
      exact ⟨_, rfl, .inl ⟨D, acc, _, rfl, .inr hD, rs_of hl3 hr3 (fun i _ => (h1 i).neg) hn, by simp [hq.1]; omega, fun u H4 s4 hu4 => k u H4 (s3.trans s4) (by rw [hq.1] at hu4; exact hu4)⟩⟩
abbrev N_Poly_slope : List Str := ["self", "k", "ratio"]
theorem sc_Poly_slope : FnScope N_Poly_slope ["self"] (defScope sPoly_slope) := ⟨rfl, rfl, rfl, by decide +kernel, rfl, by decide +kernel, by decide +kernel⟩
def spSlope (C : Addr) : Sp := fun vs H Q _ => ∃ v a n, vs = [v] ∧ PoV C H v a ∧ Hl n a ∧ n ≤ 4000 ∧ a.length ≤ 400 ∧ ∀ r H', Sm [] [] H H' → PoV C H' r (pslope a) → Q r H'
theorem ok_slope (T : Tx K mg) : Met P w K mg base CX0 6 (He.ga K "Poly") "slope" (spSlope (He.ga K "Poly")) := by
  have c_init := ok_init (P := P) (w := w) (base := base) T
  have c_times := ok_times (P := P) (w := w) (base := base) T
  obtain ⟨fd, F⟩ := T.m_Poly_slope
  refine met0 F T.t_slope sc_Poly_slope (ps := ["self"]) (fun _ _ _ _ _ _ us hl => match us, hl with | [_], _ => rfl) (fun vs H Q E h => ?_) (fun cdv A outer s H vs Q E hr h => ?_)
  · obtain ⟨v, a, n, rfl, _⟩ := h
    rfl
  · obtain ⟨v, a, n, rfl, hv, h1, hn, ha, k⟩ := h
    refine ⟨_, (pss_one (ps_ret (pe_poly T c_init hr (by decide) passL (pa_cons (pe_slice sl_list (pe_lc (own := [("k", 1), ("ratio", 2)]) rfl sc_Poly_slope.nd (pi_enumT (by rfl) T.b_enumerate (pa_cons (pe_fld (pv 0) rfl) pa_nil)) (blkOk_by (own := [("k", 1), ("ratio", 2)]) (N := N_Poly_slope) (sc := defScope sPoly_slope) (by decide +kernel)) (fun _ _ _ _ _ => (pg_tupK (K := K) (n := 2) rfl rfl (pgs_cons (pg_name (i := 1) sc_Poly_slope.nd rfl (Or.inl rfl) (Or.inr rfl)) (pgs_cons (pg_name (i := 2) sc_Poly_slope.nd rfl (Or.inl rfl) (Or.inr rfl)) pgs_nil)))) (fun _ _ _ _ _ => pts_nil) (fun _ _ _ _ _ => (pe_cal c_times hr (by decide) passL (pa_cons (pv 1) (pa_cons (pv 2) pa_nil))))) (po_some pe_int) po_none) pa_nil)))), ?_⟩
    walk_at "rd"
    refine po_num T hv fun p vs hp hq => ⟨p, vs, rfl, L2.SqT.of hp, fun D nD => ?_⟩
    have small : ∀ i : Nat, i < 1000 → (i : Int).natAbs < 2 ^ 10 := fun i hi => by
      have : (2 : Nat) ^ 10 = 1024 := by decide
      omega
    have bnd : ∀ i : Nat, i < a.length → Hq (n + 10) (((i : Int) : Rat) * cf a i) := fun i hi => ((hq_int (n := 10) (small i (by omega)) (by decide)).mul (h1 i)).mono (by omega)
    refine lc_list' (walk_enumT (xs := vs)) (Dm := []) (R := fun k v H => IsQ H v (((k : Int) : Rat) * cf a k)) (P := fun _ _ => True) nD (by rw [hq.1]; omega) trivial (fun _ _ _ _ h s => h.m s) (fun _ _ _ _ _ _ => trivial) (fun H s => s.tup hp) ?_ ?_
    · intro i x H3 H4 C hi s3 _ _ hy hc
      obtain ⟨TT, x1, x2, rfl, nT, rfl, e1, e2⟩ := hy
      cases e1
      have s4 : Sm [] [] H3 (upd H3 TT (.tup [.int (i : Nat), x2])) := Sm.new nT
      refine gTup2 upd_same ⟨rfl, ?_⟩
      walk_at "rd"
      have hi2 : i < a.length := hq.1 ▸ hi
      have zi : Sz (i : Int) := Nat.lt_of_lt_of_le (small i (by omega)) (Nat.pow_le_pow_right (by decide) (by decide))
      exact times_r (isR_int zi) (((hq.get e2).m (s3.trans s4)).r (h1 i)) fun r H5 s5 hr5 => hc _ _ (s4.trans s5) hr5 trivial
    · intro acc H3 s3 hD hl3 hr3 _
      refine ⟨D, acc, rfl, L2.SqL.of hD, fun q nq => ?_⟩
      have s4 : Sm [] [] H3 (upd H3 q (.lst (cutV acc (some 1) none))) := Sm.new nq
      have ec : cutV acc (some 1) none = acc.drop 1 := by
        unfold cutV
        rw [show HT.sIx acc.length 0 (some 1) = min 1 acc.length from HT.sIx_nat acc.length 0 1, HT.sIx_none]
        rcases Nat.eq_zero_or_pos acc.length with z | z
        · rw [List.eq_nil_of_length_eq_zero z]; rfl
        · rw [Nat.min_eq_left z, List.take_of_length_le (by rw [List.length_drop]; omega)]
      have hq4 := upd_same (H := H3) (a := q) (o := .lst (cutV acc (some 1) none))
      rw [ec] at hq4 s4 ⊢
      refine ⟨_, rfl, .inl ⟨q, acc.drop 1, _, rfl, .inr hq4, rs_of (n := a.length - 1) (f := fun i => (((i + 1 : Nat) : Int) : Rat) * cf a (i + 1)) (m := n + 10) (by rw [List.length_drop, hl3, hq.1]) (fun i v e => ?_) (fun i hi => bnd (i + 1) (by omega)) (by omega), by simp; omega, fun u H4 s5 hu4 => k u H4 ((s3.trans s4).trans s5) hu4⟩⟩
      rw [List.getElem?_drop] at e
      rw [Nat.add_comm i 1]
      exact (hr3 (1 + i) v e).m s4
abbrev N_Poly_eq : List Str := ["self", "other"]
theorem sc_Poly_eq : FnScope N_Poly_eq ["self", "other"] (defScope sPoly_eq) := ⟨rfl, rfl, rfl, by decide +kernel, rfl, by decide +kernel, by decide +kernel⟩
/-- equal numbers; never equal to what is no polynomial -/
def spEqP (C : Addr) : Sp := fun vs H Q _ => ∃ v u a, vs = [v, u] ∧ PoV C H v a ∧ ((∃ b, PoV C H u b ∧ Q (.bl (decide (a = b))) H) ∨ ((∃ i, u = .int i) ∧ Q (.bl false) H) ∨ ((∃ p xs, u = .ref p ∧ H p = some (.tup xs)) ∧ Q (.bl false) H))
theorem ok_eq (T : Tx K mg) : Met P w K mg base CX0 1 (He.ga K "Poly") "__eq__" (spEqP (He.ga K "Poly")) := by
  obtain ⟨fd, F⟩ := T.m_Poly_eq
  refine met0 F T.t_eq sc_Poly_eq (ps := ["self", "other"]) (fun _ _ _ _ _ _ us hl => match us, hl with | [_, _], _ => rfl) (fun vs H Q E h => ?_) (fun cdv A outer s H vs Q E hr h => ?_)
  · obtain ⟨v, u, a, rfl, _⟩ := h
    rfl
  · obtain ⟨v, u, a, rfl, hv, h⟩ := h
    refine ⟨_, (pss_one (ps_ret (pe_and (pe_callB call_isi (by rfl) T.b_isinstance (by decide +kernel) (pa_cons (pv 1) (pa_cons (pe_glob (v := .ref (He.ga K "Poly")) rfl T.g_Poly rfl) pa_nil))) (pe_one (pe_cmpR (op_eqD (room64 hr)) (pe_fld (pv 0) rfl) (pe_fld (pv 1) rfl) (nomark _)))))), ?_⟩
    walk_at "rd"
    rcases h with ⟨b, hu, k⟩ | ⟨⟨i, rfl⟩, k⟩ | ⟨⟨p, xs, rfl, hp⟩, k⟩
    · obtain ⟨x, dx, y, rfl, hx, _⟩ := id hu
      refine ⟨_, _, _, _, _, rfl, .own _, .base (.ins hx T.cl T.kc T.kc2 T.kc3 T.kc4), T.k_own, _, rfl, iteT ?_⟩
      refine po_num T hv fun p vs hp hq => po_num T hu fun p2 vs2 hp2 hq2 => ?_
      refine ⟨pd a, pd b, dp_t ⟨p, vs, rfl, hp, hq⟩, dp_t ⟨p2, vs2, rfl, hp2, hq2⟩, pd_shaped a, pd_shaped b, ?_⟩
      rw [pd_eqv]
      exact k
    · exact ⟨_, _, _, _, _, rfl, .own _, .base (.int _), T.k_int, _, rfl, iteF k⟩
    · exact ⟨_, _, _, _, _, rfl, .own _, .base (.tup hp), T.k_tup, _, rfl, iteF k⟩
end
end G3
end
section
set_option maxHeartbeats 4000000
namespace G3
open PySem PySem.Spec PyProof.Rows L2
local macro_rules | `(tactic| walk_at "rd") => `(tactic| simp only [wipe, sDPut, tDGet, tDisp, tPairs, tBM0, tBM, tBreak, sFld, tPar3, tRevL, tLstRg, tRg1, tRg2, gSub, rSetL,  tSl, tNoPart, tPart, iRng1, iRng2, iRng3, tRevT, tLc_eq, tFor_eq, iEnumT, iSeq, iList, iTup, RZ.iZipA, tFld_eq, tMeth, tVar, tC, tOp, tUn, tCons, tNil, tCB, tCall, tRet, tSeq, tAsg, gName, tIfS, tIf, tTest, tB, tNot, tAnd, tOr, tNotV, tAndV, tOrV, rI0_int, rI_int, rU_int, rEq_int, rNe_int, tPar, tNext, tDrop, tTup_nt, tLst_nl, tMkBN, tMkBR, cxOf_K, L2.start, List.map_cons, List.map_nil, List.length_cons, List.length_nil, List.cons_append, List.nil_append, List.append_nil, List.replicate_succ, List.replicate_zero, Nat.reduceAdd, Nat.reduceSub, Nat.sub_self, List.getElem?_cons_zero, List.getElem?_cons_succ, List.set_cons_zero, List.set_cons_succ, Option.some.injEq, V.int.injEq, V.bl.injEq, exists_eq_left', exists_eq_left, exists_eq_right, exists_eq_right', true_and, and_true, if_true, if_false, ite_true, ite_false, Bool.false_eq_true, Bool.not_true, Bool.not_false, reduceIte])
local macro_rules | `(tactic| walk_at "ix") => `(tactic| repeat (first | refine Sq.ix (by assumption) (by rfl) ?_ | (walk_at "rd"; refine ⟨Sz.mul (by assumption) (by assumption), ?_⟩)))
/-- the least common multiple of the bottoms -/
def lcD (l : List Rat) : Nat → Nat
  | 0 => 1
  | i + 1 => Nat.lcm (lcD l i) (cf l i).den
theorem lcD_pos (l : List Rat) : ∀ i, 0 < lcD l i
  | 0 => Nat.one_pos
  | i + 1 => Nat.lcm_pos (lcD_pos l i) (cf l i).den_pos
theorem lcD_lt {l : List Rat} {n : Nat} (h : Hl n l) : ∀ i, lcD l i ≤ 2 ^ (i * n)
  | 0 => by simp [lcD]
  | i + 1 => by
    have h1 := lcD_lt h i
    have h2 := (h i).2
    have h3 : Nat.lcm (lcD l i) (cf l i).den ≤ lcD l i * (cf l i).den := Nat.le_of_dvd (Nat.mul_pos (lcD_pos l i) (cf l i).den_pos) (Nat.lcm_dvd_mul _ _)
    have h4 : lcD l i * (cf l i).den ≤ 2 ^ (i * n) * 2 ^ n := Nat.mul_le_mul h1 (by omega)
    rw [← Nat.pow_add] at h4
    rw [Nat.add_mul, Nat.one_mul]
    exact Nat.le_trans h3 h4
theorem lcm_step (m n : Nat) (hn : 0 < n) : ((m : Int).fdiv ((Nat.gcd m n : Nat) : Int)) * (n : Int) = ((Nat.lcm m n : Nat) : Int) := by
  rw [Int.fdiv_eq_ediv_of_nonneg _ (by omega), ← Int.natCast_ediv, ← Int.natCast_mul]
  congr 1
  unfold Nat.lcm
  obtain ⟨c, hc⟩ := Nat.gcd_dvd_left m n
  have g0 : 0 < Nat.gcd m n := Nat.gcd_pos_of_pos_right _ hn
  generalize Nat.gcd m n = g at hc g0
  subst hc
  rw [Nat.mul_div_cancel_left _ g0, Nat.mul_assoc, Nat.mul_div_cancel_left _ g0]
theorem ownL_mul {K : PySem.W.Frag} {C : Addr} {H : Hp} {x y : V} {a b : List Rat} {n1 n2 : Nat} {Q : VK} {E : XK} (hx : PoV C H x a) (hy : PoV C H y b) (h1 : Hl n1 a) (h2 : Hl n2 b) (la : a.length ≤ 400) (lb : b.length ≤ 400)
    (hz : (min a.length b.length + 1) * (n1 + n2 + 2) ≤ 4400) (k : ∀ r H', Sm [] [] H H' → PoV C H' r (pmul a b) → Q r H') : rOwnL K C (spMulS C) E x y H Q := by
  obtain ⟨p, dx, u, rfl, hp, _⟩ := id hx
  obtain ⟨q, dy, u2, rfl, hq, _⟩ := id hy
  refine ⟨p, dx, _, rfl, hp, .inl ⟨q, dy, _, rfl, hq⟩, _, _, a, b, n1, n2, rfl, hx, .inl hy, h1, h2, la, lb, hz, fun r H' s hr => ⟨?_, k r H' s hr⟩⟩
  obtain ⟨c, _, _, rfl, _⟩ := hr
  exact .inl ⟨c, rfl⟩
theorem ownL_add {K : PySem.W.Frag} {C : Addr} {H : Hp} {x y : V} {a b : List Rat} {n1 n2 : Nat} {s : Int} {Q : VK} {E : XK} (hx : PoV C H x a) (hy : PoV C H y b) (h1 : Hl n1 a) (h2 : Hl n2 b) (la : a.length ≤ 400) (lb : b.length ≤ 400)
    (hz : n1 + n2 ≤ 4300) (k : ∀ r H', Sm [] [] H H' → PoV C H' r (padd s a b) → Q r H') : rOwnL K C (spAdd C s) E x y H Q := by
  obtain ⟨p, dx, u, rfl, hp, _⟩ := id hx
  obtain ⟨q, dy, u2, rfl, hq, _⟩ := id hy
  refine ⟨p, dx, _, rfl, hp, .inl ⟨q, dy, _, rfl, hq⟩, _, _, a, b, n1, n2, rfl, hx, .inl hy, h1, h2, la, lb, hz, fun r H' s hr => ⟨?_, k r H' s hr⟩⟩
  obtain ⟨c, _, _, rfl, _⟩ := hr
  exact .inl ⟨c, rfl⟩
theorem lcD_dvd {l : List Rat} {i : Nat} : ∀ {n : Nat}, i < n → n ≤ l.length → (cf l i).den ∣ lcD l n
  | 0, h, _ => absurd h (Nat.not_lt_zero _)
  | n + 1, h, hn => by
    by_cases e : i = n
    · subst e; exact Nat.dvd_lcm_right _ _
    · exact Nat.dvd_trans (lcD_dvd (by omega) (by omega)) (Nat.dvd_lcm_left _ _)
theorem cf_rev {l : List Rat} {i : Nat} (h : i < l.length) : cf l.reverse i = cf l (l.length - 1 - i) := by
  unfold cf
  rw [List.getD_eq_getElem?_getD, List.getD_eq_getElem?_getD, List.getElem?_reverse h]
theorem num_eq (q : Rat) : (q.num : Rat) = q * ((q.den : Int) : Rat) := by
  have h := rat_self q
  rw [Rat.divInt_eq_div] at h
  have hd : ((q.den : Int) : Rat) ≠ 0 := fun z => by
    have := Rat.intCast_inj.mp (z.trans Rat.intCast_zero.symm)
    have := q.den_pos
    omega
  conv => rhs; lhs; rw [← h]
  exact (Rat.div_mul_cancel hd).symm
/-- what found is behind i laps -/
def atI_inv (l : List Rat) (q : Rat) (n1 n2 U i : Nat) (fd : Int) : Prop := (fd : Rat) * ((q.den : Int) : Rat) = ((U : Int) : Rat) * hn l q i * ((((q.den ^ i : Nat)) : Int) : Rat) ∧ fd.natAbs < 2 ^ (l.length * n1 + n1 + i * n2 + i + 1)
theorem atI_zero (l : List Rat) (q : Rat) (n1 n2 U : Nat) : atI_inv l q n1 n2 U 0 0 := by
  refine ⟨?_, by simpa using Nat.pow_pos (by decide)⟩
  unfold hn
  rw [Rat.intCast_zero]; grind
theorem den_pow_lt {q : Rat} {n2 i : Nat} (h2 : Hq n2 q) : q.den ^ i ≤ 2 ^ (i * n2) := by
  rw [Nat.mul_comm, Nat.pow_mul]
  exact Nat.pow_le_pow_left (Nat.le_of_lt h2.2) i
theorem at_step {l : List Rat} {q : Rat} {n1 n2 U i : Nat} {fd : Int} (inv : atI_inv l q n1 n2 U i fd) (h1 : Hl n1 l) (h2 : Hq n2 q) (Ub : U ≤ 2 ^ (l.length * n1)) (dv : (cf l (l.length - 1 - i)).den ∣ U) :
    atI_inv l q n1 n2 U (i + 1) (fd * q.num + (cf l (l.length - 1 - i)).num * ((U : Int).fdiv ((cf l (l.length - 1 - i)).den : Int)) * ((q.den ^ i : Nat) : Int)) := by
  obtain ⟨e, b⟩ := inv
  have hc := h1 (l.length - 1 - i)
  have hcu : hn l q (i + 1) = hn l q i * q + cf l (l.length - 1 - i) := rfl
  generalize cf l (l.length - 1 - i) = c at *
  obtain ⟨k, rfl⟩ := dv
  have cp := c.den_pos
  have ek : ((c.den * k : Nat) : Int).fdiv (c.den : Int) = (k : Int) := by
    rw [Int.fdiv_eq_ediv_of_nonneg _ (by omega), ← Int.natCast_ediv, Nat.mul_div_cancel_left _ cp]
  rw [ek]
  constructor
  · rw [hcu, Nat.pow_succ]
    simp only [Rat.intCast_add, Rat.intCast_mul, Int.natCast_mul] at e ⊢
    have nq := num_eq q
    have nc := num_eq c
    generalize ((q.den : Int) : Rat) = B at *
    generalize ((c.den : Int) : Rat) = D at *
    rw [nq, nc]
    grind
  · have hk : k ≤ 2 ^ (l.length * n1) := Nat.le_trans (Nat.le_mul_of_pos_left k cp) Ub
    have a1 : (fd * q.num).natAbs < 2 ^ (l.length * n1 + n1 + i * n2 + i + 1 + n2) := by rw [Int.natAbs_mul]; exact pow_lt b h2.1
    have a2 : (c.num * (k : Int) * ((q.den ^ i : Nat) : Int)).natAbs ≤ 2 ^ (n1 + l.length * n1 + i * n2) := by
      rw [Int.natAbs_mul, Int.natAbs_mul, Int.natAbs_natCast, Int.natAbs_natCast, Nat.pow_add, Nat.pow_add]
      exact Nat.mul_le_mul (Nat.mul_le_mul (Nat.le_of_lt hc.1) hk) (den_pow_lt h2)
    have a3 : 2 ^ (n1 + l.length * n1 + i * n2) ≤ 2 ^ (l.length * n1 + n1 + i * n2 + i + 1 + n2) := Nat.pow_le_pow_right (by decide) (by omega)
    have a4 : 2 ^ (l.length * n1 + n1 + (i + 1) * n2 + (i + 1) + 1) = 2 * 2 ^ (l.length * n1 + n1 + i * n2 + i + 1 + n2) := by
      rw [show l.length * n1 + n1 + (i + 1) * n2 + (i + 1) + 1 = (l.length * n1 + n1 + i * n2 + i + 1 + n2) + 1 by rw [Nat.add_mul]; omega, Nat.pow_succ, Nat.mul_comm]
    rw [a4]
    have := Int.natAbs_add_le (fd * q.num) (c.num * (k : Int) * ((q.den ^ i : Nat) : Int))
    omega
theorem at_sizes {l : List Rat} {q : Rat} {n1 n2 U i : Nat} {fd : Int} (h1 : Hl n1 l) (h2 : Hq n2 q) (hl : l.length ≤ 100) (hb : l.length * (n1 + n2) + n1 + n2 + 100 ≤ 4000) (hi : i < l.length) (Ub : U ≤ 2 ^ (l.length * n1)) (inv : atI_inv l q n1 n2 U i fd) :
    CMulS fd q.num ∧ CDivS U ((cf l (l.length - 1 - i)).den : Int) ∧ CMulS (cf l (l.length - 1 - i)).num ((U : Int).fdiv ((cf l (l.length - 1 - i)).den : Int)) ∧
    CMulS ((cf l (l.length - 1 - i)).num * ((U : Int).fdiv ((cf l (l.length - 1 - i)).den : Int))) ((q.den ^ i : Nat) : Int) ∧ CMulS ((q.den ^ i : Nat) : Int) (q.den : Int) := by
  obtain ⟨e, b⟩ := inv
  have hc := h1 (l.length - 1 - i)
  generalize cf l (l.length - 1 - i) = c at *
  have cp := c.den_pos
  rw [Nat.mul_add] at hb
  have i2 : i * n2 ≤ l.length * n2 := Nat.mul_le_mul_right _ (by omega)
  have big : ∀ m, m ≤ 100000 → 2 ^ m ≤ 2 ^ 100000 := fun m hm => Nat.pow_le_pow_right (by decide) hm
  have uf : ((U : Int).fdiv (c.den : Int)).natAbs ≤ 2 ^ (l.length * n1) := by
    rw [Int.fdiv_eq_ediv_of_nonneg _ (by omega), ← Int.natCast_ediv, Int.natAbs_natCast]
    exact Nat.le_trans (Nat.div_le_self _ _) Ub
  have pw : q.den ^ i ≤ 2 ^ (i * n2) := den_pow_lt h2
  refine ⟨⟨Nat.lt_of_lt_of_le b (big _ (by omega)), Nat.lt_of_lt_of_le h2.1 (big _ (by omega))⟩, ⟨by omega, ?_⟩, ⟨Nat.lt_of_lt_of_le hc.1 (big _ (by omega)), ?_⟩, ⟨?_, ?_⟩, ⟨?_, ?_⟩⟩
  · rw [Int.natAbs_natCast]; exact Nat.lt_of_lt_of_le hc.2 (Nat.pow_le_pow_right (by decide) (by omega))
  · exact Nat.lt_of_le_of_lt uf (Nat.pow_lt_pow_right (by decide) (by omega))
  · rw [Int.natAbs_mul]
    refine Nat.lt_of_le_of_lt (Nat.mul_le_mul (Nat.le_of_lt hc.1) uf) ?_
    rw [← Nat.pow_add]
    exact Nat.pow_lt_pow_right (by decide) (by omega)
  · rw [Int.natAbs_natCast]; exact Nat.lt_of_le_of_lt pw (Nat.pow_lt_pow_right (by decide) (by omega))
  · rw [Int.natAbs_natCast]; exact Nat.lt_of_le_of_lt pw (Nat.pow_lt_pow_right (by decide) (by omega))
  · rw [Int.natAbs_natCast]; exact Nat.lt_of_lt_of_le h2.2 (big _ (by omega))
/-- the end: found over its bottom -/
theorem at_end {l : List Rat} {q : Rat} {n1 n2 U m : Nat} {fd : Int} (inv : atI_inv l q n1 n2 U (m + 1) fd) (hU : 0 < U) : Rat.divInt fd ((U : Int) * ((q.den ^ m : Nat) : Int)) = hn l q (m + 1) := by
  obtain ⟨e, _⟩ := inv
  have nz : ∀ n : Nat, 0 < n → ((n : Int) : Rat) ≠ 0 := fun n hn z => by
    have := Rat.intCast_inj.mp (z.trans Rat.intCast_zero.symm)
    omega
  have d1 := nz _ q.den_pos
  have d2 := nz _ hU
  have d3 := nz _ (Nat.pow_pos (n := m) q.den_pos)
  rw [Rat.divInt_eq_div]
  rw [Nat.pow_succ] at e
  simp only [Rat.intCast_mul, Int.natCast_mul] at e ⊢
  generalize ((q.den : Int) : Rat) = B at *
  generalize ((U : Int) : Rat) = V at *
  generalize (((q.den ^ m : Nat) : Int) : Rat) = W at *
  generalize hn l q (m + 1) = h at *
  have e2 : (fd : Rat) = h * (V * W) := by
    have : ((fd : Rat) - h * (V * W)) * B = 0 := by grind
    grind
  rw [e2]
  have d4 : V * W ≠ 0 := by grind
  grind
section
variable {P : Program} {w : World} {K : PySem.W.Frag} {mg : Str → Option Value} {base : Heap}
abbrev N_bottom_of : List Str := ["ratios", "found", "top", "bottom"]
theorem sc_bottom_of : FnScope N_bottom_of ["ratios"] (defScope s_bottom_of) := ⟨rfl, rfl, rfl, by decide +kernel, rfl, by decide +kernel, by decide +kernel⟩
def spBot : Sp := fun vs H Q _ => ∃ v l n, vs = [v] ∧ TQ H v l ∧ Hl n l ∧ l.length * n ≤ 8000 ∧ Q (.int (lcD l l.length : Nat)) H
theorem ok_bottom_of (T : Tx K mg) : Cal P w K mg base CX0 2 "bottom_of" spBot := by
  have c_divisor := ok_divisor (P := P) (w := w) (base := base) T
  obtain ⟨fd, F⟩ := T.f_bottom_of
  refine cal0 F T.g_bottom_of sc_bottom_of (ps := ["ratios"]) (fun _ _ _ _ _ _ us hl => match us, hl with | [_], _ => rfl) (fun vs H Q E h => ?_) (fun cdv A outer s H vs Q E hr h => ?_)
  · obtain ⟨v, l, n, rfl, _⟩ := h
    rfl
  · obtain ⟨v, l, n, rfl, hv, h1, hz, k⟩ := h
    refine ⟨_, (pss_cons (ps_set (i := 1) sc_bottom_of.nd rfl (Or.inl rfl) pe_int)
      (pss_cons (ps_for PassesOwn.never rfl (pi_seq (pv 0)) (pg_tup (n := 2) rfl (pgs_cons (pg_name (i := 2) sc_bottom_of.nd rfl (Or.inl rfl)) (pgs_cons (pg_name (i := 3) sc_bottom_of.nd rfl (Or.inl rfl)) pgs_nil))) (pss_one (ps_set (i := 1) sc_bottom_of.nd rfl (Or.inl rfl) (pe_op op_mulS (pe_op op_fdivS (pv 1) (pe_cal c_divisor hr (by decide) pass0 (pa_cons (pv 1) (pa_cons (pv 3) pa_nil)))) (pv 3)))))
      (pss_one (ps_ret (pv 1))))), ?_⟩
    walk_at "rd"
    obtain ⟨p, vs, rfl, hp, hq⟩ := hv
    refine ⟨p, vs, rfl, .inl hp, fun J w => for_it' w (fun i σ H' => H' = H ∧ ∃ o1 o2, σ = [some (.ref p), some (.int (lcD l i : Nat)), o1, o2]) ?_ ?_ ?_ ?_⟩
    · exact ⟨rfl, _, _, rfl⟩
    · intro i σ H2 _ z
      rw [z.1]
    · intro i x σ H2 H3 hi z y
      obtain ⟨rfl, o1, o2, rfl⟩ := z
      obtain ⟨rfl, y⟩ := y
      obtain ⟨c, rfl, hc⟩ := hq.get y
      have dp := (cf l i).den_pos
      have lp := lcD_pos l i
      have hi2 : i < l.length := hq.1 ▸ hi
      have b1 : lcD l i < 2 ^ 8001 := Nat.lt_of_le_of_lt (lcD_lt h1 i) (Nat.pow_lt_pow_right (by decide) (by have := Nat.mul_le_mul_right n (Nat.le_of_lt hi2); omega))
      have b2 : (cf l i).den < 2 ^ 8001 := Nat.lt_of_lt_of_le (h1 i).2 (Nat.pow_le_pow_right (by decide) (by have := Nat.le_mul_of_pos_left n (show 0 < l.length by omega); omega))
      have gle : Nat.gcd (lcD l i) (cf l i).den ≤ lcD l i := Nat.gcd_le_left _ lp
      have gp : 0 < Nat.gcd (lcD l i) (cf l i).den := Nat.gcd_pos_of_pos_left _ lp
      refine gTup2 hc ?_
      walk_at "rd"
      refine ⟨_, _, rfl, ?_⟩
      walk_at "rd"
      simp only [Int.natAbs_natCast]
      refine ⟨⟨by omega, ?_⟩, ⟨?_, ?_⟩, some (.int (cf l i).num), some (.int (cf l i).den), ?_⟩
      · rw [Int.natAbs_natCast]
        exact Nat.lt_of_le_of_lt gle (Nat.lt_of_lt_of_le b1 (Nat.pow_le_pow_right (by decide) (by decide)))
      · rw [Int.fdiv_eq_ediv_of_nonneg _ (by omega), ← Int.natCast_ediv, Int.natAbs_natCast]
        exact Nat.lt_of_le_of_lt (Nat.div_le_self _ _) (Nat.lt_of_lt_of_le b1 (Nat.pow_le_pow_right (by decide) (by decide)))
      · rw [Int.natAbs_natCast]
        exact Nat.lt_of_lt_of_le b2 (Nat.pow_le_pow_right (by decide) (by decide))
      · rw [lcm_step _ _ dp]; rfl
    · intro σ H2 z
      obtain ⟨rfl, o1, o2, rfl⟩ := z
      walk_at "rd"
      rw [hq.1]
      exact k
abbrev N_Poly_at : List Str := ["self", "place", "top", "bottom", "under", "found", "power", "number"]
theorem sc_Poly_at : FnScope N_Poly_at ["self", "place"] (defScope sPoly_at) := ⟨rfl, rfl, rfl, by decide +kernel, rfl, by decide +kernel, by decide +kernel⟩
def spAt (C B : Addr) : Sp := fun vs H Q E => ∃ v z l n1, vs = [v, z] ∧ PoV C H v l ∧ Hl n1 l ∧ l.length ≤ 100 ∧
  ((∃ q n2, IsR H z q ∧ Hq n2 q ∧ l.length * (n1 + n2) + n1 + n2 + 100 ≤ 4000 ∧ ∀ r H', Sm [] [] H H' → IsQ H' r (hn l q l.length) → Q r H') ∨
   (NoRat H z ∧ Exn B [("number", z), ("what", .str "place")] H E))
theorem ok_at (T : Tx K mg) : Met P w K mg base (L2.CX P w) 4 (He.ga K "Poly") "at" (spAt (He.ga K "Poly") (He.ga K "BadNumber")) := by
  have c_told := ok_told (P := P) (w := w) (base := base) T
  have c_lowest := ok_lowest (P := P) (w := w) (base := base) T
  have c_bottom_of := ok_bottom_of (P := P) (w := w) (base := base) T
  obtain ⟨fd, F⟩ := T.m_Poly_at
  refine metX F T.t_at sc_Poly_at (ps := ["self", "place"]) (fun _ _ _ _ _ _ us hl => match us, hl with | [_, _], _ => rfl) (fun vs H Q E h => ?_) (fun cdv A outer s H vs Q E hr h => ?_)
  · obtain ⟨v, z, l, n1, rfl, _⟩ := h
    rfl
  · obtain ⟨v, z, l, n1, rfl, hv, h1, hl, h⟩ := h
    have tk := takes_of (X := cxOf (L2.CX P w) P w K mg base N_Poly_at "Poly.at" (defScope sPoly_at) (He.ma K (He.ga K "Poly") "at") cdv A outer s H E) rfl rfl rfl rfl
    have px : Passes (L2.CX P w) _ E := passes_call tk (fun _ _ _ _ z => z)
    refine ⟨_, (pss_cons (ps_asg (pe_cal c_told hr (by decide) px (pa_cons (pv 1) (pa_cons pe_str pa_nil))) (pg_tup (n := 2) rfl (pgs_cons (pg_name (i := 2) sc_Poly_at.nd rfl (Or.inl rfl)) (pgs_cons (pg_name (i := 3) sc_Poly_at.nd rfl (Or.inl rfl)) pgs_nil))))
      (pss_cons (ps_par3 (i := 4) (j := 5) (l := 6) rfl sc_Poly_at.nd rfl rfl rfl (by decide) (by decide) (by decide) rfl rfl rfl (pa_cons (pe_cal c_bottom_of hr (by decide) pass0 (pa_cons (pe_fld (pv 0) rfl) pa_nil)) (pa_cons pe_int (pa_cons pe_int pa_nil))) (by rfl))
      (pss_cons (ps_for (passes_of rfl) rfl (pi_seq (pe_revT (pe_fld (pv 0) rfl))) (pg_name (i := 7) sc_Poly_at.nd rfl (Or.inl rfl)) (pss_cons (ps_set (i := 5) sc_Poly_at.nd rfl (Or.inl rfl) (pe_op op_add (pe_op op_mulS (pv 5) (pv 2)) (pe_op op_mulS (pe_op op_mulS (pe_ix ix_tup (pv 7) pe_int (fun _ _ => rfl)) (pe_op op_fdivS (pv 4) (pe_ix ix_tup (pv 7) pe_int (fun _ _ => rfl)))) (pv 6))))
      (pss_one (ps_set (i := 6) sc_Poly_at.nd rfl (Or.inl rfl) (pe_op op_mulS (pv 6) (pv 3))))))
      (pss_one (ps_ret (pe_cal c_lowest hr (by decide) pass0 (pa_cons (pv 5) (pa_cons (pe_op op_mulS (pv 4) (pe_ifExp (pt_cmpR op_gt (pe_callB call_len_seq (by rfl) T.b_len (by decide +kernel) (pa_cons (pe_fld (pv 0) rfl) pa_nil)) pe_int (nomark _)) (pe_op op_fdivS (pv 6) (pv 3)) pe_int)) pa_nil)))))))), ?_⟩
    walk_at "rd"
    rcases h with ⟨q, n2, hz, h2, hb, k⟩ | ⟨hz, k⟩
    · obtain ⟨a0, b0, r0, za0, zb0, rfl⟩ := hz
      refine ⟨_, _, rfl, .inl ⟨a0, b0, r0, Nat.lt_of_lt_of_le zb0 (Nat.pow_le_pow_right (by decide) (by decide)), fun c H1 s1 hc => ?_⟩⟩
      generalize Rat.divInt a0 b0 = q at *
      obtain ⟨c, rfl, hc⟩ := hc
      refine gTup2 hc ?_
      walk_at "rd"
      have hv1 := hv.m s1
      refine po_num T hv1 fun p vs hp hq => ⟨_, l, n1, rfl, ⟨p, vs, rfl, hp, hq⟩, h1, by rw [Nat.mul_add] at hb; omega, ?_⟩
      refine ⟨_, _, _, rfl, ?_⟩
      refine po_num T hv1 fun p2 vs2 hp2 hq2 => ⟨p2, vs2, rfl, L2.SqT.of hp2, fun a na => ?_⟩
      have s2 : Sm [] [] H1 (upd H1 a (.tup vs2.reverse)) := Sm.new na
      have hql := hq2.1
      have hrv : Qs (upd H1 a (.tup vs2.reverse)) vs2.reverse l.reverse := (hq2.rev).m s2
      have ha2 := upd_same (H := H1) (a := a) (o := .tup vs2.reverse)
      generalize hH2 : upd H1 a (.tup vs2.reverse) = H2 at *
      have s02 := s1.trans s2
      have U0 : 0 < lcD l l.length := lcD_pos l _
      have Ub : lcD l l.length ≤ 2 ^ (l.length * n1) := lcD_lt h1 _
      have dvd : ∀ i, i < l.length → (cf l i).den ∣ lcD l l.length := fun i hi => lcD_dvd hi (Nat.le_refl _)
      generalize lcD l l.length = U at *
      have bp := q.den_pos
      refine ⟨a, _, rfl, .inl ha2, fun J w => for_it' w (fun i σ H' => H' = H2 ∧ ∃ fd o, σ = [some v, some z, some (.int q.num), some (.int q.den), some (.int U), some (.int fd), some (.int (((q.den ^ i : Nat) : Int))), o] ∧ atI_inv l q n1 n2 U i fd) ?_ ?_ ?_ ?_⟩
      · exact ⟨rfl, 0, none, by simp, atI_zero l q n1 n2 U⟩
      · intro i σ H3 _ z
        rw [z.1]
      · intro i x σ H3 H4 hi z y
        obtain ⟨rfl, fd, o, rfl, inv⟩ := z
        obtain ⟨rfl, y⟩ := y
        have hi2 : i < l.length := by rw [List.length_reverse] at hi; omega
        have hx := hrv.get y
        rw [cf_rev hi2] at hx
        obtain ⟨c2, rfl, hc2⟩ := hx
        have sz := at_sizes h1 h2 hl hb hi2 Ub inv
        walk_at "rd"
        refine ⟨sz.1, SqT.ix hc2 rfl (SqT.ix hc2 rfl ?_)⟩
        walk_at "rd"
        exact ⟨sz.2.1 , sz.2.2.1, sz.2.2.2.1, sz.2.2.2.2, _, _, by rw [Nat.pow_succ]; rfl, at_step inv h1 h2 Ub (dvd _ (by omega))⟩
      · intro σ H3 z
        obtain ⟨rfl, fd, o, rfl, inv⟩ := z
        walk_at "rd"
        refine po_num T (hv1.m s2) fun p3 vs3 hp3 hq3 => ⟨p3, vs3, rfl, .inr (L2.SqT.of hp3), ?_⟩
        rw [hq3.1]
        rw [List.length_reverse, hql] at inv ⊢
        rcases Nat.eq_zero_or_pos l.length with z | z
        · rw [z] at inv k Ub ⊢
          have e0 : fd = 0 := by
            have e := inv.1
            unfold hn at e
            have hB : ((q.den : Int) : Rat) ≠ 0 := fun z => by
              have := Rat.intCast_inj.mp (z.trans Rat.intCast_zero.symm)
              omega
            have e2 : (fd : Rat) = 0 := by grind
            exact Rat.intCast_inj.mp (e2.trans Rat.intCast_zero.symm)
          subst e0
          rw [if_neg (by simp)]
          rw [Nat.zero_mul, Nat.pow_zero] at Ub
          refine ⟨⟨?_, Nat.one_lt_two_pow (by decide)⟩, _, _, rfl, by omega, ?_, fun r H4 s4 hr4 => k r H4 (s02.trans s4) ?_⟩
          · rw [Int.natAbs_natCast]; exact Nat.lt_of_le_of_lt Ub (Nat.one_lt_two_pow (by decide))
          · rw [Int.mul_one, Int.natAbs_natCast]; exact Nat.lt_of_le_of_lt Ub (Nat.one_lt_two_pow (by decide))
          · rw [Rat.zero_divInt] at hr4
            exact hr4
        · obtain ⟨m, em⟩ : ∃ m, l.length = m + 1 := ⟨l.length - 1, by omega⟩
          have n12 : l.length * n1 + l.length * n2 = l.length * (n1 + n2) := by rw [Nat.mul_add]
          rw [em] at inv k ⊢
          rw [if_pos (decide_eq_true (by omega))]
          have epw : ((q.den ^ (m + 1) : Nat) : Int).fdiv (q.den : Int) = ((q.den ^ m : Nat) : Int) := by
            rw [Int.fdiv_eq_ediv_of_nonneg _ (by omega), ← Int.natCast_ediv, Nat.pow_succ, Nat.mul_div_cancel _ bp]
          rw [epw]
          have pw : q.den ^ m ≤ 2 ^ (m * n2) := den_pow_lt h2
          have mle : m * n2 ≤ l.length * n2 := Nat.mul_le_mul_right _ (by omega)
          refine ⟨⟨by omega, ?_⟩, ⟨?_, ?_⟩, _, _, rfl, ?_, ?_, fun r H4 s4 hr4 => k r H4 (s02.trans s4) ?_⟩
          · rw [Int.natAbs_natCast]; exact Nat.lt_of_lt_of_le h2.2 (Nat.pow_le_pow_right (by decide) (by omega))
          · rw [Int.natAbs_natCast]; exact Nat.lt_of_le_of_lt Ub (Nat.pow_lt_pow_right (by decide) (by omega))
          · rw [Int.natAbs_natCast]; exact Nat.lt_of_le_of_lt pw (Nat.pow_lt_pow_right (by decide) (by omega))
          · have := Nat.pow_pos (n := m) bp
            exact Int.mul_ne_zero (by omega) (by omega)
          · rw [Int.natAbs_mul, Int.natAbs_natCast, Int.natAbs_natCast]
            refine Nat.lt_of_le_of_lt (Nat.mul_le_mul Ub pw) ?_
            rw [← Nat.pow_add]
            exact Nat.pow_lt_pow_right (by decide) (by omega)
          · rw [at_end inv U0] at hr4
            exact hr4
    · exact ⟨_, _, rfl, .inr ⟨hz, k⟩⟩
abbrev N_Poly_moved : List Str := ["self", "start", "step", "first", "by", "found", "number"]
theorem sc_Poly_moved : FnScope N_Poly_moved ["self", "start", "step"] (defScope sPoly_moved) := ⟨rfl, rfl, rfl, by decide +kernel, rfl, by decide +kernel, by decide +kernel⟩
def spMoved (C B : Addr) : Sp := fun vs H Q E => ∃ v z u l n1, vs = [v, z, u] ∧ PoV C H v l ∧ Hl n1 l ∧ l.length ≤ 100 ∧
  ((∃ p q n2, IsR H z p ∧ IsR H u q ∧ Hq n2 p ∧ Hq n2 q ∧ n1 ≤ 4000 ∧ n2 ≤ 4000 ∧ (∀ i, i < l.length → 3 * (mB n1 n2 i + n1 + n2 + 3) ≤ 4300) ∧ ∀ r H', Sm [] [] H H' → PoV C H' r (mv l p q l.length) → Q r H') ∨
   (NoRat H z ∧ Exn B [("number", z), ("what", .str "start")] H E) ∨ (∃ p, IsR H z p ∧ NoRat H u ∧ Exn B [("number", u), ("what", .str "step")] H E))
theorem ok_moved (T : Tx K mg) : Met P w K mg base (L2.CX P w) 9 (He.ga K "Poly") "moved" (spMoved (He.ga K "Poly") (He.ga K "BadNumber")) := by
  have c_told := ok_told (P := P) (w := w) (base := base) T
  have c_init := ok_init (P := P) (w := w) (base := base) T
  have c_mul := ok_mul (P := P) (w := w) (base := base) T
  have c_rmul := ok_rmul (P := P) (w := w) (base := base) T
  have c_add := ok_add (P := P) (w := w) (base := base) T
  have c_radd := ok_radd (P := P) (w := w) (base := base) T
  obtain ⟨fd, F⟩ := T.m_Poly_moved
  refine metX F T.t_moved sc_Poly_moved (ps := ["self", "start", "step"]) (fun _ _ _ _ _ _ us hl => match us, hl with | [_, _, _], _ => rfl) (fun vs H Q E h => ?_) (fun cdv A outer s H vs Q E hr h => ?_)
  · obtain ⟨v, z, u, l, n1, rfl, _⟩ := h
    rfl
  · obtain ⟨v, z, u, l, n1, rfl, hv, h1, hl, h⟩ := h
    have tk := takes_of (X := cxOf (L2.CX P w) P w K mg base N_Poly_moved "Poly.moved" (defScope sPoly_moved) (He.ma K (He.ga K "Poly") "moved") cdv A outer s H E) rfl rfl rfl rfl
    have px : Passes (L2.CX P w) _ E := passes_call tk (fun _ _ _ _ z => z)
    refine ⟨_, (pss_cons (ps_par (i := 3) (j := 4) rfl sc_Poly_moved.nd rfl rfl (by decide) rfl rfl (pa_cons (pe_cal c_told hr (by decide) px (pa_cons (pv 1) (pa_cons pe_str pa_nil))) (pa_cons (pe_cal c_told hr (by decide) px (pa_cons (pv 2) (pa_cons pe_str pa_nil))) pa_nil)) (by rfl))
      (pss_cons (ps_set (i := 5) sc_Poly_moved.nd rfl (Or.inl rfl) (pe_poly T c_init hr (by decide) px (pa_cons (pe_tup pa_nil) pa_nil)))
      (pss_cons (ps_for (passes_of rfl) rfl (pi_seq (pe_revT (pe_fld (pv 0) rfl))) (pg_name (i := 6) sc_Poly_moved.nd rfl (Or.inl rfl)) (pss_one (ps_set (i := 5) sc_Poly_moved.nd rfl (Or.inl rfl) (pe_op (op_ownL opf_add T.ow c_add c_radd hr (by decide) pass0) (pe_op (op_ownL opf_mul T.ow c_mul c_rmul hr (by decide) pass0) (pv 5) (pe_poly T c_init hr (by decide) px (pa_cons (pe_tup (pa_cons (pv 3) (pa_cons (pv 4) pa_nil))) pa_nil))) (pe_poly T c_init hr (by decide) px (pa_cons (pe_tup (pa_cons (pv 6) pa_nil)) pa_nil))))))
      (pss_one (ps_ret (pv 5)))))), ?_⟩
    walk_at "rd"
    have bt : ∀ b : Int, Sz b → b.natAbs < 2 ^ 9000 := fun b hb => Nat.lt_of_lt_of_le hb (Nat.pow_le_pow_right (by decide) (by decide))
    rcases h with ⟨p, q, n2, hz, hu, hp2, hq2, l1, l2, hm, k⟩ | ⟨hz, k⟩ | ⟨p, ⟨a0, b0, r0, za0, zb0, _⟩, hu, k⟩
    · obtain ⟨a0, b0, r0, za0, zb0, rfl⟩ := hz
      obtain ⟨a1, b1, r1, za1, zb1, rfl⟩ := hu
      refine ⟨_, _, rfl, .inl ⟨a0, b0, r0, bt _ zb0, fun x H1 s1 hx => ⟨_, _, rfl, .inl ⟨a1, b1, r1.m s1, bt _ zb1, fun y H2 s2 hy => ⟨_, _, rfl, ?_⟩⟩⟩⟩⟩
      generalize Rat.divInt a0 b0 = p at *
      generalize Rat.divInt a1 b1 = q at *
      have s12 := s1.trans s2
      refine nt_of fun e H3 _ s3 he => ⟨_, rfl, .inl ⟨e, [], [], rfl, .inl he, ⟨rfl, fun i v e => by simp at e⟩, Nat.zero_le _, fun f0 H4 s4 hf0 => ?_⟩⟩
      have s14 := (s12.trans s3).trans s4
      refine po_num T (hv.m s14) fun p2 vs2 hp2' hq2' => ⟨p2, vs2, rfl, L2.SqT.of hp2', fun a na => ?_⟩
      have s5 : Sm [] [] H4 (upd H4 a (.tup vs2.reverse)) := Sm.new na
      have hql := hq2'.1
      have hrv : Qs (upd H4 a (.tup vs2.reverse)) vs2.reverse l.reverse := (hq2'.rev).m s5
      have ha2 := upd_same (H := H4) (a := a) (o := .tup vs2.reverse)
      generalize hH5 : upd H4 a (.tup vs2.reverse) = H5 at *
      have s15 := s14.trans s5
      have hx5 : IsQ H5 x p := hx.m (((s2.trans s3).trans s4).trans s5)
      have hy5 : IsQ H5 y q := hy.m ((s3.trans s4).trans s5)
      refine ⟨a, _, rfl, .inl ha2, fun J w => for_it' w (fun i σ H' => Sm [] [] H5 H' ∧ ∃ fd o, σ = [some v, some z, some u, some x, some y, some fd, o] ∧ PoV (He.ga K "Poly") H' fd (mv l p q i)) ?_ ?_ ?_ ?_⟩
      · exact ⟨Sm.refl, f0, none, rfl, hf0.m s5⟩
      · intro i σ H6 _ z
        exact Sq.eq (.inl ha2) z.1
      · intro i c σ H6 H7 hi z hy
        obtain ⟨s6, fd, o, rfl, hfd⟩ := z
        obtain ⟨rfl, hy⟩ := hy
        have hi2 : i < l.length := by rw [List.length_reverse] at hi; omega
        have hx := hrv.get hy
        rw [cf_rev hi2] at hx
        have lm := mv_le l p q i
        have hlm := hl_mv h1 hp2 hq2 i
        have hmi := hm i hi2
        have hs2 := strip_le [p, q]
        have hs1 := strip_le [cf l (l.length - 1 - i)]
        have hpm := pmul_le (mv l p q i) (strip [p, q])
        have hhpm := hl_pmul hlm (hl_strip (hl_two hp2 hq2))
        simp only [List.length_cons, List.length_nil] at hs1 hs2
        have mm : (min (mv l p q i).length (strip [p, q]).length + 1) * (mB n1 n2 i + n2 + 2) ≤ 3 * (mB n1 n2 i + n2 + 2) := Nat.mul_le_mul_right _ (by omega)
        have mm2 : min (mv l p q i).length (strip [p, q]).length * (mB n1 n2 i + n2 + 1) ≤ 2 * (mB n1 n2 i + n2 + 1) := Nat.mul_le_mul_right _ (by omega)
        walk_at "rd"
        refine nt_of fun t1 H8 _ s8 h8 => ⟨_, rfl, .inl ⟨t1, [x, y], [p, q], rfl, .inl h8, ⟨rfl, fun j c e => ?_⟩, by show 2 ≤ 900; decide, fun ln H9 s9 hln => ?_⟩⟩
        · match j, e with
          | 0, e => cases e; exact (hx5.m (s6.trans s8)).r hp2 (by omega)
          | 1, e => cases e; exact (hy5.m (s6.trans s8)).r hq2 (by omega)
          | j + 2, e => simp at e
        have s69 := s8.trans s9
        refine ownL_mul (hfd.m s69) hln hlm (hl_strip (hl_two hp2 hq2)) (by omega) (by omega) (by omega) fun r1 H10 s10 hr1 => ?_
        refine nt_of fun t2 H11 _ s11 h11 => ⟨_, rfl, .inl ⟨t2, [c], [cf l (l.length - 1 - i)], rfl, .inl h11, ⟨rfl, fun j d e => ?_⟩, by show 1 ≤ 900; decide, fun ln2 H12 s12' hln2 => ?_⟩⟩
        · match j, e with
          | 0, e => cases e; exact (hx.m (((s6.trans s69).trans s10).trans s11)).r (h1 _) (by omega)
          | j + 1, e => simp at e
        refine ownL_add (s := 1) ((hr1.m s11).m s12') hln2 hhpm (hl_strip (hl_one (h1 _))) (by omega) (by omega) (by omega) fun r2 H13 s13 hr2 => ?_
        exact ⟨((((s6.trans s69).trans s10).trans s11).trans s12').trans s13, _, _, rfl, hr2⟩
      · intro σ H6 z
        obtain ⟨s6, fd, o, rfl, hfd⟩ := z
        walk_at "rd"
        rw [List.length_reverse, hql] at hfd
        exact k _ _ (s15.trans s6) hfd
    · exact ⟨_, _, rfl, .inr ⟨hz, k⟩⟩
    · exact ⟨_, _, rfl, .inl ⟨a0, b0, r0, bt _ zb0, fun x H1 s1 hx => ⟨_, _, rfl, .inr ⟨hu.m s1, k.m s1⟩⟩⟩⟩
abbrev N_divided : List Str := ["one", "other", "rest", "quotient", "place", "by", "power", "number"]
theorem sc_divided : FnScope N_divided ["one", "other"] (defScope s_divided) := ⟨rfl, rfl, rfl, by decide +kernel, rfl, by decide +kernel, by decide +kernel⟩
def spDiv (C B : Addr) : Sp := fun vs H Q E => ∃ v u a b, vs = [v, u] ∧ PoV C H v a ∧ PoV C H u b ∧ a.length ≤ 400 ∧ b.length ≤ 400 ∧
  ((0 < b.length ∧ Nf b ∧ DivSz a b ∧ ∀ p x y H', Sm [] [] H H' → H' p = some (.tup [x, y]) → PoV C H' x (quo a b) → PoV C H' y (rem a b) → Q (.ref p) H') ∨
   (b = [] ∧ Exn B [("number", .int 0), ("what", .str "divisor")] H E))
theorem ok_divided (T : Tx K mg) : Cal P w K mg base (L2.CX P w) 6 "divided" (spDiv (He.ga K "Poly") (He.ga K "BadNumber")) := by
  have c_degree := ok_degree (P := P) (w := w) (base := base) T
  have c_share := ok_share (P := P) (w := w) (base := base) T
  have c_minus := ok_minus (P := P) (w := w) (base := base) T
  have c_times := ok_times (P := P) (w := w) (base := base) T
  have c_init := ok_init (P := P) (w := w) (base := base) T
  obtain ⟨fd, F⟩ := T.f_divided
  refine calX F T.g_divided sc_divided (ps := ["one", "other"]) (fun _ _ _ _ _ _ us hl => match us, hl with | [_, _], _ => rfl) (fun vs H Q E h => ?_) (fun cdv A outer s H vs Q E hr h => ?_)
  · obtain ⟨v, u, a, b, rfl, _⟩ := h
    rfl
  · obtain ⟨v, u, a, b, rfl, hv, hu, ha, hb, h⟩ := h
    have tk := takes_of (X := cxOf (L2.CX P w) P w K mg base N_divided "divided" (defScope s_divided) (He.ga K "divided") cdv A outer s H E) rfl rfl rfl rfl
    have px : Passes (L2.CX P w) _ E := passes_call tk (fun _ _ _ _ z => z)
    refine ⟨_, (pss_cons (ps_if (pt_cmpR op_lt (pe_met0 c_degree T.cl hr (by decide) pass0 (pv 1)) pe_int (nomark _)) (pss_one (ps_raise rfl tk (pmk_BadNumber T hr (pa_cons pe_str (pa_cons pe_int pa_nil))))) pss_nil)
      (pss_cons (ps_par (i := 2) (j := 3) rfl sc_divided.nd rfl rfl (by decide) rfl rfl (pa_cons (pe_callTy call_list_of (by rfl) T.b_list (by decide +kernel) (pa_cons (pe_fld (pv 0) rfl) pa_nil)) (pa_cons (pe_op op_rep (pe_lst (pa_cons (pe_tup (pa_cons pe_int (pa_cons pe_int pa_nil))) pa_nil)) (pe_callB (cr_max rfl) (by rfl) T.b_max (by decide +kernel) (pa_cons (pe_lst (pa_cons (pe_op op_add (pe_op op_sub (pe_callB call_len_seq (by rfl) T.b_len (by decide +kernel) (pa_cons (pe_fld (pv 0) rfl) pa_nil)) (pe_callB call_len_seq (by rfl) T.b_len (by decide +kernel) (pa_cons (pe_fld (pv 1) rfl) pa_nil))) pe_int) (pa_cons pe_int pa_nil))) pa_nil))) pa_nil)) (by rfl))
      (pss_cons (ps_for (passes_of rfl) rfl (pi_list (pe_revL (pe_listRg rfl (by rfl) T.b_list (prg_1 (by rfl) T.b_range (pe_callB call_len_seq (by rfl) T.b_len (by decide +kernel) (pa_cons (pv 3) pa_nil)))))) (pg_name (i := 4) sc_divided.nd rfl (Or.inl rfl)) (pss_cons (ps_set (i := 5) sc_divided.nd rfl (Or.inl rfl) (pe_cal c_share hr (by decide) px (pa_cons (pe_ix ix_list (pv 2) (pe_op op_add (pv 4) (pe_met0 c_degree T.cl hr (by decide) pass0 (pv 1))) (fun _ _ => rfl)) (pa_cons (pe_ix ix_tup (pe_fld (pv 1) rfl) (pe_un un_neg pe_int) (fun _ _ => rfl)) pa_nil))))
      (pss_cons (ps_asg (pv 5) (pg_sub (pv 3) (pv 4) set_list))
      (pss_one (ps_for (passes_of rfl) rfl (pi_enumT (by rfl) T.b_enumerate (pa_cons (pe_fld (pv 1) rfl) pa_nil)) (pg_tup (n := 2) rfl (pgs_cons (pg_name (i := 6) sc_divided.nd rfl (Or.inl rfl)) (pgs_cons (pg_name (i := 7) sc_divided.nd rfl (Or.inl rfl)) pgs_nil))) (pss_one (ps_asg (pe_cal c_minus hr (by decide) px (pa_cons (pe_ix ix_list (pv 2) (pe_op op_add (pv 4) (pv 6)) (fun _ _ => rfl)) (pa_cons (pe_cal c_times hr (by decide) px (pa_cons (pv 5) (pa_cons (pv 7) pa_nil))) pa_nil))) (pg_sub (pv 2) (pe_op op_add (pv 4) (pv 6)) set_list))))))))
      (pss_one (ps_ret (pe_tup (pa_cons (pe_poly T c_init hr (by decide) px (pa_cons (pv 3) pa_nil)) (pa_cons (pe_poly T c_init hr (by decide) px (pa_cons (pe_slice sl_list (pv 2) po_none (po_some (pe_callB (cr_max rfl) (by rfl) T.b_max (by decide +kernel) (pa_cons (pe_lst (pa_cons (pe_met0 c_degree T.cl hr (by decide) pass0 (pv 1)) (pa_cons pe_int pa_nil))) pa_nil)))) pa_nil)) pa_nil)))))))), ?_⟩
    walk_at "rd"
    obtain ⟨ua, udx, uw, rfl, hua, _⟩ := id hu
    refine ⟨ua, udx, _, rfl, hua, rfl, _, b, rfl, hu, ?_⟩
    walk_at "rd"
    rcases h with ⟨lb, nb, dz, k⟩ | ⟨rfl, k⟩
    · rw [decide_eq_false (by omega)]
      refine iteF ?_
      refine po_num T hv fun p0 vs0 hp0 hq0 => ⟨p0, vs0, rfl, .inr (L2.SqT.of hp0), fun R nR => ?_⟩
      have s1 : Sm [] [] H (upd H R (.lst vs0)) := Sm.new nR
      have hR1 := upd_same (H := H) (a := R) (o := .lst vs0)
      generalize upd H R (.lst vs0) = H1 at *
      refine nt_of fun z0 H2 _ s2 hz0 => nl_of fun z1 H3 _ s3 hz1 => ?_
      have s13 := (s1.trans s2).trans s3
      refine po_num T (hv.m s13) fun p1 vs1 hp1 hq1 => ⟨p1, vs1, rfl, .inr (L2.SqT.of hp1), ?_⟩
      rw [hq1.1]
      refine po_num T (hu.m s13) fun p2 vs2 hp2 hq2 => ⟨p2, vs2, rfl, .inr (L2.SqT.of hp2), ?_⟩
      rw [hq2.1]
      refine nl_of fun z2 H4 _ s4 hz2 => ⟨z2, [(a.length : Int) - b.length + 1, 0], rfl, L2.SqL.of hz2, by simp, fun mm hm1 hm2 => ?_⟩
      have em : mm = ((dm a b : Nat) : Int) := by
        have a1 := hm2 ((a.length : Int) - b.length + 1) (by simp)
        have a2 := hm2 0 (by simp)
        have : dm a b = a.length + 1 - b.length := rfl
        rcases List.mem_cons.mp hm1 with z | z
        · omega
        · have := List.mem_singleton.mp z; omega
      subst em
      have dml : dm a b ≤ 400 := by have : dm a b = a.length + 1 - b.length := rfl; omega
      refine ⟨z1, _, _, rfl, rfl, s4.lst hz1 List.not_mem_nil, by omega, by omega, by rw [List.length_singleton, sizeLine_eq]; omega, fun QQ nQ => ?_⟩
      rw [Int.toNat_natCast, rep_flat]
      have s5 : Sm [] [] H4 (upd H4 QQ (.lst (List.replicate (dm a b) (.ref z0)))) := Sm.new nQ
      have hQ5 := upd_same (H := H4) (a := QQ) (o := .lst (List.replicate (dm a b) (.ref z0)))
      have s15 : Sm [] [] H1 (upd H4 QQ (.lst (List.replicate (dm a b) (.ref z0)))) := ((s2.trans s3).trans s4).trans s5
      have hz5 := ((s3.trans s4).trans s5).tup hz0
      have RneQ : R ≠ QQ := fun e => by
        have := ((s2.trans s3).trans s4).lst hR1 List.not_mem_nil
        rw [e, nQ] at this; cases this
      have nQH : H QQ = none := (((s1.trans s2).trans s3).trans s4).free nQ
      generalize upd H4 QQ (.lst (List.replicate (dm a b) (.ref z0))) = H5 at *
      have hR5 := s15.lst hR1 List.not_mem_nil
      refine ⟨_, _, rfl, ?_⟩
      refine ⟨QQ, _, rfl, .inl (L2.SqL.of hQ5), ?_⟩
      rw [List.length_replicate]
      refine ⟨RgOk.of_le (by omega) (by omega) (by omega) (by omega), fun g1 ng1 => ⟨g1, _, rfl, L2.SqL.of upd_same, fun rl nrl => ?_⟩⟩
      have s6 : Sm [] [] H5 (upd (upd H5 g1 (.lst (rgV 0 (dm a b : Nat)))) rl (.lst (rgV 0 (dm a b : Nat)).reverse)) := (Sm.new ng1).trans (Sm.new nrl)
      have hrl := upd_same (H := upd H5 g1 (.lst (rgV 0 (dm a b : Nat)))) (a := rl) (o := .lst (rgV 0 (dm a b : Nat)).reverse)
      have rlR : rl ≠ R := fun e => by
        have := (Sm.new (D := []) (L := []) (o := .lst (rgV 0 (dm a b : Nat))) ng1).lst hR5 List.not_mem_nil
        rw [← e, nrl] at this; cases this
      have rlQ : rl ≠ QQ := fun e => by
        have := (Sm.new (D := []) (L := []) (o := .lst (rgV 0 (dm a b : Nat))) ng1).lst hQ5 List.not_mem_nil
        rw [← e, nrl] at this; cases this
      generalize upd (upd H5 g1 (.lst (rgV 0 (dm a b : Nat)))) rl (.lst (rgV 0 (dm a b : Nat)).reverse) = Hs at *
      have rll : (rgV 0 (dm a b : Nat)).reverse.length = dm a b := by rw [List.length_reverse, rgV_length]; omega
      have hRs := s6.lst hR5 List.not_mem_nil
      have hQs := s6.lst hQ5 List.not_mem_nil
      have s0s : Sm [] [] H Hs := (s1.trans s15).trans s6
      have hus := hu.m s0s
      have qR : Qs Hs vs0 a := hq0.m s0s
      have qQ : Qs Hs (List.replicate (dm a b) (.ref z0)) (List.replicate (dm a b) 0) := Qs.rep (isQ_zero (s6.tup hz5)) _
      have hd : dm a b = a.length + 1 - b.length := rfl
      have up : ∀ H', Sm [] [R, QQ] Hs H' → Sm [] [] H H' := fun H' s => ((s0s.w (fun _ h => h) (fun _ h => nomatch h)).trans s).drop nR |>.drop nQH
      refine ⟨rl, rfl, ⟨_, L2.SqL.of hrl⟩, for_it' (walk_list (xs := (rgV 0 (dm a b : Nat)).reverse)) (fun j σ H' => Sm [] [R, QQ] Hs H' ∧ ∃ vsR vsQ lr lq o1 o2 o3 o4, σ = [some v, some (.ref ua), some (.ref R), some (.ref QQ), o1, o2, o3, o4] ∧ H' R = some (.lst vsR) ∧ H' QQ = some (.lst vsQ) ∧
        Qs H' vsR lr ∧ Qs H' vsQ lq ∧ lr.length = a.length ∧ lq.length = dm a b ∧ (∀ i, cf lr i = dv a b j i) ∧ ∀ i, i < dm a b → dm a b ≤ i + j → cf lq i = by_ a b (dm a b - 1 - i)) ?_ ?_ ?_ ?_⟩
      · exact ⟨Sm.refl, vs0, _, a, _, none, none, none, none, rfl, hRs, hQs, qR, qQ, rfl, by simp, fun i => rfl, fun i h1 h2 => by omega⟩
      · intro j σ H' _ z
        exact L2.SqL.of (z.1.lst hrl (by simp [rlR, rlQ]))
      · intro j x σ H' H'' hj z y
        obtain ⟨s7, vsR, vsQ, lr, lq, o1, o2, o3, o4, rfl, hR, hQ, eR, eQ, lrl, lql, hr1, hq1'⟩ := z
        obtain ⟨rfl, y⟩ := y
        rw [rll] at hj
        rw [rgV_rev hj] at y
        cases y
        have hpl : pl a b j = dm a b - 1 - j := by show a.length - b.length - j = _; omega
        have hu7 := hus.m s7
        obtain ⟨_, udx7, uw7, e7, hua7, _⟩ := id hu7
        cases e7
        walk_at "rd"
        obtain ⟨vr, evr, hvr⟩ := eR.at_ (i := pl a b j + (b.length - 1)) (by omega)
        refine ⟨ua, udx7, _, rfl, hua7, rfl, _, b, rfl, hu7, ?_⟩
        walk_at "rd"
        refine SqL.ix hR (v := vr) (by rw [show ((dm a b - 1 - j : Nat) : Int) + ((b.length : Int) - 1) = ((pl a b j + (b.length - 1) : Nat) : Int) by omega]; exact atI_nat evr) ?_
        refine po_num T hu7 fun p3 vs3 hp3 hq3 => ?_
        obtain ⟨vl, evl, hvl⟩ := hq3.at_ (i := b.length - 1) (by omega)
        refine SqT.ix hp3 (v := vl) (atI_neg1 (by rw [hq3.1]; exact evl)) ?_
        rw [hr1] at hvr
        refine share_r (hvr.r (dz.1 j _ (by omega))) (hvl.r (dz.2.2.2 _)) (nb.top lb) fun by1 H8 s8 hby => ?_
        have hQ8 := s8.lst hQ List.not_mem_nil
        have hR8 := s8.lst hR List.not_mem_nil
        refine ⟨QQ, vsQ, _, dm a b - 1 - j, rfl, rfl, hQ8, ixN_nat (by rw [eQ.1]; omega), ?_⟩
        have s9 : Sm [] [R, QQ] H8 (upd H8 QQ (.lst (vsQ.set (dm a b - 1 - j) by1))) := Sm.put hQ8 (by simp)
        have hQ9 := upd_same (H := H8) (a := QQ) (o := .lst (vsQ.set (dm a b - 1 - j) by1))
        have hR9 : upd H8 QQ (.lst (vsQ.set (dm a b - 1 - j) by1)) R = some (.lst vsR) := by rw [upd_ne RneQ]; exact hR8
        generalize upd H8 QQ (.lst (vsQ.set (dm a b - 1 - j) by1)) = H9 at *
        have s89 : Sm [] [R, QQ] H'' H9 := (s8.w (fun _ h => h) (fun _ h => nomatch h)).trans s9
        have hby9 : IsQ H9 by1 (by_ a b j) := hby.m s9
        have eQ9 : Qs H9 (vsQ.set (dm a b - 1 - j) by1) (lq.set (dm a b - 1 - j) (by_ a b j)) := (eQ.m s89).set hby9 _
        have s79 := s7.trans s89
        have hu9 := hus.m s79
        refine po_num T hu9 fun p4 vs4 hp4 hq4 => ⟨p4, vs4, rfl, L2.SqT.of hp4, ?_⟩
        refine for_it' (walk_enumT (xs := vs4)) (fun k σ H' => Sm [] [R, QQ] Hs H' ∧ H' p4 = some (.tup vs4) ∧ Qs H' vs4 b ∧ IsQ H' by1 (by_ a b j) ∧ ∃ vsR lr2 o3 o4, σ = [some v, some (.ref ua), some (.ref R), some (.ref QQ), some (.int ((dm a b - 1 - j : Nat) : Int)), some by1, o3, o4] ∧ H' R = some (.lst vsR) ∧ H' QQ = some (.lst (vsQ.set (dm a b - 1 - j) by1)) ∧
          Qs H' vsR lr2 ∧ Qs H' (vsQ.set (dm a b - 1 - j) by1) (lq.set (dm a b - 1 - j) (by_ a b j)) ∧ lr2.length = a.length ∧ ∀ i, cf lr2 i = dv a b j i - (if pl a b j ≤ i ∧ i < pl a b j + k then by_ a b j * cf b (i - pl a b j) else 0)) ?_ ?_ ?_ ?_
        · exact ⟨s79, hp4, hq4, hby9, vsR, lr, _, _, rfl, hR9, hQ9, eR.m s89, eQ9, lrl, fun i => by rw [if_neg (by omega), hr1]; grind⟩
        · intro k σ H' _ z
          exact z.2.1
        · intro k x σ H10 H11 hk z y
          obtain ⟨s10, hp10, hq10, hby10, vsR2, lr2, o3', o4', rfl, hR10, hQ10, eR10, eQ10, ll2, hlr2⟩ := z
          obtain ⟨TT, x1, x2, rfl, nT, rfl, e1, e2⟩ := y
          cases e1
          have hk2 : k < b.length := hq10.1 ▸ hk
          have s11 : Sm [] [] H10 (upd H10 TT (.tup [.int (k : Nat), x2])) := Sm.new nT
          have hR11 := s11.lst hR10 List.not_mem_nil
          have hx2 := (hq10.get e2).m s11
          have hby11 := hby10.m s11
          have eR11 := eR10.m s11
          refine gTup2 upd_same ?_
          generalize upd H10 TT (.tup [.int (k : Nat), x2]) = H11 at *
          walk_at "rd"
          have pk : pl a b j + k < a.length := by omega
          obtain ⟨v5, ev5, hv5⟩ := eR11.at_ (i := pl a b j + k) (by omega)
          have c5 : cf lr2 (pl a b j + k) = dv a b j (pl a b j + k) := by rw [hlr2, if_neg (by omega)]; grind
          rw [c5] at hv5
          refine SqL.ix hR11 (v := v5) (by rw [show ((dm a b - 1 - j : Nat) : Int) + (k : Nat) = ((pl a b j + k : Nat) : Int) by omega]; exact atI_nat ev5) ?_
          refine times_r (hby11.r (dz.2.1 j hj)) (hx2.r (dz.2.2.2 _)) fun t1 H12 s12 ht1 => ?_
          refine minus_r ((hv5.m s12).r (dz.1 j _ (by omega))) (ht1.r (dz.2.2.1 j _ hj)) fun t2 H13 s13' ht2 => ?_
          have s1113 := s12.trans s13'
          have hR13 := s1113.lst hR11 List.not_mem_nil
          refine ⟨R, vsR2, _, pl a b j + k, rfl, rfl, hR13, by rw [show ((dm a b - 1 - j : Nat) : Int) + (k : Nat) = ((pl a b j + k : Nat) : Int) by omega]; exact ixN_nat (by rw [eR11.1, ll2]; exact pk), ?_⟩
          have s14 : Sm [] [R, QQ] H13 (upd H13 R (.lst (vsR2.set (pl a b j + k) t2))) := Sm.put hR13 (by simp)
          have s11' : Sm [] [R, QQ] H10 (upd H13 R (.lst (vsR2.set (pl a b j + k) t2))) := ((s11.trans s1113).w (fun _ h => h) (fun _ h => nomatch h)).trans s14
          refine ⟨s10.trans s11', s11'.tup hp10, hq10.m s11', hby10.m s11', _, lr2.set (pl a b j + k) (dv a b j (pl a b j + k) - by_ a b j * cf b k), _, _, rfl, upd_same, ?_, ?_, eQ10.m s11', by simp [ll2], ?_⟩
          · rw [upd_ne (fun z => RneQ z.symm)]
            exact (s11.trans s1113).lst hQ10 List.not_mem_nil
          · exact (eR10.m s11').set (ht2.m s14) _
          · intro i
            rw [cf_set _ _ _ _ (by omega), hlr2]
            by_cases hi : i = pl a b j + k
            · subst hi
              rw [if_pos rfl, if_pos (by omega), Nat.add_sub_cancel_left]
            · rw [if_neg hi]
              by_cases h2 : pl a b j ≤ i ∧ i < pl a b j + k
              · rw [if_pos h2, if_pos (by omega)]
              · rw [if_neg h2, if_neg (by omega)]
        · intro σ H10 z
          obtain ⟨s10, hp10, hq10, hby10, vsR2, lr2, o3', o4', rfl, hR10, hQ10, eR10, eQ10, ll2, hlr2⟩ := z
          refine ⟨s10, _, _, lr2, _, _, _, _, _, rfl, hR10, hQ10, eR10, eQ10, ll2, by simp [lql], fun i => ?_, fun i h1 h2 => ?_⟩
          · rw [hlr2, dv_succ, hq10.1]
            by_cases h1 : pl a b j ≤ i
            · by_cases h2 : i < pl a b j + b.length
              · rw [if_pos ⟨h1, h2⟩, if_pos h1]
              · rw [if_neg (by omega), if_pos h1, cf_ge (l := b) (by omega)]; grind
            · rw [if_neg (by omega), if_neg h1]
          · rw [cf_set _ _ _ _ (by omega)]
            by_cases hi : i = dm a b - 1 - j
            · rw [if_pos hi, hi, show dm a b - 1 - (dm a b - 1 - j) = j by omega]
            · rw [if_neg hi]
              exact hq1' i h1 (by omega)
      · intro σ H' z
        obtain ⟨s7, vsR, vsQ, lr, lq, o1, o2, o3, o4, rfl, hR, hQ, eR, eQ, lrl, lql, hr1, hq1'⟩ := z
        rw [rll] at hr1 hq1'
        walk_at "rd"
        have bq : Hl 4400 lq := hl_of (by decide) fun i hi => by
          rw [hq1' i (by omega) (by omega)]
          exact dz.2.1 _ (by omega)
        have bR : Hl 4400 lr := fun i => by rw [hr1]; exact dz.1 _ _ (Nat.le_refl _)
        refine ⟨_, rfl, .inl ⟨QQ, vsQ, lq, rfl, .inr hQ, rs_qs eQ bq (Nat.le_refl _), by omega, fun w1 H8 s8 hw1 => ?_⟩⟩
        have eq1 : strip lq = quo a b := strip_pO lql fun i hi => hq1' i hi (by omega)
        rw [eq1] at hw1
        have hu8 := hus.m (s7.trans (s8.w (fun _ h => h) (fun _ h => nomatch h)))
        obtain ⟨_, udx7, uw7, e7, hua7, _⟩ := id hu8
        cases e7
        refine ⟨ua, udx7, _, rfl, hua7, rfl, _, b, rfl, hu8, ?_⟩
        refine nl_of fun z9 H9 _ s9 hz9 => ⟨z9, [(b.length : Int) - 1, 0], rfl, L2.SqL.of hz9, by simp, fun mm hm1 hm2 => ?_⟩
        have em : mm = ((b.length - 1 : Nat) : Int) := by
          have a1 := hm2 ((b.length : Int) - 1) (by simp)
          have a2 := hm2 0 (by simp)
          rcases List.mem_cons.mp hm1 with z | z
          · omega
          · have := List.mem_singleton.mp z; omega
        subst em
        have s89 := s8.trans s9
        have hR9 := s89.lst hR List.not_mem_nil
        refine ⟨_, rfl, R, vsR, rfl, L2.SqL.of hR9, fun t nt => ?_⟩
        have s10 : Sm [] [] H9 (upd H9 t (.lst (cutV vsR none (some ((b.length - 1 : Nat) : Int))))) := Sm.new nt
        have ht := upd_same (H := H9) (a := t) (o := .lst (cutV vsR none (some ((b.length - 1 : Nat) : Int))))
        generalize upd H9 t (.lst (cutV vsR none (some ((b.length - 1 : Nat) : Int)))) = H10 at *
        have ec : cutV vsR none (some ((b.length - 1 : Nat) : Int)) = vsR.take (b.length - 1) := by
          unfold cutV
          rw [HT.sIx_none, HT.sIx_nat, List.drop_zero, Nat.sub_zero]
          rcases Nat.le_total (b.length - 1) vsR.length with z | z
          · rw [Nat.min_eq_left z]
          · rw [Nat.min_eq_right z, List.take_of_length_le (Nat.le_refl _), List.take_of_length_le z]
        rw [ec] at ht
        have s810 := s89.trans s10
        have eT : Qs H10 (vsR.take (b.length - 1)) (lr.take (b.length - 1)) := (eR.m s810).take _
        have bT : Hl 4400 (lr.take (b.length - 1)) := fun i => by
          rw [cf_take]
          split
          · exact bR i
          · exact hq_zero (by decide)
        refine ⟨_, rfl, .inl ⟨t, _, _, rfl, .inr ht, rs_qs eT bT (Nat.le_refl _), by rw [List.length_take]; omega, fun w2 H11 s11 hw2 => ?_⟩⟩
        have eq2 : strip (lr.take (b.length - 1)) = rem a b := strip_ext fun i => by
          rw [cf_take, cf_map, hr1]
        rw [eq2] at hw2
        refine nt_of fun t3 H12 _ s12 ht3 => ?_
        have sl : Sm [] [] H' H12 := (s810.trans s11).trans s12
        exact k t3 w1 w2 H12 (up _ (s7.trans (sl.w (fun _ h => h) (fun _ h => nomatch h)))) ht3 (hw1.m (((s9.trans s10).trans s11).trans s12)) (hw2.m s12)
    · rw [decide_eq_true (by simp)]
      exact iteT ⟨_, _, rfl, k⟩
abbrev N_plain : List Str := ["poly", "number"]
theorem sc_plain : FnScope N_plain ["poly"] (defScope s_plain) := ⟨rfl, rfl, rfl, by decide +kernel, rfl, by decide +kernel, by decide +kernel⟩
def spPlain (C : Addr) : Sp := fun vs H Q _ => ∃ v l, vs = [v] ∧ PoV C H v l ∧ Nf l ∧ Hl 4400 l ∧ Hl 4400 (pplain l) ∧ l.length ≤ 400 ∧ ∀ r H', Sm [] [] H H' → PoV C H' r (pplain l) → Q r H'
theorem ok_plain (T : Tx K mg) : Cal P w K mg base CX0 6 "plain" (spPlain (He.ga K "Poly")) := by
  have c_share := ok_share (P := P) (w := w) (base := base) T
  have c_init := ok_init (P := P) (w := w) (base := base) T
  obtain ⟨fd, F⟩ := T.f_plain
  refine cal0 F T.g_plain sc_plain (ps := ["poly"]) (fun _ _ _ _ _ _ us hl => match us, hl with | [_], _ => rfl) (fun vs H Q E h => ?_) (fun cdv A outer s H vs Q E hr h => ?_)
  · obtain ⟨v, l, rfl, _⟩ := h
    rfl
  · obtain ⟨v, l, rfl, hv, nf, h1, h2, hl, k⟩ := h
    refine ⟨_, (pss_one (ps_ret (pe_poly T c_init hr (by decide) passL (pa_cons (pe_lc (own := [("number", 1)]) rfl sc_plain.nd (pi_seq (pe_fld (pv 0) rfl)) (blkOk_by (own := [("number", 1)]) (N := N_plain) (sc := defScope s_plain) (by decide +kernel)) (fun _ _ _ _ _ => (pg_name (i := 1) sc_plain.nd rfl (Or.inl rfl) (Or.inr rfl))) (fun _ _ _ _ _ => pts_nil) (fun _ _ _ _ _ => (pe_cal c_share hr (by decide) passL (pa_cons (pv 1) (pa_cons (pe_ix (ix_tupK (K := K) rfl) (pe_fldK (K := K) rfl (pv 0) rfl) (pe_un un_neg pe_int) (fun _ _ => rfl)) pa_nil))))) pa_nil)))), ?_⟩
    walk_at "rd"
    refine po_num T hv fun p vs hp hq => ⟨p, vs, rfl, .inl hp, fun J w D nD => ?_⟩
    refine lc_list' w (Dm := []) (R := fun k v H => IsQ H v (cf l k / cf l (l.length - 1))) (P := fun _ _ => True) nD (by rw [hq.1]; omega) trivial (fun _ _ _ _ h s => h.m s) (fun _ _ _ _ _ _ => trivial) (fun H s => Sq.eq (.inl hp) s) ?_ ?_
    · intro i x H3 H4 C hi s3 _ _ hy hc
      obtain ⟨rfl, hy⟩ := hy
      have hi2 : i < l.length := hq.1 ▸ hi
      walk_at "rd"
      refine po_num T (hv.m s3) fun p2 vs2 hp2 hq2 => ?_
      obtain ⟨x2, ex2, hx2⟩ := hq2.at_ (i := l.length - 1) (by omega)
      refine SqT.ix hp2 (v := x2) (atI_neg1 (by rw [hq2.1]; exact ex2)) ?_
      exact share_r (((hq.get hy).m s3).r (h1 i)) (hx2.r (h1 _)) (nf.top (by omega)) fun r H5 s5 hr5 => hc _ _ s5 hr5 trivial
    · intro acc H3 s3 hD hl3 hr3 _
      rw [hq.1] at hl3
      have hb : ∀ i, i < l.length → Hq 4400 (cf l i / cf l (l.length - 1)) := fun i hi => by
        have := h2 i
        rwa [pplain, cf_pO, if_pos hi] at this
      exact ⟨_, rfl, .inl ⟨D, acc, _, rfl, .inr hD, rs_of hl3 hr3 hb (Nat.le_refl _), by simp; omega, fun u H4 s4 hu4 => k u H4 (s3.trans s4) hu4⟩⟩
abbrev N_common : List Str := ["one", "other", "first", "second"]
theorem sc_common : FnScope N_common ["one", "other"] (defScope s_common) := ⟨rfl, rfl, rfl, by decide +kernel, rfl, by decide +kernel, by decide +kernel⟩
def spCom (C : Addr) : Sp := fun vs H Q _ => ∃ v u t n, vs = [v, u] ∧ PoV C H v (t 0) ∧ PoV C H u (t 1) ∧ Chain t n ∧ ∀ r H', Sm [] [] H H' → PoV C H' r (pplain (t n)) → Q r H'
theorem ok_common (T : Tx K mg) : Cal P w K mg base CX0 7 "common" (spCom (He.ga K "Poly")) := by
  have c_degree := ok_degree (P := P) (w := w) (base := base) T
  have c_divided := ok_divided (P := P) (w := w) (base := base) T
  have c_plain := ok_plain (P := P) (w := w) (base := base) T
  obtain ⟨fd, F⟩ := T.f_common
  refine cal0 F T.g_common sc_common (ps := ["one", "other"]) (fun _ _ _ _ _ _ us hl => match us, hl with | [_, _], _ => rfl) (fun vs H Q E h => ?_) (fun cdv A outer s H vs Q E hr h => ?_)
  · obtain ⟨v, u, t, n, rfl, _⟩ := h
    rfl
  · obtain ⟨v, u, t, n, rfl, hv, hu, hc, k⟩ := h
    refine ⟨_, (pss_cons (ps_par (i := 2) (j := 3) rfl sc_common.nd rfl rfl (by decide) rfl rfl (pa_cons (pv 0) (pa_cons (pv 1) pa_nil)) (by rfl))
      (pss_cons (ps_while PassesOwn.never (pt_cmpR op_ge (pe_met0 c_degree T.cl hr (by decide) pass0 (pv 3)) pe_int (nomark _)) (pss_one (ps_par (i := 2) (j := 3) rfl sc_common.nd rfl rfl (by decide) rfl rfl (pa_cons (pv 3) (pa_cons (pe_cal c_plain hr (by decide) pass0 (pa_cons (pe_ix ix_tup (pe_cal c_divided hr (by decide) passL (pa_cons (pv 2) (pa_cons (pv 3) pa_nil))) pe_int (fun _ _ => rfl)) pa_nil)) pa_nil)) (by rfl))))
      (pss_one (ps_ret (pe_cal c_plain hr (by decide) pass0 (pa_cons (pv 2) pa_nil)))))), ?_⟩
    walk_at "rd"
    refine ⟨_, _, rfl, fun m σ H' => ∃ i, m = n - i ∧ i ≤ n ∧ Sm [] [] H H' ∧ ∃ x y, σ = [some v, some u, some x, some y] ∧ PoV (He.ga K "Poly") H' x (t i) ∧ PoV (He.ga K "Poly") H' y (t (i + 1)), ⟨n, 0, by omega, Nat.zero_le _, Sm.refl, v, u, rfl, hv, hu⟩, ?_⟩
    intro m σ H' z
    obtain ⟨i, rfl, hi, s1, x, y, rfl, hx, hy⟩ := z
    obtain ⟨ya, ydx, yw, rfl, hya, _⟩ := id hy
    walk_at "rd"
    refine ⟨ya, ydx, _, rfl, hya, rfl, _, t (i + 1), rfl, hy, ?_⟩
    walk_at "rd"
    by_cases e : i = n
    · subst e
      rw [hc.en]
      rw [decide_eq_false (by simp), if_neg (by decide)]
      refine ⟨_, _, rfl, hx, hc.nf i (by omega), hc.fz.1, hc.fz.2, hc.le i (by omega), fun r H2 s2 hr2 => k r H2 (s1.trans s2) hr2⟩
    · have hin : i < n := by omega
      have hne := hc.ne i hin
      rw [decide_eq_true (by omega), if_pos rfl]
      refine ⟨fun σ H' => Sm [] [] H H' ∧ ∃ x y, σ = [some v, some u, some x, some y] ∧ PoV (He.ga K "Poly") H' x (t (i + 1)) ∧ PoV (He.ga K "Poly") H' y (t (i + 1 + 1)), fun σ' H2 z => ⟨n - (i + 1), by omega, i + 1, rfl, by omega, z⟩, ?_⟩
      refine ⟨_, _, _, _, rfl, hx, hy, hc.le i (by omega), hc.le (i + 1) (by omega), .inl ⟨hne, hc.nf _ (by omega), hc.dz i hin, fun p q r H2 s2 hp hq hr2 => ?_⟩⟩
      walk_at "rd"
      refine SqT.ix hp rfl ⟨_, _, rfl, hr2, nf_rem _ _, (hc.pz i hin).1, (hc.pz i hin).2, Nat.le_trans (rem_le _ _) (by have := hc.le (i + 1) (by omega); omega), fun w H3 s3 hw => ⟨_, _, rfl, (s1.trans s2).trans s3, _, _, rfl, hy.m (s2.trans s3), ?_⟩⟩
      rw [hc.st i hin]
      exact hw
end
end G3
end
section
set_option maxHeartbeats 4000000
namespace G3
open PySem PySem.Spec PyProof.Rows L2
local macro_rules | `(tactic| walk_at "rd") => `(tactic| simp only [wipe, sDPut, tDGet, tDisp, tPairs, tBM0, tBM, tBreak, sFld, tPar3, tRevL, tLstRg, tRg1, tRg2, gSub, rSetL,  tSl, tNoPart, tPart, iRng1, iRng2, iRng3, tRevT, tLc_eq, tFor_eq, iEnumT, iSeq, iList, iTup, RZ.iZipA, tFld_eq, tMeth, tVar, tC, tOp, tUn, tCons, tNil, tCB, tCall, tRet, tSeq, tAsg, gName, tIfS, tIf, tTest, tB, tNot, tAnd, tOr, tNotV, tAndV, tOrV, rI0_int, rI_int, rU_int, rEq_int, rNe_int, tPar, tNext, tDrop, tTup_nt, tLst_nl, tMkBN, tMkBR, cxOf_K, L2.start, List.map_cons, List.map_nil, List.length_cons, List.length_nil, List.cons_append, List.nil_append, List.append_nil, List.replicate_succ, List.replicate_zero, Nat.reduceAdd, Nat.reduceSub, Nat.sub_self, List.getElem?_cons_zero, List.getElem?_cons_succ, List.set_cons_zero, List.set_cons_succ, Option.some.injEq, V.int.injEq, V.bl.injEq, exists_eq_left', exists_eq_left, exists_eq_right, exists_eq_right', true_and, and_true, if_true, if_false, ite_true, ite_false, Bool.false_eq_true, Bool.not_true, Bool.not_false, reduceIte])
local macro_rules | `(tactic| walk_at "ix") => `(tactic| repeat (first | refine Sq.ix (by assumption) (by rfl) ?_ | (walk_at "rd"; refine ⟨Sz.mul (by assumption) (by assumption), ?_⟩)))
/-- behind i laps of the gcd's loop -/
def GcdI (G K i : Nat) (a b : Nat) : Prop := Nat.gcd a b = G ∧ ((i % 2 = 0 ∧ b < 2 ^ (K - i / 2)) ∨ (i % 2 = 1 ∧ b < a ∧ a < 2 ^ (K - i / 2)))
theorem half_mod (a b : Nat) (h : b < a) (h0 : 0 < b) : 2 * (a % b) < a := by
  have h1 := Nat.mod_lt a h0
  have h2 := Nat.div_add_mod a b
  have h3 : 1 ≤ a / b := (Nat.le_div_iff_mul_le h0).mpr (by omega)
  have h4 : b * 1 ≤ b * (a / b) := Nat.mul_le_mul_left _ h3
  omega
theorem gcdI_step {G K i a b : Nat} (h : GcdI G K i a b) (hb : 0 < b) : GcdI G K (i + 1) b (a % b) := by
  obtain ⟨g, h⟩ := h
  refine ⟨by rw [Nat.gcd_comm, ← Nat.gcd_rec, Nat.gcd_comm]; exact g, ?_⟩
  rcases h with ⟨e, h⟩ | ⟨e, h1, h2⟩
  · refine .inr ⟨by omega, Nat.mod_lt a hb, ?_⟩
    have : (i + 1) / 2 = i / 2 := by omega
    rw [this]; exact h
  · refine .inl ⟨by omega, ?_⟩
    have h3 := half_mod a b h1 hb
    have h4 : (i + 1) / 2 = i / 2 + 1 := by omega
    rw [h4]
    rcases Nat.lt_or_ge (i / 2) K with z | z
    · have e2 : K - i / 2 = (K - (i / 2 + 1)) + 1 := by omega
      rw [e2, Nat.pow_succ] at h2
      omega
    · rw [show K - i / 2 = 0 by omega] at h2
      omega
theorem gcdI_end {G K i a b : Nat} (h : GcdI G K i a b) (hi : 2 * K ≤ i) : b = 0 := by
  obtain ⟨_, h⟩ := h
  rcases h with ⟨e, h⟩ | ⟨e, h1, h2⟩
  · rw [show K - i / 2 = 0 by omega] at h; omega
  · rw [show K - i / 2 = 0 by omega] at h2; omega
section
variable {P : Program} {w : World} {K : PySem.W.Frag} {mg : Str → Option Value} {base : Heap}
abbrev N_law_gcd : List Str := ["_law_one", "_law_two", "_law_lap"]
theorem sc_law_gcd : FnScope N_law_gcd ["_law_one", "_law_two"] (defScope s_law_gcd) := ⟨rfl, rfl, rfl, by decide +kernel, rfl, by decide +kernel, by decide +kernel⟩
def spLGcd : Sp := fun vs H Q _ => ∃ a b : Int, vs = [.int a, .int b] ∧ b.natAbs < 2 ^ 20000 ∧ Q (.int ((Nat.gcd a.natAbs b.natAbs : Nat) : Int)) H
theorem ok_law_gcd (T : Tx K mg) : Cal P w K mg base CX0 1 "_law_gcd" spLGcd := by
  obtain ⟨fd, F⟩ := T.f_law_gcd
  refine cal0 F T.g_law_gcd sc_law_gcd (ps := ["_law_one", "_law_two"]) (fun _ _ _ _ _ _ us hl => match us, hl with | [_, _], _ => rfl) (fun vs H Q E h => ?_) (fun cdv A outer s H vs Q E hr h => ?_)
  · obtain ⟨a, b, rfl, _⟩ := h
    rfl
  · obtain ⟨a, b, rfl, hb, k⟩ := h
    refine ⟨_, (pss_cons (ps_par (i := 0) (j := 1) rfl sc_law_gcd.nd rfl rfl (by decide) rfl rfl (pa_cons (pe_callB call_abs (by rfl) T.b_abs (by decide +kernel) (pa_cons (pv 0) pa_nil)) (pa_cons (pe_callB call_abs (by rfl) T.b_abs (by decide +kernel) (pa_cons (pv 1) pa_nil)) pa_nil)) (by rfl))
      (pss_cons (ps_for PassesOwn.never rfl (pi_range1 (by rfl) T.b_range (pa_cons pe_int pa_nil)) (pg_name (i := 2) sc_law_gcd.nd rfl (Or.inl rfl)) (pss_cons (ps_if (pt_cmpR op_eq (pv 1) pe_int (nomark _)) (pss_one ps_break) pss_nil)
      (pss_one (ps_par (i := 0) (j := 1) rfl sc_law_gcd.nd rfl rfl (by decide) rfl rfl (pa_cons (pv 1) (pa_cons (pe_op op_mod (pe_callTy call_int1 (by rfl) T.b_int (by decide +kernel) (pa_cons (pv 0) pa_nil)) (pv 1)) pa_nil)) (by rfl)))))
      (pss_one (ps_ret (pv 0))))), ?_⟩
    walk_at "rd"
    have ab : ∀ i : Int, (if i < 0 then -i else i) = (i.natAbs : Int) := fun i => by split <;> omega
    refine ⟨_, rfl, _, rfl, _, _, rfl, _, rfl, by decide, by decide, ?_⟩
    rw [ab, ab]
    refine for_it' (walk_range (lo := 0) (n := 50000)) (fun i σ H' => H' = H ∧ ∃ x y o, σ = [some (.int (x : Nat)), some (.int (y : Nat)), o] ∧ GcdI (Nat.gcd a.natAbs b.natAbs) 20000 i x y) ?_ ?_ ?_ ?_
    · exact ⟨rfl, _, _, _, rfl, rfl, .inl ⟨rfl, hb⟩⟩
    · intro i σ H' _ _
      trivial
    · intro i x σ H' H'' hi z yy
      obtain ⟨rfl, x, y, o, rfl, inv⟩ := z
      obtain ⟨rfl, rfl⟩ := yy
      walk_at "rd"
      by_cases e : y = 0
      · subst e
        rw [if_pos (by simp)]
        have : x = Nat.gcd a.natAbs b.natAbs := by rw [← inv.1, Nat.gcd_zero_right]
        rw [this]
        exact k
      · rw [if_neg (by simp; omega)]
        refine .inl ⟨_, rfl, ?_⟩
        exact ⟨by omega, _, _, rfl, y, x % y, _, rfl, gcdI_step inv (by omega)⟩
    · intro σ H' z
      obtain ⟨rfl, x, y, o, rfl, inv⟩ := z
      have := gcdI_end inv (by decide)
      subst this
      walk_at "rd"
      have : x = Nat.gcd a.natAbs b.natAbs := by rw [← inv.1, Nat.gcd_zero_right]
      rw [this]
      exact k
abbrev N_law_q : List Str := ["_law_top", "_law_bottom", "_law_by"]
theorem sc_law_q : FnScope N_law_q ["_law_top", "_law_bottom"] (defScope s_law_q) := ⟨rfl, rfl, rfl, by decide +kernel, rfl, by decide +kernel, by decide +kernel⟩
theorem ok_law_q (T : Tx K mg) : Cal P w K mg base CX0 2 "_law_q" spLowest := by
  have c_law_gcd := ok_law_gcd (P := P) (w := w) (base := base) T
  obtain ⟨fd, F⟩ := T.f_law_q
  refine cal0 F T.g_law_q sc_law_q (ps := ["_law_top", "_law_bottom"]) (fun _ _ _ _ _ _ us hl => match us, hl with | [_, _], _ => rfl) (fun vs H Q E h => ?_) (fun cdv A outer s H vs Q E hr h => ?_)
  · obtain ⟨a, b, rfl, _⟩ := h
    rfl
  · obtain ⟨a, b, rfl, hb, hz, k⟩ := h
    refine ⟨_, (pss_cons (ps_set (i := 2) sc_law_q.nd rfl (Or.inl rfl) (pe_cal c_law_gcd hr (by decide) pass0 (pa_cons (pv 0) (pa_cons (pv 1) pa_nil))))
      (pss_cons (ps_set (i := 2) sc_law_q.nd rfl (Or.inl rfl) (pe_ifExp (pt_cmpR op_lt (pv 1) pe_int (nomark _)) (pe_un un_neg (pv 2)) (pv 2)))
      (pss_one (ps_ret (pe_tup (pa_cons (pe_op op_fdivS (pv 0) (pv 2)) (pa_cons (pe_op op_fdivS (pv 1) (pv 2)) pa_nil))))))), ?_⟩
    walk_at "rd"
    obtain ⟨e1, e2⟩ := lowest_eq (a := a) hb
    have gpos : 0 < Nat.gcd a.natAbs b.natAbs := Nat.gcd_pos_of_pos_right _ (by omega)
    have gle : Nat.gcd a.natAbs b.natAbs ≤ b.natAbs := Nat.gcd_le_right _ (by omega)
    refine ⟨_, _, rfl, Nat.lt_of_lt_of_le hz (Nat.pow_le_pow_right (by decide) (by decide)), ?_⟩
    walk_at "rd"
    by_cases p : 0 < b
    · rw [if_pos p] at e1 e2
      have c1 : ∀ z : Int, CDivS z ((Nat.gcd a.natAbs b.natAbs : Nat) : Int) := fun z => ⟨by omega, Nat.lt_of_le_of_lt (by omega) hz⟩
      rw [if_neg (by simp; omega)]
      refine ⟨c1 _, c1 _, nt_of fun q H1 nq s1 hq => k _ _ s1 ⟨q, rfl, ?_⟩⟩
      rw [e1, e2]
      exact hq
    · rw [if_neg p] at e1 e2
      have c1 : ∀ z : Int, CDivS z (-((Nat.gcd a.natAbs b.natAbs : Nat) : Int)) := fun z => ⟨by omega, Nat.lt_of_le_of_lt (by omega) hz⟩
      rw [if_pos (by simp; omega)]
      refine ⟨c1 _, c1 _, nt_of fun q H1 nq s1 hq => k _ _ s1 ⟨q, rfl, ?_⟩⟩
      rw [e1, e2]
      exact hq
/-- a pair of ints that is q -/
def IsP (H : Hp) (v : V) (q : Rat) : Prop := ∃ p c d, v = .ref p ∧ H p = some (.tup [.int c, .int d]) ∧ d ≠ 0 ∧ Sz c ∧ Sz d ∧ Rat.divInt c d = q
theorem IsP.m {D L : List Addr} {H H' : Hp} {v : V} {q : Rat} (h : IsP H v q) (s : Sm D L H H') : IsP H' v q := let ⟨p, c, d, e, a, r⟩ := h; ⟨p, c, d, e, s.tup a, r⟩
theorem IsQ.p {H : Hp} {v : V} {q : Rat} {n : Nat} (h : IsQ H v q) (z : Hq n q) (hn : n ≤ 4400 := by omega) : IsP H v q := by
  obtain ⟨p, rfl, h⟩ := h
  exact ⟨p, _, _, rfl, h, by have := q.den_pos; omega, z.szn hn, z.szd hn, rat_self q⟩
def spL2 (f : Rat → Rat → Rat) : Sp := fun vs H Q _ => ∃ v u p q, vs = [v, u] ∧ IsP H v p ∧ IsP H u q ∧ ∀ r H', Sm [] [] H H' → IsQ H' r (f p q) → Q r H'
abbrev N_law_plus : List Str := ["_law_one", "_law_two"]
theorem sc_law_plus : FnScope N_law_plus ["_law_one", "_law_two"] (defScope s_law_plus) := ⟨rfl, rfl, rfl, by decide +kernel, rfl, by decide +kernel, by decide +kernel⟩
theorem ok_law_plus (T : Tx K mg) : Cal P w K mg base CX0 3 "_law_plus" (spL2 fun p q => p + q) := by
  have c_law_q := ok_law_q (P := P) (w := w) (base := base) T
  obtain ⟨fd, F⟩ := T.f_law_plus
  refine cal0 F T.g_law_plus sc_law_plus (ps := ["_law_one", "_law_two"]) (fun _ _ _ _ _ _ us hl => match us, hl with | [_, _], _ => rfl) (fun vs H Q E h => ?_) (fun cdv A outer s H vs Q E hr h => ?_)
  · obtain ⟨v, u, p, q, rfl, _⟩ := h
    rfl
  · obtain ⟨v, u, p, q, rfl, hv, hu, k⟩ := h
    obtain ⟨qv, a, b, rfl, hv, hd1, za, zb, rfl⟩ := hv
    obtain ⟨pu, c, d, rfl, hu, hd2, zc, zd, rfl⟩ := hu
    refine ⟨_, (pss_one (ps_ret (pe_cal c_law_q hr (by decide) pass0 (pa_cons (pe_op op_add (pe_op op_mulS (pe_ix ix_tup (pv 0) pe_int (fun _ _ => rfl)) (pe_ix ix_tup (pv 1) pe_int (fun _ _ => rfl))) (pe_op op_mulS (pe_ix ix_tup (pv 1) pe_int (fun _ _ => rfl)) (pe_ix ix_tup (pv 0) pe_int (fun _ _ => rfl)))) (pa_cons (pe_op op_mulS (pe_ix ix_tup (pv 0) pe_int (fun _ _ => rfl)) (pe_ix ix_tup (pv 1) pe_int (fun _ _ => rfl))) pa_nil))))), ?_⟩
    walk_at "rd"
    repeat (first | refine SqT.ix hv rfl ?_ | refine SqT.ix hu rfl ?_ | (walk_at "rd"; refine ⟨Sz.mul (by assumption) (by assumption), ?_⟩))
    refine ⟨_, _, rfl, Int.mul_ne_zero hd1 hd2, Nat.lt_of_lt_of_le (Sz.sq zb zd) (Nat.pow_le_pow_right (by decide) (by decide)), fun r H' s hr2 => k r H' s ?_⟩
    show IsQ H' r (Rat.divInt a b + Rat.divInt c d)
    rw [Rat.divInt_add_divInt _ _ hd1 hd2]
    exact hr2
abbrev N_law_minus : List Str := ["_law_one", "_law_two"]
theorem sc_law_minus : FnScope N_law_minus ["_law_one", "_law_two"] (defScope s_law_minus) := ⟨rfl, rfl, rfl, by decide +kernel, rfl, by decide +kernel, by decide +kernel⟩
theorem ok_law_minus (T : Tx K mg) : Cal P w K mg base CX0 3 "_law_minus" (spL2 fun p q => p - q) := by
  have c_law_q := ok_law_q (P := P) (w := w) (base := base) T
  obtain ⟨fd, F⟩ := T.f_law_minus
  refine cal0 F T.g_law_minus sc_law_minus (ps := ["_law_one", "_law_two"]) (fun _ _ _ _ _ _ us hl => match us, hl with | [_, _], _ => rfl) (fun vs H Q E h => ?_) (fun cdv A outer s H vs Q E hr h => ?_)
  · obtain ⟨v, u, p, q, rfl, _⟩ := h
    rfl
  · obtain ⟨v, u, p, q, rfl, hv, hu, k⟩ := h
    obtain ⟨qv, a, b, rfl, hv, hd1, za, zb, rfl⟩ := hv
    obtain ⟨pu, c, d, rfl, hu, hd2, zc, zd, rfl⟩ := hu
    refine ⟨_, (pss_one (ps_ret (pe_cal c_law_q hr (by decide) pass0 (pa_cons (pe_op op_sub (pe_op op_mulS (pe_ix ix_tup (pv 0) pe_int (fun _ _ => rfl)) (pe_ix ix_tup (pv 1) pe_int (fun _ _ => rfl))) (pe_op op_mulS (pe_ix ix_tup (pv 1) pe_int (fun _ _ => rfl)) (pe_ix ix_tup (pv 0) pe_int (fun _ _ => rfl)))) (pa_cons (pe_op op_mulS (pe_ix ix_tup (pv 0) pe_int (fun _ _ => rfl)) (pe_ix ix_tup (pv 1) pe_int (fun _ _ => rfl))) pa_nil))))), ?_⟩
    walk_at "rd"
    repeat (first | refine SqT.ix hv rfl ?_ | refine SqT.ix hu rfl ?_ | (walk_at "rd"; refine ⟨Sz.mul (by assumption) (by assumption), ?_⟩))
    refine ⟨_, _, rfl, Int.mul_ne_zero hd1 hd2, Nat.lt_of_lt_of_le (Sz.sq zb zd) (Nat.pow_le_pow_right (by decide) (by decide)), fun r H' s hr2 => k r H' s ?_⟩
    show IsQ H' r (Rat.divInt a b - Rat.divInt c d)
    rw [Rat.divInt_sub_divInt _ _ hd1 hd2]
    exact hr2
abbrev N_law_times : List Str := ["_law_one", "_law_two"]
theorem sc_law_times : FnScope N_law_times ["_law_one", "_law_two"] (defScope s_law_times) := ⟨rfl, rfl, rfl, by decide +kernel, rfl, by decide +kernel, by decide +kernel⟩
theorem ok_law_times (T : Tx K mg) : Cal P w K mg base CX0 3 "_law_times" (spL2 fun p q => p * q) := by
  have c_law_q := ok_law_q (P := P) (w := w) (base := base) T
  obtain ⟨fd, F⟩ := T.f_law_times
  refine cal0 F T.g_law_times sc_law_times (ps := ["_law_one", "_law_two"]) (fun _ _ _ _ _ _ us hl => match us, hl with | [_, _], _ => rfl) (fun vs H Q E h => ?_) (fun cdv A outer s H vs Q E hr h => ?_)
  · obtain ⟨v, u, p, q, rfl, _⟩ := h
    rfl
  · obtain ⟨v, u, p, q, rfl, hv, hu, k⟩ := h
    obtain ⟨qv, a, b, rfl, hv, hd1, za, zb, rfl⟩ := hv
    obtain ⟨pu, c, d, rfl, hu, hd2, zc, zd, rfl⟩ := hu
    refine ⟨_, (pss_one (ps_ret (pe_cal c_law_q hr (by decide) pass0 (pa_cons (pe_op op_mulS (pe_ix ix_tup (pv 0) pe_int (fun _ _ => rfl)) (pe_ix ix_tup (pv 1) pe_int (fun _ _ => rfl))) (pa_cons (pe_op op_mulS (pe_ix ix_tup (pv 0) pe_int (fun _ _ => rfl)) (pe_ix ix_tup (pv 1) pe_int (fun _ _ => rfl))) pa_nil))))), ?_⟩
    walk_at "rd"
    repeat (first | refine SqT.ix hv rfl ?_ | refine SqT.ix hu rfl ?_ | (walk_at "rd"; refine ⟨Sz.mul (by assumption) (by assumption), ?_⟩))
    refine ⟨_, _, rfl, Int.mul_ne_zero hd1 hd2, Nat.lt_of_lt_of_le (Sz.sq zb zd) (Nat.pow_le_pow_right (by decide) (by decide)), fun r H' s hr2 => k r H' s ?_⟩
    show IsQ H' r (Rat.divInt a b * Rat.divInt c d)
    rw [Rat.divInt_mul_divInt _ _]
    exact hr2
abbrev N_law_share : List Str := ["_law_one", "_law_two"]
theorem sc_law_share : FnScope N_law_share ["_law_one", "_law_two"] (defScope s_law_share) := ⟨rfl, rfl, rfl, by decide +kernel, rfl, by decide +kernel, by decide +kernel⟩
def spLShare : Sp := fun vs H Q _ => ∃ v u p q, vs = [v, u] ∧ IsP H v p ∧ IsP H u q ∧ q ≠ 0 ∧ ∀ r H', Sm [] [] H H' → IsQ H' r (p / q) → Q r H'
theorem ok_law_share (T : Tx K mg) : Cal P w K mg base CX0 3 "_law_share" spLShare := by
  have c_law_q := ok_law_q (P := P) (w := w) (base := base) T
  obtain ⟨fd, F⟩ := T.f_law_share
  refine cal0 F T.g_law_share sc_law_share (ps := ["_law_one", "_law_two"]) (fun _ _ _ _ _ _ us hl => match us, hl with | [_, _], _ => rfl) (fun vs H Q E h => ?_) (fun cdv A outer s H vs Q E hr h => ?_)
  · obtain ⟨v, u, p, q, rfl, _⟩ := h
    rfl
  · obtain ⟨v, u, p, q, rfl, hv, hu, hq, k⟩ := h
    obtain ⟨qv, a, b, rfl, hv, hd1, za, zb, rfl⟩ := hv
    obtain ⟨pu, c, d, rfl, hu, hd2, zc, zd, rfl⟩ := hu
    have hc : c ≠ 0 := fun z => hq (by rw [z, Rat.zero_divInt])
    refine ⟨_, (pss_one (ps_ret (pe_cal c_law_q hr (by decide) pass0 (pa_cons (pe_op op_mulS (pe_ix ix_tup (pv 0) pe_int (fun _ _ => rfl)) (pe_ix ix_tup (pv 1) pe_int (fun _ _ => rfl))) (pa_cons (pe_op op_mulS (pe_ix ix_tup (pv 0) pe_int (fun _ _ => rfl)) (pe_ix ix_tup (pv 1) pe_int (fun _ _ => rfl))) pa_nil))))), ?_⟩
    walk_at "rd"
    repeat (first | refine SqT.ix hv rfl ?_ | refine SqT.ix hu rfl ?_ | (walk_at "rd"; refine ⟨Sz.mul (by assumption) (by assumption), ?_⟩))
    refine ⟨_, _, rfl, Int.mul_ne_zero hd1 hc, Nat.lt_of_lt_of_le (Sz.sq zb zc) (Nat.pow_le_pow_right (by decide) (by decide)), fun r H' s hr2 => k r H' s ?_⟩
    have e : Rat.divInt a b / Rat.divInt c d = Rat.divInt (a * d) (b * c) := by
      rw [Rat.div_def, Rat.inv_divInt, Rat.divInt_mul_divInt]
    rw [e]
    exact hr2
abbrev N_law_less : List Str := ["_law_one", "_law_two"]
theorem sc_law_less : FnScope N_law_less ["_law_one", "_law_two"] (defScope s_law_less) := ⟨rfl, rfl, rfl, by decide +kernel, rfl, by decide +kernel, by decide +kernel⟩
def spLess : Sp := fun vs H Q _ => ∃ v u p q, vs = [v, u] ∧ IsQ H v p ∧ IsQ H u q ∧ Hq 4400 p ∧ Hq 4400 q ∧ Q (.bl (decide (p.num * q.den < q.num * p.den))) H
theorem ok_law_less (T : Tx K mg) : Cal P w K mg base CX0 1 "_law_less" spLess := by
  obtain ⟨fd, F⟩ := T.f_law_less
  refine cal0 F T.g_law_less sc_law_less (ps := ["_law_one", "_law_two"]) (fun _ _ _ _ _ _ us hl => match us, hl with | [_, _], _ => rfl) (fun vs H Q E h => ?_) (fun cdv A outer s H vs Q E hr h => ?_)
  · obtain ⟨v, u, p, q, rfl, _⟩ := h
    rfl
  · obtain ⟨v, u, p, q, rfl, hv, hu, hp, hq, k⟩ := h
    obtain ⟨qv, rfl, hv⟩ := hv
    obtain ⟨pu, rfl, hu⟩ := hu
    have z1 := hp.szn (Nat.le_refl _)
    have z2 := hp.szd (Nat.le_refl _)
    have z3 := hq.szn (Nat.le_refl _)
    have z4 := hq.szd (Nat.le_refl _)
    refine ⟨_, (pss_one (ps_ret (pe_cmpR op_lt (pe_op op_mulS (pe_ix ix_tup (pv 0) pe_int (fun _ _ => rfl)) (pe_ix ix_tup (pv 1) pe_int (fun _ _ => rfl))) (pe_op op_mulS (pe_ix ix_tup (pv 1) pe_int (fun _ _ => rfl)) (pe_ix ix_tup (pv 0) pe_int (fun _ _ => rfl))) (nomark _)))), ?_⟩
    walk_at "rd"
    repeat (first | refine SqT.ix hv rfl ?_ | refine SqT.ix hu rfl ?_ | (walk_at "rd"; refine ⟨Sz.mul (by assumption) (by assumption), ?_⟩))
    exact k
abbrev N_law_is_whole : List Str := ["_law_thing"]
theorem sc_law_is_whole : FnScope N_law_is_whole ["_law_thing"] (defScope s_law_is_whole) := ⟨rfl, rfl, rfl, by decide +kernel, rfl, by decide +kernel, by decide +kernel⟩
theorem ok_law_is_whole (T : Tx K mg) : Cal P w K mg base CX0 1 "_law_is_whole" spWhole := by
  obtain ⟨fd, F⟩ := T.f_law_is_whole
  refine cal0 F T.g_law_is_whole sc_law_is_whole (ps := ["_law_thing"]) (fun _ _ _ _ _ _ us hl => match us, hl with | [_], _ => rfl) (fun vs H Q E h => ?_) (fun cdv A outer s H vs Q E hr h => ?_)
  · obtain ⟨v, n, rfl, _⟩ := h
    rfl
  · obtain ⟨v, n, rfl, hv, k⟩ := h
    refine ⟨_, (pss_one (ps_ret (pe_and (pe_callB call_isi (by rfl) T.b_isinstance (by decide +kernel) (pa_cons (pv 0) (pa_cons (pe_bltn (v := .ty "int") (by rfl) T.b_int (by decide +kernel) rfl) pa_nil))) (pe_one (pe_not (pe_callB call_isi (by rfl) T.b_isinstance (by decide +kernel) (pa_cons (pv 0) (pa_cons (pe_bltn (v := .ty "bool") (by rfl) T.b_bool (by decide +kernel) rfl) pa_nil)))))))), ?_⟩
    obtain ⟨k1, k2, k3⟩ := hv.int?
    walk_at "rd"
    refine isi_of hv k1 ?_
    walk_at "rd"
    by_cases e : n = "bool"
    · rw [k3 e] at k ⊢
      simp only [e, decide_true, Bool.or_true, if_true]
      refine isi_of hv k2 ?_
      walk_at "rd"
      simpa only [e, decide_true, Bool.not_true] using k
    · cases hw : wh v with
      | false =>
        simp only [e, decide_false, Bool.or_false, Bool.false_eq_true, if_false]
        rw [hw] at k
        exact k
      | true =>
        simp only [Bool.true_or, if_true]
        refine isi_of hv k2 ?_
        walk_at "rd"
        rw [hw] at k
        simpa only [e, decide_false, Bool.not_false] using k
abbrev N_law_is : List Str := ["_law_value", "_law_due"]
theorem sc_law_is : FnScope N_law_is ["_law_value", "_law_due"] (defScope s_law_is) := ⟨rfl, rfl, rfl, by decide +kernel, rfl, by decide +kernel, by decide +kernel⟩
def spLIs : Sp := fun vs H Q _ => ∃ a b : Bool, vs = [.bl a, .bl b] ∧ Q (.bl (decide (a = b))) H
theorem ok_law_is (T : Tx K mg) : Cal P w K mg base CX0 1 "_law_is" spLIs := by
  obtain ⟨fd, F⟩ := T.f_law_is
  refine cal0 F T.g_law_is sc_law_is (ps := ["_law_value", "_law_due"]) (fun _ _ _ _ _ _ us hl => match us, hl with | [_, _], _ => rfl) (fun vs H Q E h => ?_) (fun cdv A outer s H vs Q E hr h => ?_)
  · obtain ⟨a, b, rfl, _⟩ := h
    rfl
  · obtain ⟨a, b, rfl, k⟩ := h
    refine ⟨_, (pss_one (ps_ret (pe_ifExp (pt_val (pv 1)) (pe_cmpR op_isBl (pv 0) pe_bl (nomark _)) (pe_cmpR op_isBl (pv 0) pe_bl (nomark _))))), ?_⟩
    walk_at "rd"
    cases b with
    | true => exact iteT ⟨a, true, rfl, rfl, k⟩
    | false => exact iteF ⟨a, false, rfl, rfl, k⟩
end
end G3
end
section
set_option maxHeartbeats 4000000
namespace G3
open PySem PySem.Spec PyProof.Rows L2
local macro_rules | `(tactic| walk_at "rd") => `(tactic| simp only [wipe, sDPut, tDGet, tDisp, tPairs, tBM0, tBM, tBreak, sFld, tPar3, tRevL, tLstRg, tRg1, tRg2, gSub, rSetL,  tSl, tNoPart, tPart, iRng1, iRng2, iRng3, tRevT, tLc_eq, tFor_eq, iEnumT, iSeq, iList, iTup, RZ.iZipA, tFld_eq, tMeth, tVar, tC, tOp, tUn, tCons, tNil, tCB, tCall, tRet, tSeq, tAsg, gName, tIfS, tIf, tTest, tB, tNot, tAnd, tOr, tNotV, tAndV, tOrV, rI0_int, rI_int, rU_int, rEq_int, rNe_int, tPar, tNext, tDrop, tTup_nt, tLst_nl, tMkBN, tMkBR, cxOf_K, L2.start, List.map_cons, List.map_nil, List.length_cons, List.length_nil, List.cons_append, List.nil_append, List.append_nil, List.replicate_succ, List.replicate_zero, Nat.reduceAdd, Nat.reduceSub, Nat.sub_self, List.getElem?_cons_zero, List.getElem?_cons_succ, List.set_cons_zero, List.set_cons_succ, Option.some.injEq, V.int.injEq, V.bl.injEq, exists_eq_left', exists_eq_left, exists_eq_right, exists_eq_right', true_and, and_true, if_true, if_false, ite_true, ite_false, Bool.false_eq_true, Bool.not_true, Bool.not_false, reduceIte])
local macro_rules | `(tactic| walk_at "ix") => `(tactic| repeat (first | refine Sq.ix (by assumption) (by rfl) ?_ | (walk_at "rd"; refine ⟨Sz.mul (by assumption) (by assumption), ?_⟩)))
def pscale (a : List Rat) (c : Rat) : List Rat := pO a.length fun i => cf a i * c
theorem cf_pscale (a : List Rat) (c : Rat) (i : Nat) : cf (pscale a c) i = cf a i * c := cf_pO' (fun i hi => by rw [cf_ge hi]; grind) i
theorem padd_minus (a b : List Rat) : padd 1 a (pscale b (-1)) = padd (-1) a b := (nf_padd _ _ _).ext (nf_padd _ _ _) fun i => by
  rw [cf_padd, cf_padd, cf_pscale]
  have e1 : ((1 : Int) : Rat) = 1 := rfl
  have e2 : ((-1 : Int) : Rat) = -1 := rfl
  rw [e1, e2]; grind
def ld (l : List Rat) : PyData := .list (l.map qd)
theorem ld_shaped (l : List Rat) : SeqAt.shaped (ld l) = true := by
  have h := qds_depth l
  have h2 : (ld l).depth ≤ 64 := by simp only [ld, PyData.depth]; omega
  show ((ld l).canLay0 && decide ((ld l).depth ≤ 64)) = true
  rw [Bool.and_eq_true]
  exact ⟨by simp only [ld, PyData.canLay0]; exact qds_lay l, decide_eq_true h2⟩
theorem ld_eqv (a b : List Rat) : PyData.eqv (ld a) (ld b) = decide (a = b) := by
  unfold ld
  rw [PyData.eqv]
  exact qds_eqv a b
/-- found == [] -/
theorem eq_nil {K : PySem.W.Frag} {H : Hp} {p q : Addr} {vs : List V} {l : List Rat} {Q : VK} (hp : H p = some (.lst vs)) (hq : Qs H vs l) (hn : H q = some (.lst [])) (k : Q (.bl (decide (l = []))) H) : rEqD K (.ref p) (.ref q) H Q :=
  ⟨ld l, ld [], .lst (L2.SqL.of hp) (dp_qs hq), .lst (L2.SqL.of hn) .nil, ld_shaped l, ld_shaped [], by rw [ld_eqv]; exact k⟩
theorem ne_nil {K : PySem.W.Frag} {H : Hp} {p q : Addr} {vs : List V} {l : List Rat} {Q : VK} (hp : H p = some (.lst vs)) (hq : Qs H vs l) (hn : H q = some (.lst [])) (k : Q (.bl (!decide (l = []))) H) : rNeD K (.ref p) (.ref q) H Q :=
  ⟨ld l, ld [], .lst (L2.SqL.of hp) (dp_qs hq), .lst (L2.SqL.of hn) .nil, ld_shaped l, ld_shaped [], by rw [ld_eqv]; exact k⟩
section
variable {P : Program} {w : World} {K : PySem.W.Frag} {mg : Str → Option Value} {base : Heap}
abbrev N_law_poly : List Str := ["_law_numbers", "_law_found", "_law_lap"]
theorem sc_law_poly : FnScope N_law_poly ["_law_numbers"] (defScope s_law_poly) := ⟨rfl, rfl, rfl, by decide +kernel, rfl, by decide +kernel, by decide +kernel⟩
def spLPolyF : Sp := fun vs H Q _ => ∃ v l, vs = [v] ∧ LQ H v l ∧ l.length ≤ 900 ∧ ∀ r H', Sm [] [] H H' → LQ H' r (strip l) → (∀ c, r = .ref c → H c = none) → Q r H'
def spLPoly : Sp := fun vs H Q _ => ∃ v l, vs = [v] ∧ LQ H v l ∧ l.length ≤ 900 ∧ ∀ r H', Sm [] [] H H' → LQ H' r (strip l) → Q r H'
theorem ok_law_polyF (T : Tx K mg) : Cal P w K mg base CX0 1 "_law_poly" spLPolyF := by
  obtain ⟨fd, F⟩ := T.f_law_poly
  refine cal0 F T.g_law_poly sc_law_poly (ps := ["_law_numbers"]) (fun _ _ _ _ _ _ us hl => match us, hl with | [_], _ => rfl) (fun vs H Q E h => ?_) (fun cdv A outer s H vs Q E hr h => ?_)
  · obtain ⟨v, l, rfl, _⟩ := h
    rfl
  · obtain ⟨v, l, rfl, hv, hl, k⟩ := h
    refine ⟨_, (pss_cons (ps_set (i := 1) sc_law_poly.nd rfl (Or.inl rfl) (pe_callTy call_list_of (by rfl) T.b_list (by decide +kernel) (pa_cons (pv 0) pa_nil)))
      (pss_cons (ps_for PassesOwn.never rfl (pi_range1 (by rfl) T.b_range (pa_cons (pe_callB call_len_seq (by rfl) T.b_len (by decide +kernel) (pa_cons (pv 0) pa_nil)) pa_nil)) (pg_name (i := 2) sc_law_poly.nd rfl (Or.inl rfl)) (pss_cons (ps_if (PW.pt (pw_or (pt_cmpR (op_eqD (room64 hr)) (pv 1) (pe_lst pa_nil) (nomark _)) (pw_or1 (pt_cmpR op_ne (pe_ix ix_tup (pe_ix ix_list (pv 1) (pe_un un_neg pe_int) (fun _ _ => rfl)) pe_int (fun _ _ => rfl)) pe_int (nomark _))))) (pss_one ps_break) pss_nil)
      (pss_one (ps_expr (pe_bm0 PySem.F.plainAttrs_list PySem.F.slot_list_pop PySem.F.type_list_pop mt_pop (pv 1))))))
      (pss_one (ps_ret (pv 1))))), ?_⟩
    walk_at "rd"
    obtain ⟨p, vs, rfl, hp, hq⟩ := hv
    refine ⟨p, vs, rfl, .inl (L2.SqL.of hp), fun L nL => ?_⟩
    have s0 : Sm [] [] H (upd H L (.lst vs)) := Sm.new nL
    refine ⟨p, vs, rfl, .inl (L2.SqL.of (s0.lst hp List.not_mem_nil)), ?_⟩
    have hL := upd_same (H := H) (a := L) (o := .lst vs)
    have hq0 := hq.m s0
    generalize upd H L (.lst vs) = H0 at *
    rw [hq.1]
    refine ⟨_, rfl, by omega, by omega, ?_⟩
    rw [Int.toNat_natCast]
    refine for_it' (walk_range (lo := 0) (n := l.length)) (fun i σ H' => Sm [] [L] H0 H' ∧ ∃ vs' o, σ = [some (.ref p), some (.ref L), o] ∧ H' L = some (.lst vs') ∧ Qs H' vs' (l.take (l.length - i)) ∧ strip (l.take (l.length - i)) = strip l) ?_ ?_ ?_ ?_
    · exact ⟨Sm.refl, vs, none, rfl, hL, by rw [Nat.sub_zero, List.take_length]; exact hq0, by rw [Nat.sub_zero, List.take_length]⟩
    · intro i σ H' _ _
      trivial
    · intro i x σ H1 H2 hi z y
      obtain ⟨s1, vs', o, rfl, hL1, e1, e2⟩ := z
      obtain ⟨rfl, rfl⟩ := y
      generalize hm : l.length - i = m at *
      have m0 : 0 < m := by omega
      have tl : (l.take m).length = m := by rw [List.length_take]; omega
      walk_at "rd"
      refine nl_of fun q H3 _ s3 hq3 => eq_nil (s3.lst hL1 List.not_mem_nil) (e1.m s3) hq3 ?_
      have hne : l.take m ≠ [] := fun z => by rw [z] at tl; simp at tl; omega
      rw [decide_eq_false hne]
      refine ⟨_, rfl, iteF ?_⟩
      have e3 := e1.m s3
      obtain ⟨v1, ev1, hv1⟩ := e3.at_ (i := m - 1) (by omega)
      obtain ⟨c, rfl, hc⟩ := hv1
      have hL3 := s3.lst hL1 List.not_mem_nil
      refine SqL.ix hL3 (v := .ref c) (atI_neg1 (by rw [e3.1, tl]; exact ev1)) (SqT.ix hc rfl ?_)
      walk_at "rd"
      have hnum : (cf (l.take m) (m - 1)).num = 0 ↔ cf (l.take m) (m - 1) = 0 := Rat.num_eq_zero
      have s13 : Sm [] [L] H0 H3 := s1.trans (s3.w (fun _ h => h) (fun _ h => nomatch h))
      by_cases e : cf (l.take m) (m - 1) = 0
      · rw [decide_eq_true (hnum.mpr e), if_neg (by decide)]
        refine ⟨.inl ⟨rfl, _, L2.SqL.of hL3⟩, L, vs', .ref c, rfl, rfl, hL3, by rw [e3.1, tl]; exact ev1, ?_⟩
        have s4 : Sm [] [L] H3 (upd H3 L (.lst vs'.dropLast)) := Sm.put hL3 (List.mem_singleton.mpr rfl)
        have et : (l.take m).dropLast = l.take (l.length - (i + 1)) := by
          rw [List.dropLast_eq_take, tl, List.take_take]
          congr 1
          omega
        refine ⟨s13.trans s4, _, _, rfl, upd_same, ?_, ?_⟩
        · rw [← et]; exact (e3.pop).m s4
        · rw [← e2, ← et, List.dropLast_eq_take, tl]
          refine strip_ext fun j => ?_
          rw [cf_take]
          by_cases hj : j < m - 1
          · rw [if_pos hj]
          · rw [if_neg hj]
            by_cases hj2 : j = m - 1
            · rw [hj2, e]
            · rw [cf_ge (by omega)]
      · rw [decide_eq_false (fun z => e (hnum.mp z)), if_pos (by decide)]
        have nf : Nf (l.take m) := .inr (by rw [tl]; exact e)
        rw [strip_nf nf] at e2
        refine k _ _ ((s0.w (fun _ h => h) (fun _ h => nomatch h)).trans s13 |>.drop nL) ⟨L, vs', rfl, hL3, ?_⟩ (fun c e => by cases e; exact nL)
        rw [← e2]
        exact e3
    · intro σ H1 z
      obtain ⟨s1, vs', o, rfl, hL1, e1, e2⟩ := z
      walk_at "rd"
      rw [Nat.sub_self, List.take_zero] at e1 e2
      refine k _ _ ((s0.w (fun _ h => h) (fun _ h => nomatch h)).trans s1 |>.drop nL) ⟨L, vs', rfl, hL1, ?_⟩ (fun c e => by cases e; exact nL)
      rw [← e2]
      exact e1
theorem ok_law_poly (T : Tx K mg) : Cal P w K mg base CX0 1 "_law_poly" spLPoly :=
  (ok_law_polyF T).imp fun _ _ _ _ ⟨v, l, e, h, hl, k⟩ => ⟨v, l, e, h, hl, fun r H' s hr _ => k r H' s hr⟩
abbrev N_law_p_plus : List Str := ["_law_one", "_law_two", "_law_many", "_law_first", "_law_second", "_law_a", "_law_b"]
theorem sc_law_p_plus : FnScope N_law_p_plus ["_law_one", "_law_two"] (defScope s_law_p_plus) := ⟨rfl, rfl, rfl, by decide +kernel, rfl, by decide +kernel, by decide +kernel⟩
def spLPlus : Sp := fun vs H Q _ => ∃ v u a b, vs = [v, u] ∧ LQ H v a ∧ LQ H u b ∧ Hl 4400 a ∧ Hl 4400 b ∧ a.length ≤ 400 ∧ b.length ≤ 400 ∧ ∀ r H', Sm [] [] H H' → LQ H' r (padd 1 a b) → Q r H'
theorem ok_law_p_plus (T : Tx K mg) : Cal P w K mg base CX0 4 "_law_p_plus" spLPlus := by
  have c_law_plus := ok_law_plus (P := P) (w := w) (base := base) T
  have c_law_poly := ok_law_poly (P := P) (w := w) (base := base) T
  obtain ⟨fd, F⟩ := T.f_law_p_plus
  refine cal0 F T.g_law_p_plus sc_law_p_plus (ps := ["_law_one", "_law_two"]) (fun _ _ _ _ _ _ us hl => match us, hl with | [_, _], _ => rfl) (fun vs H Q E h => ?_) (fun cdv A outer s H vs Q E hr h => ?_)
  · obtain ⟨v, u, a, b, rfl, _⟩ := h
    rfl
  · obtain ⟨v, u, a, b, rfl, hv, hu, h1, h2, ha, hb, k⟩ := h
    refine ⟨_, (pss_cons (ps_set (i := 2) sc_law_p_plus.nd rfl (Or.inl rfl) (pe_callB (cr_max rfl) (by rfl) T.b_max (by decide +kernel) (pa_cons (pe_lst (pa_cons (pe_callB call_len_seq (by rfl) T.b_len (by decide +kernel) (pa_cons (pv 0) pa_nil)) (pa_cons (pe_callB call_len_seq (by rfl) T.b_len (by decide +kernel) (pa_cons (pv 1) pa_nil)) pa_nil))) pa_nil)))
      (pss_cons (ps_par (i := 3) (j := 4) rfl sc_law_p_plus.nd rfl rfl (by decide) rfl rfl (pa_cons (pe_op op_cat (pv 0) (pe_op op_rep (pe_lst (pa_cons (pe_tup (pa_cons pe_int (pa_cons pe_int pa_nil))) pa_nil)) (pe_op op_sub (pv 2) (pe_callB call_len_seq (by rfl) T.b_len (by decide +kernel) (pa_cons (pv 0) pa_nil))))) (pa_cons (pe_op op_cat (pv 1) (pe_op op_rep (pe_lst (pa_cons (pe_tup (pa_cons pe_int (pa_cons pe_int pa_nil))) pa_nil)) (pe_op op_sub (pv 2) (pe_callB call_len_seq (by rfl) T.b_len (by decide +kernel) (pa_cons (pv 1) pa_nil))))) pa_nil)) (by rfl))
      (pss_one (ps_ret (pe_cal c_law_poly hr (by decide) pass0 (pa_cons (pe_lc (own := [("_law_a", 5), ("_law_b", 6)]) rfl sc_law_p_plus.nd (RZ.pi_zipA (by rfl) T.b_zip (pa_cons (pv 3) (pa_cons (pv 4) pa_nil))) (blkOk_by (own := [("_law_a", 5), ("_law_b", 6)]) (N := N_law_p_plus) (sc := defScope s_law_p_plus) (by decide +kernel)) (fun _ _ _ _ _ => (pg_tupK (K := K) (n := 2) rfl rfl (pgs_cons (pg_name (i := 5) sc_law_p_plus.nd rfl (Or.inl rfl) (Or.inr rfl)) (pgs_cons (pg_name (i := 6) sc_law_p_plus.nd rfl (Or.inl rfl) (Or.inr rfl)) pgs_nil)))) (fun _ _ _ _ _ => pts_nil) (fun _ _ _ _ _ => (pe_cal c_law_plus hr (by decide) pass0 (pa_cons (pv 5) (pa_cons (pv 6) pa_nil))))) pa_nil)))))), ?_⟩
    walk_at "rd"
    obtain ⟨p, vs, rfl, hp, hq⟩ := hv
    obtain ⟨p2, vs2, rfl, hp2, hq2⟩ := hu
    have lv := hq.1
    have lu := hq2.1
    refine ⟨p, vs, rfl, .inl (L2.SqL.of hp), p2, vs2, rfl, .inl (L2.SqL.of hp2), ?_⟩
    refine nl_of fun q H1 _ s1 hq1 => ⟨q, [(vs.length : Int), vs2.length], rfl, L2.SqL.of hq1, by simp, fun wd hw1 hw2 => ?_⟩
    have e1 : wd = ((max a.length b.length : Nat) : Int) := by
      have a1 := hw2 (vs.length : Int) (by simp)
      have a2 := hw2 (vs2.length : Int) (by simp)
      rcases List.mem_cons.mp hw1 with z | z
      · omega
      · have := List.mem_singleton.mp z; omega
    subst e1
    have e2 : ((max a.length b.length : Nat) : Int) - (vs.length : Int) = ((max a.length b.length - a.length : Nat) : Int) := by omega
    have e3 : ((max a.length b.length : Nat) : Int) - (vs2.length : Int) = ((max a.length b.length - b.length : Nat) : Int) := by omega
    refine nt_of fun p4 H2 _ s2 h4 => nl_of fun p5 H3 _ s3 h5 => ?_
    have s13 := (s1.trans s2).trans s3
    refine ⟨p, vs, rfl, .inl (L2.SqL.of (s13.lst hp List.not_mem_nil)), ?_⟩
    rw [rI0_int, e2]
    refine padL_ok (s13.lst hp List.not_mem_nil) (hq.m s13) h5 (isQ_zero (s3.tup h4)) (by omega) (by omega) fun r1 us1 H4 s4 hr1 hus1 => ?_
    have s14 := s13.trans s4
    refine nt_of fun p8 H5 _ s5 h8 => nl_of fun p9 H6 _ s6 h9 => ?_
    have s16 := (s14.trans s5).trans s6
    refine ⟨p2, vs2, rfl, .inl (L2.SqL.of (s16.lst hp2 List.not_mem_nil)), ?_⟩
    rw [rI0_int, e3]
    refine padL_ok (s16.lst hp2 List.not_mem_nil) (hq2.m s16) h9 (isQ_zero (s6.tup h8)) (by omega) (by omega) fun r2 us2 H7 s7 hr2 hus2 => ?_
    have s47 := (s5.trans s6).trans s7
    have hr17 := s47.lst hr1 List.not_mem_nil
    have hus17 := hus1.m s47
    have s17 := s14.trans s47
    have l1 : us1.length = max a.length b.length := by rw [hus1.1]; simp; omega
    have l2 : us2.length = max a.length b.length := by rw [hus2.1]; simp; omega
    refine ⟨_, _, rfl, r1, r2, us1, us2, rfl, .inl ⟨L2.SqL.of hr17, L2.SqL.of hr2, fun D nD => ?_⟩⟩
    refine lc_list' ((walk_zip (K := K) (a := r1) (b := r2) (xs := us1) (ys := us2) (n := max a.length b.length) (by omega))) (Dm := []) (R := fun k v H => IsQ H v (cf a k + cf b k)) (P := fun _ _ => True) nD (by omega) trivial (fun _ _ _ _ h s => h.m s) (fun _ _ _ _ _ _ => trivial) (fun H s => ⟨L2.SqL.of (s.lst hr17 List.not_mem_nil), L2.SqL.of (s.lst hr2 List.not_mem_nil)⟩) ?_ ?_
    · intro i x H8 H9 C hi s8 _ _ hy hc
      obtain ⟨TT, x1, x2, rfl, nT, rfl, ex1, ex2⟩ := hy
      have s9 : Sm [] [] H8 (upd H8 TT (.tup [x1, x2])) := Sm.new nT
      have hx1 := hus17.get ex1
      have hx2 := hus2.get ex2
      rw [cf_pad] at hx1 hx2
      have s89 := s8.trans s9
      refine gTup2 upd_same ⟨rfl, ?_⟩
      walk_at "rd"
      exact ⟨_, _, _, _, rfl, (hx1.m s89).p (h1 i) (Nat.le_refl _), (hx2.m s89).p (h2 i) (Nat.le_refl _), fun r H11 s11 hr11 => hc _ _ (s9.trans s11) hr11 trivial⟩
    · intro acc H8 s8 hD hl3 hr3 _
      have hqs := qs_of hl3 hr3
      refine ⟨_, _, rfl, ⟨D, acc, rfl, hD, hqs⟩, by simp; omega, fun r H9 s9 hr9 => k r H9 ((s17.trans s8).trans s9) ?_⟩
      have e5 : strip ((List.range (max a.length b.length)).map fun k => cf a k + cf b k) = padd 1 a b := strip_pO (by simp) fun i hi => by
        rw [cf_map, if_pos hi]
        have e1 : ((1 : Int) : Rat) = 1 := rfl
        rw [e1]; grind
      rw [← e5]
      exact hr9
abbrev N_law_p_scaled : List Str := ["_law_one", "_law_by", "_law_a"]
theorem sc_law_p_scaled : FnScope N_law_p_scaled ["_law_one", "_law_by"] (defScope s_law_p_scaled) := ⟨rfl, rfl, rfl, by decide +kernel, rfl, by decide +kernel, by decide +kernel⟩
def spLScaled : Sp := fun vs H Q _ => ∃ v u a c, vs = [v, u] ∧ LQ H v a ∧ IsP H u c ∧ Hl 4400 a ∧ a.length ≤ 400 ∧ ∀ r H', Sm [] [] H H' → LQ H' r (pscale a c) → Q r H'
theorem ok_law_p_scaled (T : Tx K mg) : Cal P w K mg base CX0 4 "_law_p_scaled" spLScaled := by
  have c_law_times := ok_law_times (P := P) (w := w) (base := base) T
  have c_law_poly := ok_law_poly (P := P) (w := w) (base := base) T
  obtain ⟨fd, F⟩ := T.f_law_p_scaled
  refine cal0 F T.g_law_p_scaled sc_law_p_scaled (ps := ["_law_one", "_law_by"]) (fun _ _ _ _ _ _ us hl => match us, hl with | [_, _], _ => rfl) (fun vs H Q E h => ?_) (fun cdv A outer s H vs Q E hr h => ?_)
  · obtain ⟨v, u, a, c, rfl, _⟩ := h
    rfl
  · obtain ⟨v, u, a, c, rfl, hv, hu, h1, ha, k⟩ := h
    refine ⟨_, (pss_one (ps_ret (pe_cal c_law_poly hr (by decide) pass0 (pa_cons (pe_lc (own := [("_law_a", 2)]) rfl sc_law_p_scaled.nd (pi_list (pv 0)) (blkOk_by (own := [("_law_a", 2)]) (N := N_law_p_scaled) (sc := defScope s_law_p_scaled) (by decide +kernel)) (fun _ _ _ _ _ => (pg_name (i := 2) sc_law_p_scaled.nd rfl (Or.inl rfl) (Or.inr rfl))) (fun _ _ _ _ _ => pts_nil) (fun _ _ _ _ _ => (pe_cal c_law_times hr (by decide) pass0 (pa_cons (pv 2) (pa_cons (pv 1) pa_nil))))) pa_nil)))), ?_⟩
    walk_at "rd"
    obtain ⟨p, vs, rfl, hp, hq⟩ := hv
    refine ⟨p, rfl, ⟨vs, L2.SqL.of hp⟩, fun D nD => ?_⟩
    have lv := hq.1
    refine lc_list' (walk_list (K := K) (a := p) (xs := vs)) (Dm := []) (R := fun k v H => IsQ H v (cf a k * c)) (P := fun _ _ => True) nD (by omega) trivial (fun _ _ _ _ h s => h.m s) (fun _ _ _ _ _ _ => trivial) (fun H s => L2.SqL.of (s.lst hp List.not_mem_nil)) ?_ ?_
    · intro i x H3 H4 C hi s3 _ _ hy hc
      obtain ⟨rfl, hy⟩ := hy
      walk_at "rd"
      exact ⟨_, _, _, _, rfl, ((hq.get hy).m s3).p (h1 i) (Nat.le_refl _), hu.m s3, fun r H5 s5 hr5 => hc _ _ s5 hr5 trivial⟩
    · intro acc H3 s3 hD hl3 hr3 _
      rw [lv] at hl3
      have hqs := qs_of hl3 hr3
      exact ⟨_, _, rfl, ⟨D, acc, rfl, hD, hqs⟩, by simp; omega, fun r H4 s4 hr4 => k r H4 (s3.trans s4) hr4⟩
abbrev N_law_p_minus : List Str := ["_law_one", "_law_two"]
theorem sc_law_p_minus : FnScope N_law_p_minus ["_law_one", "_law_two"] (defScope s_law_p_minus) := ⟨rfl, rfl, rfl, by decide +kernel, rfl, by decide +kernel, by decide +kernel⟩
def spLMinus : Sp := fun vs H Q _ => ∃ v u a b, vs = [v, u] ∧ LQ H v a ∧ LQ H u b ∧ Hl 4400 a ∧ Hl 4400 b ∧ a.length ≤ 400 ∧ b.length ≤ 400 ∧ ∀ r H', Sm [] [] H H' → LQ H' r (padd (-1) a b) → Q r H'
theorem ok_law_p_minus (T : Tx K mg) : Cal P w K mg base CX0 5 "_law_p_minus" spLMinus := by
  have c_law_p_plus := ok_law_p_plus (P := P) (w := w) (base := base) T
  have c_law_p_scaled := ok_law_p_scaled (P := P) (w := w) (base := base) T
  obtain ⟨fd, F⟩ := T.f_law_p_minus
  refine cal0 F T.g_law_p_minus sc_law_p_minus (ps := ["_law_one", "_law_two"]) (fun _ _ _ _ _ _ us hl => match us, hl with | [_, _], _ => rfl) (fun vs H Q E h => ?_) (fun cdv A outer s H vs Q E hr h => ?_)
  · obtain ⟨v, u, a, b, rfl, _⟩ := h
    rfl
  · obtain ⟨v, u, a, b, rfl, hv, hu, h1, h2, ha, hb, k⟩ := h
    refine ⟨_, (pss_one (ps_ret (pe_cal c_law_p_plus hr (by decide) pass0 (pa_cons (pv 0) (pa_cons (pe_cal c_law_p_scaled hr (by decide) pass0 (pa_cons (pv 1) (pa_cons (pe_tup (pa_cons (pe_un un_neg pe_int) (pa_cons pe_int pa_nil))) pa_nil))) pa_nil))))), ?_⟩
    walk_at "rd"
    refine nt_of fun p H1 _ s1 hp => ⟨_, _, b, -1, rfl, hu.m s1, ⟨p, -1, 1, rfl, hp, by decide, by show (-1 : Int).natAbs < 2 ^ 4400; exact Nat.one_lt_two_pow (by decide), by show (1 : Int).natAbs < 2 ^ 4400; exact Nat.one_lt_two_pow (by decide), by decide +kernel⟩, h2, hb, fun r H2 s2 hr2 => ?_⟩
    have hsc : Hl 4400 (pscale b (-1)) := fun i => by
      rw [cf_pscale]
      have e : cf b i * (-1) = -cf b i := by grind
      rw [e]; exact (h2 i).neg
    refine ⟨_, _, a, _, rfl, hv.m (s1.trans s2), hr2, h1, hsc, ha, Nat.le_trans (pO_le _ _) hb, fun r3 H3 s3 hr3 => k r3 H3 ((s1.trans s2).trans s3) ?_⟩
    rw [padd_minus] at hr3
    exact hr3
end
end G3
end
section
set_option maxHeartbeats 4000000
namespace G3
open PySem PySem.Spec PyProof.Rows L2
local macro_rules | `(tactic| walk_at "rd") => `(tactic| simp only [wipe, sDPut, tDGet, tDisp, tPairs, tBM0, tBM, tBreak, sFld, tPar3, tRevL, tLstRg, tRg1, tRg2, gSub, rSetL,  tSl, tNoPart, tPart, iRng1, iRng2, iRng3, tRevT, tLc_eq, tFor_eq, iEnumT, iSeq, iList, iTup, RZ.iZipA, tFld_eq, tMeth, tVar, tC, tOp, tUn, tCons, tNil, tCB, tCall, tRet, tSeq, tAsg, gName, tIfS, tIf, tTest, tB, tNot, tAnd, tOr, tNotV, tAndV, tOrV, rI0_int, rI_int, rU_int, rEq_int, rNe_int, tPar, tNext, tDrop, tTup_nt, tLst_nl, tMkBN, tMkBR, cxOf_K, L2.start, List.map_cons, List.map_nil, List.length_cons, List.length_nil, List.cons_append, List.nil_append, List.append_nil, List.replicate_succ, List.replicate_zero, Nat.reduceAdd, Nat.reduceSub, Nat.sub_self, List.getElem?_cons_zero, List.getElem?_cons_succ, List.set_cons_zero, List.set_cons_succ, Option.some.injEq, V.int.injEq, V.bl.injEq, exists_eq_left', exists_eq_left, exists_eq_right, exists_eq_right', true_and, and_true, if_true, if_false, ite_true, ite_false, Bool.false_eq_true, Bool.not_true, Bool.not_false, reduceIte])
local macro_rules | `(tactic| walk_at "ix") => `(tactic| repeat (first | refine Sq.ix (by assumption) (by rfl) ?_ | (walk_at "rd"; refine ⟨Sz.mul (by assumption) (by assumption), ?_⟩)))
theorem cf_rev' {l : List Rat} {i : Nat} (h : i < l.length) : cf l.reverse i = cf l (l.length - 1 - i) := by
  unfold cf
  rw [List.getD_eq_getElem?_getD, List.getD_eq_getElem?_getD, List.getElem?_reverse h]
/-- the first i rows of a product -/
def pt (a b : List Rat) (i t : Nat) : Rat := sm (fun k => if k ≤ t then cf a k * cf b (t - k) else 0) i
theorem sm_ge {f : Nat → Rat} {m : Nat} (h : ∀ k, m ≤ k → f k = 0) : ∀ n, m ≤ n → sm f n = sm f m := fun n hn => sm_cut h hn
theorem pt_all (a b : List Rat) (t : Nat) : pt a b a.length t = conv (cf a) (cf b) t := by
  unfold pt
  have e1 := sm_ge (f := fun k => if k ≤ t then cf a k * cf b (t - k) else 0) (m := a.length) (fun k hk => by
    split
    · rw [cf_ge hk]; grind
    · rfl) (max a.length (t + 1)) (by omega)
  have e2 := sm_ge (f := fun k => if k ≤ t then cf a k * cf b (t - k) else 0) (m := t + 1) (fun k hk => by rw [if_neg (by omega)]) (max a.length (t + 1)) (by omega)
  rw [← e1, e2]
  exact sm_congr fun k hk => by rw [if_pos (by omega)]
theorem pt_succ (a b : List Rat) (i t : Nat) : pt a b (i + 1) t = pt a b i t + (if i ≤ t then cf a i * cf b (t - i) else 0) := rfl
theorem hq_pt {a b : List Rat} {n1 n2 : Nat} (h1 : Hl n1 a) (h2 : Hl n2 b) (i t : Nat) : Hq (i * (n1 + n2 + 1) + 1) (pt a b i t) := hq_sm (n := n1 + n2) fun k _ => by
  split
  · exact (h1 _).mul (h2 _)
  · exact hq_zero (by have := (h1 0).pos; omega)
theorem hq_hn {a : List Rat} {x : Rat} {n1 n2 : Nat} (h1 : Hl n1 a) (h2 : Hq n2 x) : ∀ i, Hq (i * (n1 + n2 + 1) + 1) (hn a x i)
  | 0 => hq_zero (by omega)
  | i + 1 => (((hq_hn h1 h2 i).mul h2).add (h1 _)).mono (by rw [Nat.add_mul]; omega)
section
variable {P : Program} {w : World} {K : PySem.W.Frag} {mg : Str → Option Value} {base : Heap}
abbrev N_law_p_times : List Str := ["_law_one", "_law_two", "_law_found", "_law_i", "_law_k"]
theorem sc_law_p_times : FnScope N_law_p_times ["_law_one", "_law_two"] (defScope s_law_p_times) := ⟨rfl, rfl, rfl, by decide +kernel, rfl, by decide +kernel, by decide +kernel⟩
def spLTimesF : Sp := fun vs H Q _ => ∃ v u a b n1 n2, vs = [v, u] ∧ LQ H v a ∧ LQ H u b ∧ Hl n1 a ∧ Hl n2 b ∧ (a.length + 1) * (n1 + n2 + 1) + 1 ≤ 4400 ∧ a.length ≤ 200 ∧ b.length ≤ 200 ∧ ∀ r H', Sm [] [] H H' → LQ H' r (pmul a b) → (∀ c, r = .ref c → H c = none) → Q r H'
def spLTimes : Sp := fun vs H Q _ => ∃ v u a b n1 n2, vs = [v, u] ∧ LQ H v a ∧ LQ H u b ∧ Hl n1 a ∧ Hl n2 b ∧ (a.length + 1) * (n1 + n2 + 1) + 1 ≤ 4400 ∧ a.length ≤ 200 ∧ b.length ≤ 200 ∧ ∀ r H', Sm [] [] H H' → LQ H' r (pmul a b) → Q r H'
theorem ok_law_p_timesF (T : Tx K mg) : Cal P w K mg base CX0 4 "_law_p_times" spLTimesF := by
  have c_law_plus := ok_law_plus (P := P) (w := w) (base := base) T
  have c_law_times := ok_law_times (P := P) (w := w) (base := base) T
  have c_law_poly := ok_law_polyF (P := P) (w := w) (base := base) T
  obtain ⟨fd, F⟩ := T.f_law_p_times
  refine cal0 F T.g_law_p_times sc_law_p_times (ps := ["_law_one", "_law_two"]) (fun _ _ _ _ _ _ us hl => match us, hl with | [_, _], _ => rfl) (fun vs H Q E h => ?_) (fun cdv A outer s H vs Q E hr h => ?_)
  · obtain ⟨v, u, a, b, n1, n2, rfl, _⟩ := h
    rfl
  · obtain ⟨v, u, a, b, n1, n2, rfl, hv, hu, h1, h2, hz, ha, hb, k⟩ := h
    refine ⟨_, (pss_cons (ps_set (i := 2) sc_law_p_times.nd rfl (Or.inl rfl) (pe_op op_rep (pe_lst (pa_cons (pe_tup (pa_cons pe_int (pa_cons pe_int pa_nil))) pa_nil)) (pe_callB (cr_max rfl) (by rfl) T.b_max (by decide +kernel) (pa_cons (pe_lst (pa_cons pe_int (pa_cons (pe_op op_sub (pe_op op_add (pe_callB call_len_seq (by rfl) T.b_len (by decide +kernel) (pa_cons (pv 0) pa_nil)) (pe_callB call_len_seq (by rfl) T.b_len (by decide +kernel) (pa_cons (pv 1) pa_nil))) pe_int) pa_nil))) pa_nil))))
      (pss_cons (ps_for PassesOwn.never rfl (pi_range1 (by rfl) T.b_range (pa_cons (pe_callB call_len_seq (by rfl) T.b_len (by decide +kernel) (pa_cons (pv 0) pa_nil)) pa_nil)) (pg_name (i := 3) sc_law_p_times.nd rfl (Or.inl rfl)) (pss_one (ps_for PassesOwn.never rfl (pi_range1 (by rfl) T.b_range (pa_cons (pe_callB call_len_seq (by rfl) T.b_len (by decide +kernel) (pa_cons (pv 1) pa_nil)) pa_nil)) (pg_name (i := 4) sc_law_p_times.nd rfl (Or.inl rfl)) (pss_one (ps_asg (pe_cal c_law_plus hr (by decide) pass0 (pa_cons (pe_ix ix_list (pv 2) (pe_op op_add (pv 3) (pv 4)) (fun _ _ => rfl)) (pa_cons (pe_cal c_law_times hr (by decide) pass0 (pa_cons (pe_ix ix_list (pv 0) (pv 3) (fun _ _ => rfl)) (pa_cons (pe_ix ix_list (pv 1) (pv 4) (fun _ _ => rfl)) pa_nil))) pa_nil))) (pg_sub (pv 2) (pe_op op_add (pv 3) (pv 4)) set_list))))))
      (pss_one (ps_ret (pe_cal c_law_poly hr (by decide) pass0 (pa_cons (pv 2) pa_nil)))))), ?_⟩
    walk_at "rd"
    obtain ⟨p, vs, rfl, hp, hq⟩ := hv
    obtain ⟨p2, vs2, rfl, hp2, hq2⟩ := hu
    have lv := hq.1
    have lu := hq2.1
    refine nt_of fun z0 H1 _ s1 hz0 => nl_of fun z1 H2 _ s2 hz1 => ?_
    have s12 := s1.trans s2
    refine ⟨p, vs, rfl, .inl (L2.SqL.of (s12.lst hp List.not_mem_nil)), p2, vs2, rfl, .inl (L2.SqL.of (s12.lst hp2 List.not_mem_nil)), ?_⟩
    refine nl_of fun z2 H3 _ s3 hz2 => ⟨z2, [0, (vs.length : Int) + vs2.length - 1], rfl, L2.SqL.of hz2, by simp, fun mm hm1 hm2 => ?_⟩
    have em : mm = ((a.length + b.length - 1 : Nat) : Int) := by
      have a1 := hm2 0 (by simp)
      have a2 := hm2 ((vs.length : Int) + vs2.length - 1) (by simp)
      rcases List.mem_cons.mp hm1 with z | z
      · omega
      · have := List.mem_singleton.mp z; omega
    subst em
    refine ⟨z1, _, _, rfl, rfl, s3.lst hz1 List.not_mem_nil, by omega, by omega, by rw [List.length_singleton, sizeLine_eq]; omega, fun F0 nF => ?_⟩
    rw [Int.toNat_natCast, rep_flat]
    generalize hN : a.length + b.length - 1 = N at *
    have s4 : Sm [] [] H3 (upd H3 F0 (.lst (List.replicate N (.ref z0)))) := Sm.new nF
    have hF := upd_same (H := H3) (a := F0) (o := .lst (List.replicate N (.ref z0)))
    have s03 := s12.trans s3
    have nFH := s03.free nF
    have hz4 := ((s2.trans s3).trans s4).tup hz0
    generalize upd H3 F0 (.lst (List.replicate N (.ref z0))) = H4 at *
    have s04 := s03.trans s4
    have hp4 := s04.lst hp List.not_mem_nil
    have hp24 := s04.lst hp2 List.not_mem_nil
    have np : p ≠ F0 := fun z => by
      have := s03.lst hp List.not_mem_nil
      rw [z, nF] at this; cases this
    have np2 : p2 ≠ F0 := fun z => by
      have := s03.lst hp2 List.not_mem_nil
      rw [z, nF] at this; cases this
    refine ⟨p, vs, rfl, .inl (L2.SqL.of hp4), _, rfl, by omega, by omega, ?_⟩
    rw [Int.toNat_natCast, lv]
    have lrow : ∀ i, i ≤ a.length → i * (n1 + n2 + 1) + 1 + (n1 + n2) ≤ 4400 := fun i hi => by
      have := Nat.mul_le_mul_right (n1 + n2 + 1) hi
      rw [Nat.add_mul] at hz
      omega
    refine for_it' (walk_range (lo := 0) (n := a.length)) (fun i σ H' => Sm [] [F0] H4 H' ∧ ∃ us lf o1 o2, σ = [some (.ref p), some (.ref p2), some (.ref F0), o1, o2] ∧ H' F0 = some (.lst us) ∧ Qs H' us lf ∧ lf.length = N ∧ ∀ t, t < N → cf lf t = pt a b i t) ?_ ?_ ?_ ?_
    · refine ⟨Sm.refl, _, List.replicate N 0, _, _, rfl, hF, Qs.rep (isQ_zero hz4) N, by simp, fun t ht => ?_⟩
      unfold cf
      rw [List.getD_eq_getElem?_getD, List.getElem?_replicate, if_pos ht]
      rfl
    · intro i σ H' _ _
      trivial
    · intro i x σ H5 H6 hi z y
      obtain ⟨s5, us, lf, o1, o2, rfl, hF5, eF, lf1, lf2⟩ := z
      obtain ⟨rfl, rfl⟩ := y
      walk_at "rd"
      rw [Int.zero_add]
      refine ⟨p2, vs2, rfl, .inl (L2.SqL.of (s5.lst hp24 (by simpa using np2))), _, rfl, by omega, by omega, ?_⟩
      rw [Int.toNat_natCast, lu]
      refine for_it' (walk_range (lo := 0) (n := b.length)) (fun k σ H' => Sm [] [F0] H4 H' ∧ ∃ us lf o2, σ = [some (.ref p), some (.ref p2), some (.ref F0), some (.int (i : Nat)), o2] ∧ H' F0 = some (.lst us) ∧ Qs H' us lf ∧ lf.length = N ∧ ∀ t, t < N → cf lf t = pt a b i t + (if i ≤ t ∧ t < i + k then cf a i * cf b (t - i) else 0)) ?_ ?_ ?_ ?_
      · exact ⟨s5, us, lf, _, rfl, hF5, eF, lf1, fun t ht => by rw [if_neg (by omega), lf2 t ht, Rat.add_zero]⟩
      · intro i σ H' _ _
        trivial
      · intro k x σ H7 H8 hk z y
        obtain ⟨s7, us, lf, o2, rfl, hF7, eF7, lf1, lf2⟩ := z
        obtain ⟨rfl, rfl⟩ := y
        walk_at "rd"
        rw [Int.zero_add]
        have ek : (i : Int) + (k : Nat) = ((i + k : Nat) : Int) := by omega
        rw [ek]
        have ikN : i + k < N := by omega
        obtain ⟨v1, ev1, hv1⟩ := eF7.at_ (i := i + k) (by omega)
        obtain ⟨v2, ev2, hv2⟩ := hq.at_ (i := i) hi
        obtain ⟨v3, ev3, hv3⟩ := hq2.at_ (i := k) hk
        have s47 := s7
        have hp7 := s7.lst hp4 (by simpa using np)
        have hp27 := s7.lst hp24 (by simpa using np2)
        have c1 : cf lf (i + k) = pt a b i (i + k) := by rw [lf2 _ ikN, if_neg (by omega), Rat.add_zero]
        rw [c1] at hv1
        have b1 := lrow i (by omega)
        have b2 : i * (n1 + n2 + 1) + 1 ≤ 4400 := by omega
        refine SqL.ix hF7 (atI_nat ev1) (SqL.ix hp7 (atI_nat ev2) (SqL.ix hp27 (atI_nat ev3) ?_))
        have hv27 := (hv2.m s04).m s7
        have hv37 := (hv3.m s04).m s7
        refine ⟨_, _, _, _, rfl, hv27.p (h1 i) (by omega), hv37.p (h2 k) (by omega), fun r1 H9 s9 hr1 => ?_⟩
        refine ⟨_, _, _, _, rfl, (hv1.m s9).p (hq_pt h1 h2 i _) b2, hr1.p ((h1 i).mul (h2 k)) (by omega), fun r2 H10 s10 hr2 => ?_⟩
        have s910 := s9.trans s10
        have hF10 := s910.lst hF7 List.not_mem_nil
        refine ⟨F0, us, _, i + k, rfl, rfl, hF10, ixN_nat (by rw [eF7.1, lf1]; exact ikN), ?_⟩
        have s11 : Sm [] [F0] H10 (upd H10 F0 (.lst (us.set (i + k) r2))) := Sm.put hF10 (List.mem_singleton.mpr rfl)
        have s711 : Sm [] [F0] H8 (upd H10 F0 (.lst (us.set (i + k) r2))) := (s910.w (fun _ h => h) (fun _ h => nomatch h)).trans s11
        refine ⟨s7.trans s711, _, lf.set (i + k) (pt a b i (i + k) + cf a i * cf b k), _, rfl, upd_same, (eF7.m s711).set (hr2.m s11) _, by simp [lf1], fun t ht => ?_⟩
        rw [cf_set _ _ _ _ (by omega)]
        by_cases et : t = i + k
        · subst et
          rw [if_pos rfl, if_pos (by omega), Nat.add_sub_cancel_left]
        · rw [if_neg et, lf2 t ht]
          by_cases h2 : i ≤ t ∧ t < i + k
          · rw [if_pos h2, if_pos (by omega)]
          · rw [if_neg h2, if_neg (by omega)]
      · intro σ H7 z
        obtain ⟨s7, us, lf, o2, rfl, hF7, eF7, lf1, lf2⟩ := z
        refine ⟨s7, us, lf, _, _, rfl, hF7, eF7, lf1, fun t ht => ?_⟩
        rw [lf2 t ht, pt_succ]
        by_cases h1 : i ≤ t
        · by_cases h2 : t < i + b.length
          · rw [if_pos ⟨h1, h2⟩, if_pos h1]
          · rw [if_neg (by omega), if_pos h1, cf_ge (l := b) (by omega)]; grind
        · rw [if_neg (by omega), if_neg h1]
    · intro σ H5 z
      obtain ⟨s5, us, lf, o1, o2, rfl, hF5, eF, lf1, lf2⟩ := z
      walk_at "rd"
      refine ⟨_, lf, rfl, ⟨F0, us, rfl, hF5, eF⟩, by omega, fun r H6 s6 hr6 nr6 => ?_⟩
      have s06 : Sm [] [] H H6 := ((s04.w (fun _ h => h) (fun _ h => nomatch h)).trans (s5.trans (s6.w (fun _ h => h) (fun _ h => nomatch h)))).drop nFH
      refine k r H6 s06 ?_ (fun c e => ((s04.w (fun _ h => h) (fun _ h => nomatch h)).trans s5).free (nr6 c e))
      have e : strip lf = pmul a b := (nf_strip _).ext (nf_pmul _ _) fun t => by
        rw [cf_strip, cf_pmul]
        rcases Nat.lt_or_ge t N with z | z
        · rw [lf2 t z, pt_all]
        · rw [cf_ge (by omega), conv_ge (by omega)]
      rw [← e]
      exact hr6
theorem ok_law_p_times (T : Tx K mg) : Cal P w K mg base CX0 4 "_law_p_times" spLTimes :=
  (ok_law_p_timesF T).imp fun _ _ _ _ ⟨v, u, a, b, n1, n2, e, h1, h2, z1, z2, z, l1, l2, k⟩ => ⟨v, u, a, b, n1, n2, e, h1, h2, z1, z2, z, l1, l2, fun r H' s hr _ => k r H' s hr⟩
abbrev N_law_p_at : List Str := ["_law_one", "_law_point", "_law_amount", "_law_number"]
theorem sc_law_p_at : FnScope N_law_p_at ["_law_one", "_law_point"] (defScope s_law_p_at) := ⟨rfl, rfl, rfl, by decide +kernel, rfl, by decide +kernel, by decide +kernel⟩
def spLAt : Sp := fun vs H Q _ => ∃ v u a x n1 n2, vs = [v, u] ∧ LQ H v a ∧ IsQ H u x ∧ Hl n1 a ∧ Hq n2 x ∧ (a.length + 1) * (n1 + n2 + 1) + 1 ≤ 4400 ∧ a.length ≤ 400 ∧ ∀ r H', Sm [] [] H H' → IsQ H' r (hn a x a.length) → Q r H'
theorem ok_law_p_at (T : Tx K mg) : Cal P w K mg base CX0 4 "_law_p_at" spLAt := by
  have c_law_plus := ok_law_plus (P := P) (w := w) (base := base) T
  have c_law_times := ok_law_times (P := P) (w := w) (base := base) T
  obtain ⟨fd, F⟩ := T.f_law_p_at
  refine cal0 F T.g_law_p_at sc_law_p_at (ps := ["_law_one", "_law_point"]) (fun _ _ _ _ _ _ us hl => match us, hl with | [_, _], _ => rfl) (fun vs H Q E h => ?_) (fun cdv A outer s H vs Q E hr h => ?_)
  · obtain ⟨v, u, a, x, n1, n2, rfl, _⟩ := h
    rfl
  · obtain ⟨v, u, a, x, n1, n2, rfl, hv, hu, h1, h2, hz, ha, k⟩ := h
    refine ⟨_, (pss_cons (ps_set (i := 2) sc_law_p_at.nd rfl (Or.inl rfl) (pe_tup (pa_cons pe_int (pa_cons pe_int pa_nil))))
      (pss_cons (ps_for PassesOwn.never rfl (pi_list (pe_revL (pv 0))) (pg_name (i := 3) sc_law_p_at.nd rfl (Or.inl rfl)) (pss_one (ps_set (i := 2) sc_law_p_at.nd rfl (Or.inl rfl) (pe_cal c_law_plus hr (by decide) pass0 (pa_cons (pe_cal c_law_times hr (by decide) pass0 (pa_cons (pv 2) (pa_cons (pv 1) pa_nil))) (pa_cons (pv 3) pa_nil))))))
      (pss_one (ps_ret (pv 2))))), ?_⟩
    walk_at "rd"
    obtain ⟨p, vs, rfl, hp, hq⟩ := hv
    have lv := hq.1
    refine nt_of fun z0 H1 _ s1 hz0 => ?_
    have hp1 := s1.lst hp List.not_mem_nil
    refine ⟨p, vs, rfl, L2.SqL.of hp1, fun rl nrl => ?_⟩
    have s2 : Sm [] [] H1 (upd H1 rl (.lst vs.reverse)) := Sm.new nrl
    have hrl := upd_same (H := H1) (a := rl) (o := .lst vs.reverse)
    have s12 := s1.trans s2
    have hrv : Qs (upd H1 rl (.lst vs.reverse)) vs.reverse a.reverse := (hq.rev).m s12
    have hz2 := s2.tup hz0
    generalize upd H1 rl (.lst vs.reverse) = H2 at *
    refine ⟨rl, rfl, ⟨_, L2.SqL.of hrl⟩, for_it' (walk_list (xs := vs.reverse)) (fun i σ H' => Sm [] [] H2 H' ∧ ∃ am o, σ = [some (.ref p), some u, some am, o] ∧ IsQ H' am (hn a x i)) ?_ ?_ ?_ ?_⟩
    · exact ⟨Sm.refl, _, _, rfl, isQ_zero hz2⟩
    · intro i σ H' _ z
      exact L2.SqL.of (z.1.lst hrl List.not_mem_nil)
    · intro i c σ H3 H4 hi z y
      obtain ⟨s3, am, o, rfl, ham⟩ := z
      obtain ⟨rfl, y⟩ := y
      have hi2 : i < a.length := by rw [List.length_reverse] at hi; omega
      have hc := hrv.get y
      rw [cf_rev' hi2] at hc
      have hb : (i + 1) * (n1 + n2 + 1) + 1 ≤ 4400 := by
        have := Nat.mul_le_mul_right (n1 + n2 + 1) (show i + 1 ≤ a.length + 1 by omega)
        omega
      rw [Nat.add_mul] at hb
      walk_at "rd"
      refine ⟨_, _, _, _, rfl, ham.p (hq_hn h1 h2 i) (by omega), ((hu.m s12).m s3).p h2 (by omega), fun r1 H5 s5 hr1 => ?_⟩
      refine ⟨_, _, _, _, rfl, hr1.p ((hq_hn h1 h2 i).mul h2) (by omega), ((hc.m s3).m s5).p (h1 _) (by omega), fun r2 H6 s6 hr2 => ?_⟩
      exact ⟨(s3.trans s5).trans s6, _, _, rfl, hr2⟩
    · intro σ H3 z
      obtain ⟨s3, am, o, rfl, ham⟩ := z
      walk_at "rd"
      rw [List.length_reverse, lv] at ham
      exact k _ _ (s12.trans s3) ham
abbrev N_law_p_slope : List Str := ["_law_one", "_law_k"]
theorem sc_law_p_slope : FnScope N_law_p_slope ["_law_one"] (defScope s_law_p_slope) := ⟨rfl, rfl, rfl, by decide +kernel, rfl, by decide +kernel, by decide +kernel⟩
def spLSlope : Sp := fun vs H Q _ => ∃ v a, vs = [v] ∧ LQ H v a ∧ Hl 4400 a ∧ a.length ≤ 400 ∧ ∀ r H', Sm [] [] H H' → LQ H' r (pslope a) → Q r H'
theorem ok_law_p_slope (T : Tx K mg) : Cal P w K mg base CX0 4 "_law_p_slope" spLSlope := by
  have c_law_times := ok_law_times (P := P) (w := w) (base := base) T
  have c_law_poly := ok_law_poly (P := P) (w := w) (base := base) T
  obtain ⟨fd, F⟩ := T.f_law_p_slope
  refine cal0 F T.g_law_p_slope sc_law_p_slope (ps := ["_law_one"]) (fun _ _ _ _ _ _ us hl => match us, hl with | [_], _ => rfl) (fun vs H Q E h => ?_) (fun cdv A outer s H vs Q E hr h => ?_)
  · obtain ⟨v, a, rfl, _⟩ := h
    rfl
  · obtain ⟨v, a, rfl, hv, h1, ha, k⟩ := h
    refine ⟨_, (pss_one (ps_ret (pe_cal c_law_poly hr (by decide) pass0 (pa_cons (pe_lc (own := [("_law_k", 1)]) rfl sc_law_p_slope.nd (pi_range2 (by rfl) T.b_range (pa_cons pe_int (pa_cons (pe_callB call_len_seq (by rfl) T.b_len (by decide +kernel) (pa_cons (pv 0) pa_nil)) pa_nil))) (blkOk_by (own := [("_law_k", 1)]) (N := N_law_p_slope) (sc := defScope s_law_p_slope) (by decide +kernel)) (fun _ _ _ _ _ => (pg_name (i := 1) sc_law_p_slope.nd rfl (Or.inl rfl) (Or.inr rfl))) (fun _ _ _ _ _ => pts_nil) (fun _ _ _ _ _ => (pe_cal c_law_times hr (by decide) pass0 (pa_cons (pe_ix (ix_listK (K := K) rfl) (pv 0) (pv 1) (fun _ _ => rfl)) (pa_cons (pe_tup (pa_cons (pv 1) (pa_cons pe_int pa_nil))) pa_nil))))) pa_nil)))), ?_⟩
    walk_at "rd"
    obtain ⟨p, vs, rfl, hp, hq⟩ := hv
    have lv := hq.1
    refine ⟨p, vs, rfl, .inl (L2.SqL.of hp), _, _, rfl, ⟨by decide, by decide, by omega, by omega⟩, ?_⟩
    rw [show ((vs.length : Int) - 1).toNat = a.length - 1 by omega]
    intro D nD
    refine lc_list' (walk_range (lo := 1) (n := a.length - 1)) (Dm := []) (R := fun k v H => IsQ H v ((((k + 1 : Nat) : Int) : Rat) * cf a (k + 1))) (P := fun _ _ => True) nD (by omega) trivial (fun _ _ _ _ h s => h.m s) (fun _ _ _ _ _ _ => trivial) (fun _ _ => trivial) ?_ ?_
    · intro i x H3 H4 C hi s3 _ _ hy hc
      obtain ⟨rfl, rfl⟩ := hy
      walk_at "rd"
      rw [show (1 : Int) + (i : Nat) = ((i + 1 : Nat) : Int) by omega]
      obtain ⟨v1, ev1, hv1⟩ := hq.at_ (i := i + 1) (by omega)
      refine SqL.ix (s3.lst hp List.not_mem_nil) (atI_nat ev1) ?_
      refine nt_of fun q H5 _ s5 hq5 => ⟨_, _, cf a (i + 1), (((i + 1 : Nat) : Int) : Rat), rfl, ((hv1.m s3).m s5).p (h1 _) (Nat.le_refl _), ⟨q, _, _, rfl, hq5, by decide, ?_, ?_, int_divInt _⟩, fun r H6 s6 hr6 => hc _ _ (s5.trans s6) ?_ trivial⟩
      · have : (2 : Nat) ^ 10 = 1024 := by decide
        exact Nat.lt_of_lt_of_le (show (((i + 1 : Nat) : Int)).natAbs < 2 ^ 10 by omega) (Nat.pow_le_pow_right (by decide) (by decide))
      · show (1 : Int).natAbs < 2 ^ 4400
        exact Nat.one_lt_two_pow (by decide)
      · have e : cf a (i + 1) * (((i + 1 : Nat) : Int) : Rat) = (((i + 1 : Nat) : Int) : Rat) * cf a (i + 1) := Rat.mul_comm _ _
        rw [← e]
        exact hr6
    · intro acc H3 s3 hD hl3 hr3 _
      have hqs := qs_of hl3 hr3
      exact ⟨_, _, rfl, ⟨D, acc, rfl, hD, hqs⟩, by simp; omega, fun r H4 s4 hr4 => k r H4 (s3.trans s4) hr4⟩
abbrev N_law_p_moved : List Str := ["_law_one", "_law_start", "_law_step", "_law_found", "_law_line", "_law_number"]
theorem sc_law_p_moved : FnScope N_law_p_moved ["_law_one", "_law_start", "_law_step"] (defScope s_law_p_moved) := ⟨rfl, rfl, rfl, by decide +kernel, rfl, by decide +kernel, by decide +kernel⟩
def spLMoved : Sp := fun vs H Q _ => ∃ v u t a p q n1 n2, vs = [v, u, t] ∧ LQ H v a ∧ IsQ H u p ∧ IsQ H t q ∧ Hl n1 a ∧ Hq n2 p ∧ Hq n2 q ∧ n1 ≤ 4000 ∧ (∀ i, i < a.length → (i + 1) * (mB n1 n2 i + n2 + 1) + 1 ≤ 4300) ∧ a.length ≤ 100 ∧ ∀ r H', Sm [] [] H H' → LQ H' r (mv a p q a.length) → Q r H'
theorem ok_law_p_moved (T : Tx K mg) : Cal P w K mg base CX0 5 "_law_p_moved" spLMoved := by
  have c_law_p_plus := ok_law_p_plus (P := P) (w := w) (base := base) T
  have c_law_p_times := ok_law_p_times (P := P) (w := w) (base := base) T
  have c_law_poly := ok_law_poly (P := P) (w := w) (base := base) T
  obtain ⟨fd, F⟩ := T.f_law_p_moved
  refine cal0 F T.g_law_p_moved sc_law_p_moved (ps := ["_law_one", "_law_start", "_law_step"]) (fun _ _ _ _ _ _ us hl => match us, hl with | [_, _, _], _ => rfl) (fun vs H Q E h => ?_) (fun cdv A outer s H vs Q E hr h => ?_)
  · obtain ⟨v, u, t, a, p, q, n1, n2, rfl, _⟩ := h
    rfl
  · obtain ⟨v, u, t, a, p, q, n1, n2, rfl, hv, hu, ht, h1, hp2, hq2, l1, hm, ha, k⟩ := h
    refine ⟨_, (pss_cons (ps_par (i := 3) (j := 4) rfl sc_law_p_moved.nd rfl rfl (by decide) rfl rfl (pa_cons (pe_lst pa_nil) (pa_cons (pe_cal c_law_poly hr (by decide) pass0 (pa_cons (pe_lst (pa_cons (pv 1) (pa_cons (pv 2) pa_nil))) pa_nil)) pa_nil)) (by rfl))
      (pss_cons (ps_for PassesOwn.never rfl (pi_list (pe_revL (pv 0))) (pg_name (i := 5) sc_law_p_moved.nd rfl (Or.inl rfl)) (pss_one (ps_set (i := 3) sc_law_p_moved.nd rfl (Or.inl rfl) (pe_cal c_law_p_plus hr (by decide) pass0 (pa_cons (pe_cal c_law_p_times hr (by decide) pass0 (pa_cons (pv 3) (pa_cons (pv 4) pa_nil))) (pa_cons (pe_cal c_law_poly hr (by decide) pass0 (pa_cons (pe_lst (pa_cons (pv 5) pa_nil)) pa_nil)) pa_nil))))))
      (pss_one (ps_ret (pv 3))))), ?_⟩
    walk_at "rd"
    obtain ⟨x, vs, rfl, hp, hq⟩ := hv
    have lv := hq.1
    refine nl_of fun e0 H1 _ s1 he0 => nl_of fun e1 H2 _ s2 he1 => ?_
    have s12 := s1.trans s2
    refine ⟨_, [p, q], rfl, ⟨e1, _, rfl, he1, .cons (hu.m s12) (.one (ht.m s12))⟩, by show 2 ≤ 900; decide, fun ln H3 s3 hln => ⟨_, _, rfl, ?_⟩⟩
    have s13 := s12.trans s3
    have hp3 := s13.lst hp List.not_mem_nil
    refine ⟨x, vs, rfl, L2.SqL.of hp3, fun rl nrl => ?_⟩
    have s4 : Sm [] [] H3 (upd H3 rl (.lst vs.reverse)) := Sm.new nrl
    have hrl := upd_same (H := H3) (a := rl) (o := .lst vs.reverse)
    have s14 := s13.trans s4
    have hrv : Qs (upd H3 rl (.lst vs.reverse)) vs.reverse a.reverse := (hq.rev).m s14
    have hln4 := hln.m s4
    have he4 := ((s2.trans s3).trans s4).lst he0 List.not_mem_nil
    generalize upd H3 rl (.lst vs.reverse) = H4 at *
    refine ⟨rl, rfl, ⟨_, L2.SqL.of hrl⟩, for_it' (walk_list (xs := vs.reverse)) (fun i σ H' => Sm [] [] H4 H' ∧ ∃ fd o, σ = [some (.ref x), some u, some t, some fd, some ln, o] ∧ LQ H' fd (mv a p q i)) ?_ ?_ ?_ ?_⟩
    · exact ⟨Sm.refl, _, _, rfl, e0, [], rfl, he4, .nil⟩
    · intro i σ H' _ z
      exact L2.SqL.of (z.1.lst hrl List.not_mem_nil)
    · intro i c σ H5 H6 hi z y
      obtain ⟨s5, fd, o, rfl, hfd⟩ := z
      obtain ⟨rfl, y⟩ := y
      have hi2 : i < a.length := by rw [List.length_reverse] at hi; omega
      have hc := hrv.get y
      rw [cf_rev' hi2] at hc
      have lm := mv_le a p q i
      have hlm := hl_mv h1 hp2 hq2 i
      have hmi := hm i hi2
      have hs2 := strip_le [p, q]
      have hs1 := strip_le [cf a (a.length - 1 - i)]
      have hpm := pmul_le (mv a p q i) (strip [p, q])
      have hhpm := hl_pmul hlm (hl_strip (hl_two hp2 hq2))
      simp only [List.length_cons, List.length_nil] at hs1 hs2
      have m1 : ((mv a p q i).length + 1) * (mB n1 n2 i + n2 + 1) ≤ (i + 1) * (mB n1 n2 i + n2 + 1) := Nat.mul_le_mul_right _ (by omega)
      have m2 : min (mv a p q i).length (strip [p, q]).length * (mB n1 n2 i + n2 + 1) ≤ (i + 1) * (mB n1 n2 i + n2 + 1) := Nat.mul_le_mul_right _ (by omega)
      walk_at "rd"
      refine ⟨_, _, mv a p q i, strip [p, q], mB n1 n2 i, n2, rfl, hfd, hln4.m s5, hlm, hl_strip (hl_two hp2 hq2), by omega, by omega, by omega, fun r1 H7 s7 hr1 => ?_⟩
      refine nl_of fun c1 H8 _ s8 hc1 => ⟨_, [cf a (a.length - 1 - i)], rfl, ⟨c1, _, rfl, hc1, .one (((hc.m s5).m s7).m s8)⟩, by show 1 ≤ 900; decide, fun r2 H9 s9 hr2 => ?_⟩
      refine ⟨_, _, _, _, rfl, (hr1.m s8).m s9, hr2, hhpm.mono (by omega), (hl_strip (hl_one (h1 _))).mono (by omega), by omega, by omega, fun r3 H10 s10 hr3 => ?_⟩
      exact ⟨(((s5.trans s7).trans s8).trans s9).trans s10, _, _, rfl, hr3⟩
    · intro σ H5 z
      obtain ⟨s5, fd, o, rfl, hfd⟩ := z
      walk_at "rd"
      rw [List.length_reverse, lv] at hfd
      exact k _ _ (s14.trans s5) hfd
end
end G3
end
section
set_option maxHeartbeats 4000000
namespace G3
open PySem PySem.Spec PyProof.Rows L2
local macro_rules | `(tactic| walk_at "rd") => `(tactic| simp only [wipe, sDPut, tDGet, tDisp, tPairs, tBM0, tBM, tBreak, sFld, tPar3, tRevL, tLstRg, tRg1, tRg2, gSub, rSetL,  tSl, tNoPart, tPart, iRng1, iRng2, iRng3, tRevT, tLc_eq, tFor_eq, iEnumT, iSeq, iList, iTup, RZ.iZipA, tFld_eq, tMeth, tVar, tC, tOp, tUn, tCons, tNil, tCB, tCall, tRet, tSeq, tAsg, gName, tIfS, tIf, tTest, tB, tNot, tAnd, tOr, tNotV, tAndV, tOrV, rI0_int, rI_int, rU_int, rEq_int, rNe_int, tPar, tNext, tDrop, tTup_nt, tLst_nl, tMkBN, tMkBR, cxOf_K, L2.start, List.map_cons, List.map_nil, List.length_cons, List.length_nil, List.cons_append, List.nil_append, List.append_nil, List.replicate_succ, List.replicate_zero, Nat.reduceAdd, Nat.reduceSub, Nat.sub_self, List.getElem?_cons_zero, List.getElem?_cons_succ, List.set_cons_zero, List.set_cons_succ, Option.some.injEq, V.int.injEq, V.bl.injEq, exists_eq_left', exists_eq_left, exists_eq_right, exists_eq_right', true_and, and_true, if_true, if_false, ite_true, ite_false, Bool.false_eq_true, Bool.not_true, Bool.not_false, reduceIte])
local macro_rules | `(tactic| walk_at "ix") => `(tactic| repeat (first | refine Sq.ix (by assumption) (by rfl) ?_ | (walk_at "rd"; refine ⟨Sz.mul (by assumption) (by assumption), ?_⟩)))
theorem lcD_mono {l : List Rat} {i : Nat} : ∀ {n : Nat}, i ≤ n → lcD l i ∣ lcD l n
  | 0, h => by rw [Nat.le_zero.mp h]; exact Nat.dvd_refl _
  | n + 1, h => by
    by_cases e : i = n + 1
    · rw [e]; exact Nat.dvd_refl _
    · exact Nat.dvd_trans (lcD_mono (by omega)) (Nat.dvd_lcm_left _ _)
/-- the greatest common divisor of the tops over one bottom -/
def gcT (l : List Rat) (L : Nat) : Nat → Nat
  | 0 => 0
  | i + 1 => Nat.gcd (gcT l L i) ((cf l i).num * ((L : Int) / ((cf l i).den : Int))).natAbs
def pshort (l : List Rat) : List Rat := pscale l (Rat.divInt (lcD l l.length) (gcT l (lcD l l.length) l.length))
/-- what p_short meets is small -/
def ShortSz (l : List Rat) : Prop := lcD l l.length < 2 ^ 4400 ∧ (0 < l.length → 0 < gcT l (lcD l l.length) l.length ∧ gcT l (lcD l l.length) l.length < 2 ^ 4400)
/-- a chain of divisions of the law's own -/
structure LChain (s : Nat → List Rat) (n : Nat) : Prop where
  nf : ∀ i, i ≤ n + 1 → Nf (s i)
  le : ∀ i, i ≤ n + 1 → (s i).length ≤ 400
  ne : ∀ i, i < n → 0 < (s (i + 1)).length
  dz : ∀ i, i < n → DivSz (s i) (s (i + 1))
  pz : ∀ i, i < n → Hl 4400 (rem (s i) (s (i + 1))) ∧ ShortSz (rem (s i) (s (i + 1)))
  st : ∀ i, i < n → s (i + 2) = pshort (rem (s i) (s (i + 1)))
  en : s (n + 1) = []
  sm : n ≤ 190
  fz : Hl 4400 (s n) ∧ (0 < (s n).length → Hq 4400 (1 / cf (s n) ((s n).length - 1)))
section
variable {P : Program} {w : World} {K : PySem.W.Frag} {mg : Str → Option Value} {base : Heap}
abbrev N_law_p_divided : List Str := ["_law_one", "_law_two", "_law_rest", "_law_quotient", "_law_k", "_law_by", "_law_i"]
theorem sc_law_p_divided : FnScope N_law_p_divided ["_law_one", "_law_two"] (defScope s_law_p_divided) := ⟨rfl, rfl, rfl, by decide +kernel, rfl, by decide +kernel, by decide +kernel⟩
def spLDiv : Sp := fun vs H Q _ => ∃ v u a b, vs = [v, u] ∧ LQ H v a ∧ LQ H u b ∧ a.length ≤ 400 ∧ b.length ≤ 400 ∧ 0 < b.length ∧ Nf b ∧ DivSz a b ∧ ∀ p x y H', Sm [] [] H H' → H' p = some (.tup [x, y]) → LQ H' x (quo a b) → LQ H' y (rem a b) → Q (.ref p) H'
theorem ok_law_p_divided (T : Tx K mg) : Cal P w K mg base CX0 4 "_law_p_divided" spLDiv := by
  have c_law_share := ok_law_share (P := P) (w := w) (base := base) T
  have c_law_minus := ok_law_minus (P := P) (w := w) (base := base) T
  have c_law_times := ok_law_times (P := P) (w := w) (base := base) T
  have c_law_poly := ok_law_poly (P := P) (w := w) (base := base) T
  obtain ⟨fd, F⟩ := T.f_law_p_divided
  refine cal0 F T.g_law_p_divided sc_law_p_divided (ps := ["_law_one", "_law_two"]) (fun _ _ _ _ _ _ us hl => match us, hl with | [_, _], _ => rfl) (fun vs H Q E h => ?_) (fun cdv A outer s H vs Q E hr h => ?_)
  · obtain ⟨v, u, a, b, rfl, _⟩ := h
    rfl
  · obtain ⟨v, u, a, b, rfl, hv, hu, ha, hb, lb, nb, dz, k⟩ := h
    refine ⟨_, (pss_cons (ps_par (i := 2) (j := 3) rfl sc_law_p_divided.nd rfl rfl (by decide) rfl rfl (pa_cons (pe_callTy call_list_of (by rfl) T.b_list (by decide +kernel) (pa_cons (pv 0) pa_nil)) (pa_cons (pe_op op_rep (pe_lst (pa_cons (pe_tup (pa_cons pe_int (pa_cons pe_int pa_nil))) pa_nil)) (pe_callB (cr_max rfl) (by rfl) T.b_max (by decide +kernel) (pa_cons (pe_lst (pa_cons pe_int (pa_cons (pe_op op_add (pe_op op_sub (pe_callB call_len_seq (by rfl) T.b_len (by decide +kernel) (pa_cons (pv 0) pa_nil)) (pe_callB call_len_seq (by rfl) T.b_len (by decide +kernel) (pa_cons (pv 1) pa_nil))) pe_int) pa_nil))) pa_nil))) pa_nil)) (by rfl))
      (pss_cons (ps_for PassesOwn.never rfl (pi_range3 (by rfl) T.b_range (pa_cons (pe_op op_sub (pe_callB call_len_seq (by rfl) T.b_len (by decide +kernel) (pa_cons (pv 0) pa_nil)) (pe_callB call_len_seq (by rfl) T.b_len (by decide +kernel) (pa_cons (pv 1) pa_nil))) (pa_cons (pe_un un_neg pe_int) (pa_cons (pe_un un_neg pe_int) pa_nil)))) (pg_name (i := 4) sc_law_p_divided.nd rfl (Or.inl rfl)) (pss_cons (ps_set (i := 5) sc_law_p_divided.nd rfl (Or.inl rfl) (pe_cal c_law_share hr (by decide) pass0 (pa_cons (pe_ix ix_list (pv 2) (pe_op op_sub (pe_op op_add (pv 4) (pe_callB call_len_seq (by rfl) T.b_len (by decide +kernel) (pa_cons (pv 1) pa_nil))) pe_int) (fun _ _ => rfl)) (pa_cons (pe_ix ix_list (pv 1) (pe_un un_neg pe_int) (fun _ _ => rfl)) pa_nil))))
      (pss_cons (ps_asg (pv 5) (pg_sub (pv 3) (pv 4) set_list))
      (pss_one (ps_for PassesOwn.never rfl (pi_range1 (by rfl) T.b_range (pa_cons (pe_callB call_len_seq (by rfl) T.b_len (by decide +kernel) (pa_cons (pv 1) pa_nil)) pa_nil)) (pg_name (i := 6) sc_law_p_divided.nd rfl (Or.inl rfl)) (pss_one (ps_asg (pe_cal c_law_minus hr (by decide) pass0 (pa_cons (pe_ix ix_list (pv 2) (pe_op op_add (pv 4) (pv 6)) (fun _ _ => rfl)) (pa_cons (pe_cal c_law_times hr (by decide) pass0 (pa_cons (pv 5) (pa_cons (pe_ix ix_list (pv 1) (pv 6) (fun _ _ => rfl)) pa_nil))) pa_nil))) (pg_sub (pv 2) (pe_op op_add (pv 4) (pv 6)) set_list))))))))
      (pss_one (ps_ret (pe_tup (pa_cons (pe_cal c_law_poly hr (by decide) pass0 (pa_cons (pv 3) pa_nil)) (pa_cons (pe_cal c_law_poly hr (by decide) pass0 (pa_cons (pv 2) pa_nil)) pa_nil))))))), ?_⟩
    walk_at "rd"
    obtain ⟨pa, va, rfl, hpa, qa⟩ := hv
    obtain ⟨pb, vb, rfl, hpb, qb⟩ := hu
    have la := qa.1
    have lb' := qb.1
    refine ⟨pa, va, rfl, .inl (L2.SqL.of hpa), fun R nR => ?_⟩
    have s1 : Sm [] [] H (upd H R (.lst va)) := Sm.new nR
    have hR1 := upd_same (H := H) (a := R) (o := .lst va)
    generalize upd H R (.lst va) = H1 at *
    refine nt_of fun z0 H2 _ s2 hz0 => nl_of fun z1 H3 _ s3 hz1 => ?_
    have s13 := (s1.trans s2).trans s3
    refine ⟨pa, va, rfl, .inl (L2.SqL.of (s13.lst hpa List.not_mem_nil)), pb, vb, rfl, .inl (L2.SqL.of (s13.lst hpb List.not_mem_nil)), ?_⟩
    refine nl_of fun z2 H4 _ s4 hz2 => ⟨z2, [0, (va.length : Int) - vb.length + 1], rfl, L2.SqL.of hz2, by simp, fun mm hm1 hm2 => ?_⟩
    have hd : dm a b = a.length + 1 - b.length := rfl
    have em : mm = ((dm a b : Nat) : Int) := by
      have a1 := hm2 ((va.length : Int) - vb.length + 1) (by simp)
      have a2 := hm2 0 (by simp)
      rcases List.mem_cons.mp hm1 with z | z
      · omega
      · have := List.mem_singleton.mp z; omega
    subst em
    have dml : dm a b ≤ 400 := by omega
    refine ⟨z1, _, _, rfl, rfl, s4.lst hz1 List.not_mem_nil, by omega, by omega, by rw [List.length_singleton, sizeLine_eq]; omega, fun QQ nQ => ?_⟩
    rw [Int.toNat_natCast, rep_flat]
    have s5 : Sm [] [] H4 (upd H4 QQ (.lst (List.replicate (dm a b) (.ref z0)))) := Sm.new nQ
    have hQ5 := upd_same (H := H4) (a := QQ) (o := .lst (List.replicate (dm a b) (.ref z0)))
    have s15 : Sm [] [] H1 (upd H4 QQ (.lst (List.replicate (dm a b) (.ref z0)))) := ((s2.trans s3).trans s4).trans s5
    have hz5 := ((s3.trans s4).trans s5).tup hz0
    have RneQ : R ≠ QQ := fun e => by
      have := ((s2.trans s3).trans s4).lst hR1 List.not_mem_nil
      rw [e, nQ] at this; cases this
    have nQH : H QQ = none := (((s1.trans s2).trans s3).trans s4).free nQ
    generalize upd H4 QQ (.lst (List.replicate (dm a b) (.ref z0))) = Hs at *
    have hRs := s15.lst hR1 List.not_mem_nil
    have hQs := hQ5
    have s0s : Sm [] [] H Hs := s1.trans s15
    have hpas := s0s.lst hpa List.not_mem_nil
    have hpbs := s0s.lst hpb List.not_mem_nil
    have qR : Qs Hs va a := qa.m s0s
    have qbs : Qs Hs vb b := qb.m s0s
    have qQ : Qs Hs (List.replicate (dm a b) (.ref z0)) (List.replicate (dm a b) 0) := Qs.rep (isQ_zero hz5) _
    have pbR : pb ≠ R := fun z => by rw [z, nR] at hpb; cases hpb
    have pbQ : pb ≠ QQ := fun z => by rw [z, nQH] at hpb; cases hpb
    have up : ∀ H', Sm [] [R, QQ] Hs H' → Sm [] [] H H' := fun H' s => ((s0s.w (fun _ h => h) (fun _ h => nomatch h)).trans s).drop nR |>.drop nQH
    have hpb' : ∀ H', Sm [] [R, QQ] Hs H' → H' pb = some (.lst vb) := fun H' s => s.lst hpbs (by simp [pbR, pbQ])
    refine ⟨_, _, rfl, pa, va, rfl, .inl (L2.SqL.of hpas), pb, vb, rfl, .inl (L2.SqL.of hpbs), _, _, _, dm a b, rfl, by have h := RgC.neg (i := (va.length : Int) - vb.length) (j := -1) (by omega) (by omega) (by omega) (by omega); rwa [show ((va.length : Int) - vb.length - -1).toNat = dm a b by omega] at h, ?_⟩
    refine for_it' (walk_rangeC (lo := (va.length : Int) - vb.length) (c := -1) (n := dm a b)) (fun j σ H' => Sm [] [R, QQ] Hs H' ∧ ∃ vsR vsQ lr lq o1 o2 o3, σ = [some (.ref pa), some (.ref pb), some (.ref R), some (.ref QQ), o1, o2, o3] ∧ H' R = some (.lst vsR) ∧ H' QQ = some (.lst vsQ) ∧
        Qs H' vsR lr ∧ Qs H' vsQ lq ∧ lr.length = a.length ∧ lq.length = dm a b ∧ (∀ i, cf lr i = dv a b j i) ∧ ∀ i, i < dm a b → dm a b ≤ i + j → cf lq i = by_ a b (dm a b - 1 - i)) ?_ ?_ ?_ ?_
    · exact ⟨Sm.refl, va, _, a, _, none, none, none, rfl, hRs, hQs, qR, qQ, rfl, by simp, fun i => rfl, fun i h1 h2 => by omega⟩
    · intro j σ H' _ _
      trivial
    · intro j x σ H' H'' hj z y
      obtain ⟨s7, vsR, vsQ, lr, lq, o1, o2, o3, rfl, hR, hQ, eR, eQ, lrl, lql, hr1, hq1'⟩ := z
      obtain ⟨rfl, rfl⟩ := y
      have hpl : pl a b j = dm a b - 1 - j := by show a.length - b.length - j = _; omega
      have hpb7 := hpb' _ s7
      walk_at "rd"
      obtain ⟨vr, evr, hvr⟩ := eR.at_ (i := pl a b j + (b.length - 1)) (by omega)
      refine ⟨pb, vb, rfl, .inl (L2.SqL.of hpb7), ?_⟩
      refine SqL.ix hR (v := vr) (by rw [show (va.length : Int) - vb.length + ((j : Nat) : Int) * -1 + (vb.length : Int) - 1 = ((pl a b j + (b.length - 1) : Nat) : Int) by omega]; exact atI_nat evr) ?_
      obtain ⟨vl, evl, hvl⟩ := (qbs.m s7).at_ (i := b.length - 1) (by omega)
      refine SqL.ix hpb7 (v := vl) (atI_neg1 (by rw [lb']; exact evl)) ?_
      rw [hr1] at hvr
      refine ⟨_, _, _, _, rfl, hvr.p (dz.1 j _ (by omega)) (Nat.le_refl _), hvl.p (dz.2.2.2 _) (Nat.le_refl _), nb.top lb, fun by1 H8 s8 hby => ?_⟩
      have hQ8 := s8.lst hQ List.not_mem_nil
      have hR8 := s8.lst hR List.not_mem_nil
      refine ⟨QQ, vsQ, _, dm a b - 1 - j, rfl, rfl, hQ8, by rw [show (va.length : Int) - vb.length + ((j : Nat) : Int) * -1 = ((dm a b - 1 - j : Nat) : Int) by omega]; exact ixN_nat (by rw [eQ.1]; omega), ?_⟩
      have s9 : Sm [] [R, QQ] H8 (upd H8 QQ (.lst (vsQ.set (dm a b - 1 - j) by1))) := Sm.put hQ8 (by simp)
      have hQ9 := upd_same (H := H8) (a := QQ) (o := .lst (vsQ.set (dm a b - 1 - j) by1))
      have hR9 : upd H8 QQ (.lst (vsQ.set (dm a b - 1 - j) by1)) R = some (.lst vsR) := by rw [upd_ne RneQ]; exact hR8
      generalize upd H8 QQ (.lst (vsQ.set (dm a b - 1 - j) by1)) = H9 at *
      have s89 : Sm [] [R, QQ] H'' H9 := (s8.w (fun _ h => h) (fun _ h => nomatch h)).trans s9
      have hby9 : IsQ H9 by1 (by_ a b j) := hby.m s9
      have eQ9 : Qs H9 (vsQ.set (dm a b - 1 - j) by1) (lq.set (dm a b - 1 - j) (by_ a b j)) := (eQ.m s89).set hby9 _
      have s79 := s7.trans s89
      refine ⟨pb, vb, rfl, .inl (L2.SqL.of (hpb' _ s79)), _, rfl, by omega, by omega, ?_⟩
      rw [Int.toNat_natCast]
      refine for_it' (walk_range (lo := 0) (n := vb.length)) (fun k σ H' => Sm [] [R, QQ] Hs H' ∧ IsQ H' by1 (by_ a b j) ∧ ∃ vsR lr2 o3, σ = [some (.ref pa), some (.ref pb), some (.ref R), some (.ref QQ), some (.int ((va.length : Int) - vb.length + ((j : Nat) : Int) * -1)), some by1, o3] ∧ H' R = some (.lst vsR) ∧ H' QQ = some (.lst (vsQ.set (dm a b - 1 - j) by1)) ∧
        Qs H' vsR lr2 ∧ Qs H' (vsQ.set (dm a b - 1 - j) by1) (lq.set (dm a b - 1 - j) (by_ a b j)) ∧ lr2.length = a.length ∧ ∀ i, cf lr2 i = dv a b j i - (if pl a b j ≤ i ∧ i < pl a b j + k then by_ a b j * cf b (i - pl a b j) else 0)) ?_ ?_ ?_ ?_
      · exact ⟨s79, hby9, vsR, lr, _, rfl, hR9, hQ9, eR.m s89, eQ9, lrl, fun i => by rw [if_neg (by omega), hr1]; grind⟩
      · intro k σ H' _ _
        trivial
      · intro k x σ H10 H11 hk z y
        obtain ⟨s10, hby10, vsR2, lr2, o3', rfl, hR10, hQ10, eR10, eQ10, ll2, hlr2⟩ := z
        obtain ⟨rfl, rfl⟩ := y
        have hk2 : k < b.length := lb' ▸ hk
        obtain ⟨x2, e2, hx2⟩ := (qbs.m s10).at_ (i := k) hk2
        walk_at "rd"
        rw [Int.zero_add]
        have ek : (va.length : Int) - vb.length + ((j : Nat) : Int) * -1 + (k : Nat) = ((pl a b j + k : Nat) : Int) := by omega
        rw [ek]
        have pk : pl a b j + k < a.length := by omega
        obtain ⟨v5, ev5, hv5⟩ := eR10.at_ (i := pl a b j + k) (by omega)
        have c5 : cf lr2 (pl a b j + k) = dv a b j (pl a b j + k) := by rw [hlr2, if_neg (by omega)]; grind
        rw [c5] at hv5
        refine SqL.ix hR10 (v := v5) (atI_nat ev5) (SqL.ix (hpb' _ s10) (atI_nat e2) ?_)
        refine ⟨_, _, _, _, rfl, hby10.p (dz.2.1 j hj) (Nat.le_refl _), hx2.p (dz.2.2.2 _) (Nat.le_refl _), fun t1 H12 s12 ht1 => ?_⟩
        refine ⟨_, _, _, _, rfl, (hv5.m s12).p (dz.1 j _ (by omega)) (Nat.le_refl _), ht1.p (dz.2.2.1 j _ hj) (Nat.le_refl _), fun t2 H13 s13' ht2 => ?_⟩
        have s1113 := s12.trans s13'
        have hR13 := s1113.lst hR10 List.not_mem_nil
        refine ⟨R, vsR2, _, pl a b j + k, rfl, rfl, hR13, ixN_nat (by rw [eR10.1, ll2]; exact pk), ?_⟩
        have s14 : Sm [] [R, QQ] H13 (upd H13 R (.lst (vsR2.set (pl a b j + k) t2))) := Sm.put hR13 (by simp)
        have s11' : Sm [] [R, QQ] H11 (upd H13 R (.lst (vsR2.set (pl a b j + k) t2))) := (s1113.w (fun _ h => h) (fun _ h => nomatch h)).trans s14
        refine ⟨s10.trans s11', hby10.m s11', _, lr2.set (pl a b j + k) (dv a b j (pl a b j + k) - by_ a b j * cf b k), _, rfl, upd_same, ?_, ?_, eQ10.m s11', by simp [ll2], ?_⟩
        · rw [upd_ne (fun z => RneQ z.symm)]
          exact s1113.lst hQ10 List.not_mem_nil
        · exact (eR10.m s11').set (ht2.m s14) _
        · intro i
          rw [cf_set _ _ _ _ (by omega), hlr2]
          by_cases hi : i = pl a b j + k
          · subst hi
            rw [if_pos rfl, if_pos (by omega), Nat.add_sub_cancel_left]
          · rw [if_neg hi]
            by_cases h2 : pl a b j ≤ i ∧ i < pl a b j + k
            · rw [if_pos h2, if_pos (by omega)]
            · rw [if_neg h2, if_neg (by omega)]
      · intro σ H10 z
        obtain ⟨s10, hby10, vsR2, lr2, o3', rfl, hR10, hQ10, eR10, eQ10, ll2, hlr2⟩ := z
        refine ⟨s10, _, _, lr2, _, _, _, _, rfl, hR10, hQ10, eR10, eQ10, ll2, by simp [lql], fun i => ?_, fun i h1 h2 => ?_⟩
        · rw [hlr2, dv_succ, lb']
          by_cases h1 : pl a b j ≤ i
          · by_cases h2 : i < pl a b j + b.length
            · rw [if_pos ⟨h1, h2⟩, if_pos h1]
            · rw [if_neg (by omega), if_pos h1, cf_ge (l := b) (by omega)]; grind
          · rw [if_neg (by omega), if_neg h1]
        · rw [cf_set _ _ _ _ (by omega)]
          by_cases hi : i = dm a b - 1 - j
          · rw [if_pos hi, hi, show dm a b - 1 - (dm a b - 1 - j) = j by omega]
          · rw [if_neg hi]
            exact hq1' i h1 (by omega)
    · intro σ H' z
      obtain ⟨s7, vsR, vsQ, lr, lq, o1, o2, o3, rfl, hR, hQ, eR, eQ, lrl, lql, hr1, hq1'⟩ := z
      walk_at "rd"
      refine ⟨_, lq, rfl, ⟨QQ, vsQ, rfl, hQ, eQ⟩, by omega, fun w1 H8 s8 hw1 => ?_⟩
      have eq1 : strip lq = quo a b := strip_pO lql fun i hi => hq1' i hi (by omega)
      rw [eq1] at hw1
      refine ⟨_, lr, rfl, ⟨R, vsR, rfl, s8.lst hR List.not_mem_nil, eR.m s8⟩, by omega, fun w2 H9 s9 hw2 => ?_⟩
      have eq2 : strip lr = rem a b := (strip_pO lrl fun i _ => hr1 i).trans ((nf_pO _ _).ext (nf_pO _ _) fun i => by
        rw [cf_pO, rem, cf_pO]
        by_cases h : i < b.length - 1
        · rw [if_pos h]
          split
          · rfl
          · rw [dv_ge (dm a b) (Nat.le_refl _) i (by omega)]
        · rw [if_neg h]
          split
          · exact dv_zero nb lb _ (Nat.le_refl _) i (by omega) (by omega)
          · rfl)
      rw [eq2] at hw2
      refine nt_of fun t3 H12 _ s12 ht3 => ?_
      have sl : Sm [] [] H' H12 := (s8.trans s9).trans s12
      exact k t3 w1 w2 H12 (up _ (s7.trans (sl.w (fun _ h => h) (fun _ h => nomatch h)))) ht3 (hw1.m (s9.trans s12)) (hw2.m s12)
abbrev N_law_p_plain : List Str := ["_law_one"]
theorem sc_law_p_plain : FnScope N_law_p_plain ["_law_one"] (defScope s_law_p_plain) := ⟨rfl, rfl, rfl, by decide +kernel, rfl, by decide +kernel, by decide +kernel⟩
def spLPlain : Sp := fun vs H Q _ => ∃ v l, vs = [v] ∧ LQ H v l ∧ Nf l ∧ Hl 4400 l ∧ (0 < l.length → Hq 4400 (1 / cf l (l.length - 1))) ∧ l.length ≤ 400 ∧ ∀ r H', Sm [] [] H H' → LQ H' r (pplain l) → Q r H'
theorem ok_law_p_plain (T : Tx K mg) : Cal P w K mg base CX0 5 "_law_p_plain" spLPlain := by
  have c_law_p_scaled := ok_law_p_scaled (P := P) (w := w) (base := base) T
  have c_law_share := ok_law_share (P := P) (w := w) (base := base) T
  obtain ⟨fd, F⟩ := T.f_law_p_plain
  refine cal0 F T.g_law_p_plain sc_law_p_plain (ps := ["_law_one"]) (fun _ _ _ _ _ _ us hl => match us, hl with | [_], _ => rfl) (fun vs H Q E h => ?_) (fun cdv A outer s H vs Q E hr h => ?_)
  · obtain ⟨v, l, rfl, _⟩ := h
    rfl
  · obtain ⟨v, l, rfl, hv, nf, h1, h2, hl, k⟩ := h
    refine ⟨_, (pss_one (ps_ret (pe_ifExp (pt_cmpR (op_neD (room64 hr)) (pv 0) (pe_lst pa_nil) (nomark _)) (pe_cal c_law_p_scaled hr (by decide) pass0 (pa_cons (pv 0) (pa_cons (pe_cal c_law_share hr (by decide) pass0 (pa_cons (pe_tup (pa_cons pe_int (pa_cons pe_int pa_nil))) (pa_cons (pe_ix ix_list (pv 0) (pe_un un_neg pe_int) (fun _ _ => rfl)) pa_nil))) pa_nil))) (pv 0)))), ?_⟩
    walk_at "rd"
    obtain ⟨p, vs, rfl, hp, hq⟩ := hv
    have lv := hq.1
    refine nl_of fun q H1 _ s1 hq1 => ne_nil (s1.lst hp List.not_mem_nil) (hq.m s1) hq1 ⟨_, rfl, ?_⟩
    by_cases e : l = []
    · subst e
      rw [decide_eq_true rfl]
      refine iteF (k _ _ s1 ?_)
      exact ⟨p, vs, rfl, s1.lst hp List.not_mem_nil, hq.m s1⟩
    · have l0 : 0 < l.length := by
        rcases Nat.eq_zero_or_pos l.length with z | z
        · exact absurd (List.eq_nil_of_length_eq_zero z) e
        · exact z
      rw [decide_eq_false e]
      refine iteT (nt_of fun t H2 _ s2 ht => ?_)
      have s12 := s1.trans s2
      obtain ⟨vl, evl, hvl⟩ := (hq.m s12).at_ (i := l.length - 1) (by omega)
      refine SqL.ix (s12.lst hp List.not_mem_nil) (atI_neg1 (by rw [lv]; exact evl)) ?_
      refine ⟨_, _, 1, _, rfl, ⟨t, 1, 1, rfl, ht, by decide, by show (1 : Int).natAbs < 2 ^ 4400; exact Nat.one_lt_two_pow (by decide), by show (1 : Int).natAbs < 2 ^ 4400; exact Nat.one_lt_two_pow (by decide), by decide +kernel⟩, hvl.p (h1 _) (Nat.le_refl _), nf.top l0, fun r1 H3 s3 hr1 => ?_⟩
      have s13 := s12.trans s3
      refine ⟨_, _, l, _, rfl, ⟨p, vs, rfl, s13.lst hp List.not_mem_nil, hq.m s13⟩, hr1.p (h2 l0) (Nat.le_refl _), h1, hl, fun r2 H4 s4 hr2 => k _ _ (s13.trans s4) ?_⟩
      have e2 : pscale l (1 / cf l (l.length - 1)) = pplain l := by
        unfold pscale pplain
        congr 1
        funext i
        rw [Rat.div_def, Rat.div_def, Rat.one_mul]
      rw [← e2]
      exact hr2
abbrev N_law_p_short : List Str := ["_law_one", "_law_bottom", "_law_most", "_law_number"]
theorem sc_law_p_short : FnScope N_law_p_short ["_law_one"] (defScope s_law_p_short) := ⟨rfl, rfl, rfl, by decide +kernel, rfl, by decide +kernel, by decide +kernel⟩
def spLShort : Sp := fun vs H Q _ => ∃ v l, vs = [v] ∧ LQ H v l ∧ Hl 4400 l ∧ l.length ≤ 400 ∧ ShortSz l ∧ ∀ r H', Sm [] [] H H' → LQ H' r (pshort l) → Q r H'
theorem ok_law_p_short (T : Tx K mg) : Cal P w K mg base CX0 5 "_law_p_short" spLShort := by
  have c_law_p_scaled := ok_law_p_scaled (P := P) (w := w) (base := base) T
  have c_law_gcd := ok_law_gcd (P := P) (w := w) (base := base) T
  obtain ⟨fd, F⟩ := T.f_law_p_short
  refine cal0 F T.g_law_p_short sc_law_p_short (ps := ["_law_one"]) (fun _ _ _ _ _ _ us hl => match us, hl with | [_], _ => rfl) (fun vs H Q E h => ?_) (fun cdv A outer s H vs Q E hr h => ?_)
  · obtain ⟨v, l, rfl, _⟩ := h
    rfl
  · obtain ⟨v, l, rfl, hv, h1, hl, sz, k⟩ := h
    refine ⟨_, (pss_cons (ps_asg (pe_tup (pa_cons pe_int (pa_cons pe_int pa_nil))) (pg_tup (n := 2) rfl (pgs_cons (pg_name (i := 1) sc_law_p_short.nd rfl (Or.inl rfl)) (pgs_cons (pg_name (i := 2) sc_law_p_short.nd rfl (Or.inl rfl)) pgs_nil))))
      (pss_cons (ps_for PassesOwn.never rfl (pi_list (pv 0)) (pg_name (i := 3) sc_law_p_short.nd rfl (Or.inl rfl)) (pss_one (ps_set (i := 1) sc_law_p_short.nd rfl (Or.inl rfl) (pe_op op_fdivS (pe_op op_mulS (pv 1) (pe_ix ix_tup (pv 3) pe_int (fun _ _ => rfl))) (pe_cal c_law_gcd hr (by decide) pass0 (pa_cons (pv 1) (pa_cons (pe_ix ix_tup (pv 3) pe_int (fun _ _ => rfl)) pa_nil)))))))
      (pss_cons (ps_for PassesOwn.never rfl (pi_list (pv 0)) (pg_name (i := 3) sc_law_p_short.nd rfl (Or.inl rfl)) (pss_one (ps_set (i := 2) sc_law_p_short.nd rfl (Or.inl rfl) (pe_cal c_law_gcd hr (by decide) pass0 (pa_cons (pv 2) (pa_cons (pe_op op_mulS (pe_ix ix_tup (pv 3) pe_int (fun _ _ => rfl)) (pe_op op_fdivS (pv 1) (pe_ix ix_tup (pv 3) pe_int (fun _ _ => rfl)))) pa_nil))))))
      (pss_one (ps_ret (pe_ifExp (pt_cmpR (op_neD (room64 hr)) (pv 0) (pe_lst pa_nil) (nomark _)) (pe_cal c_law_p_scaled hr (by decide) pass0 (pa_cons (pv 0) (pa_cons (pe_tup (pa_cons (pv 1) (pa_cons (pv 2) pa_nil))) pa_nil))) (pv 0))))))), ?_⟩
    walk_at "rd"
    refine nt_of fun t0 H1 _ s1 ht0 => gTup2 ht0 ?_
    walk_at "rd"
    obtain ⟨p, vs, rfl, hp, hq⟩ := hv
    have lv := hq.1
    have hp1 := s1.lst hp List.not_mem_nil
    have hq1 := hq.m s1
    unfold ShortSz at sz
    have big : 2 ^ 4400 ≤ 2 ^ 100000 := Nat.pow_le_pow_right (by decide) (by decide)
    have mid : 2 ^ 4400 ≤ 2 ^ 9000 := Nat.pow_le_pow_right (by decide) (by decide)
    have mid2 : 2 ^ 4400 ≤ 2 ^ 20000 := Nat.pow_le_pow_right (by decide) (by decide)
    have LL : ∀ i, i ≤ l.length → lcD l i < 2 ^ 4400 := fun i hi => Nat.lt_of_le_of_lt (Nat.le_of_dvd (lcD_pos _ _) (lcD_mono hi)) sz.1
    generalize hE : 2 ^ 4400 = E44 at *
    refine ⟨p, rfl, ⟨_, L2.SqL.of hp1⟩, for_it' (walk_list (xs := vs)) (fun i σ H' => H' = H1 ∧ ∃ o, σ = [some (.ref p), some (.int (lcD l i : Nat)), some (.int 0), o]) ?_ ?_ ?_ ?_⟩
    · exact ⟨rfl, none, rfl⟩
    · intro i σ H' _ z
      rw [z.1]
      exact L2.SqL.of hp1
    · intro i x σ H' H'' hi z y
      obtain ⟨rfl, o, rfl⟩ := z
      obtain ⟨rfl, y⟩ := y
      obtain ⟨c, rfl, hc⟩ := hq1.get y
      have hi2 : i < l.length := lv ▸ hi
      have dp := (cf l i).den_pos
      have lp := lcD_pos l i
      have dl : (cf l i).den < E44 := hE ▸ (h1 i).2
      have ll := LL i (by omega)
      walk_at "rd"
      refine SqT.ix hc rfl ?_
      walk_at "rd"
      refine ⟨⟨by rw [Int.natAbs_natCast]; omega, by rw [Int.natAbs_natCast]; omega⟩, SqT.ix hc rfl ⟨_, _, rfl, by rw [Int.natAbs_natCast]; omega, ?_⟩⟩
      simp only [Int.natAbs_natCast]
      have gp : 0 < Nat.gcd (lcD l i) (cf l i).den := Nat.gcd_pos_of_pos_left _ lp
      have gle : Nat.gcd (lcD l i) (cf l i).den ≤ lcD l i := Nat.gcd_le_left _ lp
      rw [rI_int]
      refine ⟨⟨by omega, by rw [Int.natAbs_natCast]; omega⟩, rfl, some (.ref c), ?_⟩
      rw [Int.fdiv_eq_ediv_of_nonneg _ (by omega), ← Int.natCast_mul, ← Int.natCast_ediv]
      rfl
    · intro σ H' z
      obtain ⟨rfl, o, rfl⟩ := z
      rw [lv]
      walk_at "rd"
      generalize hL : lcD l l.length = L at *
      have Lp : 0 < L := hL ▸ lcD_pos l _
      have dvd : ∀ i, i < l.length → (cf l i).den ∣ L := fun i hi => hL ▸ lcD_dvd hi (Nat.le_refl _)
      have LE : L < E44 := sz.1
      refine ⟨p, rfl, ⟨_, L2.SqL.of hp1⟩, for_it' (walk_list (xs := vs)) (fun i σ H2 => H2 = H' ∧ ∃ o, σ = [some (.ref p), some (.int (L : Nat)), some (.int (gcT l L i : Nat)), o]) ?_ ?_ ?_ ?_⟩
      · exact ⟨rfl, _, rfl⟩
      · intro i σ H2 _ z
        rw [z.1]
        exact L2.SqL.of hp1
      · intro i x σ H2 H3 hi z y
        obtain ⟨rfl, o, rfl⟩ := z
        obtain ⟨rfl, y⟩ := y
        obtain ⟨c, rfl, hc⟩ := hq1.get y
        have hi2 : i < l.length := lv ▸ hi
        have dp := (cf l i).den_pos
        have dl : (cf l i).den < E44 := hE ▸ (h1 i).2
        have nl : (cf l i).num.natAbs < E44 := hE ▸ (h1 i).1
        have ef : (L : Int).fdiv ((cf l i).den : Int) = (L : Int) / ((cf l i).den : Int) := Int.fdiv_eq_ediv_of_nonneg _ (by omega)
        have el : ((L : Int) / ((cf l i).den : Int)).natAbs ≤ L := by rw [← Int.natCast_ediv, Int.natAbs_natCast]; exact Nat.div_le_self _ _
        walk_at "rd"
        refine SqT.ix hc rfl (SqT.ix hc rfl ?_)
        walk_at "rd"
        rw [ef]
        refine ⟨⟨by omega, by rw [Int.natAbs_natCast]; omega⟩, ⟨by omega, by omega⟩, _, _, rfl, ?_, rfl, some (.ref c), ?_⟩
        · rw [Int.natAbs_mul]
          subst hE
          refine Nat.lt_of_lt_of_le (pow_lt nl (Nat.lt_of_le_of_lt el LE)) (Nat.pow_le_pow_right (by decide) (by decide))
        · rw [Int.natAbs_natCast]; rfl
      · intro σ H2 z
        obtain ⟨rfl, o, rfl⟩ := z
        rw [lv]
        walk_at "rd"
        refine nl_of fun q H3 _ s3 hq3 => ne_nil (s3.lst hp1 List.not_mem_nil) (hq1.m s3) hq3 ⟨_, rfl, ?_⟩
        have s13 := s1.trans s3
        by_cases e : l = []
        · subst e
          rw [decide_eq_true rfl]
          exact iteF (k _ _ s13 ⟨p, vs, rfl, s3.lst hp1 List.not_mem_nil, hq1.m s3⟩)
        · have l0 : 0 < l.length := by
            rcases Nat.eq_zero_or_pos l.length with z | z
            · exact absurd (List.eq_nil_of_length_eq_zero z) e
            · exact z
          obtain ⟨g0, g1⟩ := sz.2 l0
          rw [decide_eq_false e]
          refine iteT (nt_of fun t H4 _ s4 ht => ?_)
          have s34 := s3.trans s4
          refine ⟨_, _, l, _, rfl, ⟨p, vs, rfl, s34.lst hp1 List.not_mem_nil, hq1.m s34⟩, ⟨t, _, _, rfl, ht, by omega, ?_, ?_, rfl⟩, h1, hl, fun r H5 s5 hr5 => k _ _ ((s1.trans s34).trans s5) ?_⟩
          · show (L : Int).natAbs < 2 ^ 4400
            rw [Int.natAbs_natCast, hE]; exact LE
          · show (gcT l L l.length : Int).natAbs < 2 ^ 4400
            rw [Int.natAbs_natCast, hE]; exact g1
          · unfold pshort
            rw [hL]
            exact hr5
abbrev N_law_p_common : List Str := ["_law_one", "_law_two", "_law_lap"]
theorem sc_law_p_common : FnScope N_law_p_common ["_law_one", "_law_two"] (defScope s_law_p_common) := ⟨rfl, rfl, rfl, by decide +kernel, rfl, by decide +kernel, by decide +kernel⟩
def spLCom : Sp := fun vs H Q _ => ∃ v u t n, vs = [v, u] ∧ LQ H v (t 0) ∧ LQ H u (t 1) ∧ LChain t n ∧ ∀ r H', Sm [] [] H H' → LQ H' r (pplain (t n)) → Q r H'
theorem ok_law_p_common (T : Tx K mg) : Cal P w K mg base CX0 6 "_law_p_common" spLCom := by
  have c_law_p_divided := ok_law_p_divided (P := P) (w := w) (base := base) T
  have c_law_p_short := ok_law_p_short (P := P) (w := w) (base := base) T
  have c_law_p_plain := ok_law_p_plain (P := P) (w := w) (base := base) T
  obtain ⟨fd, F⟩ := T.f_law_p_common
  refine cal0 F T.g_law_p_common sc_law_p_common (ps := ["_law_one", "_law_two"]) (fun _ _ _ _ _ _ us hl => match us, hl with | [_, _], _ => rfl) (fun vs H Q E h => ?_) (fun cdv A outer s H vs Q E hr h => ?_)
  · obtain ⟨v, u, t, n, rfl, _⟩ := h
    rfl
  · obtain ⟨v, u, t, n, rfl, hv, hu, hc, k⟩ := h
    refine ⟨_, (pss_cons (ps_for PassesOwn.never rfl (pi_range1 (by rfl) T.b_range (pa_cons pe_int pa_nil)) (pg_name (i := 2) sc_law_p_common.nd rfl (Or.inl rfl)) (pss_cons (ps_if (pt_cmpR (op_eqD (room64 hr)) (pv 1) (pe_lst pa_nil) (nomark _)) (pss_one ps_break) pss_nil)
      (pss_one (ps_par (i := 0) (j := 1) rfl sc_law_p_common.nd rfl rfl (by decide) rfl rfl (pa_cons (pv 1) (pa_cons (pe_cal c_law_p_short hr (by decide) pass0 (pa_cons (pe_ix ix_tup (pe_cal c_law_p_divided hr (by decide) pass0 (pa_cons (pv 0) (pa_cons (pv 1) pa_nil))) pe_int (fun _ _ => rfl)) pa_nil)) pa_nil)) (by rfl)))))
      (pss_one (ps_ret (pe_cal c_law_p_plain hr (by decide) pass0 (pa_cons (pv 0) pa_nil))))), ?_⟩
    walk_at "rd"
    refine ⟨_, rfl, by decide, by decide, ?_⟩
    refine for_it' (walk_range (lo := 0) (n := 200)) (fun i σ H' => i ≤ n ∧ Sm [] [] H H' ∧ ∃ x y o, σ = [some x, some y, o] ∧ LQ H' x (t i) ∧ LQ H' y (t (i + 1))) ?_ ?_ ?_ ?_
    · exact ⟨Nat.zero_le _, Sm.refl, v, u, none, rfl, hv, hu⟩
    · intro i σ H' _ _
      trivial
    · intro i x σ H' H'' hi z yy
      obtain ⟨hin, s1, x, y, o, rfl, hx, hy⟩ := z
      obtain ⟨rfl, rfl⟩ := yy
      obtain ⟨py, vy, rfl, hpy, qy⟩ := id hy
      walk_at "rd"
      refine nl_of fun q H1 _ s2 hq1 => eq_nil (s2.lst hpy List.not_mem_nil) (qy.m s2) hq1 ⟨_, rfl, ?_⟩
      have s12 := s1.trans s2
      have fin : i = n → spLPlain [x] H1 Q E0 := fun e => by
        subst e
        refine ⟨_, _, rfl, hx.m s2, hc.nf i (by omega), hc.fz.1, hc.fz.2, hc.le i (by omega), fun r H2 s3 hr2 => k r H2 (s12.trans s3) hr2⟩
      by_cases e : i = n
      · rw [decide_eq_true (by rw [e]; exact hc.en), if_pos rfl]
        exact fin e
      · have hlt : i < n := by omega
        have l0 := hc.ne i hlt
        rw [decide_eq_false (fun z => by rw [z] at l0; simp at l0), if_neg (by decide)]
        refine ⟨_, _, _, _, rfl, hx.m s2, hy.m s2, hc.le i (by omega), hc.le _ (by omega), l0, hc.nf _ (by omega), hc.dz i hlt, fun p x2 y2 H2 s3 hp hx2 hy2 => ?_⟩
        refine SqT.ix hp rfl ?_
        refine ⟨_, _, rfl, hy2, (hc.pz i hlt).1, Nat.le_trans (rem_le _ _) (by have := hc.le (i + 1) (by omega); omega), (hc.pz i hlt).2, fun r H4 s4 hr4 => ⟨_, _, rfl, hlt, (s12.trans s3).trans s4, _, _, _, rfl, hy.m ((s2.trans s3).trans s4), ?_⟩⟩
        rw [hc.st i hlt]
        exact hr4
    · intro σ H' z
      have := hc.sm
      obtain ⟨hin, _⟩ := z
      omega
end
end G3
end
section
set_option maxHeartbeats 4000000
namespace G3
open PySem PySem.Spec PyProof.Rows L2
local macro_rules | `(tactic| walk_at "rd") => `(tactic| simp only [wipe, sDPut, tDGet, tDisp, tPairs, tBM0, tBM, tBreak, sFld, tPar3, tRevL, tLstRg, tRg1, tRg2, gSub, rSetL,  tSl, tNoPart, tPart, iRng1, iRng2, iRng3, tRevT, tLc_eq, tFor_eq, iEnumT, iSeq, iList, iTup, RZ.iZipA, tFld_eq, tMeth, tVar, tC, tOp, tUn, tCons, tNil, tCB, tCall, tRet, tSeq, tAsg, gName, tIfS, tIf, tTest, tB, tNot, tAnd, tOr, tNotV, tAndV, tOrV, rI0_int, rI_int, rU_int, rEq_int, rNe_int, tPar, tNext, tDrop, tTup_nt, tLst_nl, tMkBN, tMkBR, cxOf_K, L2.start, List.map_cons, List.map_nil, List.length_cons, List.length_nil, List.cons_append, List.nil_append, List.append_nil, List.replicate_succ, List.replicate_zero, Nat.reduceAdd, Nat.reduceSub, Nat.sub_self, List.getElem?_cons_zero, List.getElem?_cons_succ, List.set_cons_zero, List.set_cons_succ, Option.some.injEq, V.int.injEq, V.bl.injEq, exists_eq_left', exists_eq_left, exists_eq_right, exists_eq_right', true_and, and_true, if_true, if_false, ite_true, ite_false, Bool.false_eq_true, Bool.not_true, Bool.not_false, reduceIte])
local macro_rules | `(tactic| walk_at "ix") => `(tactic| repeat (first | refine Sq.ix (by assumption) (by rfl) ?_ | (walk_at "rd"; refine ⟨Sz.mul (by assumption) (by assumption), ?_⟩)))
def penL (cl : Addr) (at_ dg co fo : Int) : List (Key × V) := [(.inr "cells", .ref cl), (.inr "at", .int at_), (.inr "digits", .int dg), (.inr "count", .int co), (.inr "fold", .int fo)]
/-- the pen at p: n more draws are in order -/
def Pen (H : Hp) (p cl : Addr) (n : Nat) : Prop := ∃ (ns : List Int) (at_ dg co fo : Int), H p = some (.dK (penL cl at_ dg co fo)) ∧ H cl = some (.lst (ns.map V.int)) ∧ 0 ≤ at_ ∧ 0 ≤ dg ∧ 0 ≤ co ∧ co + n ≤ 2 ^ 40 ∧ 0 ≤ fo ∧ fo < 2 ^ 31
theorem Pen.mono {H : Hp} {p cl : Addr} {m n : Nat} (h : Pen H p cl m) (hn : n ≤ m) : Pen H p cl n := by
  obtain ⟨ns, at_, dg, co, fo, h1, h2, h3, h4, h5, h6, h7⟩ := h
  exact ⟨ns, at_, dg, co, fo, h1, h2, h3, h4, h5, by omega, h7⟩
theorem Pen.m {H H' : Hp} {p cl : Addr} {n : Nat} (h : Pen H p cl n) (s : Sm [] [] H H') : Pen H' p cl n := by
  obtain ⟨ns, at_, dg, co, fo, h1, h2, h3⟩ := h
  exact ⟨ns, at_, dg, co, fo, s.dct h1 List.not_mem_nil, s.lst h2 List.not_mem_nil, h3⟩
theorem room1 {k : Nat} {A : Around} (hr : Room k A) : A.units + 1 < cLine := by have := hr.un; omega
section
variable {H : Hp} {p cl : Addr} {at_ dg co fo : Int}
theorem pg_cells (h : H p = some (.dK (penL cl at_ dg co fo))) : DGet H p (.str "cells") (some (.ref cl)) := DGet.k (k := .inr "cells") h
theorem pg_at (h : H p = some (.dK (penL cl at_ dg co fo))) : DGet H p (.str "at") (some (.int at_)) := DGet.k (k := .inr "at") h
theorem pg_digits (h : H p = some (.dK (penL cl at_ dg co fo))) : DGet H p (.str "digits") (some (.int dg)) := DGet.k (k := .inr "digits") h
theorem pg_count (h : H p = some (.dK (penL cl at_ dg co fo))) : DGet H p (.str "count") (some (.int co)) := DGet.k (k := .inr "count") h
theorem pg_fold (h : H p = some (.dK (penL cl at_ dg co fo))) : DGet H p (.str "fold") (some (.int fo)) := DGet.k (k := .inr "fold") h
theorem five : (penL cl at_ dg co fo).length < sizeLine := by rw [sizeLine_eq]; show 5 < _; omega
theorem pp_at (h : H p = some (.dK (penL cl at_ dg co fo))) (x : Int) : DPut H p (.str "at") (.int x) (upd H p (.dK (penL cl x dg co fo))) := DPut.k (k := .inr "at") h five
theorem pp_digits (h : H p = some (.dK (penL cl at_ dg co fo))) (x : Int) : DPut H p (.str "digits") (.int x) (upd H p (.dK (penL cl at_ x co fo))) := DPut.k (k := .inr "digits") h five
theorem pp_count (h : H p = some (.dK (penL cl at_ dg co fo))) (x : Int) : DPut H p (.str "count") (.int x) (upd H p (.dK (penL cl at_ dg x fo))) := DPut.k (k := .inr "count") h five
theorem pp_fold (h : H p = some (.dK (penL cl at_ dg co fo))) (x : Int) : DPut H p (.str "fold") (.int x) (upd H p (.dK (penL cl at_ dg co x))) := DPut.k (k := .inr "fold") h five
end
theorem sqL_m {K : PySem.W.Frag} {D : List Addr} {H H' : Hp} {a : Addr} {xs : List V} (h : L2.SqL K H a xs) (s : Sm D [] H H') : L2.SqL K H' a xs := by
  rcases h with (h | ⟨o, h⟩) | h
  · exact .inl (.inl (s.lst h List.not_mem_nil))
  · rcases s a _ h with h2 | ⟨_, _, _, e, _⟩ | ⟨m, _⟩
    · exact .inl (.inr ⟨o, h2⟩)
    · cases e
    · cases m
  · exact .inr h
section
variable {P : Program} {w : World} {K : PySem.W.Frag} {mg : Str → Option Value} {base : Heap}
abbrev N_law_pen : List Str := ["_law_script", "_law_fold", "_law_cell"]
theorem sc_law_pen : FnScope N_law_pen ["_law_script"] (defScope s_law_pen) := ⟨rfl, rfl, rfl, by decide +kernel, rfl, by decide +kernel, by decide +kernel⟩
def spPen (K : PySem.W.Frag) : Sp := fun vs H Q _ => ∃ (a : Addr) (ns : List Int), vs = [.ref a] ∧ L2.SqL K H a (ns.map V.int) ∧ ns.length ≤ 63 ∧ ∀ p cl H', Sm [] [] H H' → H p = none → Pen H' p cl (2 ^ 40) → Q (.ref p) H'
theorem ok_law_pen (T : Tx K mg) : Cal P w K mg base CX0 1 "_law_pen" (spPen K) := by
  obtain ⟨fd, F⟩ := T.f_law_pen
  refine cal0 F T.g_law_pen sc_law_pen (ps := ["_law_script"]) (fun _ _ _ _ _ _ us hl => match us, hl with | [_], _ => rfl) (fun vs H Q E h => ?_) (fun cdv A outer s H vs Q E hr h => ?_)
  · obtain ⟨a, ns, rfl, _⟩ := h
    rfl
  · obtain ⟨a, ns, rfl, ha, hn, k⟩ := h
    refine ⟨_, (pss_cons (ps_set (i := 1) sc_law_pen.nd rfl (Or.inl rfl) pe_int)
      (pss_cons (ps_for PassesOwn.never rfl (pi_list (pv 0)) (pg_name (i := 2) sc_law_pen.nd rfl (Or.inl rfl)) (pss_one (ps_set (i := 1) sc_law_pen.nd rfl (Or.inl rfl) (pe_op op_mod (pe_callTy call_int1 (by rfl) T.b_int (by decide +kernel) (pa_cons (pe_op op_add (pe_op op_mulS (pv 1) pe_int) (pv 2)) pa_nil)) pe_int))))
      (pss_one (ps_ret (pe_disp (pps_cons pe_str (pe_callTy call_list_of (by rfl) T.b_list (by decide +kernel) (pa_cons (pv 0) pa_nil)) (pps_cons pe_str pe_int (pps_cons pe_str pe_int (pps_cons pe_str pe_int (pps_cons pe_str (pv 1) pps_nil))))) (by rfl) (by rfl) (fun z => by cases z) (by decide)))))), ?_⟩
    walk_at "rd"
    have b31 : (2 : Int) ^ 31 = 2147483648 := by decide
    refine ⟨a, rfl, ⟨_, ha⟩, for_it' (walk_list (K := K) (a := a) (xs := ns.map V.int)) (fun i σ H' => H' = H ∧ ∃ fo o, σ = [some (.ref a), some (.int fo), o] ∧ 0 ≤ fo ∧ fo < 2 ^ 31) ?_ ?_ ?_ ?_⟩
    · exact ⟨rfl, 0, none, rfl, by decide, by decide⟩
    · intro i σ H' _ z
      rw [z.1]
      exact ha
    · intro i x σ H' H'' hi z y
      obtain ⟨rfl, fo, o, rfl, f0, f1⟩ := z
      obtain ⟨rfl, y⟩ := y
      rw [List.getElem?_map] at y
      obtain ⟨c, _, rfl⟩ := Option.map_eq_some_iff.mp y
      walk_at "rd"
      have b64 : (2 : Nat) ^ 64 = 18446744073709551616 := by decide
      have e1 : fo.natAbs < 2 ^ 64 := by omega
      refine ⟨⟨Nat.lt_of_lt_of_le e1 (Nat.pow_le_pow_right (by decide) (by decide)), Nat.lt_of_lt_of_le (show (47 : Int).natAbs < 2 ^ 17 by decide) (Nat.pow_le_pow_right (by decide) (by decide))⟩, ?_⟩
      exact .inl ⟨_, rfl, by decide, _, _, rfl, by omega, by omega⟩
    · intro σ H' z
      obtain ⟨rfl, fo, o, rfl, f0, f1⟩ := z
      walk_at "rd"
      intro p np
      have s1 : Sm [] [] H' (upd H' p (.dK [])) := Sm.new np
      refine ⟨a, ns.map V.int, rfl, .inl (sqL_m ha s1), fun l nl => ?_⟩
      have s2 : Sm [] [] (upd H' p (.dK [])) (upd (upd H' p (.dK [])) l (.lst (ns.map V.int))) := Sm.new nl
      have hl := upd_same (H := upd H' p (.dK [])) (a := l) (o := .lst (ns.map V.int))
      have hp := s2.dct (upd_same (H := H') (a := p) (o := .dK [])) List.not_mem_nil
      have s12 := s1.trans s2
      generalize upd (upd H' p (.dK [])) l (.lst (ns.map V.int)) = H2 at *
      refine ⟨hp, penL l 0 0 0 fo, rfl, by show 5 ≤ 15; decide, ?_⟩
      have e : mergeK [] (penL l 0 0 0 fo) = penL l 0 0 0 fo := rfl
      rw [e]
      have lp : l ≠ p := fun z => by rw [z, hp] at hl; cases hl
      refine k p l _ ?_ np ⟨ns, 0, 0, 0, fo, upd_same, by rw [upd_ne lp]; exact hl, by decide, by decide, by decide, by decide, f0, f1⟩
      intro b o hb
      have nb : b ≠ p := ne_of_none hb np
      rw [upd_ne nb]
      exact s12 b o hb
abbrev N_law_draw : List Str := ["_law_pen_here", "_law_many", "_law_cell", "_law_digit", "_law_blend"]
theorem sc_law_draw : FnScope N_law_draw ["_law_pen_here", "_law_many"] (defScope s_law_draw) := ⟨rfl, rfl, rfl, by decide +kernel, rfl, by decide +kernel, by decide +kernel⟩
def spDraw : Sp := fun vs H Q _ => ∃ p cl many n, vs = [.ref p, .int many] ∧ 0 < many ∧ many.natAbs < 2 ^ 9000 ∧ Pen H p cl (n + 1) ∧ ∀ r H', Sm [p] [] H H' → Pen H' p cl n → 0 ≤ r → r < many → Q (.int r) H'
theorem ok_law_draw (T : Tx K mg) : Cal P w K mg base CX0 1 "_law_draw" spDraw := by
  obtain ⟨fd, F⟩ := T.f_law_draw
  refine cal0 F T.g_law_draw sc_law_draw (ps := ["_law_pen_here", "_law_many"]) (fun _ _ _ _ _ _ us hl => match us, hl with | [_, _], _ => rfl) (fun vs H Q E h => ?_) (fun cdv A outer s H vs Q E hr h => ?_)
  · obtain ⟨p, cl, many, n, rfl, _⟩ := h
    rfl
  · obtain ⟨p, cl, many, n, rfl, m0, mz, hp, k⟩ := h
    have rest : ∃ t, PSs (cxOf CX0 P w K mg base N_law_draw "_law_draw" (defScope s_law_draw) (He.ga K "_law_draw") cdv A outer s H E).nox ((defBody s_law_draw).drop 2) t ∧
        ∀ (H1 : Hp) (o2 o3 o4 : Option V) (ns : List Int) (at_ dg co fo : Int), Sm [p] [] H H1 → H1 p = some (.dK (penL cl at_ dg co fo)) → H1 cl = some (.lst (ns.map V.int)) → 0 ≤ at_ → 0 ≤ dg → 0 ≤ co → co + n ≤ 2 ^ 40 → 0 ≤ fo → fo < 2 ^ 31 →
        t { nx := fun _ H' => Q .non H', rt := Q } [some (.ref p), some (.int many), o2, o3, o4] H1 := by
      refine ⟨_, (pss_cons (ps_if (pt_cmpR op_gt (pe_dget (room1 hr) (pv 0) pe_str (fun _ _ => rfl)) pe_int (nomark _)) (pss_cons (ps_set (i := 3) sc_law_draw.nd rfl (Or.inl rfl) (pe_op op_mod (pe_callTy call_int1 (by rfl) T.b_int (by decide +kernel) (pa_cons (pe_dget (room1 hr) (pv 0) pe_str (fun _ _ => rfl)) pa_nil)) (pv 1)))
      (pss_cons (ps_dput (room1 hr) (pv 0) pe_str (pe_op op_fdivS (pe_dget (room1 hr) (pv 0) pe_str (fun _ _ => rfl)) (pv 1)) (by rfl))
      (pss_one (ps_ret (pv 3))))) pss_nil)
      (pss_cons (ps_set (i := 4) sc_law_draw.nd rfl (Or.inl rfl) (pe_op op_add (pe_op op_add (pe_dget (room1 hr) (pv 0) pe_str (fun _ _ => rfl)) (pe_op op_mulS (pe_dget (room1 hr) (pv 0) pe_str (fun _ _ => rfl)) pe_int)) pe_int))
      (pss_one (ps_ret (pe_op op_mod (pe_op op_fdivS (pe_callTy call_int1 (by rfl) T.b_int (by decide +kernel) (pa_cons (pe_op op_mod (pe_op op_pow (pv 4) pe_int) pe_int) pa_nil)) pe_int) (pv 1)))))), ?_⟩
      intro H1 o2 o3 o4 ns at_ dg co fo s1 hp1 hcl a0 d0 c0 cn f0 f1
      walk_at "rd"
      have m1 : many ≠ 0 := Int.ne_of_gt m0
      have cd : ∀ z, CDivS z many := fun z => ⟨m1, mz⟩
      have cd2 : ∀ z, CDivS z 128 := fun z => ⟨by decide, Nat.lt_of_lt_of_le (show (128 : Int).natAbs < 2 ^ 8 by decide) (Nat.pow_le_pow_right (by decide) (by decide))⟩
      clear mz
      refine ⟨p, _, rfl, pg_digits hp1, ?_⟩
      rw [rI0_int]
      refine ⟨_, rfl, ?_⟩
      by_cases d : 0 < dg
      · rw [if_pos (decide_eq_true d)]
        refine ⟨p, _, rfl, pg_digits hp1, .inl ⟨_, rfl, m0, p, _, rfl, pg_digits hp1, ?_⟩⟩
        rw [rI_int]
        refine ⟨cd _, p, _, rfl, pp_digits hp1 _, k _ _ (s1.trans (Sm.dput hp1 (List.mem_singleton.mpr rfl))) ⟨ns, at_, _, co, fo, upd_same, ?_, a0, ?_, c0, cn, f0, f1⟩ (Int.emod_nonneg _ m1) (Int.emod_lt_of_pos _ m0)⟩
        · rw [upd_ne (fun z => by rw [z, hp1] at hcl; cases hcl)]
          exact hcl
        · rw [Int.fdiv_eq_ediv_of_nonneg _ (Int.le_of_lt m0)]
          exact Int.ediv_nonneg d0 (Int.le_of_lt m0)
      · rw [if_neg (fun z => d (of_decide_eq_true z))]
        refine ⟨p, _, rfl, pg_fold hp1, p, _, rfl, pg_count hp1, ?_⟩
        rw [rI_int]
        have b40 : (2 : Int) ^ 40 = 1099511627776 := by decide
        have b31 : (2 : Int) ^ 31 = 2147483648 := by decide
        have b64 : (2 : Nat) ^ 64 = 18446744073709551616 := by decide
        have e1 : co.natAbs < 2 ^ 64 := by omega
        refine ⟨⟨Nat.lt_of_lt_of_le e1 (Nat.pow_le_pow_right (by decide) (by decide)), Nat.lt_of_lt_of_le (show (7907 : Int).natAbs < 2 ^ 13 by decide) (Nat.pow_le_pow_right (by decide) (by decide))⟩, ?_⟩
        rw [rI0_int, rI0_int, rI_int]
        refine ⟨⟨by decide, by decide, by omega⟩, ?_⟩
        rw [rI_int]
        exact ⟨by decide, .inl ⟨_, rfl, cd2 _, m0, k _ _ s1 ⟨ns, at_, dg, co, fo, hp1, hcl, a0, d0, c0, cn, f0, f1⟩ (Int.emod_nonneg _ m1) (Int.emod_lt_of_pos _ m0)⟩⟩
    obtain ⟨tr, hr1, hr2⟩ := rest
    refine ⟨_, (pss_cons (ps_dput (room1 hr) (pv 0) pe_str (pe_op op_add (pe_dget (room1 hr) (pv 0) pe_str (fun _ _ => rfl)) pe_int) (by rfl))
      (pss_cons (ps_if (PW.pt (pw_and (pt_cmpR op_eq (pe_dget (room1 hr) (pv 0) pe_str (fun _ _ => rfl)) pe_int (nomark _)) (pw_and1 (pt_cmpR op_lt (pe_dget (room1 hr) (pv 0) pe_str (fun _ _ => rfl)) (pe_callB call_len_seq (by rfl) T.b_len (by decide +kernel) (pa_cons (pe_dget (room1 hr) (pv 0) pe_str (fun _ _ => rfl)) pa_nil)) (nomark _))))) (pss_cons (ps_set (i := 2) sc_law_draw.nd rfl (Or.inl rfl) (pe_ix ix_list (pe_dget (room1 hr) (pv 0) pe_str (fun _ _ => rfl)) (pe_dget (room1 hr) (pv 0) pe_str (fun _ _ => rfl)) (fun _ _ => rfl)))
      (pss_cons (ps_dput (room1 hr) (pv 0) pe_str (pe_op op_add (pe_dget (room1 hr) (pv 0) pe_str (fun _ _ => rfl)) pe_int) (by rfl))
      (pss_one (ps_if (pt_cmpR op_ge (pv 2) (pe_op op_pow pe_int pe_int) (nomark _)) (pss_one (ps_dput (room1 hr) (pv 0) pe_str (pe_op op_sub (pv 2) (pe_op op_pow pe_int pe_int)) (by rfl))) (pss_one (ps_dput (room1 hr) (pv 0) pe_str (pe_op op_mod (pe_callTy call_int1 (by rfl) T.b_int (by decide +kernel) (pa_cons (pe_op op_add (pe_op op_mulS (pe_dget (room1 hr) (pv 0) pe_str (fun _ _ => rfl)) pe_int) (pv 2)) pa_nil)) pe_int) (by rfl))))))) pss_nil)
      hr1)), ?_⟩
    obtain ⟨ns, at_, dg, co, fo, hp1, hcl, a0, d0, c0, cn, f0, f1⟩ := hp
    walk_at "rd"
    clear mz
    have b40 : (2 : Int) ^ 40 = 1099511627776 := by decide
    have b31 : (2 : Int) ^ 31 = 2147483648 := by decide
    have cp : CPow 10 18 := ⟨by decide, by decide, by decide⟩
    have ne : cl ≠ p := fun z => by rw [z, hp1] at hcl; cases hcl
    refine ⟨p, _, rfl, pg_count hp1, ?_⟩
    rw [rI0_int]
    refine ⟨p, _, rfl, pp_count hp1 _, ?_⟩
    have s1 : Sm [p] [] H (upd H p (.dK (penL cl at_ dg (co + 1) fo))) := Sm.dput hp1 (List.mem_singleton.mpr rfl)
    have hp2 := upd_same (H := H) (a := p) (o := .dK (penL cl at_ dg (co + 1) fo))
    have hcl2 : upd H p (.dK (penL cl at_ dg (co + 1) fo)) cl = some (.lst (ns.map V.int)) := by rw [upd_ne ne]; exact hcl
    generalize upd H p (.dK (penL cl at_ dg (co + 1) fo)) = H2 at *
    refine ⟨p, _, rfl, pg_digits hp2, ?_⟩
    rw [rEq_int]
    refine ⟨_, rfl, ?_⟩
    by_cases d : dg = 0
    · rw [if_pos (decide_eq_true d)]
      refine ⟨p, _, rfl, pg_at hp2, p, _, rfl, pg_cells hp2, cl, _, rfl, .inl (L2.SqL.of hcl2), ?_⟩
      rw [rI0_int]
      refine ⟨_, rfl, ?_⟩
      by_cases al : at_ < ((ns.map V.int).length : Int)
      · rw [if_pos (decide_eq_true al)]
        rw [List.length_map] at al
        have hat : at_.toNat < ns.length := by omega
        have ea : at_ = ((at_.toNat : Nat) : Int) := by omega
        refine ⟨p, _, rfl, pg_cells hp2, p, _, rfl, pg_at hp2, ?_⟩
        refine SqL.ix hcl2 (v := .int (ns[at_.toNat])) (atI_int a0 (by simp [hat])) ?_
        refine ⟨p, _, rfl, pg_at hp2, ?_⟩
        rw [rI0_int]
        refine ⟨p, _, rfl, pp_at hp2 _, ?_⟩
        have s3 : Sm [p] [] H (upd H2 p (.dK (penL cl (at_ + 1) dg (co + 1) fo))) := s1.trans (Sm.dput hp2 (List.mem_singleton.mpr rfl))
        have hp3 := upd_same (H := H2) (a := p) (o := .dK (penL cl (at_ + 1) dg (co + 1) fo))
        have hcl3 : upd H2 p (.dK (penL cl (at_ + 1) dg (co + 1) fo)) cl = some (.lst (ns.map V.int)) := by rw [upd_ne ne]; exact hcl2
        generalize upd H2 p (.dK (penL cl (at_ + 1) dg (co + 1) fo)) = H3 at *
        generalize ns[at_.toNat] = x at *
        refine ⟨cp, ?_⟩
        rw [rI0_int]
        refine ⟨_, rfl, ?_⟩
        by_cases xl : (10 : Int) ^ Int.toNat 18 ≤ x
        · rw [if_pos (decide_eq_true xl)]
          refine ⟨cp, ?_⟩
          rw [rI0_int]
          refine ⟨p, _, rfl, pp_digits hp3 _, ?_⟩
          refine hr2 _ _ _ _ ns (at_ + 1) _ (co + 1) fo (s3.trans (Sm.dput hp3 (List.mem_singleton.mpr rfl))) upd_same ?_ (by omega) (by omega) (by omega) (by omega) f0 f1
          rw [upd_ne ne]; exact hcl3
        · rw [if_neg (fun z => xl (of_decide_eq_true z))]
          refine ⟨p, _, rfl, pg_fold hp3, ?_⟩
          rw [rI_int]
          have b64 : (2 : Nat) ^ 64 = 18446744073709551616 := by decide
          have e1 : fo.natAbs < 2 ^ 64 := by omega
          refine ⟨⟨Nat.lt_of_lt_of_le e1 (Nat.pow_le_pow_right (by decide) (by decide)), Nat.lt_of_lt_of_le (show (69069 : Int).natAbs < 2 ^ 17 by decide) (Nat.pow_le_pow_right (by decide) (by decide))⟩, ?_⟩
          rw [rI0_int]
          refine .inl ⟨_, rfl, ?_⟩
          refine ⟨by decide, p, _, rfl, pp_fold hp3 _, ?_⟩
          refine hr2 _ _ _ _ ns (at_ + 1) dg (co + 1) _ (s3.trans (Sm.dput hp3 (List.mem_singleton.mpr rfl))) upd_same ?_ (by omega) d0 (by omega) (by omega) (by omega) (by omega)
          rw [upd_ne ne]; exact hcl3
      · rw [if_neg (fun z => al (of_decide_eq_true z))]
        exact hr2 _ _ _ _ ns at_ dg (co + 1) fo s1 hp2 hcl2 a0 d0 (by omega) (by omega) f0 f1
    · rw [if_neg (fun z => d (of_decide_eq_true z))]
      exact hr2 _ _ _ _ ns at_ dg (co + 1) fo s1 hp2 hcl2 a0 d0 (by omega) (by omega) f0 f1
abbrev N_law_pick : List Str := ["_law_pen_here", "_law_some"]
theorem sc_law_pick : FnScope N_law_pick ["_law_pen_here", "_law_some"] (defScope s_law_pick) := ⟨rfl, rfl, rfl, by decide +kernel, rfl, by decide +kernel, by decide +kernel⟩
def spPick : Sp := fun vs H Q _ => ∃ p cl q xs n, vs = [.ref p, .ref q] ∧ H q = some (.lst xs) ∧ 0 < xs.length ∧ xs.length ≤ 1000 ∧ Pen H p cl (n + 1) ∧ ∀ v H', Sm [p] [] H H' → Pen H' p cl n → v ∈ xs → Q v H'
theorem ok_law_pick (T : Tx K mg) : Cal P w K mg base CX0 2 "_law_pick" spPick := by
  have c_law_draw := ok_law_draw (P := P) (w := w) (base := base) T
  obtain ⟨fd, F⟩ := T.f_law_pick
  refine cal0 F T.g_law_pick sc_law_pick (ps := ["_law_pen_here", "_law_some"]) (fun _ _ _ _ _ _ us hl => match us, hl with | [_, _], _ => rfl) (fun vs H Q E h => ?_) (fun cdv A outer s H vs Q E hr h => ?_)
  · obtain ⟨p, cl, q, xs, n, rfl, _⟩ := h
    rfl
  · obtain ⟨p, cl, q, xs, n, rfl, hq, l0, l1, hp, k⟩ := h
    refine ⟨_, (pss_one (ps_ret (pe_ix ix_list (pv 1) (pe_cal c_law_draw hr (by decide) pass0 (pa_cons (pv 0) (pa_cons (pe_callB call_len_seq (by rfl) T.b_len (by decide +kernel) (pa_cons (pv 1) pa_nil)) pa_nil))) (fun _ _ => rfl)))), ?_⟩
    walk_at "rd"
    refine ⟨q, xs, rfl, .inl (L2.SqL.of hq), _, _, _, n, rfl, by omega, ?_, hp, fun r H1 s1 hp1 r0 r1 => ?_⟩
    · rw [Int.natAbs_natCast]
      exact Nat.lt_of_lt_of_le (show xs.length < 2 ^ 10 by have : (2 : Nat) ^ 10 = 1024 := by decide
                                                           omega) (Nat.pow_le_pow_right (by decide) (by decide))
    · have hr3 : r.toNat < xs.length := by omega
      have er : r = ((r.toNat : Nat) : Int) := by omega
      refine SqL.ix (s1.lst hq List.not_mem_nil) (v := xs[r.toNat]) (atI_int r0 (List.getElem?_eq_getElem hr3)) (k _ _ s1 hp1 (List.getElem_mem hr3))
end
end G3
end
section
set_option maxHeartbeats 4000000
namespace G3
open PySem PySem.Spec PyProof.Rows L2
local macro_rules | `(tactic| walk_at "rd") => `(tactic| simp only [wipe, sDPut, tDGet, tDisp, tPairs, tBM0, tBM, tBreak, sFld, tPar3, tRevL, tLstRg, tRg1, tRg2, gSub, rSetL,  tSl, tNoPart, tPart, iRng1, iRng2, iRng3, tRevT, tLc_eq, tFor_eq, iEnumT, iSeq, iList, iTup, RZ.iZipA, tFld_eq, tMeth, tVar, tC, tOp, tUn, tCons, tNil, tCB, tCall, tRet, tSeq, tAsg, gName, tIfS, tIf, tTest, tB, tNot, tAnd, tOr, tNotV, tAndV, tOrV, rI0_int, rI_int, rU_int, rEq_int, rNe_int, tPar, tNext, tDrop, tTup_nt, tLst_nl, tMkBN, tMkBR, cxOf_K, L2.start, List.map_cons, List.map_nil, List.length_cons, List.length_nil, List.cons_append, List.nil_append, List.append_nil, List.replicate_succ, List.replicate_zero, Nat.reduceAdd, Nat.reduceSub, Nat.sub_self, List.getElem?_cons_zero, List.getElem?_cons_succ, List.set_cons_zero, List.set_cons_succ, Option.some.injEq, V.int.injEq, V.bl.injEq, exists_eq_left', exists_eq_left, exists_eq_right, exists_eq_right', true_and, and_true, if_true, if_false, ite_true, ite_false, Bool.false_eq_true, Bool.not_true, Bool.not_false, reduceIte])
local macro_rules | `(tactic| walk_at "ix") => `(tactic| repeat (first | refine Sq.ix (by assumption) (by rfl) ?_ | (walk_at "rd"; refine ⟨Sz.mul (by assumption) (by assumption), ?_⟩)))
/-- q in any form, tops and bottoms below 2 ^ m -/
def IsM (H : Hp) (v : V) (m : Nat) (q : Rat) : Prop := ∃ a b, RatV H v a b ∧ a.natAbs < 2 ^ m ∧ b.natAbs < 2 ^ m ∧ Rat.divInt a b = q
theorem IsM.m' {D : List Addr} {H H' : Hp} {v : V} {m : Nat} {q : Rat} (h : IsM H v m q) (s : Sm D [] H H') : IsM H' v m q := let ⟨a, b, x, y, z, e⟩ := h; ⟨a, b, x.m s, y, z, e⟩
theorem IsM.r {H : Hp} {v : V} {m : Nat} {q : Rat} (h : IsM H v m q) (hm : m ≤ 4400 := by omega) : IsR H v q :=
  let ⟨a, b, x, y, z, e⟩ := h; ⟨a, b, x, Nat.lt_of_lt_of_le y (Nat.pow_le_pow_right (by decide) hm), Nat.lt_of_lt_of_le z (Nat.pow_le_pow_right (by decide) hm), e⟩
theorem Pen.put {H : Hp} {p cl D : Addr} {n : Nat} {xs ys : List V} (h : Pen H p cl n) (hD : H D = some (.lst xs)) (hc : cl ≠ D) : Pen (upd H D (.lst ys)) p cl n := by
  obtain ⟨ns, at_, dg, co, fo, h1, h2, h3⟩ := h
  have np : p ≠ D := fun z => by rw [z, hD] at h1; cases h1
  exact ⟨ns, at_, dg, co, fo, by rw [upd_ne np]; exact h1, by rw [upd_ne hc]; exact h2, h3⟩
theorem Pen.ne {H : Hp} {p cl D : Addr} {n : Nat} (h : Pen H p cl n) (nD : H D = none) : cl ≠ D := fun z => by
  obtain ⟨ns, at_, dg, co, fo, h1, h2, h3⟩ := h
  rw [z, nD] at h2; cases h2
theorem qs_ex {H : Hp} {acc : List V} {n m : Nat} (hl : acc.length = n) (hr : ∀ (i : Nat) (v : V), acc[i]? = some v → ∃ q, IsQ H v q ∧ Hq m q) : ∃ l, Qs H acc l ∧ l.length = n ∧ ∀ i, i < l.length → Hq m (cf l i) := by
  subst hl
  induction acc with
  | nil => exact ⟨[], .nil, rfl, fun i h => absurd h (Nat.not_lt_zero _)⟩
  | cons v vs ih =>
    obtain ⟨q, h1, h2⟩ := hr 0 v rfl
    obtain ⟨l, a, b, c⟩ := ih fun i u e => hr (i + 1) u (by simpa using e)
    refine ⟨q :: l, .cons h1 a, by simp [b], fun i hi => ?_⟩
    cases i with
    | zero => exact h2
    | succ i => rw [cf_succ]; exact c i (by simpa using hi)
theorem dr {H : Hp} {p cl : Addr} {many : Int} {n : Nat} {Q : VK} {E : XK} (h0 : 0 < many) (h1 : many ≤ 2147483648) (hp : Pen H p cl (n + 1)) (k : ∀ r H', Sm [p] [] H H' → Pen H' p cl n → 0 ≤ r → r < many → Q (.int r) H') : spDraw [.ref p, .int many] H Q E := by
  refine ⟨p, cl, many, n, rfl, h0, ?_, hp, k⟩
  have : (2 : Nat) ^ 32 = 4294967296 := by decide
  exact Nat.lt_of_lt_of_le (show many.natAbs < 2 ^ 32 by omega) (Nat.pow_le_pow_right (by decide) (by decide))
theorem small_mul {i j : Int} (hi : i.natAbs ≤ 2147483648) (hj : j.natAbs ≤ 2147483648) : CMulS i j := by
  have : (2 : Nat) ^ 32 = 4294967296 := by decide
  exact ⟨Nat.lt_of_lt_of_le (show i.natAbs < 2 ^ 32 by omega) (Nat.pow_le_pow_right (by decide) (by decide)), Nat.lt_of_lt_of_le (show j.natAbs < 2 ^ 32 by omega) (Nat.pow_le_pow_right (by decide) (by decide))⟩
theorem small_div {i j : Int} (hj : 0 < j) (h2 : j ≤ 2147483648) : CDivS i j := by
  have : (2 : Nat) ^ 32 = 4294967296 := by decide
  exact ⟨by omega, Nat.lt_of_lt_of_le (show j.natAbs < 2 ^ 32 by omega) (Nat.pow_le_pow_right (by decide) (by decide))⟩
theorem divInt_mul (a b c : Int) (hc : c ≠ 0) : Rat.divInt (a * c) (b * c) = Rat.divInt a b := Rat.divInt_mul_right hc
section
variable {P : Program} {w : World} {K : PySem.W.Frag} {mg : Str → Option Value} {base : Heap}
abbrev N_law_passed : List Str := ["_law_pen_here", "_law_ratio_here", "_law_by"]
theorem sc_law_passed : FnScope N_law_passed ["_law_pen_here", "_law_ratio_here"] (defScope s_law_passed) := ⟨rfl, rfl, rfl, by decide +kernel, rfl, by decide +kernel, by decide +kernel⟩
def spPassed : Sp := fun vs H Q _ => ∃ p cl u q m n, vs = [.ref p, u] ∧ Pen H p cl (n + 3) ∧ IsQ H u q ∧ Hq m q ∧ m ≤ 4000 ∧ ∀ r H', Sm [p] [] H H' → Pen H' p cl n → IsM H' r (m + 2) q → (∀ c, r = .ref c → H c = none) → Q r H'
theorem ok_law_passed (T : Tx K mg) : Cal P w K mg base CX0 3 "_law_passed" spPassed := by
  have c_law_draw := ok_law_draw (P := P) (w := w) (base := base) T
  have c_law_pick := ok_law_pick (P := P) (w := w) (base := base) T
  obtain ⟨fd, F⟩ := T.f_law_passed
  refine cal0 F T.g_law_passed sc_law_passed (ps := ["_law_pen_here", "_law_ratio_here"]) (fun _ _ _ _ _ _ us hl => match us, hl with | [_, _], _ => rfl) (fun vs H Q E h => ?_) (fun cdv A outer s H vs Q E hr h => ?_)
  · obtain ⟨p, cl, u, q, m, n, rfl, _⟩ := h
    rfl
  · obtain ⟨p, cl, u, q, m, n, rfl, hp, hu, hq, hm, k⟩ := h
    refine ⟨_, (pss_cons (ps_if (PW.pt (pw_and (pt_cmpR op_eq (pe_ix ix_tup (pv 1) pe_int (fun _ _ => rfl)) pe_int (nomark _)) (pw_and1 (pt_cmpR op_eq (pe_cal c_law_draw hr (by decide) pass0 (pa_cons (pv 0) (pa_cons pe_int pa_nil))) pe_int (nomark _))))) (pss_one (ps_ret (pe_ix ix_tup (pv 1) pe_int (fun _ _ => rfl)))) pss_nil)
      (pss_cons (ps_set (i := 2) sc_law_passed.nd rfl (Or.inl rfl) (pe_cal c_law_pick hr (by decide) pass0 (pa_cons (pv 0) (pa_cons (pe_lst (pa_cons pe_int (pa_cons pe_int (pa_cons pe_int (pa_cons pe_int pa_nil))))) pa_nil))))
      (pss_one (ps_ret (pe_cal c_law_pick hr (by decide) pass0 (pa_cons (pv 0) (pa_cons (pe_lst (pa_cons (pe_tup (pa_cons (pe_op op_mulS (pe_ix ix_tup (pv 1) pe_int (fun _ _ => rfl)) (pv 2)) (pa_cons (pe_op op_mulS (pe_ix ix_tup (pv 1) pe_int (fun _ _ => rfl)) (pv 2)) pa_nil))) (pa_cons (pe_lst (pa_cons (pe_op op_mulS (pe_ix ix_tup (pv 1) pe_int (fun _ _ => rfl)) (pv 2)) (pa_cons (pe_op op_mulS (pe_ix ix_tup (pv 1) pe_int (fun _ _ => rfl)) (pv 2)) pa_nil))) pa_nil))) pa_nil))))))), ?_⟩
    walk_at "rd"
    obtain ⟨u, rfl, hu⟩ := hu
    have qp := q.den_pos
    have szn : q.num.natAbs < 2 ^ 100000 := Nat.lt_of_lt_of_le hq.1 (Nat.pow_le_pow_right (by decide) (by omega))
    have szd : (q.den : Int).natAbs < 2 ^ 100000 := Nat.lt_of_lt_of_le (by simpa using hq.2) (Nat.pow_le_pow_right (by decide) (by omega))
    have b4 : 2 ^ m * 4 = 2 ^ (m + 2) := by rw [Nat.pow_add]
    have mp : 2 ^ m ≤ 2 ^ (m + 2) := Nat.pow_le_pow_right (by decide) (by omega)
    have pickB : ∀ H1, Sm [p] [] H H1 → Pen H1 p cl (n + 2) → NL [V.int 1, V.int 1, V.int 2, V.int 3] H1 fun x H1 =>
          spPick [V.ref p, x] H1 (fun x H1 => rIxT K (.ref u) (V.int 0) H1 fun x_1 H1 => rI CMulS (fun i j => V.int (i * j)) x_1 x H1 fun x_2 H1 => rIxT K (.ref u) (V.int 1) H1 fun x_3 H1 =>
            rI CMulS (fun i j => V.int (i * j)) x_3 x H1 fun x_4 H1 => NT [x_2, x_4] H1 fun x_5 H1 => rIxT K (.ref u) (V.int 0) H1 fun x_6 H1 => rI CMulS (fun i j => V.int (i * j)) x_6 x H1 fun x_7 H1 =>
            rIxT K (.ref u) (V.int 1) H1 fun x_8 H1 => rI CMulS (fun i j => V.int (i * j)) x_8 x H1 fun x H1 => NL [x_7, x] H1 fun x H1 => NL [x_5, x] H1 fun x H1 => spPick [V.ref p, x] H1 Q E0) E0 := by
      intro H1 s1 hp1
      refine nl_of fun q1 H2 _ s2 hq1 => ⟨p, cl, q1, _, n + 1, rfl, hq1, by simp, by simp, hp1.m s2, fun v H3 s3 hp3 hv => ?_⟩
      have s03 : Sm [p] [] H H3 := (s1.trans (s2.w (fun _ h => nomatch h) (fun _ h => h))).trans s3
      have hb : ∃ b : Int, v = .int b ∧ 0 < b ∧ b ≤ 3 := by
        simp only [List.mem_cons, List.not_mem_nil, or_false] at hv
        rcases hv with rfl | rfl | rfl | rfl
        · exact ⟨_, rfl, by decide, by decide⟩
        · exact ⟨_, rfl, by decide, by decide⟩
        · exact ⟨_, rfl, by decide, by decide⟩
        · exact ⟨_, rfl, by decide, by decide⟩
      obtain ⟨b, rfl, b0, b1⟩ := hb
      have hu3 := s03.tup hu
      have bz : b.natAbs < 2 ^ 100000 := Nat.lt_of_lt_of_le (show b.natAbs < 2 ^ 2 by show b.natAbs < 4; omega) (Nat.pow_le_pow_right (by decide) (by decide))
      refine SqT.ix hu3 rfl ?_
      walk_at "rd"
      refine ⟨⟨szn, bz⟩, SqT.ix hu3 rfl ?_⟩
      walk_at "rd"
      refine ⟨⟨szd, bz⟩, nt_of fun t H4 nt s4 ht => ?_⟩
      have hu4 := s4.tup hu3
      refine SqT.ix hu4 rfl ?_
      walk_at "rd"
      refine ⟨⟨szn, bz⟩, SqT.ix hu4 rfl ?_⟩
      walk_at "rd"
      refine ⟨⟨szd, bz⟩, nl_of fun l H5 nl s5 hl => nl_of fun q2 H6 _ s6 hq2 => ⟨p, cl, q2, _, n, rfl, hq2, by simp, by simp, ((hp3.m s4).m s5).m s6, fun v H7 s7 hp7 hv => ?_⟩⟩
      have s46 : Sm [] [] H4 H6 := s5.trans s6
      have s07 : Sm [p] [] H H7 := (s03.trans ((s4.trans s46).w (fun _ h => nomatch h) (fun _ h => h))).trans s7
      have db : 0 < (q.den : Int) * b := Int.mul_pos (by omega) b0
      have e : Rat.divInt (q.num * b) ((q.den : Int) * b) = q := by rw [divInt_mul _ _ _ (by omega), rat_self]
      have z1 : (q.num * b).natAbs < 2 ^ (m + 2) := by
        rw [Int.natAbs_mul, ← b4]
        exact Nat.mul_lt_mul'' hq.1 (by omega)
      have z2 : ((q.den : Int) * b).natAbs < 2 ^ (m + 2) := by
        rw [Int.natAbs_mul, ← b4]
        exact Nat.mul_lt_mul'' (by simpa using hq.2) (by omega)
      simp only [List.mem_cons, List.not_mem_nil, or_false] at hv
      rcases hv with rfl | rfl
      · refine k _ _ s07 hp7 ⟨_, _, .sq (.inl (s7.tup (s46.tup ht))) db, z1, z2, e⟩ fun c ec => ?_
        cases ec
        exact s03.free nt
      · refine k _ _ s07 hp7 ⟨_, _, .sq (.inr (s7.lst (s6.lst hl List.not_mem_nil) List.not_mem_nil)) db, z1, z2, e⟩ fun c ec => ?_
        cases ec
        exact s03.free (s4.free nl)
    refine SqT.ix hu rfl ?_
    walk_at "rd"
    by_cases d1 : (q.den : Int) = 1
    · rw [decide_eq_true d1, if_pos rfl]
      refine dr (by decide) (by decide) (n := n + 2) hp fun r H1 s1 hp1 r0 r1 => ?_
      walk_at "rd"
      by_cases r2 : r = 0
      · rw [decide_eq_true r2, if_pos rfl]
        refine SqT.ix (s1.tup hu) rfl (k _ _ s1 (hp1.mono (by omega)) ⟨_, _, .int _, Nat.lt_of_lt_of_le hq.1 mp, Nat.one_lt_two_pow (by omega), ?_⟩ fun c ec => by cases ec)
        have := rat_self q
        rw [d1] at this
        exact this
      · rw [decide_eq_false r2, if_neg (by decide)]
        exact pickB H1 s1 hp1
    · rw [decide_eq_false d1, if_neg (by decide)]
      exact pickB H Sm.refl (hp.mono (by omega))
abbrev N_law_ratio : List Str := ["_law_pen_here", "_law_most", "_law_bottom"]
theorem sc_law_ratio : FnScope N_law_ratio ["_law_pen_here", "_law_most"] (defScope s_law_ratio) := ⟨rfl, rfl, rfl, by decide +kernel, rfl, by decide +kernel, by decide +kernel⟩
def spRatioL : Sp := fun vs H Q _ => ∃ (p cl : Addr) (most : Int) (k n : Nat), vs = [.ref p, .int most] ∧ 0 < most ∧ most * 99 < ((2 ^ k : Nat) : Int) ∧ 7 ≤ k ∧ k ≤ 20 ∧ Pen H p cl (n + 3) ∧ ∀ r q H', Sm [p] [] H H' → Pen H' p cl n → IsQ H' r q → Hq k q → Q r H'
theorem ok_law_ratio (T : Tx K mg) : Cal P w K mg base CX0 3 "_law_ratio" spRatioL := by
  have c_law_draw := ok_law_draw (P := P) (w := w) (base := base) T
  have c_law_pick := ok_law_pick (P := P) (w := w) (base := base) T
  have c_law_q := ok_law_q (P := P) (w := w) (base := base) T
  obtain ⟨fd, F⟩ := T.f_law_ratio
  refine cal0 F T.g_law_ratio sc_law_ratio (ps := ["_law_pen_here", "_law_most"]) (fun _ _ _ _ _ _ us hl => match us, hl with | [_, _], _ => rfl) (fun vs H Q E h => ?_) (fun cdv A outer s H vs Q E hr h => ?_)
  · obtain ⟨p, cl, most, k, n, rfl, _⟩ := h
    rfl
  · obtain ⟨p, cl, most, kk, n, rfl, m0, m1, k0, k1, hp, k⟩ := h
    refine ⟨_, (pss_cons (ps_set (i := 2) sc_law_ratio.nd rfl (Or.inl rfl) (pe_cal c_law_pick hr (by decide) pass0 (pa_cons (pv 0) (pa_cons (pe_lst (pa_cons pe_int (pa_cons pe_int (pa_cons pe_int (pa_cons pe_int (pa_cons pe_int (pa_cons pe_int (pa_cons (pe_op op_add pe_int (pe_cal c_law_draw hr (by decide) pass0 (pa_cons (pv 0) (pa_cons pe_int pa_nil)))) pa_nil)))))))) pa_nil))))
      (pss_one (ps_ret (pe_cal c_law_q hr (by decide) pass0 (pa_cons (pe_op op_sub (pe_cal c_law_draw hr (by decide) pass0 (pa_cons (pv 0) (pa_cons (pe_op op_add (pe_op op_mulS (pe_op op_mulS pe_int (pv 1)) (pv 2)) pe_int) pa_nil))) (pe_op op_mulS (pv 1) (pv 2))) (pa_cons (pv 2) pa_nil)))))), ?_⟩
    walk_at "rd"
    have K20 : (2 : Nat) ^ kk ≤ 1048576 := Nat.le_trans (Nat.pow_le_pow_right (by decide) k1) (by decide)
    have K7 : 128 ≤ (2 : Nat) ^ kk := Nat.le_trans (show 128 ≤ 2 ^ 7 by decide) (Nat.pow_le_pow_right (by decide) k0)
    refine dr (by decide) (by decide) (n := n + 2) hp fun d H1 s1 hp1 d0 d1 => ?_
    rw [rI0_int]
    refine nl_of fun q1 H2 _ s2 hq1 => ⟨p, cl, q1, _, n + 1, rfl, hq1, by simp, by simp, hp1.m s2, fun v H3 s3 hp3 hv => ?_⟩
    have s03 : Sm [p] [] H H3 := (s1.trans (s2.w (fun _ h => nomatch h) (fun _ h => h))).trans s3
    have hb : ∃ b : Int, v = .int b ∧ 0 < b ∧ b ≤ 99 := by
      simp only [List.mem_cons, List.not_mem_nil, or_false] at hv
      rcases hv with rfl | rfl | rfl | rfl | rfl | rfl | rfl
      · exact ⟨_, rfl, by decide, by decide⟩
      · exact ⟨_, rfl, by decide, by decide⟩
      · exact ⟨_, rfl, by decide, by decide⟩
      · exact ⟨_, rfl, by decide, by decide⟩
      · exact ⟨_, rfl, by decide, by decide⟩
      · exact ⟨_, rfl, by decide, by decide⟩
      · exact ⟨_, rfl, by omega, by omega⟩
    obtain ⟨b, rfl, b0, b1⟩ := hb
    have mb : most * b ≤ most * 99 := Int.mul_le_mul_of_nonneg_left b1 (by omega)
    have mb0 : 0 < most * b := Int.mul_pos m0 b0
    have e2 : 2 * most * b = 2 * (most * b) := Int.mul_assoc 2 most b
    refine ⟨small_mul (by decide) (by omega), ?_⟩
    rw [rI_int]
    refine ⟨small_mul (by omega) (by omega), ?_⟩
    rw [rI0_int]
    refine dr (by omega) (by omega) hp3 fun r H4 s4 hp4 r0 r1 => ?_
    rw [rI_int]
    refine ⟨small_mul (by omega) (by omega), ?_⟩
    rw [rI0_int]
    refine ⟨_, _, rfl, by omega, (small_div (i := 1) b0 (by omega)).2, fun x H5 s5 hx => k _ _ _ ((s03.trans s4).trans (s5.w (fun _ h => nomatch h) (fun _ h => h))) (hp4.m s5) hx (hq_divInt (by omega) (by omega) (by omega))⟩
abbrev N_law_drawn : List Str := ["_law_pen_here", "_law_degree", "_law_most", "_law_k"]
theorem sc_law_drawn : FnScope N_law_drawn ["_law_pen_here", "_law_degree", "_law_most"] (defScope s_law_drawn) := ⟨rfl, rfl, rfl, by decide +kernel, rfl, by decide +kernel, by decide +kernel⟩
def spDrawn : Sp := fun vs H Q _ => ∃ (p cl : Addr) (deg most : Int) (k n : Nat), vs = [.ref p, .int deg, .int most] ∧ 0 ≤ deg ∧ deg ≤ 50 ∧ 0 < most ∧ most * 99 < ((2 ^ k : Nat) : Int) ∧ 7 ≤ k ∧ k ≤ 20 ∧ Pen H p cl (n + 200) ∧ ∀ r l H', Sm [p] [] H H' → Pen H' p cl n → LQ H' r l → Nf l → Hl k l → (l.length : Int) ≤ deg + 1 → Q r H'
theorem ok_law_drawn (T : Tx K mg) : Cal P w K mg base CX0 4 "_law_drawn" spDrawn := by
  have c_law_draw := ok_law_draw (P := P) (w := w) (base := base) T
  have c_law_ratio := ok_law_ratio (P := P) (w := w) (base := base) T
  have c_law_poly := ok_law_poly (P := P) (w := w) (base := base) T
  obtain ⟨fd, F⟩ := T.f_law_drawn
  refine cal0 F T.g_law_drawn sc_law_drawn (ps := ["_law_pen_here", "_law_degree", "_law_most"]) (fun _ _ _ _ _ _ us hl => match us, hl with | [_, _, _], _ => rfl) (fun vs H Q E h => ?_) (fun cdv A outer s H vs Q E hr h => ?_)
  · obtain ⟨p, cl, deg, most, k, n, rfl, _⟩ := h
    rfl
  · obtain ⟨p, cl, deg, most, kk, n, rfl, d0, d1, m0, m1, k0, k1, hp, k⟩ := h
    refine ⟨_, (pss_one (ps_ret (pe_cal c_law_poly hr (by decide) pass0 (pa_cons (pe_lc (own := [("_law_k", 3)]) rfl sc_law_drawn.nd (pi_range1 (by rfl) T.b_range (pa_cons (pe_op op_add pe_int (pe_cal c_law_draw hr (by decide) pass0 (pa_cons (pv 0) (pa_cons (pe_op op_add (pv 1) pe_int) pa_nil)))) pa_nil)) (blkOk_by (own := [("_law_k", 3)]) (N := N_law_drawn) (sc := defScope s_law_drawn) (by decide +kernel)) (fun _ _ _ _ _ => (pg_name (i := 3) sc_law_drawn.nd rfl (Or.inl rfl) (Or.inr rfl))) (fun _ _ _ _ _ => pts_nil) (fun _ _ _ _ _ => (pe_cal c_law_ratio hr (by decide) pass0 (pa_cons (pv 0) (pa_cons (pv 2) pa_nil))))) pa_nil)))), ?_⟩
    walk_at "rd"
    refine dr (by omega) (by omega) (n := n + 199) hp fun d H1 s1 hp1 r0 r1 => ?_
    rw [rI0_int]
    refine ⟨_, rfl, by omega, by omega, ?_⟩
    obtain ⟨N, eN⟩ : ∃ N : Nat, 1 + d = (N : Int) := ⟨(1 + d).toNat, by omega⟩
    rw [eN, Int.toNat_natCast]
    have hN : N ≤ 51 := by omega
    have pH : p ≠ p ∨ True := .inr trivial
    intro D nD
    refine lc_list' (walk_range (lo := 0) (n := N)) (Dm := [p]) (R := fun i v H => ∃ q, IsQ H v q ∧ Hq kk q) (P := fun i H => Pen H p cl (n + 3 * (60 - i))) nD (by omega) ?_ (fun _ _ _ _ ⟨q, h, z⟩ s => ⟨q, h.m s, z⟩) ?_ (fun _ _ => trivial) ?_ ?_
    · exact (hp1.m (Sm.new nD)).mono (by omega)
    · intro i H2 xs ys hp2 hD
      exact hp2.put hD (hp1.ne nD)
    · intro i x H3 H4 C hi s3 _ hp3 hy hc
      obtain ⟨rfl, rfl⟩ := hy
      walk_at "rd"
      exact ⟨p, cl, most, kk, n + 3 * (60 - (i + 1)), rfl, m0, m1, k0, k1, hp3.mono (by omega), fun r q H5 s5 hp5 hr5 hq5 => hc _ _ s5 ⟨q, hr5, hq5⟩ hp5⟩
    · intro acc H3 s3 hD hl3 hr3 hp3
      obtain ⟨l, hq, hl, hz⟩ := qs_ex hl3 hr3
      refine ⟨_, l, rfl, ⟨D, acc, rfl, hD, hq⟩, by omega, fun r H4 s4 hr4 => k _ _ _ ((s1.trans s3).trans (s4.w (fun _ h => nomatch h) (fun _ h => h))) ((hp3.m s4).mono (by omega)) hr4 (nf_strip _) (hl_strip (hl_of (by omega) hz)) ?_⟩
      have := strip_le l
      omega
abbrev N_law_far : List Str := ["_law_pen_here", "_law_found", "_law_k"]
theorem sc_law_far : FnScope N_law_far ["_law_pen_here"] (defScope s_law_far) := ⟨rfl, rfl, rfl, by decide +kernel, rfl, by decide +kernel, by decide +kernel⟩
def spFar : Sp := fun vs H Q _ => ∃ (p cl : Addr) (n : Nat), vs = [.ref p] ∧ Pen H p cl (n + 8) ∧ ∀ (r : Int) H', Sm [p] [] H H' → Pen H' p cl n → r.natAbs < 10 ^ 18 → Q (.int r) H'
theorem ok_law_far (T : Tx K mg) : Cal P w K mg base CX0 3 "_law_far" spFar := by
  have c_law_draw := ok_law_draw (P := P) (w := w) (base := base) T
  have c_law_pick := ok_law_pick (P := P) (w := w) (base := base) T
  obtain ⟨fd, F⟩ := T.f_law_far
  refine cal0 F T.g_law_far sc_law_far (ps := ["_law_pen_here"]) (fun _ _ _ _ _ _ us hl => match us, hl with | [_], _ => rfl) (fun vs H Q E h => ?_) (fun cdv A outer s H vs Q E hr h => ?_)
  · obtain ⟨p, cl, n, rfl, _⟩ := h
    rfl
  · obtain ⟨p, cl, n, rfl, hp, k⟩ := h
    refine ⟨_, (pss_cons (ps_set (i := 1) sc_law_far.nd rfl (Or.inl rfl) pe_int)
      (pss_cons (ps_for PassesOwn.never rfl (pi_range1 (by rfl) T.b_range (pa_cons (pe_cal c_law_pick hr (by decide) pass0 (pa_cons (pv 0) (pa_cons (pe_lst (pa_cons pe_int (pa_cons pe_int (pa_cons pe_int (pa_cons pe_int (pa_cons pe_int pa_nil)))))) pa_nil))) pa_nil)) (pg_name (i := 2) sc_law_far.nd rfl (Or.inl rfl)) (pss_one (ps_set (i := 1) sc_law_far.nd rfl (Or.inl rfl) (pe_op op_add (pe_op op_mulS (pv 1) pe_int) (pe_cal c_law_draw hr (by decide) pass0 (pa_cons (pv 0) (pa_cons pe_int pa_nil)))))))
      (pss_one (ps_ret (pe_ifExp (pt_cmpR op_gt (pe_cal c_law_draw hr (by decide) pass0 (pa_cons (pv 0) (pa_cons pe_int pa_nil))) pe_int (nomark _)) (pv 1) (pe_un un_neg (pv 1))))))), ?_⟩
    walk_at "rd"
    refine nl_of fun q1 H1 _ s1 hq1 => ⟨p, cl, q1, _, n + 7, rfl, hq1, by simp, by simp, hp.m s1, fun v H2 s2 hp2 hv => ?_⟩
    have s02 : Sm [p] [] H H2 := (s1.w (fun _ h => nomatch h) (fun _ h => h)).trans s2
    have hb : ∃ N : Nat, v = .int N ∧ N ≤ 6 := by
      simp only [List.mem_cons, List.not_mem_nil, or_false] at hv
      rcases hv with rfl | rfl | rfl | rfl | rfl
      · exact ⟨0, rfl, by decide⟩
      · exact ⟨1, rfl, by decide⟩
      · exact ⟨1, rfl, by decide⟩
      · exact ⟨2, rfl, by decide⟩
      · exact ⟨6, rfl, by decide⟩
    obtain ⟨N, rfl, hN⟩ := hb
    refine ⟨_, rfl, by omega, by omega, ?_⟩
    rw [Int.toNat_natCast]
    refine for_it' (walk_range (lo := 0) (n := N)) (fun i σ H' => Sm [p] [] H H' ∧ Pen H' p cl (n + 1 + (6 - i)) ∧ ∃ (f : Nat) (o : Option V), σ = [some (.ref p), some (.int f), o] ∧ f < 1000 ^ i) ?_ ?_ ?_ ?_
    · exact ⟨s02, hp2.mono (by omega), 0, none, rfl, by decide⟩
    · intro i σ H' _ _
      trivial
    · intro i x σ H3 H4 hi z y
      obtain ⟨s3, hp3, f, o, rfl, hf⟩ := z
      obtain ⟨rfl, rfl⟩ := y
      have b18 : (1000 : Nat) ^ i ≤ 1000 ^ 6 := Nat.pow_le_pow_right (by decide) (by omega)
      have b6 : (1000 : Nat) ^ 6 = 1000000000000000000 := by decide
      have b64 : (2 : Nat) ^ 64 = 18446744073709551616 := by decide
      walk_at "rd"
      refine ⟨⟨Nat.lt_of_lt_of_le (show (f : Int).natAbs < 2 ^ 64 by omega) (Nat.pow_le_pow_right (by decide) (by decide)), Nat.lt_of_lt_of_le (show (1000 : Int).natAbs < 2 ^ 64 by omega) (Nat.pow_le_pow_right (by decide) (by decide))⟩, ?_⟩
      refine dr (by decide) (by decide) (n := n + 1 + (6 - (i + 1))) (hp3.mono (by omega)) fun r H5 s5 hp5 r0 r1 => ?_
      rw [rI0_int]
      refine ⟨s3.trans s5, hp5, f * 1000 + r.toNat, some (.int (0 + (i : Nat))), ?_, ?_⟩
      · rw [show (f : Int) * 1000 + r = ((f * 1000 + r.toNat : Nat) : Int) by omega]
      · rw [Nat.pow_succ]; omega
    · intro σ H3 z
      obtain ⟨s3, hp3, f, o, rfl, hf⟩ := z
      have b18 : (1000 : Nat) ^ N ≤ 1000 ^ 6 := Nat.pow_le_pow_right (by decide) (by omega)
      have b6 : (1000 : Nat) ^ 6 = 1000000000000000000 := by decide
      have b10 : (10 : Nat) ^ 18 = 1000000000000000000 := by decide
      walk_at "rd"
      refine dr (by decide) (by decide) (n := n) (hp3.mono (by omega)) fun r H5 s5 hp5 r0 r1 => ?_
      walk_at "rd"
      by_cases r2 : 0 < r
      · rw [decide_eq_true r2, if_pos rfl]
        exact k _ _ (s3.trans s5) hp5 (by omega)
      · rw [decide_eq_false r2, if_neg (by decide)]
        exact k _ _ (s3.trans s5) hp5 (by omega)
abbrev N_law_some_ratio : List Str := ["_law_pen_here"]
theorem sc_law_some_ratio : FnScope N_law_some_ratio ["_law_pen_here"] (defScope s_law_some_ratio) := ⟨rfl, rfl, rfl, by decide +kernel, rfl, by decide +kernel, by decide +kernel⟩
def spSome : Sp := fun vs H Q _ => ∃ (p cl : Addr) (n : Nat), vs = [.ref p] ∧ Pen H p cl (n + 16) ∧ ∀ r q H', Sm [p] [] H H' → Pen H' p cl n → IsQ H' r q → Hq 60 q → Q r H'
theorem ok_law_some_ratio (T : Tx K mg) : Cal P w K mg base CX0 4 "_law_some_ratio" spSome := by
  have c_law_far := ok_law_far (P := P) (w := w) (base := base) T
  have c_law_q := ok_law_q (P := P) (w := w) (base := base) T
  obtain ⟨fd, F⟩ := T.f_law_some_ratio
  refine cal0 F T.g_law_some_ratio sc_law_some_ratio (ps := ["_law_pen_here"]) (fun _ _ _ _ _ _ us hl => match us, hl with | [_], _ => rfl) (fun vs H Q E h => ?_) (fun cdv A outer s H vs Q E hr h => ?_)
  · obtain ⟨p, cl, n, rfl, _⟩ := h
    rfl
  · obtain ⟨p, cl, n, rfl, hp, k⟩ := h
    refine ⟨_, (pss_one (ps_ret (pe_cal c_law_q hr (by decide) pass0 (pa_cons (pe_cal c_law_far hr (by decide) pass0 (pa_cons (pv 0) pa_nil)) (pa_cons (pe_op op_add pe_int (pe_callB call_abs (by rfl) T.b_abs (by decide +kernel) (pa_cons (pe_cal c_law_far hr (by decide) pass0 (pa_cons (pv 0) pa_nil)) pa_nil))) pa_nil))))), ?_⟩
    walk_at "rd"
    have b10 : (10 : Nat) ^ 18 = 1000000000000000000 := by decide
    have b60 : (2 : Nat) ^ 60 = 1152921504606846976 := by decide
    refine ⟨p, cl, n + 8, rfl, hp, fun a H1 s1 hp1 ha => ⟨p, cl, n, rfl, hp1, fun b H2 s2 hp2 hb => ⟨_, rfl, ?_⟩⟩⟩
    have eb : 0 < 1 + (if b < 0 then -b else b) ∧ (1 + (if b < 0 then -b else b)).natAbs < 2 ^ 60 := by split <;> omega
    generalize 1 + (if b < 0 then -b else b) = c at *
    exact ⟨_, _, rfl, by omega, Nat.lt_of_lt_of_le eb.2 (Nat.pow_le_pow_right (by decide) (by decide)), fun x H3 s3 hx => k _ _ _ ((s1.trans s2).trans (s3.w (fun _ h => nomatch h) (fun _ h => h))) (hp2.m s3) hx (hq_divInt (by omega) (by omega) eb.2)⟩
end
end G3
end
section
set_option maxHeartbeats 4000000
/-! repr of data; defs that are entered with no guard about -/
namespace G3
open PySem PySem.Spec PyProof.Rows L2
/-- data without a dict, or {"a": 1} -/
inductive Dx (K : PySem.W.Frag) (H : Hp) : V → PyData → Prop where
  | b {v : V} {d : PyData} (h : Dp K H v d) (nd : d.hasDict = false) : Dx K H v d
  | abc {a : Addr} (h : H a = some (.dK [(.inr "a", .int 1)])) : Dx K H (.ref a) (.dict [(.str "a", .int 1)])
/-- a list of such data -/
def DxL (K : PySem.W.Frag) (H : Hp) (xs : List V) (ds : List PyData) : Prop := Paired (Dx K H) xs ds
/-- each value reads as its data -/
def Each (h : Heap) (us : List Value) (ds : List PyData) : Prop := Paired (fun u d => ∃ as, Reads h u d as ∧ (d.hasDict = true → sysModules ∉ as)) us ds
section
variable {X : Cx} {pins : List (Addr × Obj)} {σ : L2.St} {H : Hp} {s : Shared}
theorem Dx.reads (I : Inv X pins σ H s) {v : V} {u : Value} {d : PyData} (h : Dx X.K H v d) (r : RelV v u) : ∃ as, Reads s.heap u d as ∧ (d.hasDict = true → sysModules ∉ as) := by
  cases h with
  | b h nd =>
    obtain ⟨as, e⟩ := Dp.reads I _ _ _ h r
    exact ⟨as, e, fun z => by rw [nd] at z; cases z⟩
  | abc h =>
    cases r
    obtain ⟨_, hsys, vs, rel, dof⟩ := dk_of I.hok h
    obtain ⟨ep, dat⟩ := dof.dictAt
    obtain ⟨ob, es, ho, hex, hdat, hko, hpr, hnd⟩ := id dat
    cases rel with
    | cons r1 rr =>
      cases rr
      obtain ⟨k1, v1⟩ := r1
      generalize hl : es.toList = l at hpr
      cases hpr with
      | cons p1 p2 pr =>
        cases pr
        rename_i kv e
        obtain ⟨k0, v0⟩ := kv
        dsimp only at k1 v1 p1 p2
        subst k1
        obtain ⟨t, rfl⟩ := v1
        obtain ⟨t2, ek⟩ := keyIs_rel (k := .inr "a") p1
        refine ⟨_, .dict (kvs := [(.str "a", .int 1)]) ho hex.1 hdat (as := []) (bs := []) ?_ ?_, fun _ => ?_⟩
        · rw [hl]
          simp only [List.map_cons, List.map_nil]
          rw [ek]
          exact .cons (.str _ _) .nil
        · rw [hl]
          simp only [List.map_cons, List.map_nil]
          rw [p2]
          exact .cons (.int _ _) .nil
        · simpa using fun z => absurd z.symm (beq_eq_false_iff_ne.mp hsys)
theorem DxL.each (I : Inv X pins σ H s) : ∀ {xs : List V} {us : List Value} {ds : List PyData}, DxL X.K H xs ds → Vals xs us → Each s.heap us ds
  | _, _, _, .nil, .nil => .nil
  | _, _, _, .cons h t, .cons r rt => .cons (h.reads I r) (DxL.each I t rt)
theorem Each.all {h : Heap} : ∀ {us : List Value} {ds : List PyData}, Each h us ds → ∃ as, ReadsAll h us ds as
  | _, _, .nil => ⟨_, .nil⟩
  | _, _, .cons ⟨_, r, _⟩ t => let ⟨_, q⟩ := Each.all t; ⟨_, .cons r q⟩
theorem Each.shows {prog : Program} {w : World} {h : Heap} : ∀ {us : List Value} {ds : List PyData}, Each h us ds → PyData.showableAll ds = true → (∀ t ∈ PyData.shownAll ds, t.length ≤ sizeLine) → ∃ bs, ReadAtMost h (PyData.depthAll ds) bs ∧ ReprAllK prog w bs h (PyData.depthAll ds) us (PyData.shownAll ds)
  | _, _, .nil, _, _ => ⟨[], (fun _ z => nomatch z), by simp only [PyData.shownAll]; exact .nil⟩
  | _, d :: ds, .cons ⟨as, r, hsm⟩ t, hs, hz => by
    have hs' : d.showable = true ∧ PyData.showableAll ds = true := by simpa [PyData.showableAll] using hs
    have hz1 : d.shown.length ≤ sizeLine := hz _ (by simp only [PyData.shownAll]; exact List.mem_cons_self)
    obtain ⟨b1, m1, k1⟩ := ReprK.of_reads (prog := prog) (w := w) r hs'.1 hsm hz1
    obtain ⟨b2, m2, k2⟩ := Each.shows (prog := prog) (w := w) t hs'.2 fun u hu => hz u (by simp only [PyData.shownAll]; exact List.mem_cons_of_mem _ hu)
    refine ⟨b1 ++ b2, (m1.mono ?_).append (m2.mono ?_), ?_⟩
    · simp only [PyData.depthAll]; omega
    · simp only [PyData.depthAll]; omega
    · simp only [PyData.shownAll, PyData.depthAll]
      exact .cons ((k1.more fun b hb => List.mem_append_left _ hb).level_le (by omega)) (k2.more_le (fun b hb => List.mem_append_right _ hb) (by omega))
end
/-- what repr needs of data -/
def Shw (d : PyData) : Prop := d.showable = true ∧ d.depth ≤ 60 ∧ d.shown.length ≤ sizeLine
/-- data as repr takes it: a list's items may be {"a": 1} -/
inductive Dr (K : PySem.W.Frag) (H : Hp) : V → PyData → Prop where
  | x {v : V} {d : PyData} (h : Dx K H v d) : Dr K H v d
  | l {a : Addr} {xs : List V} {ds : List PyData} (e : H a = some (.lst xs)) (h : DxL K H xs ds) : Dr K H (.ref a) (.list ds)
def rReprX (K : PySem.W.Frag) : List V → Hp → VK → Prop := fun xs H Q => ∃ x d, xs = [x] ∧ Dr K H x d ∧ Shw d ∧ Q (.str d.shown) H
theorem call_reprX {X : Cx} (hg : X.A.guards = some []) (hu : X.A.units + 64 < cLine) : CallR X (.builtin "repr") (rReprX X.K) := by
  intro pins s σ H xs us Q I r h
  obtain ⟨x, d, rfl, hx, ⟨sh, dp, sl⟩, q⟩ := h
  obtain ⟨u, rfl, rx⟩ := vals1 r
  have fin : ∀ (h' : Heap) (v : Tok) (tk : Nat), (∀ b o, s.heap.get? b = some o → h'.get? b = some o) → EP X pins σ Q (.str d.shown v) { s with heap := h', toks := tk } := fun h' v tk k =>
    ⟨.str d.shown, H, I.kept (t' := tk) k, ⟨_, rfl⟩, q⟩
  cases hx with
  | x hx =>
    obtain ⟨as, rd, hsm⟩ := hx.reads I rx
    cases u with
    | ref a => exact repr_of_reads' rd sh hsm hg (by omega) (fun _ _ e => e) (fun h' u tk k => fin h' u tk k) sl
    | none => cases rd; exact PySem.P.repr_of_none (fin s.heap _ _ fun _ _ e => e)
    | bool b => cases rd; exact PySem.P.repr_of_bool (fin s.heap _ _ fun _ _ e => e)
    | int i t => cases rd; exact PySem.P.repr_of_int (by simpa [PyData.showable] using sh) (fin s.heap _ _ fun _ _ e => e)
    | str y t => cases rd; exact PySem.P.repr_of_str (fin s.heap _ _ fun _ _ e => e) sl
    | _ => cases rd
  | @l a xs ds e hxl =>
    cases rx
    obtain ⟨its, rv, p, hz⟩ := I.list (L2.SqL.of e)
    have ea := DxL.each I hxl rv
    obtain ⟨as, ra⟩ := ea.all
    obtain ⟨o, n, hd0, hd1, _, hd2⟩ := p
    have hs' : PyData.showableAll ds = true := by simpa [PyData.showable] using sh
    have hz' : (listText (PyData.shownAll ds)).length ≤ sizeLine := by simpa only [PyData.shown] using sl
    obtain ⟨bs, hb, hk⟩ := ea.shows (prog := X.prog) (w := X.w) hs' fun t ht => Nat.le_trans (listText_mem_le ht) hz'
    have rd : Reads s.heap (.ref a) (.list ds) (a :: as) := .list (vs := its.toArray) hd0 hd1 hd2 ra
    have hna : a ∉ bs := not_mem_of_deeper rd (by simp only [PyData.depth]; omega) hb
    have hdep : (PyData.list ds).depth = PyData.depthAll ds + 1 := by simp only [PyData.depth]
    refine call_repr_slot (by omega) ⟨o, hd0, hd1⟩ F.slot_list_repr.toG ?_
    have esh : (PyData.list ds).shown = listText (PyData.shownAll ds) := by simp only [PyData.shown]
    cases its with
    | nil =>
      cases ea
      simp only [PyData.shownAll, listText_nil] at esh
      refine call_list_repr_empty ⟨o, hd0, hd1⟩ hd0 hd2 ⟨_, _, rfl, ?_⟩
      have f := fin s.heap s.toks (s.toks + 1) fun _ _ e => e
      rw [esh] at f
      exact f
    | cons y l =>
      refine call_list_reprK hd0 hd1 hd2 hna (by simpa using hk.length_eq) (fun i y e => hk.item i y (by simpa using e)) (A := X.A.in1) hg (fun b _ => Clear.nil b) (by show X.A.units + 1 + _ < _; omega) (fun _ _ e => e) (fun h' u tk k => ⟨_, _, rfl, ?_⟩) hz'
      have f := fin h' u tk k
      rw [esh] at f
      exact f
end G3
end
section
set_option maxHeartbeats 4000000
/-! defs entered with no guard about; a try with several clauses that bear a name -/
namespace G3
open PySem PySem.Spec PyProof.Rows L2
/-- cdv is the code object of the def at f -/
structure CdOf (K : PySem.W.Frag) (f : Addr) (cdv : Value) (x : Str) : Prop where
  nm : PySem.W.codeIn K cdv x = true
  at_ : ∃ (oc : Value) (od : Option Addr) (g : FuncData) (sl : Array (Option Value)), K.lookup f = some ⟨oc, od, .func g, sl⟩ ∧ g.code = cdv
/-- FnOk for entries at which no repr is under way -/
structure FnG (P : Program) (w : World) (K : PySem.W.Frag) (mg : Str → Option Value) (base : Heap) (CX : CXT) (k : Nat) (f : Addr) (fd : FuncData) (ps : List Str) (sp : Sp) : Prop where
  len : ∀ vs H Q E, sp vs H Q E → vs.length = ps.length
  run : ∀ (A : Around) (outer : List Env) (s : Shared) (H : Hp) (args : Args) (us : List Value) (vs : List V) (Q : VK) (E : XK), A.guards = some [] → Room k A → Env0 P w K mg base A outer s H → BindsTo s fd args (ps.zip us) → Vals vs us → sp vs H Q E →
    codeAny (model P w) A (.call (.ref f) args) (CR CX outer P w H s Q E) s
structure CalG (P : Program) (w : World) (K : PySem.W.Frag) (mg : Str → Option Value) (base : Heap) (CX : CXT) (k : Nat) (x : Str) (sp : Sp) : Prop where
  ex : ∃ (f : Addr) (fd : FuncData) (ps : List Str), FnG P w K mg base CX k f fd ps sp ∧ mg x = some (.ref f) ∧ PySem.W.keepIn K (.ref f) = true ∧ Binds K fd ps []
section
variable {P : Program} {w : World} {K : PySem.W.Frag} {mg : Str → Option Value} {base : Heap}
theorem fng_of {CX : CXT} {x : Str} {st : Stmt} {f : Addr} {fd : FuncData} {N ps : List Str} {k : Nat} {sp : Sp} (F : FnP K x st f fd) (S : FnScope N ps (defScope st)) (len : ∀ vs H Q E, sp vs H Q E → vs.length = ps.length)
    (h : ∀ (cdv : Value) (A : Around) (outer : List Env) (s : Shared) (H : Hp) (vs : List V) (Q : VK) (E : XK), CdOf K f cdv x → (A.deeper (envOfC x (defScope st) s.heap.objs.size f cdv)).guards = some [] → Room k (A.deeper (envOfC x (defScope st) s.heap.objs.size f cdv)) → sp vs H Q E →
      ∃ t, PSs (cxOf CX P w K mg base N x (defScope st) f cdv A outer s H E) (defBody st) t ∧ t { nx := fun _ H' => Q .non H', rt := Q } (L2.start N vs) H) : FnG P w K mg base CX (k + 1) f fd ps sp := by
  obtain ⟨oc, od, dV, kV, doc, pm, an, cdv, ct, osl, rfl, lk, hcd, _, _⟩ := F.ex
  refine ⟨len, fun A outer s H args us vs Q E hg hr e0 hb rv hs => ?_⟩
  exact LamX.run_ofS lk hcd S hr e0 hb rv (len _ _ _ _ hs) fun hr' => h cdv A outer s H vs Q E ⟨hcd, _, _, _, _, lk, rfl⟩ hg hr' hs
/-- such a def that raises nothing -/
theorem calG0 {CX : CXT} {x : Str} {st : Stmt} {f : Addr} {fd : FuncData} {N ps : List Str} {k : Nat} {sp : Sp} (F : FnP K x st f fd) (g : mg x = some (.ref f)) (S : FnScope N ps (defScope st))
    (hb : ∀ (kV doc pm : Value) (an : Option Addr) (cdv ct : Value) (us : List Value), us.length = ps.length → bindArgs (PySem.W.fnOf x x (defArgs st) (defBody st) (defScope st) .none kV doc pm an cdv ct) ⟨us, []⟩ = pure (ps.zip us))
    (len : ∀ vs H Q E, sp vs H Q E → vs.length = ps.length)
    (h : ∀ (cdv : Value) (A : Around) (outer : List Env) (s : Shared) (H : Hp) (vs : List V) (Q : VK) (E : XK), CdOf K f cdv x → (A.deeper (envOfC x (defScope st) s.heap.objs.size f cdv)).guards = some [] → Room k (A.deeper (envOfC x (defScope st) s.heap.objs.size f cdv)) → sp vs H Q E →
      ∃ t, PSs (cxOf CX P w K mg base N x (defScope st) f cdv A outer s H E).nox (defBody st) t ∧ t { nx := fun _ H' => Q .non H', rt := Q } (L2.start N vs) H) : CalG P w K mg base CX (k + 1) x sp :=
  ⟨f, fd, ps, fng_of F S len fun cdv A outer s H vs Q E hc hg hr hs => let ⟨t, a, b⟩ := h cdv A outer s H vs Q E hc hg hr hs; ⟨t, a.nox, b⟩, g, F.kp, F.bindsN hb⟩
end
section
variable {X : Cx} {CX : CXT} {j k : Nat} {x : Str} {sp : Sp} {E : XK} {p pos : Pos} {e : Expr} {es : List Expr} {t : TA}
theorem pe_calG (c : CalG X.prog X.w X.K X.mg X.base CX k x sp) (hgd : X.A.guards = some []) (hr : Room j X.A) (hk : k ≤ j) (hx : Passes CX X E) (ha : PA X (e :: es) t) (hg : Gl X x := by rfl)
    (hdb : (x == ("__debug__" : Str)) = false := by decide) (he : starEach (e :: es) X.env = (false, eval e X.env) :: starEach es X.env := by rfl) (hpl : (backTo pos (starEach es X.env)).any (·.1) = false := by rfl) :
    PE X (.Call (.Name x p) (e :: es) [] pos) (tCall sp [] E t) := by
  obtain ⟨f, fd, ps, F, hm, kp, b⟩ := c.ex
  constructor
  intro pins s σ H Q I h
  refine wpAny_Call_Name_kw (ld_glob I hg hm (PySem.W.callWith_K (h₀ := X.base) I.ok.mod.kin kp (thn (ha.run pos pins s σ H _ I h) ?_) he hpl) hdb)
  intro us s1 z
  obtain ⟨vs, H1, I1, rv, q⟩ := z
  rw [List.append_nil] at q
  have lv : us.length = ps.length := by rw [← rv.length]; exact F.len _ _ _ _ q
  have bb := b s1 us I1.kIn (by rw [List.append_nil]; exact lv)
  rw [List.append_nil] at bb
  refine ⟨I1.kIn, wpAny_call (codeAny_mono (F.run X.A X.stack s1 H1 ⟨us, []⟩ us vs Q E hgd (hr.mono hk) I1.env0 bb rv q) ?_)⟩
  intro r s2 z
  match r, z with
  | .error u, z => exact hx pins σ H1 s1 u s2 I1 z
  | .ok (.ret u), z => exact I1.after z
  | .ok .next, z => exact z.elim
  | .ok .brk, z => exact z.elim
  | .ok .cont, z => exact z.elim
end
/-! ### except X as n: a suite that returns; one clause behind another -/
/-- what the clauses wish of an exception of the body: each suite ends with a return -/
def wAs3 (K : PySem.W.Frag) (i m : Nat) (Wout : WX) (R : VK) : List (Value × (Addr → Value → Option Addr → TS)) → WX
  | [] => Wout
  | ct :: r => fun cls d σ H => σ.length = m → ∃ b, PySem.W.exmOne K cls ct.1 = some b ∧ (b = true → ∀ a, H a = none → ct.2 a cls d { nx := fun _ _ => False, rt := R } (σ.set i (some (.ref a))) H) ∧ (b = false → wAs3 K i m Wout R r cls d σ H)
inductive HdA (X : Cx) (n : Str) : List ExceptHandler → List (Value × (Addr → Value → Option Addr → TS)) → Prop
  | nil : HdA X n [] []
  | cons {x : Str} {c : Value} {ts : Addr → Value → Option Addr → TS} {b₀ : Stmt} {suite : List Stmt} {np pos' : Pos} {hds : List ExceptHandler} {l : List (Value × (Addr → Value → Option Addr → TS))} (hc : Names X x c)
      (hsu : ∀ (a : Addr) (oe : Obj) (cls : Value) (d : Option Addr) (pn : List (Addr × Obj)), Zc cls d oe → (∃ vs, oe.data = .fields vs) → PSs (X.suite a ((a, oe) :: pn)) (b₀ :: suite) (ts a cls d)) (r : HdA X n hds l) :
      HdA X n (.ExceptHandler (some (.Name x np)) (some n) (b₀ :: suite) pos' :: hds) ((c, ts) :: l)
section
variable {X : Cx} {n : Str} {i : Nat} {body : List Stmt} {h₀ : ExceptHandler} {hds : List ExceptHandler} {l : List (Value × (Addr → Value → Option Addr → TS))} {pos : Pos} {tb : WX → TS} {Wout : WX}
theorem ps_try_as3 (hs : X.stack = X.env :: X.outer) (hf : X.env.frame = some X.env.locals) (hN : X.N.Nodup) (hi : X.N[i]? = some n) (hln : X.env.kindOf n = some .local) (tk : Takes X Wout)
    (hb : ∀ (W : WX) (pn : List (Addr × Obj)) (xe : Value → Shared → Prop), Takes (X.tr pn xe) W → PassesOwn (model X.prog X.w) X.A X.env xe → PSs (X.tr pn xe) body (tb W))
    (hh : HdA X n (h₀ :: hds) l) : PS X (.Try body (h₀ :: hds) [] [] pos) (fun D σ H => tb (wAs3 X.K i X.N.length Wout D.rt l) D σ H) := by
  constructor
  intro pins s σ H D I h
  have ok := I.ok
  have frm : X.A.frames = some (X.env :: X.outer) := by rw [ok.frames, hs]
  have onTry : ∀ f s1, SP (X.tr (X.pn ++ pins) fun e s₁ => wpAny (model X.prog X.w) X.A (noteFrame e X.env) (fun _ s₂ => wpAny (model X.prog X.w) X.A (setFlight e none) (fun _ s₃ => wpAny (model X.prog X.w) X.A (handleBy e X.env (h₀ :: hds)) (SP X pins D) X.xe s₃) X.xe s₂) X.xe s₁) [] D f s1 → SP X pins D f s1 := by
    intro f s1 z
    match f, z with
    | .next, ⟨a, b, J, q⟩ => exact ⟨a, b, J.ofTry ok, q⟩
    | .brk, ⟨a, b, J, q⟩ => exact ⟨a, b, J.ofTry ok, q⟩
    | .cont, ⟨a, b, J, q⟩ => exact ⟨a, b, J.ofTry ok, q⟩
    | .ret u, ⟨v, a, b, J, rv, q⟩ => exact ⟨v, a, b, J.ofTry ok, rv, q⟩
  refine wpAny_Try_except (wpAny_mono ((hb (wAs3 X.K i X.N.length Wout D.rt l) (X.pn ++ pins) _ ?_ PassesOwn.looking).run [] s σ H D (I.toTry _) h) (fun f s1 z => ?_) fun e s1 he => he)
  · intro u s' xx
    obtain ⟨a, B, sI, pins', σ', H', cls, d, rfl, J', nb, up, sky, na, os, ag, want⟩ := xx
    have J : Inv X pins σ' H' sI := J'.ofTry ok
    rw [hs] at sky
    show wpAny (model X.prog X.w) X.A (noteFrame (.ref a) X.env) _ _ _
    refine Sky.land Zc.steady frm hf sky ?_
    intro h3 fl3 up3
    have J3 : Inv X pins σ' H' { s' with heap := h3 } := J.landed nb fl3.1 (up.trans up3) os ag
    obtain ⟨oe3, vs3, he3, hz3, hd3⟩ := fl3.there
    have nfr : a ∉ frs (X.env :: X.outer) := fun hm => by
      obtain ⟨_, o', e', hnf⟩ := fl3.2.2.1.mem hm
      rw [he3] at e'
      cases e'
      exact hnf _ hd3
    have nL : a ≠ X.env.locals := fun z => nfr (List.mem_filterMap.mpr ⟨X.env, List.mem_cons_self, by rw [hf, z]⟩)
    have nF : a ∉ X.fs := fun hm => by
      obtain ⟨e, he, q⟩ := List.mem_filterMap.mp hm
      exact nfr (List.mem_filterMap.mpr ⟨e, List.mem_cons_of_mem _ he, q⟩)
    have S3 := J3.suite he3 hd3 na nL nF
    suffices go : ∀ (hds' : List ExceptHandler) (l' : List (Value × (Addr → Value → Option Addr → TS))), HdA X n hds' l' → wAs3 X.K i X.N.length Wout D.rt l' cls d σ' H' →
        wpAny (model X.prog X.w) X.A (handleBy (.ref a) X.env hds') (SP X pins D) X.xe { s' with heap := h3 } from go _ _ hh want
    intro hds' l' hk
    induction hk with
    | nil =>
      intro w
      obtain ⟨_, _, _, oe, vs, T, _, _, he, _, hd, h1, _⟩ := id fl3
      have off : wpAny (model X.prog X.w) X.A (setFlight (.ref a) X.env.frame) (fun _ s4 => wpAny (model X.prog X.w) X.A (throw (.ref a) : Sem Flow) (SP X pins D) X.xe s4) X.xe { s' with heap := h3 } := by
        rw [hf]
        refine HandSPX.setFlight_upZ fl3 ?_
        intro h4 hh4 up4
        exact wpAny_throw (tk _ _ ⟨a, B, sI, pins, σ', H', cls, d, rfl, J, nb, (up.trans up3).trans up4, .inr (.inr (by rw [hs]; exact hh4)), na, os, ag, w⟩)
      refine wpAny_handleBy_nil ?_
      unfold PySem.passOn
      refine wpAny_bind (wpAny_field he hd h1 ?_)
      rw [if_neg (by simp)]
      first
        | exact wpAny_bind (wpAny_pure (wpAny_bind off))
        | exact wpAny_bind off
    | cons hc hsu r ih =>
      rename_i x c ts b₀ suite np pos' hds2 l2
      intro w
      obtain ⟨b, hb1, hyes, hno⟩ := w J.len
      have ty : PySem.W.Looks (model X.prog X.w) h3 (typeOf (.ref a)) cls := fun A Q E s k q => wpAny_typeOf_ref (k _ _ he3) (by rw [hz3.1]; exact q)
      have look := PySem.W.exm_one (M := model X.prog X.w) J3.kIn ty hb1
      refine wpAny_handleBy_cons (codeAny_handlers_test ?_) (by intro q; cases q)
      have name : ∀ {Q : Value → Shared → Prop} {E : Value → Shared → Prop}, Q c { s' with heap := h3 } → wpAny (model X.prog X.w) (X.A.mark (some (.ref a))) (eval (.Name x np) X.env) Q E { s' with heap := h3 } := by
        intro Q E q
        rcases hc with ⟨hg, hdbg, hm | ⟨hm, hv, hnn⟩⟩
        · exact ld_glob (X := X.suite a ((a, oe3) :: (X.pn ++ pins))) S3 hg hm q hdbg
        · exact ld_blt (X := X.suite a ((a, oe3) :: (X.pn ++ pins))) S3 hg hm hv q hnn hdbg
      refine name (look.here ?_)
      cases b with
      | false => exact ih (hno rfl)
      | true =>
        refine codeAny_handlers_suite_as (HandSPX.lands_againZ fl3 ?_)
        intro h4 fl4 up4
        have J4 : Inv X pins σ' H' { s' with heap := h4 } := J.landed nb fl4.1 ((up.trans up3).trans up4) os ag
        obtain ⟨oe4, vs4, he4, hz4, hd4⟩ := fl4.there
        have S4 := J4.suite he4 hd4 na nL nF
        refine store_ok (X := X.suite a ((a, oe4) :: (X.pn ++ pins))) (v := .ref a) S4 hN hi (.inl hln) rfl ?_ (.inr hln)
        intro s5 S5
        refine wpAny_mono ((hsu a oe4 cls d (X.pn ++ pins) hz4 ⟨_, hd4⟩).run [] s5 _ H' _ S5 (hyes rfl a na)) ?_ (fun _ _ z => z.elim)
        intro f s6 z
        match f, z with
        | .next, ⟨_, _, _, q⟩ => exact q.elim
        | .brk, ⟨_, _, _, q⟩ => exact q.elim
        | .cont, ⟨_, _, _, q⟩ => exact q.elim
        | .ret u, ⟨v6, σ6, H6, S6, r6, q6⟩ => exact gone_ok (Q := fun _ s7 => SP X pins D (.ret u) s7) (S6.unsuite ok) hN hi hln fun s7 J7 => ⟨_, _, _, J7, r6, q6⟩
  · match f, z with
    | .next, ⟨a, b, J, q⟩ => exact wpAny_execs_nil ⟨a, b, J.ofTry ok, q⟩
    | .brk, z => exact onTry _ _ z
    | .cont, z => exact onTry _ _ z
    | .ret u, z => exact onTry _ _ z
end
end G3
end
section
set_option maxHeartbeats 4000000
/-! data that repr can show: sizes -/
namespace G3
open PySem PySem.Spec PyProof.Rows L2
theorem ok_app {a b : Str} (ha : PyData.strOk a = true) (hb : PyData.strOk b = true) : PyData.strOk (a ++ b) = true := by
  show (a.cps ++ b.cps).all (· < 0x110000) = true
  rw [Array.all_append]
  exact Bool.and_eq_true_iff.mpr ⟨ha, hb⟩
theorem ok_of (s : String) : PyData.strOk (Str.ofString s) = true := by
  rw [Str.ofString_eq_toList]
  show ((s.toList.map Char.toNat).toArray).all (· < 0x110000) = true
  rw [List.all_toArray, List.all_map, List.all_eq_true]
  intro c _
  have h : c.toNat < 0xD800 ∨ (0xDFFF < c.toNat ∧ c.toNat < 0x110000) := c.valid
  show decide (c.toNat < 0x110000) = true
  exact decide_eq_true (by omega)
theorem ok_textFrom : ∀ (ts : List Str) (k : Nat) (acc : Str), PyData.strOk acc = true → (∀ t ∈ ts, PyData.strOk t = true) → PyData.strOk (textFrom k acc ts) = true
  | [], _, _, h, _ => h
  | t :: r, k, acc, h, hs => ok_textFrom r (k + 1) _ (ok_app (ok_app h (by split <;> exact ok_of _)) (hs t List.mem_cons_self)) fun x hx => hs x (List.mem_cons_of_mem _ hx)
theorem ok_join : ∀ ts : List Str, (∀ t ∈ ts, PyData.strOk t = true) → PyData.strOk (Str.join ", " ts) = true
  | [], _ => ok_of ""
  | [x], h => h x List.mem_cons_self
  | x :: y :: r, h => by
    show PyData.strOk (x ++ ", " ++ Str.join ", " (y :: r)) = true
    exact ok_app (ok_app (h x List.mem_cons_self) (ok_of ", ")) (ok_join (y :: r) fun t ht => h t (List.mem_cons_of_mem _ ht))
theorem shownAll_map : ∀ ds : List PyData, PyData.shownAll ds = ds.map PyData.shown
  | [] => rfl
  | d :: r => by rw [PyData.shownAll, shownAll_map r]; rfl
structure Gd (d : PyData) (dep bk : Nat) : Prop where
  sh : d.showable = true
  dp : d.depth ≤ dep
  lv : d.leavesShort 1921 = true
  bk : d.bulk ≤ bk
  ok : PyData.strOk d.shown = true
theorem Gd.w {d : PyData} {a b a' b' : Nat} (h : Gd d a b) (ha : a ≤ a') (hb : b ≤ b') : Gd d a' b' := ⟨h.sh, Nat.le_trans h.dp ha, h.lv, Nat.le_trans h.bk hb, h.ok⟩
theorem Gd.shw {d : PyData} {a b : Nat} (h : Gd d a b) (ha : a ≤ 60 := by omega) (hb : b ≤ 8000 := by omega) : Shw d := by
  refine ⟨h.sh, Nat.le_trans h.dp ha, ?_⟩
  have z := PyData.shown_le_bulk 1921 (by decide) d h.lv
  have := h.bk
  rw [sizeLine_eq]
  omega
theorem log_lt {n m : Nat} (h : n < 2 ^ m) (hm : m ≤ 1920) : n.log2 < 1920 := by
  by_cases z : n = 0
  · subst z; decide
  · exact Nat.lt_of_lt_of_le ((Nat.log2_lt z).mpr h) hm
theorem gd_int {i : Int} {m : Nat} (h : i.natAbs < 2 ^ m) (hm : m ≤ 1920) : Gd (.int i) 0 0 := by
  have l := log_lt h hm
  refine ⟨by simpa [PyData.showable] using l, by simp [PyData.depth], ?_, by simp [PyData.bulk], by simp only [PyData.shown]; exact ok_of _⟩
  have z := PyProof.Rows.int_text_len_1921 l
  simp only [PyData.leavesShort, decide_eq_true_eq]
  exact z
theorem gds {n dep bk : Nat} : ∀ {ds : List PyData}, (∀ d ∈ ds, Gd d dep bk) → ds.length ≤ n → PyData.showableAll ds = true ∧ PyData.depthAll ds ≤ dep ∧ PyData.leavesShortAll 1921 ds = true ∧ PyData.bulkAll ds ≤ n * (bk + 1) := by
  intro ds
  induction ds generalizing n with
  | nil => intro _ _; exact ⟨rfl, by simp [PyData.depthAll], rfl, by simp [PyData.bulkAll]⟩
  | cons d r ih =>
    intro h hn
    have hd := h d List.mem_cons_self
    have hn : r.length + 1 ≤ n := hn
    obtain ⟨i1, i2, i3, i4⟩ := ih (n := n - 1) (fun x hx => h x (List.mem_cons_of_mem _ hx)) (by omega)
    refine ⟨by simp only [PyData.showableAll, hd.sh, i1, Bool.and_self], ?_, by simp only [PyData.leavesShortAll, hd.lv, i3, Bool.and_self], ?_⟩
    · simp only [PyData.depthAll]; have := hd.dp; omega
    · simp only [PyData.bulkAll]
      have := hd.bk
      obtain ⟨k, rfl⟩ : ∃ k, n = k + 1 := ⟨n - 1, by omega⟩
      have e : (k + 1) * (bk + 1) = k * (bk + 1) + (bk + 1) := by rw [Nat.succ_mul]
      rw [e]
      rw [Nat.add_sub_cancel] at i4
      omega
theorem gd_list {ds : List PyData} {n dep bk : Nat} (h : ∀ d ∈ ds, Gd d dep bk) (hn : ds.length ≤ n) : Gd (.list ds) (dep + 1) (n * (bk + 1)) := by
  obtain ⟨i1, i2, i3, i4⟩ := gds h hn
  exact ⟨by simpa only [PyData.showable] using i1, by simp only [PyData.depth]; omega, by simpa only [PyData.leavesShort] using i3, by simpa only [PyData.bulk] using i4, by
    simp only [PyData.shown, shownAll_map, listText]
    exact ok_app (ok_textFrom _ _ _ (ok_of _) fun t ht => by
      obtain ⟨d, hd, rfl⟩ := List.mem_map.mp ht
      exact (h d hd).ok) (ok_of _)⟩
theorem gd_tuple {ds : List PyData} {n dep bk : Nat} (h : ∀ d ∈ ds, Gd d dep bk) (hn : ds.length ≤ n) : Gd (.tuple ds) (dep + 1) (n * (bk + 1)) := by
  obtain ⟨i1, i2, i3, i4⟩ := gds h hn
  exact ⟨by simpa only [PyData.showable] using i1, by simp only [PyData.depth]; omega, by simpa only [PyData.leavesShort] using i3, by simpa only [PyData.bulk] using i4, by
    simp only [PyData.shown, shownAll_map, tupleText]
    exact ok_app (ok_app (ok_of _) (ok_join _ fun t ht => by
      obtain ⟨d, hd, rfl⟩ := List.mem_map.mp ht
      exact (h d hd).ok)) (by split <;> exact ok_of _)⟩
theorem gd_two {i j : Int} {m : Nat} (h1 : i.natAbs < 2 ^ m) (h2 : j.natAbs < 2 ^ m) (hm : m ≤ 1920) : (∀ d ∈ [PyData.int i, .int j], Gd d 0 0) := fun d hd => by
  simp only [List.mem_cons, List.not_mem_nil, or_false] at hd
  rcases hd with rfl | rfl
  · exact gd_int h1 hm
  · exact gd_int h2 hm
theorem gd_q {q : Rat} {m : Nat} (h : Hq m q) (hm : m ≤ 1920) : Gd (qd q) 1 2 := gd_tuple (n := 2) (gd_two h.1 (by simpa using h.2) hm) (Nat.le_refl _)
theorem gd_p {l : List Rat} {m n : Nat} (h : Hl m l) (hm : m ≤ 1920) (hn : l.length ≤ n) : Gd (pd l) 2 (n * 3) := by
  refine gd_tuple (n := n) (bk := 2) (fun d hd => ?_) (by simpa using hn)
  obtain ⟨q, hq, rfl⟩ := List.mem_map.mp hd
  obtain ⟨i, hi, rfl⟩ := List.getElem_of_mem hq
  have := h i
  rw [cf_of (List.getElem?_eq_getElem hi)] at this
  exact gd_q this hm
theorem IsM.dat {K : PySem.W.Frag} {H : Hp} {v : V} {m : Nat} {q : Rat} (h : IsM H v m q) (hm : m ≤ 1920) : ∃ d, Dp K H v d ∧ d.hasDict = false ∧ d.canLay0 = true ∧ Gd d 1 2 := by
  obtain ⟨a, b, x, ha, hb, _⟩ := h
  cases x with
  | int _ => exact ⟨.int _, .int _, rfl, rfl, (gd_int ha hm).w (by decide) (by decide)⟩
  | sq h hp =>
    rcases h with h | h
    · exact ⟨.tuple [.int a, .int b], .tup (L2.SqT.of h) (.cons (.int _) (.cons (.int _) .nil)), rfl, rfl, gd_tuple (n := 2) (gd_two ha hb hm) (Nat.le_refl _)⟩
    · exact ⟨.list [.int a, .int b], .lst (L2.SqL.of h) (.cons (.int _) (.cons (.int _) .nil)), rfl, rfl, gd_list (n := 2) (gd_two ha hb hm) (Nat.le_refl _)⟩
end G3
end
section
set_option maxHeartbeats 4000000
namespace G3
open PySem PySem.Spec PyProof.Rows L2
local macro_rules | `(tactic| walk_at "rd") => `(tactic| simp only [wipe, sDPut, tDGet, tDisp, tPairs, tBM0, tBM, tBreak, sFld, tPar3, tRevL, tLstRg, tRg1, tRg2, gSub, rSetL,  tSl, tNoPart, tPart, iRng1, iRng2, iRng3, tRevT, tLc_eq, tFor_eq, iEnumT, iSeq, iList, iTup, RZ.iZipA, tFld_eq, tMeth, tVar, tC, tOp, tUn, tCons, tNil, tCB, tCall, tRet, tSeq, tAsg, gName, tIfS, tIf, tTest, tB, tNot, tAnd, tOr, tNotV, tAndV, tOrV, rI0_int, rI_int, rU_int, rEq_int, rNe_int, tPar, tNext, tDrop, tTup_nt, tLst_nl, tMkBN, tMkBR, cxOf_K, L2.start, List.map_cons, List.map_nil, List.length_cons, List.length_nil, List.cons_append, List.nil_append, List.append_nil, List.replicate_succ, List.replicate_zero, Nat.reduceAdd, Nat.reduceSub, Nat.sub_self, List.getElem?_cons_zero, List.getElem?_cons_succ, List.set_cons_zero, List.set_cons_succ, Option.some.injEq, V.int.injEq, V.bl.injEq, exists_eq_left', exists_eq_left, exists_eq_right, exists_eq_right', true_and, and_true, if_true, if_false, ite_true, ite_false, Bool.false_eq_true, Bool.not_true, Bool.not_false, reduceIte])
local macro_rules | `(tactic| walk_at "ix") => `(tactic| repeat (first | refine Sq.ix (by assumption) (by rfl) ?_ | (walk_at "rd"; refine ⟨Sz.mul (by assumption) (by assumption), ?_⟩)))
/-- all stands, but tables, dicts at D and lists at L -/
def Sx (D L : List Addr) (H H' : Hp) : Prop := ∀ a o, H a = some o → (∀ ps, o ≠ .tbl ps) → H' a = some o ∨ (a ∈ D ∧ ∃ k k', o = .dK k ∧ H' a = some (.dK k')) ∨ (a ∈ L ∧ ∃ xs ys, o = .lst xs ∧ H' a = some (.lst ys))
section
variable {D L D' L' : List Addr} {H H1 H2 H' : Hp} {a : Addr}
theorem Sx.refl : Sx D L H H := fun _ _ h _ => .inl h
theorem Sm.x (s : Sm D L H H') : Sx D L H H' := fun a o h _ => s a o h
theorem sx_ext (e : LamX.ExtN H H') : Sx D L H H' := fun a o h n => .inl (e a o h n)
theorem Sx.w (s : Sx D L H H') (hd : ∀ a ∈ D, a ∈ D') (hl : ∀ a ∈ L, a ∈ L') : Sx D' L' H H' := fun a o h n => by
  rcases s a o h n with h | ⟨m, h⟩ | ⟨m, h⟩
  · exact .inl h
  · exact .inr (.inl ⟨hd _ m, h⟩)
  · exact .inr (.inr ⟨hl _ m, h⟩)
theorem Sx.trans (s : Sx D L H H1) (t : Sx D L H1 H2) : Sx D L H H2 := fun a o h n => by
  rcases s a o h n with h | ⟨m, k, k', e, h⟩ | ⟨m, k, k', e, h⟩
  · exact t a o h n
  · rcases t a _ h (fun ps z => by cases z) with h2 | ⟨_, j, j', e', h2⟩ | ⟨_, j, j', e', h2⟩
    · exact .inr (.inl ⟨m, k, k', e, h2⟩)
    · exact .inr (.inl ⟨m, k, j', e, h2⟩)
    · cases e'
  · rcases t a _ h (fun ps z => by cases z) with h2 | ⟨_, j, j', e', h2⟩ | ⟨_, j, j', e', h2⟩
    · exact .inr (.inr ⟨m, k, k', e, h2⟩)
    · cases e'
    · exact .inr (.inr ⟨m, k, j', e, h2⟩)
theorem Sx.tup {xs : List V} (s : Sx D L H H') (h : H a = some (.tup xs)) : H' a = some (.tup xs) := by
  rcases s a _ h (fun ps z => by cases z) with h | ⟨_, _, _, e, _⟩ | ⟨_, _, _, e, _⟩
  · exact h
  · cases e
  · cases e
theorem Sx.ins {C dx : Addr} {fs : List (Str × V)} (s : Sx D L H H') (h : H a = some (.ins C dx fs)) : H' a = some (.ins C dx fs) := by
  rcases s a _ h (fun ps z => by cases z) with h | ⟨_, _, _, e, _⟩ | ⟨_, _, _, e, _⟩
  · exact h
  · cases e
  · cases e
theorem Sx.lst {xs : List V} (s : Sx D L H H') (h : H a = some (.lst xs)) (n : a ∉ L) : H' a = some (.lst xs) := by
  rcases s a _ h (fun ps z => by cases z) with h | ⟨_, _, _, e, _⟩ | ⟨m, _⟩
  · exact h
  · cases e
  · exact absurd m n
theorem Sx.dct {xs : List (Key × V)} (s : Sx D L H H') (h : H a = some (.dK xs)) (n : a ∉ D) : H' a = some (.dK xs) := by
  rcases s a _ h (fun ps z => by cases z) with h | ⟨m, _⟩ | ⟨_, _, _, e, _⟩
  · exact h
  · exact absurd m n
  · cases e
theorem IsQ.x {v : V} {q : Rat} (h : IsQ H v q) (s : Sx D L H H') : IsQ H' v q := let ⟨p, e, h⟩ := h; ⟨p, e, s.tup h⟩
theorem Sq.x {p : Addr} {xs : List V} (h : Sq H p xs) (s : Sx D [] H H') : Sq H' p xs := by
  rcases h with h | h
  · exact .inl (s.tup h)
  · exact .inr (s.lst h List.not_mem_nil)
theorem RatV.x {v : V} {a b : Int} (h : RatV H v a b) (s : Sx D [] H H') : RatV H' v a b := by
  cases h with
  | int n => exact .int _
  | sq h hb => exact .sq (h.x s) hb
theorem Qs.x {vs : List V} {l : List Rat} (h : Qs H vs l) (s : Sx D L H H') : Qs H' vs l := h.mo fun _ _ b => b.x s
theorem TQ.x {v : V} {l : List Rat} (h : TQ H v l) (s : Sx D L H H') : TQ H' v l := let ⟨p, vs, e, a, b⟩ := h; ⟨p, vs, e, s.tup a, b.x s⟩
theorem LQ.x {v : V} {l : List Rat} (h : LQ H v l) (s : Sx D [] H H') : LQ H' v l := let ⟨p, vs, e, a, b⟩ := h; ⟨p, vs, e, s.lst a List.not_mem_nil, b.x s⟩
theorem PoV.x {v : V} {l : List Rat} {C : Addr} (h : PoV C H v l) (s : Sx D L H H') : PoV C H' v l := let ⟨a, dx, u, e, x, y⟩ := h; ⟨a, dx, u, e, s.ins x, y.x s⟩
theorem IsM.x {v : V} {m : Nat} {q : Rat} (h : IsM H v m q) (s : Sx D [] H H') : IsM H' v m q := let ⟨a, b, x, y, z, e⟩ := h; ⟨a, b, x.x s, y, z, e⟩
theorem Pen.x {p cl : Addr} {m : Nat} (h : Pen H p cl m) (s : Sx [] [] H H') : Pen H' p cl m := by
  obtain ⟨ns, at_, dg, co, fo, h1, h2, h3⟩ := h
  exact ⟨ns, at_, dg, co, fo, s.dct h1 List.not_mem_nil, s.lst h2 List.not_mem_nil, h3⟩
/-- tables and code objects stand -/
theorem tabs_sm {T : List (Addr × Str)} (t : LamX.Tabs T H) (s : Sm D L H H') : LamX.Tabs T H' := fun p hp => by
  obtain ⟨ps, h1, h2, h3⟩ := t p hp
  have st : ∀ b o, H b = some o → (∀ k, o ≠ .dK k) → (∀ k, o ≠ .lst k) → H' b = some o := fun b o e n1 n2 => by
    rcases s b o e with z | ⟨_, _, _, z, _⟩ | ⟨_, _, _, z, _⟩
    · exact z
    · exact absurd z (n1 _)
    · exact absurd z (n2 _)
  refine ⟨ps, st _ _ h1 (fun _ z => by cases z) (fun _ z => by cases z), h2, fun pos cv hc => ?_⟩
  obtain ⟨c, e1, e2⟩ := h3 pos cv hc
  exact ⟨c, e1, st _ _ e2 (fun _ z => by unfold LamX.CodeO at z; cases z) (fun _ z => by unfold LamX.CodeO at z; cases z)⟩
end
/-- v is an odd value made behind H0 -/
def Odd (K : PySem.W.Frag) (H0 H : Hp) (v : V) (d : PyData) : Prop := Gd d 3 20 ∧ ∀ H'', (∀ a o, H0 a = none → H a = some o → (∀ ps, o ≠ .tbl ps) → H'' a = some o) → NoRat H'' v ∧ Dx K H'' v d
theorem Odd.on {K : PySem.W.Frag} {H0 H H' : Hp} {D L : List Addr} {v : V} {d : PyData} (h : Odd K H0 H v d) (s : Sx D L H H') (hD : ∀ a ∈ D, H0 a ≠ none) (hL : ∀ a ∈ L, H0 a ≠ none) : Odd K H0 H' v d :=
  ⟨h.1, fun H3 f => h.2 H3 fun a o e1 e2 nt => f a o e1 (by
    rcases s a o e2 nt with e | ⟨m, _⟩ | ⟨m, _⟩
    · exact e
    · exact absurd e1 (hD _ m)
    · exact absurd e1 (hL _ m)) nt⟩
theorem Odd.no {K : PySem.W.Frag} {H0 H : Hp} {v : V} {d : PyData} (h : Odd K H0 H v d) : NoRat H v := (h.2 H fun _ _ _ e _ => e).1
theorem Odd.dx {K : PySem.W.Frag} {H0 H : Hp} {v : V} {d : PyData} (h : Odd K H0 H v d) : Dx K H v d := (h.2 H fun _ _ _ e _ => e).2
theorem shw_of {d : PyData} (h1 : d.showable = true := by decide +kernel) (h2 : d.depth ≤ 3 := by decide +kernel) (h3 : d.leavesShort 1921 = true := by decide +kernel) (h4 : d.bulk ≤ 20 := by decide +kernel) (h5 : PyData.strOk d.shown = true := by decide +kernel) : Gd d 3 20 := ⟨h1, h2, h3, h4, h5⟩
theorem odd_an {K : PySem.W.Frag} {H0 H : Hp} {v : V} {d : PyData} {n : String} (h : ∀ H, An H v n) (h1 : n ≠ "int") (h2 : n ≠ "tuple") (h3 : n ≠ "list") (hd : ∀ H, Dp K H v d) (nd : d.hasDict = false) (s : Gd d 3 20) : Odd K H0 H v d := ⟨s, fun H'' _ => ⟨.any (h H'') h1 h2 h3, .b (hd H'') nd⟩⟩
theorem odd_a {K : PySem.W.Frag} {H0 H : Hp} {a : Addr} {o : HO} {d : PyData} (n : H0 a = none) (e : H a = some o) (h : ∀ H'', H'' a = some o → NoRat H'' (.ref a) ∧ Dx K H'' (.ref a) d) (s : Gd d 3 20) (nt : ∀ ps, o ≠ .tbl ps := by exact fun ps z => by cases z) : Odd K H0 H (.ref a) d := ⟨s, fun H'' f => h H'' (f a o n e nt)⟩
section
variable {σ : L2.St} {H : Hp} {Q : List V → Hp → Prop} {rest : TA} {D : Ends}
theorem c_seq {t u : TS} (h : t { D with nx := u D } σ H) : tSeq t u D σ H := h
theorem s_lst {ta : TA} {g : TG} (h : ta σ H fun xs H1 => NL xs H1 fun x H1 => g x σ H1 D.nx) : tAsg (tLst ta) g D σ H := h
theorem c_c {v : V} (h : rest σ H fun vs H2 => Q (v :: vs) H2) : tCons (tC v) rest σ H Q := h
theorem c_nil (h : Q [] H) : tNil σ H Q := h
theorem c_tup {ta : TA} (xs : List V) (e : ∀ Q, ta σ H Q = Q xs H) (h : ∀ p H', H p = none → Sm [] [] H H' → H' p = some (.tup xs) → rest σ H' fun vs H2 => Q (.ref p :: vs) H2) (hl : xs.length ≤ 1000 := by decide) : tCons (tTup ta) rest σ H Q := by
  show ta σ H fun xs H1 => NT xs H1 fun x H1 => rest σ H1 fun vs H2 => Q (x :: vs) H2
  rw [e]
  exact nt_of h hl
theorem c_lst {ta : TA} (xs : List V) (e : ∀ Q, ta σ H Q = Q xs H) (h : ∀ p H', H p = none → Sm [] [] H H' → H' p = some (.lst xs) → rest σ H' fun vs H2 => Q (.ref p :: vs) H2) (hl : xs.length ≤ 1000 := by decide) : tCons (tLst ta) rest σ H Q := by
  show ta σ H fun xs H1 => NL xs H1 fun x H1 => rest σ H1 fun vs H2 => Q (x :: vs) H2
  rw [e]
  exact nl_of h hl
theorem c_dct (x : Str) (v : V) (h : ∀ p H', H p = none → Sm [] [] H H' → H' p = some (.dK [(.inr x, v)]) → rest σ H' fun vs H2 => Q (.ref p :: vs) H2) : tCons (tDisp [(tC (.str x), tC v)]) rest σ H Q := by
  intro p np
  refine ⟨upd_same, [(.inr x, v)], rfl, by simp, ?_⟩
  refine h p _ np (fun a o e => .inl ?_) upd_same
  have n1 : a ≠ p := ne_of_none e np
  rw [upd_ne n1, upd_ne n1]
  exact e
theorem c_tt {ta : TA} (xs : List V) (v : V) (h : ∀ p H', H p = none → Sm [] [] H H' → H' p = some (.tup xs) → ∀ q H2, H' q = none → Sm [] [] H' H2 → H2 q = some (.tup [.ref p, v]) → rest σ H2 fun vs H2 => Q (.ref q :: vs) H2) (e : ∀ Q, ta σ H Q = Q xs H := by exact fun _ => rfl) (hl : xs.length ≤ 1000 := by decide) :
    tCons (tTup (tCons (tTup ta) (tCons (tC v) tNil))) rest σ H Q := by
  show ta σ H fun xs H1 => NT xs H1 fun x H1 => NT [x, v] H1 fun x H1 => rest σ H1 fun vs H2 => Q (x :: vs) H2
  rw [e]
  refine nt_of (fun p H' np s hp => ?_) hl
  exact nt_of (fun q H2 nq s2 hq => h p H' np s hp q H2 nq s2 hq) (by simp)
theorem c_ret {te : TE} (h : te σ H D.rt) : tRet te D σ H := h
theorem c_call {sp : Sp} {dvs : List V} {E : XK} {t : TA} {Q : VK} (h : t σ H fun vs H1 => sp (vs ++ dvs) H1 Q E) : tCall sp dvs E t σ H Q := h
theorem c_var {i : Nat} {v : V} (e : σ[i]? = some (some v)) (h : rest σ H fun vs H2 => Q (v :: vs) H2) : tCons (tVar i) rest σ H Q := ⟨v, e, h⟩
theorem c_op {r : R2} {ta tb : TE} (h : ta σ H fun x H1 => tb σ H1 fun y H2 => r x y H2 fun v H3 => rest σ H3 fun vs H4 => Q (v :: vs) H4) : tCons (tOp r ta tb) rest σ H Q := h
theorem e_lst {ta : TA} {Q : VK} (h : ta σ H fun xs H1 => NL xs H1 Q) : tLst ta σ H Q := h
end
section
variable {P : Program} {w : World} {K : PySem.W.Frag} {mg : Str → Option Value} {base : Heap}
abbrev N_law_any : List Str := ["_law_pen_here", "_law_some"]
theorem sc_law_any : FnScope N_law_any ["_law_pen_here"] (defScope s_law_any) := ⟨rfl, rfl, rfl, by decide +kernel, rfl, by decide +kernel, by decide +kernel⟩
def spAny (K : PySem.W.Frag) : Sp := fun vs H Q _ => ∃ (p cl : Addr) (n : Nat), vs = [.ref p] ∧ Pen H p cl (n + 1) ∧ ∀ v d H', Sm [p] [] H H' → Pen H' p cl n → Odd K H H' v d → Q v H'
theorem ok_law_any (T : Tx K mg) : Cal P w K mg base CX0 3 "_law_any" (spAny K) := by
  have c_law_pick := ok_law_pick (P := P) (w := w) (base := base) T
  obtain ⟨fd, F⟩ := T.f_law_any
  refine cal0 F T.g_law_any sc_law_any (ps := ["_law_pen_here"]) (fun _ _ _ _ _ _ us hl => match us, hl with | [_], _ => rfl) (fun vs H Q E h => ?_) (fun cdv A outer s H vs Q E hr h => ?_)
  · obtain ⟨p, cl, n, rfl, _⟩ := h
    rfl
  · obtain ⟨p, cl, n, rfl, hp, k⟩ := h
    refine ⟨_, (pss_cons (ps_set (i := 1) sc_law_any.nd rfl (Or.inl rfl) (pe_lst (pa_cons pe_non (pa_cons pe_bl (pa_cons pe_str (pa_cons (pe_tup (pa_cons pe_int (pa_cons pe_int pa_nil))) (pa_cons (pe_tup (pa_cons pe_int (pa_cons (pe_un un_neg pe_int) pa_nil))) (pa_cons (pe_tup (pa_cons pe_int (pa_cons pe_bl pa_nil))) (pa_cons (pe_lst (pa_cons pe_int pa_nil)) (pa_cons (pe_tup (pa_cons pe_int (pa_cons pe_int (pa_cons pe_int pa_nil)))) (pa_cons (pe_disp (pps_cons pe_str pe_int pps_nil) (by rfl) (by rfl) (fun z => by cases z) (by decide)) (pa_cons (pe_tup (pa_cons pe_str (pa_cons pe_int pa_nil))) (pa_cons (pe_tup (pa_cons pe_non (pa_cons pe_int pa_nil))) (pa_cons (pe_tup (pa_cons pe_bl (pa_cons pe_int pa_nil))) pa_nil))))))))))))))
      (pss_one (ps_ret (pe_cal c_law_pick hr (by decide) pass0 (pa_cons (pv 0) (pa_cons (pe_op op_cat (pv 1) (pe_lst (pa_cons (pe_lst (pa_cons pe_int (pa_cons pe_bl pa_nil))) (pa_cons (pe_tup (pa_cons (pe_tup (pa_cons pe_int (pa_cons pe_int pa_nil))) (pa_cons pe_int pa_nil))) (pa_cons (pe_tup pa_nil) pa_nil))))) pa_nil)))))), ?_⟩
    refine c_seq (s_lst (c_c (c_c (c_c ?_))))
    refine c_tup [.int 1, .int 0] (fun _ => rfl) fun a1 H1 n1 s1 h1 => ?_
    refine c_tup [.int 1, .int (-2)] (fun Q => by simp only [tCons, tNil, tC, tUn, rU_int]) fun a2 H2 n2 s2 h2 => ?_
    refine c_tup [.int 1, .bl true] (fun _ => rfl) fun a3 H3 n3 s3 h3 => ?_
    refine c_lst [.int 1] (fun _ => rfl) fun a4 H4 n4 s4 h4 => ?_
    refine c_tup [.int 1, .int 2, .int 3] (fun _ => rfl) fun a5 H5 n5 s5 h5 => ?_
    refine c_dct "a" (.int 1) fun a6 H6 n6 s6 h6 => ?_
    refine c_tup [.str "1", .int 2] (fun _ => rfl) fun a7 H7 n7 s7 h7 => ?_
    refine c_tup [.non, .int 1] (fun _ => rfl) fun a8 H8 n8 s8 h8 => ?_
    refine c_tup [.bl true, .int 2] (fun _ => rfl) fun a9 H9 n9 s9 h9 => ?_
    refine c_nil (nl_of (fun b1 G1 m1 t1 g1 => ?_) (by simp))
    refine c_ret (c_call (c_var rfl (c_op ⟨_, rfl, ?_⟩)))
    refine e_lst (c_lst [.int 2, .bl false] (fun _ => rfl) fun aa Ha na sa ha => ?_)
    refine c_tt [.int 1, .int 2] (.int 3) fun ai Hi ni si hi aj Hj nj sj hj => ?_
    refine c_tup [] (fun _ => rfl) fun ak Hk nk sk hk => ?_
    refine c_nil (nl_of (fun b2 G2 m2 t2 g2 => ?_) (by simp))
    have e_H1 : Sm [] [] H H1 := s1
    have e_H2 : Sm [] [] H H2 := (e_H1.trans s2)
    have e_H3 : Sm [] [] H H3 := (e_H2.trans s3)
    have e_H4 : Sm [] [] H H4 := (e_H3.trans s4)
    have e_H5 : Sm [] [] H H5 := (e_H4.trans s5)
    have e_H6 : Sm [] [] H H6 := (e_H5.trans s6)
    have e_H7 : Sm [] [] H H7 := (e_H6.trans s7)
    have e_H8 : Sm [] [] H H8 := (e_H7.trans s8)
    have e_H9 : Sm [] [] H H9 := (e_H8.trans s9)
    have e_G1 : Sm [] [] H G1 := (e_H9.trans t1)
    have e_Ha : Sm [] [] H Ha := (e_G1.trans sa)
    have e_Hi : Sm [] [] H Hi := (e_Ha.trans si)
    have e_Hj : Sm [] [] H Hj := (e_Hi.trans sj)
    have e_Hk : Sm [] [] H Hk := (e_Hj.trans sk)
    have e_G2 : Sm [] [] H G2 := (e_Hk.trans t2)
    refine ⟨b1, b2, _, _, rfl, rfl, t2.lst (sk.lst (sj.lst (si.lst (sa.lst g1 List.not_mem_nil) List.not_mem_nil) List.not_mem_nil) List.not_mem_nil) List.not_mem_nil, g2, Nat.le_of_lt (small1000 (by simp)), fun b3 m3 => ?_⟩
    have t3 : Sm [] [] G2 (upd G2 b3 (.lst ([V.non, V.bl true, V.str "1", V.ref a1, V.ref a2, V.ref a3, V.ref a4, V.ref a5, V.ref a6, V.ref a7, V.ref a8, V.ref a9] ++ [V.ref aa, V.ref aj, V.ref ak]))) := Sm.new m3
    refine c_nil ⟨p, cl, b3, _, n, rfl, upd_same, by simp, by simp, hp.m (e_G2.trans t3), fun v H' s' hp' hv => ?_⟩
    generalize upd G2 b3 _ = G3 at *
    have r_G3 : Sm [p] [] G3 H' := s'
    have r_G2 : Sm [p] [] G2 H' := t3.any.trans r_G3
    have r_Hk : Sm [p] [] Hk H' := t2.any.trans r_G2
    have r_Hj : Sm [p] [] Hj H' := sk.any.trans r_Hk
    have r_Hi : Sm [p] [] Hi H' := sj.any.trans r_Hj
    have r_Ha : Sm [p] [] Ha H' := si.any.trans r_Hi
    have r_G1 : Sm [p] [] G1 H' := sa.any.trans r_Ha
    have r_H9 : Sm [p] [] H9 H' := t1.any.trans r_G1
    have r_H8 : Sm [p] [] H8 H' := s9.any.trans r_H9
    have r_H7 : Sm [p] [] H7 H' := s8.any.trans r_H8
    have r_H6 : Sm [p] [] H6 H' := s7.any.trans r_H7
    have r_H5 : Sm [p] [] H5 H' := s6.any.trans r_H6
    have r_H4 : Sm [p] [] H4 H' := s5.any.trans r_H5
    have r_H3 : Sm [p] [] H3 H' := s4.any.trans r_H4
    have r_H2 : Sm [p] [] H2 H' := s3.any.trans r_H3
    have r_H1 : Sm [p] [] H1 H' := s2.any.trans r_H2
    have sF : Sm [p] [] H H' := s1.any.trans r_H1
    have pH : H p ≠ none := by
      obtain ⟨ns, at_, dg, co, fo, h1, _⟩ := hp
      rw [h1]; simp
    have np6 : a6 ∉ [p] := fun m => pH (by rw [← List.mem_singleton.mp m]; exact e_H5.free n6)
    clear s1 s2 s3 s4 s5 s6 s7 s8 s9 t1 sa si sj sk t2 t3 s' g1 g2
    simp only [List.cons_append, List.nil_append, List.mem_cons, List.not_mem_nil, or_false] at hv
    rcases hv with rfl | rfl | rfl | rfl | rfl | rfl | rfl | rfl | rfl | rfl | rfl | rfl | rfl | rfl | rfl
    · exact k _ .none H' sF hp' (odd_an (fun _ => .non) (by decide) (by decide) (by decide) (fun _ => .non) rfl shw_of)
    · exact k _ (.bool true) H' sF hp' (odd_an (fun _ => .bl _) (by decide) (by decide) (by decide) (fun _ => .bl _) rfl shw_of)
    · exact k _ (.str "1") H' sF hp' (odd_an (fun _ => .str _) (by decide) (by decide) (by decide) (fun _ => .str _) rfl shw_of)
    · exact k _ (.tuple [.int 1, .int 0]) H' sF hp' (odd_a n1 (r_H1.tup h1) (fun H'' h => ⟨.two (.inl h) (.int _) (.int _) (.inr (.inr ⟨0, rfl, by decide⟩)), .b (.tup (L2.SqT.of h) (.cons (.int _) (.cons (.int _) .nil))) rfl⟩) shw_of)
    · exact k _ (.tuple [.int 1, .int (-2)]) H' sF hp' (odd_a (e_H1.free n2) (r_H2.tup h2) (fun H'' h => ⟨.two (.inl h) (.int _) (.int _) (.inr (.inr ⟨-2, rfl, by decide⟩)), .b (.tup (L2.SqT.of h) (.cons (.int _) (.cons (.int _) .nil))) rfl⟩) shw_of)
    · exact k _ (.tuple [.int 1, .bool true]) H' sF hp' (odd_a (e_H2.free n3) (r_H3.tup h3) (fun H'' h => ⟨.two (.inl h) (.int _) (.bl _) (.inr (.inl rfl)), .b (.tup (L2.SqT.of h) (.cons (.int _) (.cons (.bl _) .nil))) rfl⟩) shw_of)
    · exact k _ (.list [.int 1]) H' sF hp' (odd_a (e_H3.free n4) (r_H4.lst h4 List.not_mem_nil) (fun H'' h => ⟨.len (.inr h) (by decide), .b (.lst (L2.SqL.of h) (.cons (.int _) .nil)) rfl⟩) shw_of)
    · exact k _ (.tuple [.int 1, .int 2, .int 3]) H' sF hp' (odd_a (e_H4.free n5) (r_H5.tup h5) (fun H'' h => ⟨.len (.inl h) (by decide), .b (.tup (L2.SqT.of h) (.cons (.int _) (.cons (.int _) (.cons (.int _) .nil)))) rfl⟩) shw_of)
    · exact k _ (.dict [(.str "a", .int 1)]) H' sF hp' (odd_a (e_H5.free n6) (r_H6.dct h6 np6) (fun H'' h => ⟨.any (.dK h) (by decide) (by decide) (by decide), .abc h⟩) shw_of)
    · exact k _ (.tuple [.str "1", .int 2]) H' sF hp' (odd_a (e_H6.free n7) (r_H7.tup h7) (fun H'' h => ⟨.two (.inl h) (.str _) (.int _) (.inl rfl), .b (.tup (L2.SqT.of h) (.cons (.str _) (.cons (.int _) .nil))) rfl⟩) shw_of)
    · exact k _ (.tuple [.none, .int 1]) H' sF hp' (odd_a (e_H7.free n8) (r_H8.tup h8) (fun H'' h => ⟨.two (.inl h) .non (.int _) (.inl rfl), .b (.tup (L2.SqT.of h) (.cons .non (.cons (.int _) .nil))) rfl⟩) shw_of)
    · exact k _ (.tuple [.bool true, .int 2]) H' sF hp' (odd_a (e_H8.free n9) (r_H9.tup h9) (fun H'' h => ⟨.two (.inl h) (.bl _) (.int _) (.inl rfl), .b (.tup (L2.SqT.of h) (.cons (.bl _) (.cons (.int _) .nil))) rfl⟩) shw_of)
    · exact k _ (.list [.int 2, .bool false]) H' sF hp' (odd_a (e_G1.free na) (r_Ha.lst ha List.not_mem_nil) (fun H'' h => ⟨.two (.inr h) (.int _) (.bl _) (.inr (.inl rfl)), .b (.lst (L2.SqL.of h) (.cons (.int _) (.cons (.bl _) .nil))) rfl⟩) shw_of)
    · refine k _ (.tuple [.tuple [.int 1, .int 2], .int 3]) H' sF hp' ⟨shw_of, fun H'' f => ?_⟩
      have f1 := f ai _ (e_Ha.free ni) (r_Hi.tup hi) (fun _ z => by cases z)
      have f2 := f aj _ (e_Hi.free nj) (r_Hj.tup hj) (fun _ z => by cases z)
      exact ⟨.two (.inl f2) (.tup f1) (.int _) (.inl rfl), .b (.tup (L2.SqT.of f2) (.cons (.tup (L2.SqT.of f1) (.cons (.int _) (.cons (.int _) .nil))) (.cons (.int _) .nil))) rfl⟩
    · exact k _ (.tuple []) H' sF hp' (odd_a (e_Hj.free nk) (r_Hk.tup hk) (fun H'' h => ⟨.len (.inl h) (by decide), .b (.tup (L2.SqT.of h) .nil) rfl⟩) shw_of)
end
end G3
end
section
set_option maxHeartbeats 4000000
namespace G3
open PySem PySem.Spec PyProof.Rows L2
local macro_rules | `(tactic| walk_at "rd") => `(tactic| simp only [wipe, sDPut, tDGet, tDisp, tPairs, tBM0, tBM, tBreak, sFld, tPar3, tRevL, tLstRg, tRg1, tRg2, gSub, rSetL,  tSl, tNoPart, tPart, iRng1, iRng2, iRng3, tRevT, tLc_eq, tFor_eq, iEnumT, iSeq, iList, iTup, RZ.iZipA, tFld_eq, tMeth, tVar, tC, tOp, tUn, tCons, tNil, tCB, tCall, tRet, tSeq, tAsg, gName, tIfS, tIf, tTest, tB, tNot, tAnd, tOr, tNotV, tAndV, tOrV, rI0_int, rI_int, rU_int, rEq_int, rNe_int, tPar, tNext, tDrop, tTup_nt, tLst_nl, tMkBN, tMkBR, cxOf_K, L2.start, List.map_cons, List.map_nil, List.length_cons, List.length_nil, List.cons_append, List.nil_append, List.append_nil, List.replicate_succ, List.replicate_zero, Nat.reduceAdd, Nat.reduceSub, Nat.sub_self, List.getElem?_cons_zero, List.getElem?_cons_succ, List.set_cons_zero, List.set_cons_succ, Option.some.injEq, V.int.injEq, V.bl.injEq, exists_eq_left', exists_eq_left, exists_eq_right, exists_eq_right', true_and, and_true, if_true, if_false, ite_true, ite_false, Bool.false_eq_true, Bool.not_true, Bool.not_false, reduceIte])
local macro_rules | `(tactic| walk_at "ix") => `(tactic| repeat (first | refine Sq.ix (by assumption) (by rfl) ?_ | (walk_at "rd"; refine ⟨Sz.mul (by assumption) (by assumption), ?_⟩)))
theorem rs_ms {H : Hp} {acc : List V} {l : List Rat} {m : Nat} (hl : acc.length = l.length) (hr : ∀ (i : Nat) (v : V), acc[i]? = some v → IsM H v m (cf l i)) (hm : m ≤ 4400) : Rs H acc l := ⟨hl, fun i v e => (hr i v e).r hm⟩
theorem IsM.mL {D : Addr} {Dm : List Addr} {H H' : Hp} {v : V} {m : Nat} {q : Rat} (h : IsM H v m q) (n : ∀ c, v = .ref c → c ≠ D) (s : Sm Dm [D] H H') : IsM H' v m q := by
  obtain ⟨a, b, x, y, z, e⟩ := h
  refine ⟨a, b, ?_, y, z, e⟩
  cases x with
  | int a => exact .int a
  | sq h hb =>
    refine .sq ?_ hb
    rcases h with h | h
    · exact .inl (s.tup h)
    · exact .inr (s.lst h fun z => n _ rfl (List.mem_singleton.mp z))
theorem cf_zeros (l : List Rat) (k i : Nat) : cf (l ++ List.replicate k 0) i = cf l i := by
  unfold cf
  rw [List.getD_eq_getElem?_getD, List.getD_eq_getElem?_getD]
  by_cases hi : i < l.length
  · rw [List.getElem?_append_left hi]
  · rw [List.getElem?_append_right (by omega), List.getElem?_eq_none (by omega : l.length ≤ i), List.getElem?_replicate]
    split <;> rfl
theorem isR_zero (H : Hp) : IsR H (.int 0) 0 := ⟨0, 1, .int 0, Nat.two_pow_pos _, Nat.one_lt_two_pow (by decide), rfl⟩
theorem rs_zero {H : Hp} {acc : List V} {l : List Rat} (h : Rs H acc l) (k : Nat) : Rs H (acc ++ List.replicate k (.int 0)) (l ++ List.replicate k 0) := by
  refine ⟨by simp [h.1], fun i v e => ?_⟩
  rw [cf_zeros]
  by_cases hi : i < acc.length
  · rw [List.getElem?_append_left hi] at e
    exact h.2 i v e
  · rw [List.getElem?_append_right (by omega)] at e
    obtain ⟨h1, h2⟩ := List.getElem?_eq_some_iff.mp e
    rw [List.getElem_replicate] at h2
    subst h2
    rw [show cf l i = 0 by
      unfold cf
      rw [List.getD_eq_getElem?_getD, List.getElem?_eq_none (by rw [← h.1]; omega)]
      rfl]
    exact isR_zero H
theorem strip_zero {l : List Rat} (h : Nf l) (k : Nat) : strip (l ++ List.replicate k 0) = l := by
  rw [strip_ext (b := l) (cf_zeros l k), strip_nf h]
section
variable {P : Program} {w : World} {K : PySem.W.Frag} {mg : Str → Option Value} {base : Heap}
abbrev N_law_made_poly : List Str := ["_law_pen_here", "_law_one", "_law_numbers", "_law_number"]
theorem sc_law_made_poly : FnScope N_law_made_poly ["_law_pen_here", "_law_one"] (defScope s_law_made_poly) := ⟨rfl, rfl, rfl, by decide +kernel, rfl, by decide +kernel, by decide +kernel⟩
def spMadeL (K : PySem.W.Frag) : Sp := fun vs H Q _ => ∃ (p cl : Addr) (u : V) (l : List Rat) (n m : Nat), vs = [.ref p, u] ∧ Pen H p cl (n + 200) ∧ LQ H u l ∧ Nf l ∧ Hl m l ∧ l.length ≤ 20 ∧ m ≤ 4000 ∧ ∀ v H', Sm [p] [] H H' → Pen H' p cl n → PoV (He.ga K "Poly") H' v l → Q v H'
theorem ok_law_made_poly (T : Tx K mg) : Cal P w K mg base CX0 8 "_law_made_poly" (spMadeL K) := by
  have c_law_draw := ok_law_draw (P := P) (w := w) (base := base) T
  have c_law_pick := ok_law_pick (P := P) (w := w) (base := base) T
  have c_law_passed := ok_law_passed (P := P) (w := w) (base := base) T
  have c_init := ok_init (P := P) (w := w) (base := base) T
  obtain ⟨fd, F⟩ := T.f_law_made_poly
  refine cal0 F T.g_law_made_poly sc_law_made_poly (ps := ["_law_pen_here", "_law_one"]) (fun _ _ _ _ _ _ us hl => match us, hl with | [_, _], _ => rfl) (fun vs H Q E h => ?_) (fun cdv A outer s H vs Q E hr h => ?_)
  · obtain ⟨p, cl, u, l, n, m, rfl, _⟩ := h
    rfl
  · obtain ⟨p, cl, u, l, n, m, rfl, hp, hu, nf, hl, ll, hm, k⟩ := h
    refine ⟨_, (pss_cons (ps_set (i := 2) sc_law_made_poly.nd rfl (Or.inl rfl) (pe_op op_cat (pe_lc (own := [("_law_number", 3)]) rfl sc_law_made_poly.nd (pi_list (pv 1)) (blkOk_by (own := [("_law_number", 3)]) (N := N_law_made_poly) (sc := defScope s_law_made_poly) (by decide +kernel)) (fun _ _ _ _ _ => (pg_name (i := 3) sc_law_made_poly.nd rfl (Or.inl rfl) (Or.inr rfl))) (fun _ _ _ _ _ => pts_nil) (fun _ _ _ _ _ => (pe_cal c_law_passed hr (by decide) pass0 (pa_cons (pv 0) (pa_cons (pv 3) pa_nil))))) (pe_op op_rep (pe_lst (pa_cons pe_int pa_nil)) (pe_cal c_law_draw hr (by decide) pass0 (pa_cons (pv 0) (pa_cons pe_int pa_nil))))))
      (pss_one (ps_ret (pe_poly T c_init hr (by decide) passL (pa_cons (pe_cal c_law_pick hr (by decide) pass0 (pa_cons (pv 0) (pa_cons (pe_lst (pa_cons (pe_callTy call_tuple_of (by rfl) T.b_tuple (by decide +kernel) (pa_cons (pv 2) pa_nil)) (pa_cons (pv 2) pa_nil))) pa_nil))) pa_nil))))), ?_⟩
    walk_at "rd"
    obtain ⟨a, us, rfl, ha, hq⟩ := hu
    refine ⟨a, rfl, ⟨us, L2.SqL.of ha⟩, fun D nD => ?_⟩
    have lv := hq.1
    refine lc_list' (walk_list (K := K) (a := a) (xs := us)) (Dm := [p]) (R := fun k v H => IsM H v (m + 2) (cf l k) ∧ ∀ c, v = .ref c → c ≠ D) (P := fun i H => Pen H p cl (n + 2 + 3 * (60 - i))) nD (by omega) ?_ (fun _ _ _ _ h s => ?_) ?_ (fun H s => L2.SqL.of (s.lst ha List.not_mem_nil)) ?_ ?_
    · exact (hp.m (Sm.new nD)).mono (by omega)
    · exact ⟨h.1.mL h.2 s, h.2⟩
    · intro i H2 xs ys hp2 hD
      exact hp2.put hD (hp.ne nD)
    · intro i x H3 H4 C hi s3 nD3 hp3 hy hc
      obtain ⟨rfl, hy⟩ := hy
      walk_at "rd"
      exact ⟨p, cl, _, _, m, n + 2 + 3 * (60 - (i + 1)), rfl, hp3.mono (by omega), (hq.get hy).m s3, hl i, hm, fun r H5 s5 hp5 hr5 hf => hc _ _ s5 ⟨hr5, fun c ec z => nD3 (by rw [← z]; exact hf c ec)⟩ hp5⟩
    · intro acc H3 s3 hD hl3 hr3 hp3
      have hp4 : Pen H3 p cl (n + 2) := hp3.mono (by omega)
      rw [lv] at hl3
      have hrs : Rs H3 acc l := rs_ms hl3 (fun i v e => (hr3 i v e).1) (by omega)
      refine nl_of (fun z0 H4 nz s4 hz => ?_) (by simp)
      refine dr (n := n + 1) (by decide) (by decide) (hp4.m s4) fun r H5 s5 hp5 r0 r1 => ?_
      have er : r = ((r.toNat : Nat) : Int) := by omega
      generalize r.toNat = rn at er
      subst er
      refine ⟨z0, _, [.int 0], rfl, rfl, s5.lst hz List.not_mem_nil, by omega, by omega, by rw [List.length_singleton, sizeLine_eq]; omega, fun c nc => ?_⟩
      rw [Int.toNat_natCast, rep_flat]
      have s6 : Sm [p] [] H5 (upd H5 c (.lst (List.replicate rn (.int 0)))) := Sm.new nc
      refine ⟨D, c, acc, _, rfl, rfl, s6.lst (s5.lst (s4.lst hD List.not_mem_nil) List.not_mem_nil) List.not_mem_nil, upd_same, by rw [List.length_replicate, sizeLine_eq]; omega, fun e ne => ?_⟩
      have hp6 := hp5.m (Sm.new (D := []) (L := []) (o := .lst (List.replicate rn (.int 0))) nc)
      generalize upd H5 c (.lst (List.replicate rn (.int 0))) = H6 at *
      have s7 : Sm [] [] H6 (upd H6 e (.lst (acc ++ List.replicate rn (.int 0)))) := Sm.new ne
      have he := upd_same (H := H6) (a := e) (o := .lst (acc ++ List.replicate rn (.int 0)))
      generalize upd H6 e (.lst (acc ++ List.replicate rn (.int 0))) = H7 at *
      have s37 : Sm [p] [] H3 H7 := ((s4.any.trans s5).trans s6).trans s7.any
      have hrs7 := rs_zero (hrs.m s37) rn
      have hlen : (acc ++ List.replicate rn (V.int 0)).length ≤ 30 := by rw [List.length_append, List.length_replicate]; omega
      generalize acc ++ List.replicate rn (V.int 0) = nums at *
      refine ⟨e, nums, rfl, .inl ⟨L2.SqL.of he, fun t nt => ?_⟩⟩
      have s8 : Sm [] [] H7 (upd H7 t (.tup nums)) := Sm.new nt
      refine nl_of (fun b H9 nb s9 hb => ?_) (by simp)
      have ht := s9.tup (upd_same (H := H7) (a := t) (o := .tup nums))
      have he9 := s9.lst (s8.lst he List.not_mem_nil) List.not_mem_nil
      refine ⟨p, cl, b, _, n, rfl, hb, by simp, by simp, ((hp6.m s7).m s8).m s9, fun v Ha sa hpa hv => ?_⟩
      have s7a : Sm [p] [] H7 Ha := (s8.any.trans s9.any).trans sa
      have hsq : ∃ x, v = .ref x ∧ Sq Ha x nums := by
        simp only [List.mem_cons, List.not_mem_nil, or_false] at hv
        rcases hv with rfl | rfl
        · exact ⟨t, rfl, .inl (sa.tup ht)⟩
        · exact ⟨e, rfl, .inr (sa.lst he9 List.not_mem_nil)⟩
      obtain ⟨x, rfl, hsx⟩ := hsq
      have hra := hrs7.m s7a
      refine ⟨_, rfl, .inl ⟨x, nums, _, rfl, hsx, hra, by rw [← hra.1]; omega, fun u Hb sb hu => ?_⟩⟩
      rw [strip_zero nf] at hu
      exact k u Hb (((s3.trans s37).trans s7a).trans sb.any) (hpa.m sb) hu
end
end G3
end
section
set_option maxHeartbeats 4000000
namespace G3
open PySem PySem.Spec PyProof.Rows L2
local macro_rules | `(tactic| walk_at "rd") => `(tactic| simp only [wipe, sDPut, tDGet, tDisp, tPairs, tBM0, tBM, tBreak, sFld, tPar3, tRevL, tLstRg, tRg1, tRg2, gSub, rSetL,  tSl, tNoPart, tPart, iRng1, iRng2, iRng3, tRevT, tLc_eq, tFor_eq, iEnumT, iSeq, iList, iTup, RZ.iZipA, tFld_eq, tMeth, tVar, tC, tOp, tUn, tCons, tNil, tCB, tCall, tRet, tSeq, tAsg, gName, tIfS, tIf, tTest, tB, tNot, tAnd, tOr, tNotV, tAndV, tOrV, rI0_int, rI_int, rU_int, rEq_int, rNe_int, tPar, tNext, tDrop, tTup_nt, tLst_nl, tMkBN, tMkBR, cxOf_K, L2.start, List.map_cons, List.map_nil, List.length_cons, List.length_nil, List.cons_append, List.nil_append, List.append_nil, List.replicate_succ, List.replicate_zero, Nat.reduceAdd, Nat.reduceSub, Nat.sub_self, List.getElem?_cons_zero, List.getElem?_cons_succ, List.set_cons_zero, List.set_cons_succ, Option.some.injEq, V.int.injEq, V.bl.injEq, exists_eq_left', exists_eq_left, exists_eq_right, exists_eq_right', true_and, and_true, if_true, if_false, ite_true, ite_false, Bool.false_eq_true, Bool.not_true, Bool.not_false, reduceIte])
local macro_rules | `(tactic| walk_at "ix") => `(tactic| repeat (first | refine Sq.ix (by assumption) (by rfl) ?_ | (walk_at "rd"; refine ⟨Sz.mul (by assumption) (by assumption), ?_⟩)))
/-- what _law_why answers of an exception -/
def EWhy (K : PySem.W.Frag) (Q : VK) : XK := fun cls d H' =>
  (∃ dd v z dv, cls = .ref (He.ga K "BadNumber") ∧ d = some dd ∧ H' dd = some (.xd [("number", v), ("what", .str z)]) ∧ Dr K H' v dv ∧ Shw dv ∧ ∀ p H'', Sm [] [] H' H'' → H'' p = some (.tup [.str "number", .str z, .str dv.shown]) → Q (.ref p) H'') ∨
  (∃ dd v dv, cls = .ref (He.ga K "BadRow") ∧ d = some dd ∧ H' dd = some (.xd [("row", v)]) ∧ Dr K H' v dv ∧ Shw dv ∧ ∀ p H'', Sm [] [] H' H'' → H'' p = some (.tup [.str "row", .str dv.shown]) → Q (.ref p) H'')
def TTwhy (K : PySem.W.Frag) : (XK → Hp → VK → Prop) → Hp → VK → Prop := fun tl H Q => tl (EWhy K Q) H (fun _ H' => Q .non H')
abbrev N_law_why : List Str := ["_law_call", "e"]
theorem sc_law_why : FnScope N_law_why ["_law_call"] (defScope s_law_why) := ⟨rfl, rfl, rfl, by decide +kernel, rfl, by decide +kernel, by decide +kernel⟩
theorem why_gives {X : Cx} {q : Str} {k : Nat} {g : Addr} {cdg : Value} (T : Tx X.K X.mg) (hgd : X.A.guards = some []) (hr : Room (k + 1) X.A) : LamX.GivesTo X N_law_why "_law_why" (defScope s_law_why) g cdg (defBody s_law_why) "_law_call" q (TTwhy X.K) := by
  intro f c' s H Q tl act hc h
  have hu : (X.A.deeper (envOfC "_law_why" (defScope s_law_why) s.heap.objs.size g cdg)).units + 64 < cLine := (hr.deeper _).units
  have mk : ∀ (a : Addr) (oe : Obj) (pn : List (Addr × Obj)), CallR ((cxOf C8.CX0 X.prog X.w X.K X.mg X.base N_law_why "_law_why" (defScope s_law_why) g cdg X.A X.stack s H C8.E0).nox.suite a ((a, oe) :: pn)) (.builtin "repr") (rReprX X.K) := fun a oe pn => call_reprX hgd hu
  have gB : Gl (cxOf C8.CX0 X.prog X.w X.K X.mg X.base N_law_why "_law_why" (defScope s_law_why) g cdg X.A X.stack s H C8.E0).nox "BadNumber" := by rfl
  have gR : Gl (cxOf C8.CX0 X.prog X.w X.K X.mg X.base N_law_why "_law_why" (defScope s_law_why) g cdg X.A X.stack s H C8.E0).nox "BadRow" := by rfl
  have gU : Gl (cxOf C8.CX0 X.prog X.w X.K X.mg X.base N_law_why "_law_why" (defScope s_law_why) g cdg X.A X.stack s H C8.E0).nox "Unlike" := by rfl
  refine ⟨_, pss_cons (ps_try_as3 (X := (cxOf C8.CX0 X.prog X.w X.K X.mg X.base N_law_why "_law_why" (defScope s_law_why) g cdg X.A X.stack s H C8.E0).nox) (n := "e") (i := 1)
      (tb := fun W D σ H => ∃ Ech : XK, (∀ cls d σ' H', Ech cls d H' → W cls d σ' H') ∧ σ[0]? = some (some (.ref f)) ∧ H c' = some (LamX.CodeO c' q) ∧ tl Ech H fun _ H' => D.nx σ H')
      rfl rfl sc_law_why.nd rfl rfl LamX.takes0 (fun W pn xe tk _ => ?_) (.cons ⟨gB, rfl, .inl T.g_BadNumber⟩ (fun a oe cls d pn hz hf => pss_one (ps_ret (pe_tup (pa_cons pe_str (pa_cons (pe_xf T.nn.xf (T.nn.nf "what" (by simp)) hz hf (pv 1)) (pa_cons (pe_callB (mk a oe pn) (by rfl) T.b_repr (by decide +kernel) (pa_cons (pe_xf T.nn.xf (T.nn.nf "number" (by simp)) hz hf (pv 1)) pa_nil)) pa_nil)))))) (.cons ⟨gR, rfl, .inl T.g_BadRow⟩ (fun a oe cls d pn hz hf => pss_one (ps_ret (pe_tup (pa_cons pe_str (pa_cons (pe_callB (mk a oe pn) (by rfl) T.b_repr (by decide +kernel) (pa_cons (pe_xf T.nr.xf (T.nr.nf "row" (by simp)) hz hf (pv 1)) pa_nil)) pa_nil))))) (.cons ⟨gU, rfl, .inl T.g_Unlike⟩ (fun a oe cls d pn hz hf => pss_one (ps_ret (pe_tup (pa_cons pe_str (pa_cons (pe_xf T.nn.xf (T.nn.nf "what" (by simp)) hz hf (pv 1)) pa_nil))))) .nil)))) (pss_one (ps_ret pe_non)), ?_⟩
  · refine ⟨fun pins s' σ H' D I h' => ?_⟩
    obtain ⟨Ech, hW, h1, h2, h3⟩ := h'
    exact (pss_one (ps_expr (act W pn xe Ech _ _ tk hW))).run pins s' σ H' D I ⟨h1, h2, h3⟩
  · refine ⟨EWhy X.K Q, fun cls d σ' H' z lσ => ?_, rfl, hc, h⟩
    have lσ : σ'.length = 2 := lσ
    obtain ⟨x0, x1, rfl⟩ : ∃ x0 x1, σ' = [x0, x1] := by
      match σ', lσ with
      | [x0, x1], _ => exact ⟨x0, x1, rfl⟩
    rcases z with ⟨dd, v, z, dv, rfl, rfl, hd, hv, sv, k⟩ | ⟨dd, v, dv, rfl, rfl, hd, hv, sv, k⟩
    · refine ⟨true, T.x_nn, fun _ a na => ?_, fun z => by cases z⟩
      refine ⟨.ref a, rfl, rfl, rfl, dd, _, .str z, rfl, hd, rfl, ?_⟩
      refine ⟨.ref a, rfl, rfl, rfl, dd, _, v, rfl, hd, rfl, ?_⟩
      exact ⟨v, dv, rfl, hv, sv, Nat.le_of_lt (small1000 (by simp)), fun p np => k p _ (Sm.new np) upd_same⟩
    · refine ⟨false, T.x_rn, (fun z => by cases z), fun _ _ => ⟨true, T.x_rr, fun _ a na => ?_, fun z => by cases z⟩⟩
      refine ⟨.ref a, rfl, rfl, rfl, dd, _, v, rfl, hd, rfl, ?_⟩
      exact ⟨v, dv, rfl, hv, sv, Nat.le_of_lt (small1000 (by simp)), fun p np => k p _ (Sm.new np) upd_same⟩
end G3
end
section
set_option maxHeartbeats 4000000
namespace G3
open PySem PySem.Spec PyProof.Rows L2
/-- what a lambda's body lets out is E's -/
theorem lam_px {X : Cx} {A : Around} {outer : List Env} {s : Shared} {H : Hp} {E : XK} {scope : Scope} {f c' : Addr} : Passes (L2.CX X.prog X.w) (LamX.lamCx X A outer s H E scope f c') E :=
  passes_call (X := LamX.lamCx X A outer s H E scope f c') (W := fun cls d _ H' => E cls d H') (takes_of (X := LamX.lamCx X A outer s H E scope f c') rfl rfl rfl rfl) fun _ _ _ _ h => h
/-- a captured slot that holds one of several defs -/
theorem pe_callX {X : Cx} {CX : CXT} {j k i : Nat} {x : Str} {E : XK} {p pos : Pos} {e : Expr} {es : List Expr} {t : TA} (hr : Room j X.A) (hk : k ≤ j) (hx : Passes CX X E) (hN : X.N[i]? = some x) (hv : Vis X.env.scope x) (ha : PA X (e :: es) t)
    (hdb : (x == ("__debug__" : Str)) = false := by decide) (hcd : (x == ("__classdict__" : Str)) = false := by decide)
    (he : starEach (e :: es) X.env = (false, eval e X.env) :: starEach es X.env := by rfl) (hpl : (backTo pos (starEach es X.env)).any (·.1) = false := by rfl) :
    PE X (.Call (.Name x p) (e :: es) [] pos) (fun σ H Q => ∃ f y sp, σ[i]? = some (some (.ref f)) ∧ X.mg y = some (.ref f) ∧ Cal X.prog X.w X.K X.mg X.base CX k y sp ∧ t σ H fun vs H1 => sp vs H1 Q E) := by
  refine ⟨fun pins s σ H Q I h => ?_⟩
  obtain ⟨f, y, sp, hs, hy, c, ht⟩ := h
  obtain ⟨f', fd, ps, F, hm, kp, b⟩ := c.ex
  rw [hy] at hm
  cases hm
  refine (pe_callL (i := i) (f := f) (sp := sp) (dvs := []) (E := E) F (hr.mono hk) hN hv kp b .nil hx ha hdb hcd he hpl).run pins s σ H Q I ⟨hs, ?_⟩
  have e0 : (fun (vs : List V) (H1 : Hp) => sp (vs ++ []) H1 Q E) = fun vs H1 => sp vs H1 Q E := by
    funext vs H1
    rw [List.append_nil]
  show t σ H (fun vs H1 => sp (vs ++ []) H1 Q E)
  rw [e0]
  exact ht
theorem pe_callY {X : Cx} {P : Program} {w : World} {K : PySem.W.Frag} {mg : Str → Option Value} {base : Heap} {j k i : Nat} {x : Str} {E : XK} {p pos : Pos} {e : Expr} {es : List Expr} {t : TA} (h1 : X.prog = P) (h2 : X.w = w) (h3 : X.K = K) (h4 : X.mg = mg) (h5 : X.base = base)
    (hr : Room j X.A) (hk : k ≤ j) (hx : Passes (L2.CX X.prog X.w) X E) (hN : X.N[i]? = some x) (hv : Vis X.env.scope x) (ha : PA X (e :: es) t)
    (hdb : (x == ("__debug__" : Str)) = false := by decide) (hcd : (x == ("__classdict__" : Str)) = false := by decide)
    (he : starEach (e :: es) X.env = (false, eval e X.env) :: starEach es X.env := by rfl) (hpl : (backTo pos (starEach es X.env)).any (·.1) = false := by rfl) :
    PE X (.Call (.Name x p) (e :: es) [] pos) (fun σ H Q => ∃ f y sp, σ[i]? = some (some (.ref f)) ∧ mg y = some (.ref f) ∧ Cal P w K mg base (L2.CX P w) k y sp ∧ t σ H fun vs H1 => sp vs H1 Q E) := by
  subst h1 h2 h3 h4 h5
  exact pe_callX hr hk hx hN hv ha hdb hcd he hpl
theorem pe_callZ {Y : Cx} {A : Around} {outer : List Env} {s : Shared} {H : Hp} {E : XK} {scope : Scope} {f c' : Addr} {j k i : Nat} {x : Str} {p pos : Pos} {e : Expr} {es : List Expr} {t : TA} (hr : Room j (A.deeper (LamX.lamEnv Y scope s.heap.objs.size f c'))) (hk : k ≤ j)
    (hN : Y.N[i]? = some x) (hv : Vis scope x) (ha : PA (LamX.lamCx Y A outer s H E scope f c') (e :: es) t)
    (hdb : (x == ("__debug__" : Str)) = false := by decide) (hcd : (x == ("__classdict__" : Str)) = false := by decide)
    (he : starEach (e :: es) (LamX.lamEnv Y scope s.heap.objs.size f c') = (false, eval e (LamX.lamEnv Y scope s.heap.objs.size f c')) :: starEach es (LamX.lamEnv Y scope s.heap.objs.size f c') := by rfl) (hpl : (backTo pos (starEach es (LamX.lamEnv Y scope s.heap.objs.size f c'))).any (·.1) = false := by rfl) :
    PE (LamX.lamCx Y A outer s H E scope f c') (.Call (.Name x p) (e :: es) [] pos) (fun σ H Q => ∃ f y sp, σ[i]? = some (some (.ref f)) ∧ Y.mg y = some (.ref f) ∧ Cal Y.prog Y.w Y.K Y.mg Y.base (L2.CX Y.prog Y.w) k y sp ∧ t σ H fun vs H1 => sp vs H1 Q E) :=
  pe_callX (X := LamX.lamCx Y A outer s H E scope f c') hr hk lam_px hN hv ha hdb hcd he hpl
theorem pe_polyK {X : Cx} {CX : CXT} {K : PySem.W.Frag} {j k : Nat} {E : XK} {p pos : Pos} {e : Expr} {es : List Expr} {t : TA} (hK : X.K = K) (T : Tx X.K X.mg) (c : MkC X.prog X.w X.K X.mg X.base CX k (He.ga X.K "Poly") (spInit (He.ga X.K "Poly") "numbers" (SPoly (He.ga X.K "BadRow")))) (hr : Room j X.A) (hk : k + 1 ≤ j) (hx : Passes CX X E) (ha : PA X (e :: es) t)
    (hg : Gl X "Poly" := by rfl) (he : starEach (e :: es) X.env = (false, eval e X.env) :: starEach es X.env := by rfl) (hpl : (backTo pos (starEach es X.env)).any (·.1) = false := by rfl) :
    PE X (.Call (.Name "Poly" p) (e :: es) [] pos) (tCall (spPoly (He.ga K "Poly") (He.ga K "BadRow")) [] E t) := by
  subst hK
  exact pe_poly T c hr hk hx ha hg he hpl
/-- _law_why(lambda: body) -/
theorem pe_why {X : Cx} {Tt : List (Addr × Str)} {c P : Addr} {k : Nat} {params : Arguments} {body : Expr} {scope : Scope} {t : XK → TE} {p lpos pos : Pos} (T : Tx X.K X.mg) (hgd : X.A.guards = some []) (hr : Room (k + 2) X.A)
    (TB : LamX.TabB X.base X.mg c P) (hcode : X.env.code = .ref c) (hmT : (P, X.env.qual ++ "<lambda>") ∈ Tt) (hu : ∀ p ∈ Tt, p.1 = P → p.2 = X.env.qual ++ "<lambda>") (L : LamX.LamS X.env.scope scope)
    (hbody : ∀ (A : Around) (outer : List Env) (s : Shared) (H : Hp) (E : XK) (f c' : Addr), Room k (A.deeper (LamX.lamEnv X scope s.heap.objs.size f c')) → PE (LamX.lamCx X A outer s H E scope f c') body (t E)) (hg : Gl X "_law_why" := by rfl) (hdef : defaultsOf params X.env = ([], []) := by rfl)
    (hbind : ∀ (q : Str) (cl : List (Str × Addr)) (pm cv ctv : Value), bindArgs (PySem.W.kla_fn "<lambda>" q params body scope cl pm cv ctv) ⟨[], []⟩ = pure [] := by exact fun _ _ _ _ _ => rfl) :
    PE X (.Call (.Name "_law_why" p) [.Lambda params body scope lpos] [] pos) (LamX.tLam Tt (TTwhy X.K) t) := by
  obtain ⟨fd, F⟩ := T.f_law_why
  have B := F.bindsN (ps := ["_law_call"]) (fun _ _ _ _ _ _ us hl => match us, hl with | [_], _ => rfl)
  have kp := F.kp
  obtain ⟨oc, od, dV, kV, doc, pm, an, cdv, ct, osl, rfl, lk, hcd, _, _⟩ := F.ex
  exact LamX.pe_lamcall (Ng := N_law_why) hg T.g_law_why kp lk hcd B sc_law_why rfl (.inl rfl) (why_gives (k := k + 1) T hgd hr) TB hcode hmT hu hr L hdef hbind hbody
end G3
end
section
set_option maxHeartbeats 4000000
namespace G3
open PySem PySem.Spec PyProof.Rows L2
local macro_rules | `(tactic| walk_at "rd") => `(tactic| simp only [wipe, sDPut, tDGet, tDisp, tPairs, tBM0, tBM, tBreak, sFld, tPar3, tRevL, tLstRg, tRg1, tRg2, gSub, rSetL,  tSl, tNoPart, tPart, iRng1, iRng2, iRng3, tRevT, tLc_eq, tFor_eq, iEnumT, iSeq, iList, iTup, RZ.iZipA, tFld_eq, tMeth, tVar, tC, tOp, tUn, tCons, tNil, tCB, tCall, tRet, tSeq, tAsg, gName, tIfS, tIf, tTest, tB, tNot, tAnd, tOr, tNotV, tAndV, tOrV, rI0_int, rI_int, rU_int, rEq_int, rNe_int, tPar, tNext, tDrop, tTup_nt, tLst_nl, tMkBN, tMkBR, cxOf_K, L2.start, List.map_cons, List.map_nil, List.length_cons, List.length_nil, List.cons_append, List.nil_append, List.append_nil, List.replicate_succ, List.replicate_zero, Nat.reduceAdd, Nat.reduceSub, Nat.sub_self, List.getElem?_cons_zero, List.getElem?_cons_succ, List.set_cons_zero, List.set_cons_succ, Option.some.injEq, V.int.injEq, V.bl.injEq, exists_eq_left', exists_eq_left, exists_eq_right, exists_eq_right', true_and, and_true, if_true, if_false, ite_true, ite_false, Bool.false_eq_true, Bool.not_true, Bool.not_false, reduceIte])
local macro_rules | `(tactic| walk_at "ix") => `(tactic| repeat (first | refine Sq.ix (by assumption) (by rfl) ?_ | (walk_at "rd"; refine ⟨Sz.mul (by assumption) (by assumption), ?_⟩)))
section
variable {P : Program} {w : World} {K : PySem.W.Frag} {mg : Str → Option Value} {base : Heap}
abbrev N_law_made_right : List Str := ["_law_pen_here", "_law_numbers", "_law_due", "_law_kept", "_law_made", "_law_odd", "_law_given", "_law_strange", "_law_k", "_law_number"]
theorem sc_law_made_right : FnScope N_law_made_right ["_law_pen_here"] (defScope s_law_made_right) := ⟨rfl, rfl, rfl, by decide +kernel, rfl, by decide +kernel, by decide +kernel⟩
theorem dpAll_strs {K : PySem.W.Frag} {H : Hp} : ∀ xs : List Str, DpAll K H (xs.map V.str) (xs.map PyData.str)
  | [] => .nil
  | x :: r => .cons (.str x) (dpAll_strs r)
theorem shaped_strs (xs : List Str) (ok : ∀ x ∈ xs, PyData.strOk x = true) : SeqAt.shaped (.tuple (xs.map PyData.str)) = true := by
  have h1 : PyData.canLayAll0 (xs.map PyData.str) = true ∧ PyData.depthAll (xs.map PyData.str) = 0 := by
    induction xs with
    | nil => exact ⟨rfl, rfl⟩
    | cons x r ih =>
      obtain ⟨a, b⟩ := ih fun y hy => ok y (List.mem_cons_of_mem _ hy)
      refine ⟨?_, ?_⟩
      · simp only [List.map_cons, PyData.canLayAll0, PyData.canLay0, a, ok x List.mem_cons_self, Bool.and_self]
      · simp only [List.map_cons, PyData.depthAll, PyData.depth, b, Nat.max_self]
  unfold SeqAt.shaped
  rw [Bool.and_eq_true]
  refine ⟨by simpa only [PyData.canLay0] using h1.1, decide_eq_true ?_⟩
  simp only [PyData.depth, h1.2]
  omega
theorem eq_strs {K : PySem.W.Frag} {H : Hp} {a b : Addr} {Q : VK} (xs : List Str) (h1 : H a = some (.tup (xs.map V.str))) (h2 : H b = some (.tup (xs.map V.str))) (ok : ∀ x ∈ xs, PyData.strOk x = true) (q : Q (.bl true) H) : rEqD K (.ref a) (.ref b) H Q := by
  have sh := shaped_strs xs ok
  refine ⟨_, _, .tup (L2.SqT.of h1) (dpAll_strs xs), .tup (L2.SqT.of h2) (dpAll_strs xs), sh, sh, ?_⟩
  rw [SeqAt.eqv_refl _ (SeqAt.canLay_of_shaped sh)]
  exact q
theorem ne_strs {K : PySem.W.Frag} {H : Hp} {a b : Addr} {Q : VK} (xs : List Str) (h1 : H a = some (.tup (xs.map V.str))) (h2 : H b = some (.tup (xs.map V.str))) (ok : ∀ x ∈ xs, PyData.strOk x = true) (q : Q (.bl false) H) : rNeD K (.ref a) (.ref b) H Q := by
  have sh := shaped_strs xs ok
  refine ⟨_, _, .tup (L2.SqT.of h1) (dpAll_strs xs), .tup (L2.SqT.of h2) (dpAll_strs xs), sh, sh, ?_⟩
  rw [SeqAt.eqv_refl _ (SeqAt.canLay_of_shaped sh)]
  exact q
theorem ne_str {K : PySem.W.Frag} {H : Hp} {Q : VK} {x : Str} (ok : PyData.strOk x = true) (q : Q (.bl false) H) : rNeD K (.str x) (.str x) H Q := by
  have sh : SeqAt.shaped (.str x) = true := by
    unfold SeqAt.shaped
    rw [Bool.and_eq_true]
    exact ⟨by simpa only [PyData.canLay0] using ok, decide_eq_true (by simp only [PyData.depth]; omega)⟩
  refine ⟨_, _, .str x, .str x, sh, sh, ?_⟩
  rw [SeqAt.eqv_refl _ (SeqAt.canLay_of_shaped sh)]
  exact q
theorem Sx.drop {D L : List Addr} {a : Addr} {H H' : Hp} (s : Sx D (a :: L) H H') (h : H a = none) : Sx D L H H' := fun b u e n => by
  rcases s b u e n with h | h | ⟨m, h2⟩
  · exact .inl h
  · exact .inr (.inl h)
  · rcases List.mem_cons.mp m with z | m
    · rw [z, h] at e; cases e
    · exact .inr (.inr ⟨m, h2⟩)
theorem IsM.xL {D : Addr} {Dm : List Addr} {H H' : Hp} {v : V} {m : Nat} {q : Rat} (h : IsM H v m q) (n : ∀ c, v = .ref c → c ≠ D) (s : Sx Dm [D] H H') : IsM H' v m q := by
  obtain ⟨a, b, x, y, z, e⟩ := h
  refine ⟨a, b, ?_, y, z, e⟩
  cases x with
  | int a => exact .int _
  | sq h hb =>
    refine .sq ?_ hb
    rcases h with h | h
    · exact .inl (s.tup h)
    · exact .inr (s.lst h fun z => n _ rfl (List.mem_singleton.mp z))
theorem IsM.dat2 {K : PySem.W.Frag} {D : Addr} {H : Hp} {v : V} {m : Nat} {q : Rat} (h : IsM H v m q) (n : ∀ c, v = .ref c → c ≠ D) (hm : m ≤ 1920) : ∃ d, d.hasDict = false ∧ d.canLay0 = true ∧ Gd d 1 2 ∧ ∀ Dm H', Sx Dm [D] H H' → Dp K H' v d := by
  obtain ⟨a, b, x, ha, hb, _⟩ := h
  cases x with
  | int _ => exact ⟨.int _, rfl, rfl, (gd_int ha hm).w (by decide) (by decide), fun _ _ _ => .int _⟩
  | sq h hp =>
    rcases h with h | h
    · exact ⟨.tuple [.int a, .int b], rfl, rfl, gd_tuple (n := 2) (gd_two ha hb hm) (Nat.le_refl _), fun _ _ s => .tup (L2.SqT.of (s.tup h)) (.cons (.int _) (.cons (.int _) .nil))⟩
    · exact ⟨.list [.int a, .int b], rfl, rfl, gd_list (n := 2) (gd_two ha hb hm) (Nat.le_refl _), fun _ _ s => .lst (L2.SqL.of (s.lst h fun z => n _ rfl (List.mem_singleton.mp z))) (.cons (.int _) (.cons (.int _) .nil))⟩
theorem dat_all {K : PySem.W.Frag} {D : Addr} {H : Hp} {m : Nat} (hm : m ≤ 1920) : ∀ {gv : List V}, (∀ v ∈ gv, ∃ q, IsM H v m q ∧ ∀ c, v = .ref c → c ≠ D) → ∃ ds, ds.length = gv.length ∧ (∀ d ∈ ds, d.hasDict = false ∧ d.canLay0 = true ∧ Gd d 1 2) ∧ ∀ Dm H', Sx Dm [D] H H' → DpAll K H' gv ds
  | [], _ => ⟨[], rfl, (fun _ h => nomatch h), fun _ _ _ => .nil⟩
  | v :: r, h => by
    obtain ⟨q, h1, h2⟩ := h v List.mem_cons_self
    obtain ⟨d, a, b, g, f⟩ := h1.dat2 (K := K) h2 hm
    obtain ⟨ds, e, hd, k⟩ := dat_all hm fun u hu => h u (List.mem_cons_of_mem _ hu)
    refine ⟨d :: ds, by simp [e], fun x hx => ?_, fun Dm H' s => .cons (f Dm H' s) (k Dm H' s)⟩
    rcases List.mem_cons.mp hx with rfl | hx
    · exact ⟨a, b, g⟩
    · exact hd x hx
theorem dxl_of {K : PySem.W.Frag} {H : Hp} : ∀ {xs : List V} {ds : List PyData}, DpAll K H xs ds → (∀ d ∈ ds, d.hasDict = false) → DxL K H xs ds
  | _, _, .nil, _ => .nil
  | _, _, .cons h t, n => .cons (.b h (n _ List.mem_cons_self)) (dxl_of t fun d hd => n d (List.mem_cons_of_mem _ hd))
theorem dxl_set {K : PySem.W.Frag} {H : Hp} {v : V} {d : PyData} (hv : Dx K H v d) : ∀ {xs : List V} {ds : List PyData} (j : Nat), DxL K H xs ds → DxL K H (xs.set j v) (ds.set j d)
  | _, _, _, .nil => .nil
  | _, _, 0, .cons _ t => .cons hv t
  | _, _, j + 1, .cons h t => .cons h (dxl_set hv j t)
theorem lay_list {ds : List PyData} (h : ∀ d ∈ ds, d.canLay0 = true ∧ Gd d 1 2) : SeqAt.shaped (.list ds) = true := by
  have h1 : PyData.canLayAll0 ds = true ∧ PyData.depthAll ds ≤ 1 := by
    induction ds with
    | nil => exact ⟨rfl, by simp [PyData.depthAll]⟩
    | cons x r ih =>
      obtain ⟨a, b⟩ := ih fun y hy => h y (List.mem_cons_of_mem _ hy)
      obtain ⟨c, g⟩ := h x List.mem_cons_self
      refine ⟨by simp only [PyData.canLayAll0, a, c, Bool.and_self], ?_⟩
      simp only [PyData.depthAll]
      have := g.dp
      omega
  unfold SeqAt.shaped
  rw [Bool.and_eq_true]
  refine ⟨by simpa only [PyData.canLay0] using h1.1, decide_eq_true ?_⟩
  simp only [PyData.depth]
  omega
section
variable {K : PySem.W.Frag} {C : Addr} {H : Hp} {x y : V} {a b : List Rat} {Q : VK}
theorem own_pp (hx : PoV C H x a) (hy : PoV C H y b) (q : Q (.bl (decide (a = b))) H) : rOwnE K C (spEqP C) E0 x y H Q := by
  obtain ⟨i, dx, u, rfl, hx1, _⟩ := id hx
  obtain ⟨j, dy, w, rfl, hy1, _⟩ := id hy
  exact ⟨i, dx, _, rfl, hx1, .inl ⟨j, dy, _, rfl, hy1⟩, _, _, a, rfl, hx, .inl ⟨b, hy, .inr ⟨_, rfl⟩, q⟩⟩
theorem own_pt {p : Addr} {xs : List V} (hx : PoV C H x a) (hy : H p = some (.tup xs)) (q : Q (.bl false) H) : rOwnE K C (spEqP C) E0 x (.ref p) H Q := by
  obtain ⟨i, dx, u, rfl, hx1, _⟩ := id hx
  exact ⟨i, dx, _, rfl, hx1, .inr (.inr ⟨p, xs, rfl, L2.SqT.of hy⟩), _, _, a, rfl, hx, .inr (.inr ⟨⟨p, xs, rfl, hy⟩, .inr ⟨_, rfl⟩, q⟩)⟩
theorem own_pi {j : Int} (hx : PoV C H x a) (q : Q (.bl false) H) : rOwnE K C (spEqP C) E0 x (.int j) H Q := by
  obtain ⟨i, dx, u, rfl, hx1, _⟩ := id hx
  exact ⟨i, dx, _, rfl, hx1, .inr (.inl ⟨j, rfl⟩), _, _, a, rfl, hx, .inr (.inl ⟨⟨j, rfl⟩, .inr ⟨_, rfl⟩, q⟩)⟩
end
theorem rs_app {H : Hp} {xs : List V} {l : List Rat} {v : V} {q : Rat} (h : Rs H xs l) (hv : IsR H v q) : Rs H (xs ++ [v]) (l ++ [q]) := by
  refine ⟨by simp [h.1], fun i u e => ?_⟩
  rw [cf_append]
  by_cases hi : i < xs.length
  · rw [List.getElem?_append_left hi] at e
    rw [if_pos (by rw [← h.1]; exact hi)]
    exact h.2 i u e
  · rw [List.getElem?_append_right (by omega)] at e
    obtain ⟨h1, h2⟩ := List.getElem?_eq_some_iff.mp e
    have h1 : i - xs.length < 1 := h1
    rw [if_neg (by rw [← h.1]; exact hi), ← h.1, show i - xs.length = 0 by omega, cf_zero]
    have : u = v := by
      have e0 : i - xs.length = 0 := by omega
      rw [e0] at e
      exact (Option.some.inj e).symm
    subst this
    exact hv
theorem pd_nd (l : List Rat) : (pd l).hasDict = false := by
  have : ∀ l : List Rat, PyData.hasDictAll (l.map qd) = false := fun l => by
    induction l with
    | nil => rfl
    | cons q r ih => simp only [List.map_cons, PyData.hasDictAll, ih, qd, PyData.hasDict, Bool.or_self]
  simp only [pd, PyData.hasDict, this]
theorem strip_one (l : List Rat) : strip l ≠ strip (strip l ++ [((1 : Int) : Rat)]) := fun z => by
  have h := strip_lt (l := strip l ++ [((1 : Int) : Rat)]) (i := (strip l).length) (by
    rw [cf_append, if_neg (Nat.lt_irrefl _), Nat.sub_self, cf_zero]
    decide)
  rw [← z] at h
  exact Nat.lt_irrefl _ h
/-- what a def with lambdas has to know of its table -/
structure LamT (base : Heap) (mg : Str → Option Value) (Tt : List (Addr × Str)) (cdv : Value) (q : Str) : Prop where
  ex : ∃ c Pt, cdv = .ref c ∧ LamX.TabB base mg c Pt ∧ (Pt, q) ∈ Tt ∧ ∀ p ∈ Tt, p.1 = Pt → p.2 = q
def spRight (Tt : List (Addr × Str)) (k : Nat) : Sp := fun vs H Q _ => ∃ p cl n, vs = [.ref p] ∧ Pen H p cl (n + k) ∧ LamX.Tabs Tt H ∧ ∀ H', Sx [p] [] H H' → LamX.Tabs Tt H' → Pen H' p cl n → Q (.bl true) H'
theorem ok_law_made_right (T : Tx K mg) {Tt : List (Addr × Str)} (LT : ∀ cdv, CdOf K (He.ga K "_law_made_right") cdv "_law_made_right" → LamT base mg Tt cdv ("_law_made_right" ++ ".<locals>.<lambda>")) : CalG P w K mg base CX0 10 "_law_made_right" (spRight Tt 1000) := by
  have c_law_draw := ok_law_draw (P := P) (w := w) (base := base) T
  have c_law_pick := ok_law_pick (P := P) (w := w) (base := base) T
  have c_law_passed := ok_law_passed (P := P) (w := w) (base := base) T
  have c_law_ratio := ok_law_ratio (P := P) (w := w) (base := base) T
  have c_law_some_ratio := ok_law_some_ratio (P := P) (w := w) (base := base) T
  have c_law_any := ok_law_any (P := P) (w := w) (base := base) T
  have c_law_poly := ok_law_poly (P := P) (w := w) (base := base) T
  have c_init := ok_init (P := P) (w := w) (base := base) T
  have c_degree := ok_degree (P := P) (w := w) (base := base) T
  have c_eq := ok_eq (P := P) (w := w) (base := base) T
  obtain ⟨fd, F⟩ := T.f_law_made_right
  refine calG0 F T.g_law_made_right sc_law_made_right (ps := ["_law_pen_here"]) (fun _ _ _ _ _ _ us hl => match us, hl with | [_], _ => rfl) (fun vs H Q E h => ?_) (fun cdv A outer s H vs Q E hc hg hr h => ?_)
  · obtain ⟨p, cl, n, rfl, _⟩ := h
    rfl
  · obtain ⟨p, cl, n, rfl, hp, tb, k⟩ := h
    obtain ⟨c, Pt, rfl, TB, hmT, hu⟩ := (LT _ hc).ex
    have hcode : (Value.ref c) = .ref c := rfl
    have mkR : CallR (cxOf CX0 P w K mg base N_law_made_right "_law_made_right" (defScope s_law_made_right) (He.ga K "_law_made_right") (.ref c) A outer s H E).nox (.builtin "repr") (rReprX K) := call_reprX hg hr.units
    have restD : ∃ t, PSs (cxOf CX0 P w K mg base N_law_made_right "_law_made_right" (defScope s_law_made_right) (He.ga K "_law_made_right") (.ref c) A outer s H E).nox ((defBody s_law_made_right).drop 9) t ∧
        ∀ (H1 : Hp) (o1 o2 o3 o4 o5 o6 o7 o8 o9 : Option V), Sx [p] [] H H1 → LamX.Tabs Tt H1 → Pen H1 p cl (n + 1) → t { nx := fun _ H' => Q .non H', rt := Q } [some (.ref p), o1, o2, o3, o4, o5, o6, o7, o8, o9] H1 := by
      refine ⟨_, (pss_cons (ps_set (i := 7) sc_law_made_right.nd rfl (Or.inr rfl) (pe_cal c_law_pick hr (by decide) pass0 (pa_cons (pv 0) (pa_cons (pe_lst (pa_cons pe_non (pa_cons pe_int (pa_cons pe_str (pa_cons (pe_disp (pps_cons pe_str pe_int pps_nil) (by rfl) (by rfl) (fun z => by cases z) (by decide)) (pa_cons pe_bl pa_nil)))))) pa_nil))))
      (pss_one (ps_ret (pe_cmpR (op_eqD (room64 hr)) (pe_why T hg hr TB hcode hmT hu (LamX.lamS_by (sc := defScope s_law_made_right) (by decide +kernel)) (fun A2 outer2 s2 H2 E2 f2 c2 hr2 => (pe_polyK (K := K) rfl T c_init hr2 (by decide) lam_px (pa_cons (pv 7) pa_nil)))) (pe_tup (pa_cons pe_str (pa_cons (pe_callB mkR (by rfl) T.b_repr (by decide +kernel) (pa_cons (pv 7) pa_nil)) pa_nil))) (nomark _))))), ?_⟩
      intro H1 o1 o2 o3 o4 o5 o6 o7 o8 o9 s1 tb1 hp1
      walk_at "rd"
      intro p3 n3
      refine ⟨upd_same, [(.inr "a", .int 1)], rfl, by simp, ?_⟩
      have s2 : Sm [] [] H1 (upd (upd H1 p3 (.dK [])) p3 (.dK (mergeK [] [(.inr "a", .int 1)]))) := fun a o e => .inl (by
        have ne := ne_of_none e n3
        rw [upd_ne ne, upd_ne ne]
        exact e)
      have h3 : upd (upd H1 p3 (.dK [])) p3 (.dK (mergeK [] [(.inr "a", .int 1)])) p3 = some (.dK [(.inr "a", .int 1)]) := upd_same
      generalize upd (upd H1 p3 (.dK [])) p3 (.dK (mergeK [] [(.inr "a", .int 1)])) = H2 at *
      refine nl_of (fun l H3 nl s3 hl => ?_) (by simp)
      refine ⟨p, cl, l, _, n, rfl, hl, by simp, by simp, (hp1.m s2).m s3, fun v H4 s4 hp4 hv => ?_⟩
      have n3p : p3 ∉ [p] := fun m => by
        obtain ⟨ns, at_, dg, co, fo, z, _⟩ := hp1
        rw [← List.mem_singleton.mp m, n3] at z
        cases z
      have h34 := s4.dct (s3.dct h3 List.not_mem_nil) n3p
      obtain ⟨d, nm, e1, e2, gd, dx⟩ : ∃ d nm, nm ≠ "tuple" ∧ nm ≠ "list" ∧ Gd d 3 20 ∧ ∀ H5, Sx [] [] H4 H5 → An H5 v nm ∧ Dx K H5 v d := by
        simp only [List.mem_cons, List.not_mem_nil, or_false] at hv
        rcases hv with rfl | rfl | rfl | rfl | rfl
        · exact ⟨.none, _, by decide, by decide, shw_of, fun H5 _ => ⟨.non, .b .non rfl⟩⟩
        · exact ⟨.int 5, _, by decide, by decide, shw_of, fun H5 _ => ⟨.int _, .b (.int _) rfl⟩⟩
        · exact ⟨.str "12", _, by decide, by decide, shw_of, fun H5 _ => ⟨.str _, .b (.str _) rfl⟩⟩
        · exact ⟨.dict [(.str "a", .int 1)], _, by decide, by decide, shw_of, fun H5 z => ⟨.dK (z.dct h34 List.not_mem_nil), .abc (z.dct h34 List.not_mem_nil)⟩⟩
        · exact ⟨.bool true, _, by decide, by decide, shw_of, fun H5 _ => ⟨.bl _, .b (.bl _) rfl⟩⟩
      have tb4 := tabs_sm (tabs_sm (tabs_sm tb1 s2) s3) s4
      have s14 : Sx [p] [] H1 H4 := ((s2.any.trans s3.any).trans s4).x
      refine ⟨tb4, fun H5 e5 t5 => ?_⟩
      have s5 : Sx [] [] H4 H5 := sx_ext e5
      refine ⟨v, rfl, v, rfl, .inr (.inl ⟨⟨nm, (dx H5 s5).1, e1, e2⟩, fun dd H6 nd s6 hd => .inr ⟨dd, v, d, rfl, rfl, hd, .x (dx H6 (s5.trans s6.x)).2, gd.shw, fun q H7 s7 hq => ?_⟩⟩)⟩
      refine ⟨v, d, rfl, .x (dx H7 ((s5.trans s6.x).trans s7.x)).2, gd.shw, nt_of (fun q2 H8 n8 s8 hq2 => ?_) (by simp)⟩
      refine eq_strs ["row", d.shown] (s8.tup hq) hq2 (fun x hx => ?_) ?_
      · simp only [List.mem_cons, List.not_mem_nil, or_false] at hx
        rcases hx with rfl | rfl
        · exact ok_of _
        · exact gd.ok
      · have s48 : Sx [] [] H4 H8 := ((s5.trans s6.x).trans s7.x).trans s8.x
        exact k H8 ((s1.trans s14).trans (s48.w (fun _ h => nomatch h) (fun _ h => h))) (tabs_sm (tabs_sm (tabs_sm t5 s6) s7) s8) (hp4.x s48)
    obtain ⟨tD, hD1, hD2⟩ := restD
    have restC : ∃ t, PSs (cxOf CX0 P w K mg base N_law_made_right "_law_made_right" (defScope s_law_made_right) (He.ga K "_law_made_right") (.ref c) A outer s H E).nox ((defBody s_law_made_right).drop 7) t ∧
        ∀ (H1 : Hp) (o1 o2 o3 o4 o5 o7 o8 o9 : Option V) (g : Addr) (gv : List V) (ls : List Rat), Sx [p] [] H H1 → LamX.Tabs Tt H1 → Pen H1 p cl (n + 3) → H g = none → cl ≠ g → H1 g = some (.lst gv) → gv.length = ls.length → gv.length ≤ 20 →
          (∀ (i : Nat) (v : V), gv[i]? = some v → IsM H1 v 62 (cf ls i) ∧ ∀ c, v = .ref c → c ≠ g) → t { nx := fun _ H' => Q .non H', rt := Q } [some (.ref p), o1, o2, o3, o4, o5, some (.ref g), o7, o8, o9] H1 := by
      refine ⟨_, (pss_cons (ps_set (i := 5) sc_law_made_right.nd rfl (Or.inl rfl) (pe_cal c_law_any hr (by decide) pass0 (pa_cons (pv 0) pa_nil)))
      (pss_cons (ps_if (pt_cmpR (op_neD (room64 hr)) (pv 6) (pe_lst pa_nil) (nomark _)) (pss_cons (ps_asg (pv 5) (pg_sub (pv 6) (pe_cal c_law_draw hr (by decide) pass0 (pa_cons (pv 0) (pa_cons (pe_callB call_len_seq (by rfl) T.b_len (by decide +kernel) (pa_cons (pv 6) pa_nil)) pa_nil))) set_list))
      (pss_one (ps_if (pt_cmpR (op_neD (room64 hr)) (pe_why T hg hr TB hcode hmT hu (LamX.lamS_by (sc := defScope s_law_made_right) (by decide +kernel)) (fun A2 outer2 s2 H2 E2 f2 c2 hr2 => (pe_polyK (K := K) rfl T c_init hr2 (by decide) lam_px (pa_cons (pv 6) pa_nil)))) (pe_tup (pa_cons pe_str (pa_cons (pe_callB mkR (by rfl) T.b_repr (by decide +kernel) (pa_cons (pv 6) pa_nil)) pa_nil))) (nomark _)) (pss_one (ps_ret pe_bl)) pss_nil))) pss_nil)
      hD1)), ?_⟩
      intro H1 o1 o2 o3 o4 o5 o7 o8 o9 g gv ls s1 tb1 hp1 ng cg hg1 hl1 hl2 hr1
      walk_at "rd"
      have gmem : ∀ v ∈ gv, ∃ q, IsM H1 v 62 q ∧ ∀ c, v = .ref c → c ≠ g := fun v hv => by
        obtain ⟨i, hi, rfl⟩ := List.getElem_of_mem hv
        exact ⟨_, hr1 i _ (List.getElem?_eq_getElem hi)⟩
      obtain ⟨ds, ld, hds, kds⟩ := dat_all (K := K) (by decide) gmem
      have pn1 : H1 p ≠ none := by
        obtain ⟨ns, at_, dg, co, fo, z, _⟩ := hp1
        rw [z]; simp
      have gn1 : H1 g ≠ none := by rw [hg1]; simp
      refine ⟨p, cl, n + 2, rfl, hp1, fun v d H2 s2 hp2 ho => ?_⟩
      refine nl_of (fun l H3 nl s3 hl => ?_) (by simp)
      have s13 : Sm [p] [] H1 H3 := s2.trans s3.any
      have hg3 := s13.lst hg1 List.not_mem_nil
      have hp3 := hp2.m s3
      have tb3 := tabs_sm tb1 s13
      refine ⟨.list ds, .list [], .lst (L2.SqL.of hg3) (kds [p] H3 (s13.x.w (fun _ h => h) (fun _ h => nomatch h))), .lst (L2.SqL.of hl) .nil, lay_list (fun d hd => ⟨(hds d hd).2.1, (hds d hd).2.2⟩), by decide, ?_⟩
      cases ds with
      | nil =>
        refine ⟨false, by simp [PyData.eqv, PyData.eqvAll], ?_⟩
        rw [if_neg (by decide)]
        exact hD2 H3 _ _ _ _ _ _ _ _ _ (s1.trans s13.x) tb3 (hp3.mono (by omega))
      | cons d0 dr0 =>
        refine ⟨true, by simp [PyData.eqv, PyData.eqvAll], ?_⟩
        rw [if_pos rfl]
        have gpos : 0 < gv.length := by rw [← ld]; exact Nat.succ_pos _
        generalize d0 :: dr0 = ds at *
        refine ⟨g, gv, rfl, .inl (L2.SqL.of hg3), dr (n := n + 1) (by omega) (by omega) hp3 fun r H4 s4 hp4 r0 r1 => ?_⟩
        obtain ⟨j, rfl⟩ : ∃ j : Nat, r = (j : Int) := ⟨r.toNat, by omega⟩
        have hj : j < gv.length := by omega
        have hg4 := s4.lst hg3 List.not_mem_nil
        refine ⟨g, gv, _, j, rfl, rfl, hg4, ixN_nat hj, ?_⟩
        have s45 : Sm [p] [g] H4 (upd H4 g (.lst (gv.set j v))) := Sm.put hg4 (List.mem_singleton.mpr rfl)
        have hg5 := upd_same (H := H4) (a := g) (o := .lst (gv.set j v))
        have hp5 : Pen (upd H4 g (.lst (gv.set j v))) p cl (n + 1) := hp4.put hg4 cg
        generalize upd H4 g (.lst (gv.set j v)) = H5 at *
        have tb5 := tabs_sm (tabs_sm tb3 s4) s45
        have s25 : Sx [p] [g] H2 H5 := ((s3.any.trans (s4.w (fun _ h => h) (fun _ h => nomatch h))).trans s45).x
        have s15 : Sx [p] [g] H1 H5 := (Sm.w s2 (fun _ h => h) (fun _ h => nomatch h)).x.trans s25
        have hDp : ∀ a ∈ [p], H1 a ≠ none := fun a ha => by rw [List.mem_singleton.mp ha]; exact pn1
        have hDg : ∀ a ∈ [g], H1 a ≠ none := fun a ha => by rw [List.mem_singleton.mp ha]; exact gn1
        -- at any later heap
        have at_ : ∀ H', Sx [] [] H5 H' → H' g = some (.lst (gv.set j v)) ∧ (∀ x ∈ gv.set j v, AnyR H' x) ∧ NoRat H' v ∧ DxL K H' (gv.set j v) (ds.set j d) := fun H' z => by
          have z1 : Sx [p] [g] H1 H' := s15.trans (z.w (fun _ h => nomatch h) (fun _ h => nomatch h))
          have z2 : Sx [p] [g] H2 H' := s25.trans (z.w (fun _ h => nomatch h) (fun _ h => nomatch h))
          have ho' := ho.on z2 hDp hDg
          refine ⟨z.lst hg5 List.not_mem_nil, fun x hx => ?_, ho'.no, dxl_set ho'.dx j (dxl_of (kds [p] H' z1) fun d hd => (hds d hd).1)⟩
          rcases List.mem_or_eq_of_mem_set hx with hx | rfl
          · obtain ⟨q, hq, hn⟩ := gmem x hx
            obtain ⟨a, b, hr, _⟩ := hq.xL hn z1
            exact .inl ⟨a, b, hr⟩
          · exact .inr ho'.no
        have gd : Gd (.list (ds.set j d)) 4 420 := gd_list (n := 20) (dep := 3) (bk := 20) (fun x hx => by
          rcases List.mem_or_eq_of_mem_set hx with hx | rfl
          · exact (hds x hx).2.2.w (by decide) (by decide)
          · exact ho.1) (by rw [List.length_set]; omega)
        refine ⟨tb5, fun H6 e6 t6 => ?_⟩
        have z6 : Sx [] [] H5 H6 := sx_ext e6
        refine ⟨.ref g, rfl, .ref g, rfl, .inr (.inr ⟨g, gv.set j v, rfl, .inr (at_ H6 z6).1, by rw [List.length_set]; omega, (at_ H6 z6).2.1, ⟨v, List.mem_of_getElem? (i := j) (by rw [List.getElem?_set_self hj]), (at_ H6 z6).2.2.1⟩, fun dd H7 nd s7 hd => .inr ⟨dd, .ref g, _, rfl, rfl, hd, .l (at_ H7 (z6.trans s7.x)).1 (at_ H7 (z6.trans s7.x)).2.2.2, gd.shw, fun q H8 s8 hq => ?_⟩⟩)⟩
        have z8 : Sx [] [] H5 H8 := (z6.trans s7.x).trans s8.x
        refine ⟨.ref g, _, rfl, .l (at_ H8 z8).1 (at_ H8 z8).2.2.2, gd.shw, nt_of (fun q2 H9 n9 s9 hq2 => ?_) (by simp)⟩
        refine ne_strs ["row", (PyData.list (ds.set j d)).shown] (s9.tup hq) hq2 (fun x hx => ?_) ?_
        · simp only [List.mem_cons, List.not_mem_nil, or_false] at hx
          rcases hx with rfl | rfl
          · exact ok_of _
          · exact gd.ok
        · refine ⟨false, rfl, ?_⟩
          rw [if_neg (by decide)]
          have z9 : Sx [] [] H5 H9 := z8.trans s9.x
          refine hD2 H9 _ _ _ _ _ _ _ _ _ (Sx.drop ((s1.w (fun _ h => h) (fun _ h => nomatch h)).trans (s15.trans (z9.w (fun _ h => nomatch h) (fun _ h => nomatch h)))) ng) (tabs_sm (tabs_sm (tabs_sm t6 s7) s8) s9) (hp5.x z9)
    obtain ⟨tC, hC1, hC2⟩ := restC
    have restB : ∃ t, PSs (cxOf CX0 P w K mg base N_law_made_right "_law_made_right" (defScope s_law_made_right) (He.ga K "_law_made_right") (.ref c) A outer s H E).nox ((defBody s_law_made_right).drop 3) t ∧
        ∀ (H1 : Hp) (o1 o3 o4 o5 o7 o8 o9 : Option V) (g : Addr) (gv : List V) (ls : List Rat) (due : V), Sx [p] [] H H1 → LamX.Tabs Tt H1 → Pen H1 p cl (n + 4) → H g = none → cl ≠ g → H1 g = some (.lst gv) → gv.length = ls.length → gv.length ≤ 20 →
          (∀ (i : Nat) (v : V), gv[i]? = some v → IsM H1 v 62 (cf ls i) ∧ ∀ c, v = .ref c → c ≠ g) → TQ H1 due (strip ls) → Hl 62 (strip ls) → t { nx := fun _ H' => Q .non H', rt := Q } [some (.ref p), o1, some due, o3, o4, o5, some (.ref g), o7, o8, o9] H1 := by
      refine ⟨_, (pss_cons (ps_set (i := 3) sc_law_made_right.nd rfl (Or.inl rfl) (pe_callB mkR (by rfl) T.b_repr (by decide +kernel) (pa_cons (pv 6) pa_nil)))
      (pss_cons (ps_set (i := 4) sc_law_made_right.nd rfl (Or.inl rfl) (pe_poly T c_init hr (by decide) passL (pa_cons (pe_cal c_law_pick hr (by decide) pass0 (pa_cons (pv 0) (pa_cons (pe_lst (pa_cons (pv 6) (pa_cons (pe_callTy call_tuple_of (by rfl) T.b_tuple (by decide +kernel) (pa_cons (pv 6) pa_nil)) pa_nil))) pa_nil))) pa_nil)))
      (pss_cons (ps_if (PW.pt (pw_or (pt_cmpR (op_neD (room64 hr)) (pe_callB mkR (by rfl) T.b_repr (by decide +kernel) (pa_cons (pv 6) pa_nil)) (pv 3) (nomark _)) (pw_or (pt_cmpR (op_neD (room64 hr)) (pe_callB mkR (by rfl) T.b_repr (by decide +kernel) (pa_cons (pe_fld (pv 4) rfl) pa_nil)) (pe_callB mkR (by rfl) T.b_repr (by decide +kernel) (pa_cons (pv 2) pa_nil)) (nomark _)) (pw_or1 (pt_cmpR op_ne (pe_met0 c_degree T.cl hr (by decide) pass0 (pv 4)) (pe_op op_sub (pe_callB call_len_seq (by rfl) T.b_len (by decide +kernel) (pa_cons (pv 2) pa_nil)) pe_int) (nomark _)))))) (pss_one (ps_ret pe_bl)) pss_nil)
      (pss_cons (ps_if (PW.pt (pw_or (pt_cmpR (op_ownE T.ow c_eq hr (by decide) pass0) (pv 4) (pe_poly T c_init hr (by decide) passL (pa_cons (pe_op op_cat (pe_callTy call_list_of (by rfl) T.b_list (by decide +kernel) (pa_cons (pv 2) pa_nil)) (pe_lst (pa_cons pe_int pa_nil))) pa_nil)) (nomark _)) (pw_or (pt_cmpR (op_ownE T.ow c_eq hr (by decide) pass0) (pv 4) (pv 2) (nomark _)) (pw_or (pt_cmpR (op_ownE T.ow c_eq hr (by decide) pass0) (pe_poly T c_init hr (by decide) passL (pa_cons (pe_tup (pa_cons pe_int pa_nil)) pa_nil)) pe_int (nomark _)) (pw_or1 (pt_not (pt_cmpR (op_ownE T.ow c_eq hr (by decide) pass0) (pv 4) (pe_poly T c_init hr (by decide) passL (pa_cons (pv 2) pa_nil)) (nomark _)))))))) (pss_one (ps_ret pe_bl)) pss_nil)
      hC1)))), ?_⟩
      intro H1 o1 o3 o4 o5 o7 o8 o9 g gv ls due s1 tb1 hp1 ng cg hg1 hl1 hl2 hr1 hdue hh
      walk_at "rd"
      have gmem : ∀ v ∈ gv, ∃ q, IsM H1 v 62 q ∧ ∀ c, v = .ref c → c ≠ g := fun v hv => by
        obtain ⟨i, hi, rfl⟩ := List.getElem_of_mem hv
        exact ⟨_, hr1 i _ (List.getElem?_eq_getElem hi)⟩
      obtain ⟨ds, ld, hds, kds⟩ := dat_all (K := K) (by decide) gmem
      have gd : Gd (.list ds) 2 60 := gd_list (n := 20) (dep := 1) (bk := 2) (fun d hd => (hds d hd).2.2) (by omega)
      have rep : ∀ H', Sx [p] [] H1 H' → Dr K H' (.ref g) (.list ds) := fun H' z => .l (z.lst hg1 List.not_mem_nil) (dxl_of (kds [p] H' (z.w (fun _ h => h) (fun _ h => nomatch h))) fun d hd => (hds d hd).1)
      have sl : (strip ls).length ≤ 20 := by
        have := strip_le ls
        omega
      have gp : Gd (pd (strip ls)) 2 60 := gd_p hh (by decide) sl
      refine ⟨.ref g, .list ds, rfl, rep H1 Sx.refl, gd.shw, ?_⟩
      refine ⟨g, gv, rfl, .inl ⟨L2.SqL.of hg1, fun t nt => ?_⟩⟩
      have s2 : Sm [] [] H1 (upd H1 t (.tup gv)) := Sm.new nt
      have ht2 := upd_same (H := H1) (a := t) (o := .tup gv)
      generalize upd H1 t (.tup gv) = H2 at *
      refine nl_of (fun l H3 nl s3 hl => ?_) (by simp)
      refine ⟨p, cl, l, _, n + 3, rfl, hl, by simp, by simp, (hp1.m s2).m s3, fun v H4 s4 hp4 hv => ?_⟩
      have s14 : Sm [p] [] H1 H4 := (s2.any.trans s3.any).trans s4
      have hsq : ∃ x, v = .ref x ∧ Sq H4 x gv := by
        simp only [List.mem_cons, List.not_mem_nil, or_false] at hv
        rcases hv with rfl | rfl
        · exact ⟨g, rfl, .inr (s14.lst hg1 List.not_mem_nil)⟩
        · exact ⟨t, rfl, .inl (s4.tup (s3.tup ht2))⟩
      obtain ⟨x, rfl, hsx⟩ := hsq
      have hrs : Rs H4 gv ls := ⟨hl1, fun i v e => ((hr1 i v e).1.m' s14).r⟩
      refine ⟨_, rfl, .inl ⟨x, gv, ls, rfl, hsx, hrs, by omega, fun made H5 s5 hm => ?_⟩⟩
      have s15 : Sm [p] [] H1 H5 := s14.trans s5.any
      refine ⟨.ref g, .list ds, rfl, rep H5 s15.x, gd.shw, ne_str gd.ok ⟨false, rfl, ?_⟩⟩
      rw [if_neg (by decide)]
      refine po_num T hm fun q us hq hqs => ?_
      have hdue5 := hdue.m s15
      refine ⟨.ref q, pd (strip ls), rfl, .x (.b (.tup (L2.SqT.of hq) (dp_qs hqs)) (pd_nd _)), gp.shw, ?_⟩
      refine ⟨due, pd (strip ls), rfl, .x (.b (dp_t hdue5) (pd_nd _)), gp.shw, ne_str gp.ok ⟨false, rfl, ?_⟩⟩
      rw [if_neg (by decide)]
      obtain ⟨a, dx, u, e1, ha, hu⟩ := id hm
      obtain ⟨q0, ws, rfl, hd, hqd⟩ := id hdue5
      refine ⟨a, dx, _, e1, ha, rfl, made, strip ls, rfl, hm, q0, ws, rfl, .inr (L2.SqT.of hd), ?_⟩
      rw [rNe_int, hqd.1, decide_eq_true rfl]
      refine ⟨false, rfl, ?_⟩
      rw [if_neg (by decide)]
      refine ⟨q0, ws, rfl, .inr (L2.SqT.of hd), fun b nb => ?_⟩
      have s6 : Sm [] [] H5 (upd H5 b (.lst ws)) := Sm.new nb
      have hb6 := upd_same (H := H5) (a := b) (o := .lst ws)
      generalize upd H5 b (.lst ws) = H6 at *
      refine nl_of (fun o7 H7 n7 s7 ho7 => ?_) (by simp)
      have wl : ws.length = (strip ls).length := hqd.1
      refine ⟨b, o7, ws, _, rfl, rfl, s7.lst hb6 List.not_mem_nil, ho7, by rw [sizeLine_eq, List.length_singleton]; omega, fun e ne => ?_⟩
      have s8 : Sm [] [] H7 (upd H7 e (.lst (ws ++ [.int 1]))) := Sm.new ne
      have he8 := upd_same (H := H7) (a := e) (o := .lst (ws ++ [.int 1]))
      generalize upd H7 e (.lst (ws ++ [.int 1])) = H8 at *
      have s58 : Sm [] [] H5 H8 := (s6.trans s7).trans s8
      have rsd : ∀ H', Sm [] [] H5 H' → Rs H' ws (strip ls) := fun H' z => rs_qs (hqd.m z) hh (by decide)
      refine ⟨_, rfl, .inl ⟨e, _, _, rfl, .inr he8, rs_app (rsd H8 s58) (isR_int (i := 1) (show (1 : Int).natAbs < 2 ^ 4400 from Nat.one_lt_two_pow (by decide))), by rw [List.length_append, List.length_singleton]; omega, fun u9 H9 s9 hu9 => ?_⟩⟩
      have s59 := s58.trans s9
      refine own_pp (hm.m s59) hu9 ⟨_, rfl, ?_⟩
      rw [decide_eq_false (strip_one ls), if_neg (by decide)]
      refine own_pt (hm.m s59) (s59.tup hd) ⟨false, rfl, ?_⟩
      rw [if_neg (by decide)]
      refine nt_of (fun t3 Ha na sa ha3 => ?_) (by simp)
      have r3 : Rs Ha [V.int 3] [((3 : Int) : Rat)] := rs_app (xs := []) (l := []) ⟨rfl, fun i v e => by cases e⟩ (isR_int (i := 3) (show (3 : Int).natAbs < 2 ^ 4400 from Nat.lt_of_lt_of_le (show 3 < 2 ^ 2 by decide) (Nat.pow_le_pow_right (by decide) (by decide))))
      refine ⟨_, rfl, .inl ⟨t3, _, _, rfl, .inl ha3, r3, by simp, fun u3 Hb sb hu3 => own_pi hu3 ⟨false, rfl, ?_⟩⟩⟩
      rw [if_neg (by decide)]
      have s5b := (s59.trans sa).trans sb
      refine ⟨_, rfl, .inl ⟨q0, ws, strip ls, rfl, .inl (s5b.tup hd), rsd Hb s5b, by omega, fun u5 Hc sc hu5 => ?_⟩⟩
      have s5c := s5b.trans sc
      refine own_pp (hm.m s5c) hu5 ⟨_, rfl, ?_⟩
      rw [decide_eq_true (strip_nf (nf_strip ls)).symm, if_neg (by decide)]
      have s1c : Sm [p] [] H1 Hc := s15.trans s5c.any
      exact hC2 Hc _ _ _ _ _ _ _ _ g gv ls (s1.trans s1c.x) (tabs_sm tb1 s1c) ((hp4.m s5).m s5c) ng cg (s1c.lst hg1 List.not_mem_nil) hl1 hl2 fun i v e => ⟨(hr1 i v e).1.m' s1c, (hr1 i v e).2⟩
    obtain ⟨tB, hB1, hB2⟩ := restB
    refine ⟨_, (pss_cons (ps_setLc (i := 1) (own := [("_law_k", 8)]) rfl sc_law_made_right.nd rfl rfl (sw_true rfl rfl rfl (by decide +kernel)) (pi_range1 (by rfl) T.b_range (pa_cons (pe_cal c_law_draw hr (by decide) pass0 (pa_cons (pv 0) (pa_cons pe_int pa_nil))) pa_nil)) (blkOk_by (own := [("_law_k", 8)]) (N := N_law_made_right) (sc := defScope s_law_made_right) (by decide +kernel)) (fun _ _ _ _ _ => (pg_name (i := 8) sc_law_made_right.nd rfl (Or.inl rfl) (Or.inr rfl))) (fun _ _ _ _ _ => pts_nil) (fun _ _ _ _ _ => (pe_cal c_law_pick hr (by decide) pass0 (pa_cons (pv 0) (pa_cons (pe_lst (pa_cons (pe_tup (pa_cons pe_int (pa_cons pe_int pa_nil))) (pa_cons (pe_cal c_law_ratio hr (by decide) pass0 (pa_cons (pv 0) (pa_cons pe_int pa_nil))) (pa_cons (pe_cal c_law_some_ratio hr (by decide) pass0 (pa_cons (pv 0) pa_nil)) pa_nil)))) pa_nil)))))
      (pss_cons (ps_set (i := 1) sc_law_made_right.nd rfl (Or.inl rfl) (pe_op op_cat (pv 1) (pe_op op_rep (pe_lst (pa_cons (pe_tup (pa_cons pe_int (pa_cons pe_int pa_nil))) pa_nil)) (pe_cal c_law_draw hr (by decide) pass0 (pa_cons (pv 0) (pa_cons pe_int pa_nil))))))
      (pss_cons (ps_asg (pe_tup (pa_cons (pe_lc (own := [("_law_number", 9)]) rfl sc_law_made_right.nd (pi_list (pv 1)) (blkOk_by (own := [("_law_number", 9)]) (N := N_law_made_right) (sc := defScope s_law_made_right) (by decide +kernel)) (fun _ _ _ _ _ => (pg_name (i := 9) sc_law_made_right.nd rfl (Or.inl rfl) (Or.inr rfl))) (fun _ _ _ _ _ => pts_nil) (fun _ _ _ _ _ => (pe_cal c_law_passed hr (by decide) pass0 (pa_cons (pv 0) (pa_cons (pv 9) pa_nil))))) (pa_cons (pe_callTy call_tuple_of (by rfl) T.b_tuple (by decide +kernel) (pa_cons (pe_cal c_law_poly hr (by decide) pass0 (pa_cons (pv 1) pa_nil)) pa_nil)) pa_nil))) (pg_tup (n := 2) rfl (pgs_cons (pg_name (i := 6) sc_law_made_right.nd rfl (Or.inr rfl)) (pgs_cons (pg_name (i := 2) sc_law_made_right.nd rfl (Or.inl rfl)) pgs_nil))))
      hB1))), ?_⟩
    walk_at "rd"
    refine dr (n := n + 999) (by decide) (by decide) hp fun r H1 s1 hp1 r0 r1 => ?_
    obtain ⟨N, rfl⟩ : ∃ N : Nat, r = (N : Int) := ⟨r.toNat, by omega⟩
    refine ⟨_, rfl, by omega, by omega, ?_⟩
    rw [Int.toNat_natCast]
    intro D nD
    have q0 : Hq 60 0 := ⟨by decide, by decide⟩
    refine lc_list' (walk_range (lo := 0) (n := N)) (Dm := [p]) (R := fun i v H => ∃ q, IsQ H v q ∧ Hq 60 q) (P := fun i H => Pen H p cl (n + 500 + 20 * (10 - i))) nD (by omega) ?_ (fun _ _ _ _ ⟨q, h, z⟩ s => ⟨q, h.m s, z⟩) ?_ (fun _ _ => trivial) ?_ ?_
    · exact (hp1.m (Sm.new nD)).mono (by omega)
    · intro i H2 xs ys hp2 hD
      exact hp2.put hD (hp1.ne nD)
    · intro i x H3 H4 C hi s3 _ hp3 hy hc'
      obtain ⟨rfl, rfl⟩ := hy
      walk_at "rd"
      refine nt_of (fun t0 H5 nt s5 ht => ?_) (by simp)
      refine ⟨p, cl, 9, 10, n + 500 + 20 * (10 - (i + 1)) + 17, rfl, by decide, by decide, by decide, by decide, (hp3.m s5).mono (by omega), fun v1 q1 H6 s6 hp6 hv1 hq1 => ?_⟩
      refine ⟨p, cl, n + 500 + 20 * (10 - (i + 1)) + 1, rfl, hp6, fun v2 q2 H7 s7 hp7 hv2 hq2 => ?_⟩
      refine nl_of (fun l H8 nl s8 hl => ?_) (by simp)
      refine ⟨p, cl, l, _, n + 500 + 20 * (10 - (i + 1)), rfl, hl, by simp, by simp, hp7.m s8, fun v H9 s9 hp9 hv => ?_⟩
      have s79 : Sm [p] [] H7 H9 := s8.any.trans s9
      have s69 := s7.trans s79
      have s59 := s6.trans s69
      refine hc' _ _ (s5.any.trans s59) ?_ hp9
      simp only [List.mem_cons, List.not_mem_nil, or_false] at hv
      rcases hv with rfl | rfl | rfl
      · exact ⟨0, ⟨t0, rfl, s59.tup ht⟩, q0⟩
      · exact ⟨q1, hv1.m s69, hq1.mono (by decide)⟩
      · exact ⟨q2, hv2.m s79, hq2⟩
    · intro acc H3 s3 hD hl3 hr3 hp3
      obtain ⟨l, hq, hl, hz⟩ := qs_ex hl3 hr3
      refine nt_of (fun tz H4 nz s4 htz => ?_) (by simp)
      refine nl_of (fun zl H5 nzl s5 hzl => ?_) (by simp)
      refine dr (n := n + 499) (by decide) (by decide) (((hp3.m s4).m s5).mono (by omega)) fun r H6 s6 hp6 r0' r1' => ?_
      obtain ⟨k0, rfl⟩ : ∃ k0 : Nat, r = (k0 : Int) := ⟨r.toNat, by omega⟩
      have s36 : Sm [p] [] H3 H6 := (s4.any.trans s5.any).trans s6
      have z6 : IsQ H6 (.ref tz) 0 := ⟨tz, rfl, s6.tup (s5.tup htz)⟩
      refine padL_ok (a := l) (s36.lst hD List.not_mem_nil) (hq.m s36) (s6.lst hzl List.not_mem_nil) z6 (by omega) (by omega) fun nums us H7 s7 hn hqn => ?_
      have hls : Hl 60 (l ++ List.replicate k0 0) := fun i => by
        rw [cf_zeros]
        exact hl_of (by omega) hz i
      have lls : (l ++ List.replicate k0 0).length ≤ 20 := by rw [List.length_append, List.length_replicate]; omega
      generalize l ++ List.replicate k0 0 = ls at *
      have lus : us.length = ls.length := hqn.1
      have hp7 := hp6.m s7
      refine ⟨nums, rfl, ⟨us, L2.SqL.of hn⟩, fun g ng => ?_⟩
      refine lc_list' (walk_list (K := K) (a := nums) (xs := us)) (Dm := [p]) (R := fun k v H => IsM H v 62 (cf ls k) ∧ ∀ c, v = .ref c → c ≠ g) (P := fun i H => Pen H p cl (n + 10 + 3 * (30 - i))) ng (by omega) ?_ (fun _ _ _ _ h s => ⟨h.1.mL h.2 s, h.2⟩) ?_ (fun H s => L2.SqL.of (s.lst hn List.not_mem_nil)) ?_ ?_
      · exact (hp7.m (Sm.new ng)).mono (by omega)
      · intro i H2 xs ys hp2 hD
        exact hp2.put hD (hp7.ne ng)
      · intro i x H8 H9 C hi s8 ng8 hp8 hy hc'
        obtain ⟨rfl, hy⟩ := hy
        walk_at "rd"
        exact ⟨p, cl, _, _, 60, n + 10 + 3 * (30 - (i + 1)), rfl, hp8.mono (by omega), (hqn.get hy).m s8, hls i, by decide, fun r H5 s5 hp5 hr5 hf => hc' _ _ s5 ⟨hr5, fun c ec z => ng8 (by rw [← z]; exact hf c ec)⟩ hp5⟩
      · intro gv H8 s8 hg8 hl8 hr8 hp8
        refine ⟨_, ls, rfl, ⟨nums, us, rfl, s8.lst hn List.not_mem_nil, hqn.m s8⟩, by omega, fun r Ha sa hr => ?_⟩
        obtain ⟨pa, vs', rfl, hpa, hqa⟩ := hr
        refine ⟨pa, vs', rfl, .inl ⟨L2.SqL.of hpa, fun t nt => ?_⟩⟩
        have sb : Sm [] [] Ha (upd Ha t (.tup vs')) := Sm.new nt
        have htb := upd_same (H := Ha) (a := t) (o := .tup vs')
        generalize upd Ha t (.tup vs') = Hb at *
        refine nt_of (fun pr Hc nc sc hpr => gTup2 hpr ?_) (by simp)
        have s8c : Sm [] [] H8 Hc := (sa.trans sb).trans sc
        have s0c : Sm [p] [] H Hc := ((((s1.trans s3).trans s36).trans s7.any).trans s8).trans s8c.any
        exact hB2 Hc _ _ _ _ _ _ _ g gv ls (.ref t) s0c.x (tabs_sm tb s0c) ((hp8.m s8c).mono (by omega)) ((((s1.trans s3).trans s36).trans s7.any).free ng) (hp7.ne ng) (s8c.lst hg8 List.not_mem_nil) (by rw [hl8, lus]) (by omega)
          (fun i v e => ⟨(hr8 i v e).1.m' s8c, (hr8 i v e).2⟩) ⟨t, vs', rfl, sc.tup htb, (hqa.m sb).m sc⟩ (hl_strip (fun i => (hls i).mono (by decide)))
end
end G3
end
section
set_option maxHeartbeats 4000000
/-! one question of _law_why that is answered by a BadNumber -/
namespace G3
open PySem PySem.Spec PyProof.Rows L2
theorem why_num {K : PySem.W.Frag} {Tt : List (Addr × Str)} {t : XK → TE} {σ : L2.St} {H : Hp} {Q : VK} {v : V} {z : Str} {d : PyData} {a b : Nat} (tb : LamX.Tabs Tt H) (dx : ∀ H', Sx [] [] H H' → Dx K H' v d) (g : Gd d a b) (ha : a ≤ 60) (hb : b ≤ 8000)
    (h : ∀ E H' Q', Sx [] [] H H' → Exn (He.ga K "BadNumber") [("number", v), ("what", .str z)] H' E → t E σ H' Q')
    (k : ∀ q H'', Sx [] [] H H'' → LamX.Tabs Tt H'' → H'' q = some (.tup [.str "number", .str z, .str d.shown]) → Q (.ref q) H'') : LamX.tLam Tt (TTwhy K) t σ H Q := by
  refine ⟨tb, fun H1 e1 t1 => ?_⟩
  have s1 : Sx [] [] H H1 := sx_ext e1
  exact h _ H1 _ s1 fun dd H2 nd s2 hd => .inl ⟨dd, v, z, d, rfl, rfl, hd, .x (dx H2 (s1.trans s2.x)), g.shw ha hb, fun p H3 s3 hp => k p H3 ((s1.trans s2.x).trans s3.x) (tabs_sm (tabs_sm t1 s2) s3) hp⟩
end G3
end
section
set_option maxHeartbeats 4000000
/-! plain facts for the checks of ratios -/
namespace G3
open PySem PySem.Spec PyProof.Rows L2
/-- one ratio in two forms -/
theorem cross {x y : Int} {q : Rat} (hy : 0 < y) (e : Rat.divInt x y = q) : x * (q.den : Int) = q.num * y := by
  have hd := q.den_pos
  have := (Rat.divInt_eq_divInt_iff (d₁ := y) (d₂ := (q.den : Int)) (n₁ := x) (n₂ := q.num) (by omega) (by omega)).mp (by rw [rat_self]; exact e)
  exact this
theorem floor_sz {x y : Int} {m : Nat} (hy : 0 < y) (hx : x.natAbs < 2 ^ m) : (x.fdiv y).natAbs < 2 ^ m := by
  rw [Int.fdiv_eq_ediv_of_nonneg _ (by omega)]
  exact Nat.lt_of_le_of_lt (Int.natAbs_ediv_le_natAbs _ _) hx
theorem floor_le {x y : Int} {q : Rat} (hy : 0 < y) (e : Rat.divInt x y = q) : x.fdiv y * (q.den : Int) ≤ q.num ∧ q.num < (x.fdiv y + 1) * (q.den : Int) := by
  have c := cross hy e
  have hd : (0 : Int) < q.den := by have := q.den_pos; omega
  rw [Int.fdiv_eq_ediv_of_nonneg _ (by omega)]
  have h1 : x / y * y ≤ x := Int.ediv_mul_le _ (by omega)
  have h2 : x < (x / y + 1) * y := Int.lt_ediv_add_one_mul_self _ hy
  generalize x / y = f at *
  constructor
  · apply Int.le_of_mul_le_mul_right _ hy
    rw [← c, Int.mul_assoc, Int.mul_comm (q.den : Int) y, ← Int.mul_assoc]
    exact Int.mul_le_mul_of_nonneg_right h1 (by omega)
  · apply Int.lt_of_mul_lt_mul_right _ (Int.le_of_lt hy)
    rw [← c, Int.mul_assoc, Int.mul_comm (q.den : Int) y, ← Int.mul_assoc]
    exact Int.mul_lt_mul_of_pos_right h2 hd
theorem less_eq {a b c d : Int} {p q : Rat} (hb : 0 < b) (hd : 0 < d) (e1 : Rat.divInt a b = p) (e2 : Rat.divInt c d = q) : decide (a * d < c * b) = decide (p.num * (q.den : Int) < q.num * (p.den : Int)) := by
  have c1 := cross hb e1
  have c2 := cross hd e2
  have pd : (0 : Int) < p.den := by have := p.den_pos; omega
  have qd : (0 : Int) < q.den := by have := q.den_pos; omega
  generalize (p.den : Int) = P at *
  generalize (q.den : Int) = R at *
  generalize p.num = x at *
  generalize q.num = y at *
  clear e1 e2
  have f1 : a * d * (P * R) = x * R * (b * d) := by grind
  have f2 : c * b * (P * R) = y * P * (b * d) := by grind
  have m : (0 : Int) < P * R := Int.mul_pos pd qd
  have m2 : (0 : Int) < b * d := Int.mul_pos hb hd
  apply decide_eq_decide.mpr
  constructor
  · intro h
    have := Int.mul_lt_mul_of_pos_right h m
    rw [f1, f2] at this
    exact Int.lt_of_mul_lt_mul_right this (Int.le_of_lt m2)
  · intro h
    have := Int.mul_lt_mul_of_pos_right h m2
    rw [← f1, ← f2] at this
    exact Int.lt_of_mul_lt_mul_right this (Int.le_of_lt m)
theorem qd_nd (q : Rat) : (qd q).hasDict = false := by simp [qd, PyData.hasDict, PyData.hasDictAll]
theorem rp_q {K : PySem.W.Frag} {H : Hp} {v : V} {q : Rat} {m : Nat} {Q : VK} (h : IsQ H v q) (z : Hq m q) (hm : m ≤ 1920) (k : Q (.str (qd q).shown) H) : rReprX K [v] H Q :=
  ⟨v, qd q, rfl, .x (.b (dp_q h) (qd_nd q)), (gd_q z hm).shw, k⟩
theorem ok_q {q : Rat} {m : Nat} (z : Hq m q) (hm : m ≤ 1920) : PyData.strOk (qd q).shown = true := (gd_q z hm).ok
end G3
end
section
set_option maxHeartbeats 4000000
/-! products, quotients: plain facts -/
namespace G3
theorem sm_one {f : Nat → Rat} {k : Nat} : ∀ {n : Nat}, k < n → (∀ i, i < n → i ≠ k → f i = 0) → sm f n = f k
  | 0, h, _ => absurd h (Nat.not_lt_zero _)
  | n + 1, h, z => by
    show sm f n + f n = f k
    by_cases e : n = k
    · subst e
      rw [sm_zero fun i hi => z i (by omega) (by omega)]
      exact Rat.zero_add _
    · rw [sm_one (k := k) (by omega) fun i hi hne => z i (by omega) hne, z n (by omega) e]
      exact Rat.add_zero _
theorem sm_front {f : Nat → Rat} : ∀ {n : Nat}, sm f (n + 1) = f 0 + sm (fun i => f (i + 1)) n
  | 0 => by show (0 : Rat) + f 0 = f 0 + 0; grind
  | n + 1 => by
    show sm f (n + 1) + f (n + 1) = f 0 + (sm (fun i => f (i + 1)) n + f (n + 1))
    rw [sm_front]
    grind
theorem sm_rev {f : Nat → Rat} : ∀ {n : Nat}, sm f n = sm (fun i => f (n - 1 - i)) n
  | 0 => rfl
  | n + 1 => by
    rw [sm_front (f := fun i => f (n + 1 - 1 - i))]
    show sm f n + f n = f (n + 1 - 1 - 0) + _
    rw [sm_rev (f := f) (n := n)]
    have e : sm (fun i => f (n - 1 - i)) n = sm (fun i => f (n + 1 - 1 - (i + 1))) n := sm_congr fun i hi => by
      rw [show n - 1 - i = n + 1 - 1 - (i + 1) by omega]
    rw [e, show n + 1 - 1 - 0 = n by omega]
    grind
theorem sm_ext {F : Nat → Rat} {m n : Nat} (hm : ∀ k, m ≤ k → F k = 0) (hn : ∀ k, n ≤ k → F k = 0) : sm F m = sm F n := by
  have a := sm_cut (n := max m n) hm (Nat.le_max_left _ _)
  have b := sm_cut (n := max m n) hn (Nat.le_max_right _ _)
  rw [← a, b]
/-- the product's number, summed as far as one likes -/
theorem conv_wide {f g : Nat → Rat} {n : Nat} (h : ∀ k, n ≤ k → f k = 0) (i : Nat) : conv f g i = sm (fun k => if k ≤ i then f k * g (i - k) else 0) n := by
  unfold conv
  rw [sm_congr (g := fun k => if k ≤ i then f k * g (i - k) else 0) (n := i + 1) fun k hk => by rw [if_pos (by omega)]]
  refine sm_ext (fun k hk => by rw [if_neg (by omega)]) fun k hk => ?_
  show (if k ≤ i then f k * g (i - k) else 0) = 0
  rw [h k hk]
  split <;> grind
theorem conv_comm (f g : Nat → Rat) (i : Nat) : conv f g i = conv g f i := by
  unfold conv
  rw [sm_rev]
  refine sm_congr fun k hk => ?_
  rw [show i + 1 - 1 - k = i - k by omega, show i - (i - k) = k by omega]
  grind
theorem pmul_comm (a b : List Rat) : pmul a b = pmul b a := (nf_pmul _ _).ext (nf_pmul _ _) fun i => by rw [cf_pmul, cf_pmul, conv_comm]
theorem padd_comm (a b : List Rat) : padd 1 a b = padd 1 b a := (nf_padd _ _ _).ext (nf_padd _ _ _) fun i => by
  rw [cf_padd, cf_padd]
  have e : ((1 : Int) : Rat) = 1 := rfl
  rw [e]; grind
theorem pmul_nil2 (a : List Rat) : pmul a [] = [] := by rw [pmul_comm, pmul_nil]
theorem conv_top {f g : Nat → Rat} {p q : Nat} (hf : ∀ i, p < i → f i = 0) (hg : ∀ i, q < i → g i = 0) : conv f g (p + q) = f p * g q := by
  unfold conv
  rw [sm_one (k := p) (by omega) fun i hi hne => ?_]
  · rw [show p + q - p = q by omega]
  · rcases Nat.lt_or_ge p i with z | z
    · rw [hf i z]; grind
    · rw [hg (p + q - i) (by omega)]; grind
theorem conv_lin (f g h : Nat → Rat) (c : Rat) (i : Nat) : conv f (fun k => g k - c * h k) i = conv f g i - c * conv f h i := by
  unfold conv
  have : ∀ n, sm (fun k => f k * (g (i - k) - c * h (i - k))) n = sm (fun k => f k * g (i - k)) n - c * sm (fun k => f k * h (i - k)) n := fun n => by
    induction n with
    | zero => show (0 : Rat) = 0 - c * 0; grind
    | succ n ih => unfold sm; rw [ih]; grind
  exact this _
theorem conv_scale (f g : Nat → Rat) (c : Rat) (i : Nat) : conv f (fun k => c * g k) i = c * conv f g i := by
  unfold conv
  rw [← sm_mul]
  exact sm_congr fun k _ => by grind
theorem conv_shift (f g : Nat → Rat) (p i : Nat) : conv f (fun k => if p ≤ k then g (k - p) else 0) i = if p ≤ i then conv f g (i - p) else 0 := by
  have e0 : conv f (fun k => if p ≤ k then g (k - p) else 0) i = sm (fun k => if k + p ≤ i then f k * g (i - p - k) else 0) (i + 1) := by
    unfold conv
    refine sm_congr fun k hk => ?_
    dsimp only
    by_cases z : k + p ≤ i
    · rw [if_pos z, if_pos (by omega), show i - k - p = i - p - k by omega]
    · rw [if_neg z, if_neg (by omega)]; grind
  rw [e0]
  by_cases h : p ≤ i
  · rw [if_pos h, sm_cut (m := i - p + 1) (fun k hk => by rw [if_neg (by omega)]) (by omega)]
    unfold conv
    exact sm_congr fun k hk => by rw [if_pos (by omega)]
  · rw [if_neg h]
    exact sm_zero fun k hk => by rw [if_neg (by omega)]
theorem lt_of_cf {l : List Rat} {i : Nat} (h : cf l i ≠ 0) : i < l.length := by
  rcases Nat.lt_or_ge i l.length with z | z
  · exact z
  · exact absurd (cf_ge z) h
theorem pmul_top {a b : List Rat} (ha : 0 < a.length) (hb : 0 < b.length) : cf (pmul a b) (a.length + b.length - 2) = cf a (a.length - 1) * cf b (b.length - 1) := by
  rw [cf_pmul, show a.length + b.length - 2 = (a.length - 1) + (b.length - 1) by omega]
  exact conv_top (fun i hi => cf_ge (by omega)) fun i hi => cf_ge (by omega)
theorem pmul_len {a b : List Rat} (na : Nf a) (nb : Nf b) (ha : 0 < a.length) (hb : 0 < b.length) : (pmul a b).length = a.length + b.length - 1 := by
  have h1 := pmul_le a b
  have h2 : a.length + b.length - 2 < (pmul a b).length := lt_of_cf (by
    rw [pmul_top ha hb]
    have := na.top ha
    have := nb.top hb
    grind)
  omega
theorem cf_rem {a b : List Rat} (hb : Nf b) (hl : 0 < b.length) (i : Nat) : cf (rem a b) i = dv a b (dm a b) i := by
  rw [rem, cf_pO]
  by_cases h : i < b.length - 1
  · rw [if_pos h]
  · rw [if_neg h]
    have : dm a b = a.length + 1 - b.length := rfl
    exact (dv_zero hb hl _ (Nat.le_refl _) i (by omega) (by omega)).symm
/-- a = quo * b + rem -/
theorem div_all {a b : List Rat} (na : Nf a) (nb : Nf b) (hl : 0 < b.length) : padd 1 (pmul (quo a b) b) (rem a b) = a := by
  refine (nf_padd _ _ _).ext na fun i => ?_
  rw [cf_padd, cf_pmul, cf_rem nb hl]
  have e : ((1 : Int) : Rat) = 1 := rfl
  rw [e]
  have go : ∀ j, j ≤ dm a b → cf a i = dv a b j i + sm (fun t => if pl a b t ≤ i then by_ a b t * cf b (i - pl a b t) else 0) j := fun j => by
    induction j with
    | zero => intro _; show cf a i = cf a i + 0; grind
    | succ j ih =>
      intro hj
      rw [dv_succ]
      unfold sm
      rw [ih (by omega)]
      grind
  rw [go _ (Nat.le_refl _)]
  have q0 : ∀ k, dm a b ≤ k → cf (quo a b) k = 0 := fun k hk => by rw [quo, cf_pO, if_neg (by omega)]
  rw [conv_wide q0, sm_rev]
  have : sm (fun k => (fun k => if k ≤ i then cf (quo a b) k * cf b (i - k) else 0) (dm a b - 1 - k)) (dm a b) = sm (fun t => if pl a b t ≤ i then by_ a b t * cf b (i - pl a b t) else 0) (dm a b) := sm_congr fun t ht => by
    have d : dm a b = a.length + 1 - b.length := rfl
    have p : pl a b t = a.length - b.length - t := rfl
    have e : dm a b - 1 - t = pl a b t := by omega
    dsimp only
    rw [e]
    by_cases h : pl a b t ≤ i
    · rw [if_pos h, if_pos h, quo, cf_pO, if_pos (by omega), show dm a b - 1 - pl a b t = t by omega]
    · rw [if_neg h, if_neg h]
  rw [this]
  grind
/-! ### numbers times a constant -/
def Pp (a b : List Rat) : Prop := a.length = b.length ∧ ∃ c : Rat, c ≠ 0 ∧ ∀ i, cf a i = c * cf b i
theorem Pp.refl (a : List Rat) : Pp a a := ⟨rfl, 1, by decide, fun i => by grind⟩
theorem Pp.of {a b : List Rat} (na : Nf a) (nb : Nf b) {c : Rat} (hc : c ≠ 0) (h : ∀ i, cf a i = c * cf b i) : Pp a b := by
  refine ⟨?_, c, hc, h⟩
  have h1 : a.length ≤ b.length := len_of na fun i hi => by rw [h, cf_ge hi]; grind
  have h2 : b.length ≤ a.length := len_of nb fun i hi => by
    have := h i
    rw [cf_ge hi] at this
    grind
  omega
theorem Pp.symm {a b : List Rat} (h : Pp a b) : Pp b a := by
  obtain ⟨l, c, hc, h⟩ := h
  refine ⟨l.symm, 1 / c, by grind, fun i => ?_⟩
  rw [h i]
  grind
theorem Pp.trans {a b c : List Rat} (h : Pp a b) (k : Pp b c) : Pp a c := by
  obtain ⟨l, x, hx, h⟩ := h
  obtain ⟨m, y, hy, k⟩ := k
  exact ⟨l.trans m, x * y, by grind, fun i => by rw [h, k]; grind⟩
theorem dv_scale {a b a' b' : List Rat} {c d : Rat} (la : a.length = a'.length) (lb : b.length = b'.length) (hd : d ≠ 0) (ha : ∀ i, cf a i = c * cf a' i) (hb : ∀ i, cf b i = d * cf b' i) :
    ∀ j i, dv a b j i = c * dv a' b' j i
  | 0, i => ha i
  | j + 1, i => by
    have p : pl a b j = pl a' b' j := by unfold pl; rw [la, lb]
    rw [dv_succ, dv_succ, dv_scale la lb hd ha hb j i]
    have e : by_ a b j = c / d * by_ a' b' j := by
      unfold by_
      rw [dv_scale la lb hd ha hb j, hb, p, lb]
      grind
    rw [e, p, hb]
    split
    · grind
    · grind
theorem rem_pp {a b a' b' : List Rat} (ha : Pp a a') (hb : Pp b b') (nb : Nf b) (nb' : Nf b') (hl : 0 < b.length) : Pp (rem a b) (rem a' b') := by
  obtain ⟨la, c, hc, ha⟩ := ha
  obtain ⟨lb, d, hd, hb⟩ := hb
  refine Pp.of (nf_rem _ _) (nf_rem _ _) hc fun i => ?_
  rw [cf_rem nb hl, cf_rem nb' (lb ▸ hl), dv_scale la lb hd ha hb]
  unfold dm
  rw [la, lb]
theorem pplain_pp {l : List Rat} (nl : Nf l) : Pp (pplain l) l := by
  rcases Nat.eq_zero_or_pos l.length with z | z
  · have : l = [] := List.eq_nil_of_length_eq_zero z
    subst this
    exact Pp.refl _
  · refine Pp.of (nf_pplain _) nl (c := 1 / cf l (l.length - 1)) (by have := nl.top z; grind) fun i => ?_
    rw [pplain, cf_pO]
    split
    · grind
    · rename_i h
      rw [cf_ge (l := l) (i := i) (by omega)]; grind
theorem pplain_eq {a b : List Rat} (h : Pp a b) : pplain a = pplain b := by
  obtain ⟨l, c, hc, h⟩ := h
  refine (nf_pplain _).ext (nf_pplain _) fun i => ?_
  rw [pplain, pplain, cf_pO, cf_pO, l, h, h]
  split
  · grind
  · rfl
theorem pmul_pp {a b : List Rat} (G : List Rat) (h : Pp a b) : Pp (pmul G a) (pmul G b) := by
  obtain ⟨l, c, hc, h⟩ := h
  refine Pp.of (nf_pmul _ _) (nf_pmul _ _) hc fun i => ?_
  rw [cf_pmul, cf_pmul, ← conv_scale]
  unfold conv
  exact sm_congr fun k _ => by rw [h]
/-! ### a common factor -/
theorem dm_mul {G a b : List Rat} (nG : Nf G) (na : Nf a) (nb : Nf b) (hG : 0 < G.length) (hb : 0 < b.length) : dm (pmul G a) (pmul G b) = dm a b := by
  unfold dm
  rw [pmul_len nG nb hG hb]
  rcases Nat.eq_zero_or_pos a.length with z | z
  · have : a = [] := List.eq_nil_of_length_eq_zero z
    subst this
    rw [pmul_nil2]
    simp only [List.length_nil]
    omega
  · rw [pmul_len nG na hG z]
    omega
theorem dv_mul {G a b : List Rat} (nG : Nf G) (na : Nf a) (nb : Nf b) (hG : 0 < G.length) (hb : 0 < b.length) : ∀ j, j ≤ dm a b → ∀ i, dv (pmul G a) (pmul G b) j i = conv (cf G) (dv a b j) i
  | 0, _, i => cf_pmul _ _ _
  | j + 1, hj, i => by
    have d : dm a b = a.length + 1 - b.length := rfl
    have p : pl a b j = a.length - b.length - j := rfl
    have la : 0 < a.length := by omega
    have ih := dv_mul nG na nb hG hb j (by omega)
    have LA := pmul_len nG na hG la
    have LB := pmul_len nG nb hG hb
    have p2 : pl (pmul G a) (pmul G b) j = pl a b j := by unfold pl; rw [LA, LB]; omega
    have tG := nG.top hG
    have tb := nb.top hb
    have e : by_ (pmul G a) (pmul G b) j = by_ a b j := by
      unfold by_
      rw [ih, p2, LB]
      have e1 : pl a b j + (G.length + b.length - 1 - 1) = (G.length - 1) + (pl a b j + (b.length - 1)) := by omega
      have e2 : G.length + b.length - 1 - 1 = G.length + b.length - 2 := by omega
      rw [e1, e2, pmul_top hG hb, conv_top (fun i hi => cf_ge (by omega)) fun i hi => dv_zero nb hb j (by omega) i (by omega) (by omega)]
      grind
    rw [dv_succ, ih, p2, e]
    have f : dv a b (j + 1) = fun i => dv a b j i - by_ a b j * (fun k => if pl a b j ≤ k then cf b (k - pl a b j) else 0) i := by
      funext i
      rw [dv_succ]
      dsimp only
      split
      · rfl
      · grind
    rw [f, conv_lin, conv_shift]
    split
    · rw [cf_pmul]
    · grind
theorem rem_mul {G a b : List Rat} (nG : Nf G) (na : Nf a) (nb : Nf b) (hG : 0 < G.length) (hb : 0 < b.length) : rem (pmul G a) (pmul G b) = pmul G (rem a b) := by
  have LB := pmul_len nG nb hG hb
  refine (nf_rem _ _).ext (nf_pmul _ _) fun i => ?_
  rw [cf_rem (nf_pmul _ _) (by omega), dm_mul nG na nb hG hb, dv_mul nG na nb hG hb _ (Nat.le_refl _), cf_pmul]
  unfold conv
  exact sm_congr fun k _ => by rw [cf_rem nb hb]
end G3
end
section
set_option maxHeartbeats 4000000
/-! sizes of the numbers that a division meets -/
namespace G3
theorem rc_ne {a : Int} (h : a ≠ 0) : (a : Rat) ≠ 0 := fun z => h (Rat.intCast_inj.mp (z.trans Rat.intCast_zero.symm))
theorem rc_mul (a b : Int) : ((a * b : Int) : Rat) = (a : Rat) * (b : Rat) := Rat.intCast_mul a b
theorem rc_sub (a b : Int) : ((a - b : Int) : Rat) = (a : Rat) - (b : Rat) := Rat.intCast_sub a b
theorem rc_pow (a : Int) : ∀ n : Nat, ((a ^ n : Int) : Rat) = (a : Rat) ^ n
  | 0 => rfl
  | n + 1 => by rw [Int.pow_succ, rc_mul, rc_pow a n, Rat.pow_succ]
theorem p2le {m n : Nat} (h : m ≤ n) : 2 ^ m ≤ 2 ^ n := Nat.pow_le_pow_right (by decide) h
theorem na_mul {m n : Nat} {a b : Int} (ha : a.natAbs < 2 ^ m) (hb : b.natAbs < 2 ^ n) : (a * b).natAbs < 2 ^ (m + n) := by rw [Int.natAbs_mul]; exact pow_lt ha hb
theorem na_pow {n : Nat} {a : Int} (ha : a.natAbs < 2 ^ n) : ∀ j : Nat, (a ^ j).natAbs ≤ 2 ^ (j * n)
  | 0 => by simp
  | j + 1 => by
    rw [Int.pow_succ, Int.natAbs_mul, Nat.add_mul, Nat.one_mul, Nat.pow_add]
    exact Nat.mul_le_mul (na_pow ha j) (Nat.le_of_lt ha)
theorem na_mulp {m n j : Nat} {a b : Int} (ha : a.natAbs < 2 ^ m) (hb : b.natAbs < 2 ^ n) : (a * b ^ j).natAbs < 2 ^ (m + j * n) := by
  rw [Int.natAbs_mul, Nat.pow_add]
  exact Nat.mul_lt_mul_of_lt_of_le ha (na_pow hb j) (Nat.pow_pos (by decide))
theorem hq_frac {n : Nat} {a b : Int} {q : Rat} (hb : b ≠ 0) (h1 : a.natAbs < 2 ^ n) (h2 : b.natAbs < 2 ^ n) (e : q = (a : Rat) / (b : Rat)) : Hq n q := by
  rw [e, ← Rat.divInt_eq_div]
  exact hq_divInt hb h1 h2
/-- f is a constant times whole numbers below 2 ^ n -/
def Pr (n : Nat) (f : Nat → Rat) : Prop := ∃ (A : Nat → Int) (c : Rat), c ≠ 0 ∧ (∀ i, (A i).natAbs < 2 ^ n) ∧ ∀ i, f i = c * (A i : Rat)
/-- the numbers of l over one bottom, below 2 ^ n -/
def Bd (n : Nat) (l : List Rat) : Prop := ∃ (A : Nat → Int) (m : Int), m ≠ 0 ∧ m.natAbs < 2 ^ n ∧ (∀ i, (A i).natAbs < 2 ^ n) ∧ ∀ i, cf l i = (A i : Rat) / (m : Rat)
theorem Pr.mono {m n : Nat} {f : Nat → Rat} (h : Pr m f) (hm : m ≤ n) : Pr n f := let ⟨A, c, hc, a, e⟩ := h; ⟨A, c, hc, fun i => Nat.lt_of_lt_of_le (a i) (p2le hm), e⟩
theorem Bd.mono {m n : Nat} {l : List Rat} (h : Bd m l) (hm : m ≤ n) : Bd n l := let ⟨A, c, hc, z, a, e⟩ := h; ⟨A, c, hc, Nat.lt_of_lt_of_le z (p2le hm), fun i => Nat.lt_of_lt_of_le (a i) (p2le hm), e⟩
theorem Bd.pr {n : Nat} {l : List Rat} (h : Bd n l) : Pr n (cf l) := let ⟨A, m, hm, _, a, e⟩ := h; ⟨A, 1 / (m : Rat), by have := rc_ne hm; grind, a, fun i => by rw [e]; grind⟩
theorem Bd.hl {n : Nat} {l : List Rat} (h : Bd n l) : Hl n l := let ⟨A, m, hm, z, a, e⟩ := h; fun i => hq_frac hm (a i) z (e i)
theorem Pr.pp {n : Nat} {a b : List Rat} (h : Pr n (cf a)) (p : Pp a b) : Pr n (cf b) := by
  obtain ⟨A, c, hc, z, e⟩ := h
  obtain ⟨_, d, hd, k⟩ := p.symm
  exact ⟨A, d * c, by grind, z, fun i => by rw [k, e]; grind⟩
/-- division of whole numbers over a constant each -/
theorem dv_ints {a b : List Rat} {A B : Nat → Int} {c d : Rat} {n1 n2 : Nat} (hd : d ≠ 0) (nb : Nf b) (hl : 0 < b.length) (ha : ∀ i, cf a i = c * (A i : Rat)) (hb : ∀ i, cf b i = d * (B i : Rat)) (za : ∀ i, (A i).natAbs < 2 ^ n1) (zb : ∀ i, (B i).natAbs < 2 ^ n2) :
    B (b.length - 1) ≠ 0 ∧ ∀ j, ∃ J : Nat → Int, (∀ i, (J i).natAbs < 2 ^ (n1 + j * (n2 + 1))) ∧ ∀ i, dv a b j i = c * (J i : Rat) / ((B (b.length - 1) : Int) : Rat) ^ j := by
  have t := nb.top hl
  have tz : B (b.length - 1) ≠ 0 := fun z => by
    rw [hb, z] at t
    exact t (by rw [Rat.intCast_zero]; grind)
  refine ⟨tz, fun j => ?_⟩
  have tr := rc_ne tz
  induction j with
  | zero => exact ⟨A, by simpa using za, fun i => by
      show cf a i = _
      rw [ha, Rat.pow_zero]; grind⟩
  | succ j ih =>
    obtain ⟨J, z, e⟩ := ih
    refine ⟨fun i => J i * B (b.length - 1) - (if pl a b j ≤ i then J (pl a b j + (b.length - 1)) * B (i - pl a b j) else 0), fun i => ?_, fun i => ?_⟩
    · have z1 := na_mul (z i) (zb (b.length - 1))
      have ee : n1 + (j + 1) * (n2 + 1) = n1 + j * (n2 + 1) + n2 + 1 := by rw [Nat.add_mul]; omega
      rw [ee, Nat.pow_succ]
      have pz : 0 < 2 ^ (n1 + j * (n2 + 1) + n2) := Nat.pow_pos (by decide)
      dsimp only
      split
      · have z2 := na_mul (z (pl a b j + (b.length - 1))) (zb (i - pl a b j))
        omega
      · omega
    · rw [dv_succ, by_, e, e, hb, rc_sub, rc_mul, Rat.pow_succ]
      have pz : ((B (b.length - 1) : Int) : Rat) ^ j ≠ 0 := by
        rw [← rc_pow]
        exact rc_ne (Int.pow_ne_zero tz)
      generalize ((B (b.length - 1) : Int) : Rat) ^ j = P at *
      split
      · rw [hb, rc_mul]
        grind
      · rw [Rat.intCast_zero]
        grind
theorem dv_pr {a b : List Rat} {n1 n2 : Nat} (ha : Pr n1 (cf a)) (hb : Pr n2 (cf b)) (nb : Nf b) (hl : 0 < b.length) (j : Nat) : Pr (n1 + j * (n2 + 1)) (dv a b j) := by
  obtain ⟨A, c, hc, za, ea⟩ := ha
  obtain ⟨B, d, hd, zb, eb⟩ := hb
  obtain ⟨tz, h⟩ := dv_ints hd nb hl ea eb za zb
  obtain ⟨J, z, e⟩ := h j
  have pz : ((B (b.length - 1) : Int) : Rat) ^ j ≠ 0 := by
    rw [← rc_pow]
    exact rc_ne (Int.pow_ne_zero tz)
  refine ⟨J, c / ((B (b.length - 1) : Int) : Rat) ^ j, by grind, z, fun i => ?_⟩
  rw [e]
  grind
theorem rem_pr {a b : List Rat} {n1 n2 : Nat} (ha : Pr n1 (cf a)) (hb : Pr n2 (cf b)) (nb : Nf b) (hl : 0 < b.length) : Pr (n1 + dm a b * (n2 + 1)) (cf (rem a b)) := by
  obtain ⟨J, c, hc, z, e⟩ := dv_pr ha hb nb hl (dm a b)
  exact ⟨J, c, hc, z, fun i => by rw [cf_rem nb hl, e]⟩
/-- what a division meets, over a bottom each -/
theorem dv_bd {a b : List Rat} {n1 n2 : Nat} (ha : Bd n1 a) (hb : Bd n2 b) (nb : Nf b) (hl : 0 < b.length) : ∃ (m t : Int) (B : Nat → Int) (J : Nat → Nat → Int) (k : Int), m ≠ 0 ∧ t ≠ 0 ∧ k ≠ 0 ∧ m.natAbs < 2 ^ n1 ∧ t.natAbs < 2 ^ n2 ∧ k.natAbs < 2 ^ n2 ∧ (∀ i, (B i).natAbs < 2 ^ n2) ∧
    (∀ j i, (J j i).natAbs < 2 ^ (n1 + j * (n2 + 1))) ∧ (∀ j i, dv a b j i = (J j i : Rat) / ((m * t ^ j : Int) : Rat)) ∧ (∀ i, cf b i = (B i : Rat) / (k : Rat)) ∧ B (b.length - 1) = t := by
  obtain ⟨A, m, hm, zm, za, ea⟩ := ha
  obtain ⟨B, k, hk, zk, zb, eb⟩ := hb
  have hm' := rc_ne hm
  have hk' := rc_ne hk
  obtain ⟨tz, h⟩ := dv_ints (c := 1 / (m : Rat)) (d := 1 / (k : Rat)) (by grind) nb hl (fun i => by rw [ea]; grind) (fun i => by rw [eb]; grind) za zb
  refine ⟨m, _, B, fun j => (h j).choose, k, hm, tz, hk, zm, zb _, zk, zb, fun j => (h j).choose_spec.1, fun j i => ?_, eb, rfl⟩
  rw [(h j).choose_spec.2 i, rc_mul, rc_pow]
  have pz : ((B (b.length - 1) : Int) : Rat) ^ j ≠ 0 := by
    rw [← rc_pow]
    exact rc_ne (Int.pow_ne_zero tz)
  grind
theorem div_sz {a b : List Rat} {n1 n2 n : Nat} (ha : Bd n1 a) (hb : Bd n2 b) (nb : Nf b) (hl : 0 < b.length) (h1 : n1 + dm a b * (n2 + 1) ≤ n) (h2 : n2 ≤ n) :
    (∀ j i, j ≤ dm a b → Hq n (dv a b j i)) ∧ (∀ j, j < dm a b → Hq n (by_ a b j)) ∧ (∀ j i, j < dm a b → Hq n (by_ a b j * cf b i)) ∧ Hl n b := by
  have hb' := hb
  obtain ⟨m, t, B, J, k, hm, ht, hk, zm, zt, zk, zb, zj, e, eb, tb⟩ := dv_bd ha hb nb hl
  have hm' := rc_ne hm
  have ht' := rc_ne ht
  have hk' := rc_ne hk
  have up : ∀ j, j ≤ dm a b → n1 + j * (n2 + 1) ≤ n := fun j hj => by
    have := Nat.mul_le_mul_right (n2 + 1) hj
    omega
  have nz : ∀ j, m * t ^ j ≠ 0 := fun j => Int.mul_ne_zero hm (Int.pow_ne_zero ht)
  have zz : ∀ j, j ≤ dm a b → (m * t ^ j).natAbs < 2 ^ n := fun j hj => Nat.lt_of_lt_of_le (na_mulp zm zt) (p2le (by
    have := up j hj
    have : j * n2 ≤ j * (n2 + 1) := Nat.mul_le_mul_left _ (by omega)
    omega))
  have eby : ∀ j, by_ a b j = ((J j (pl a b j + (b.length - 1)) * k : Int) : Rat) / ((m * t ^ (j + 1) : Int) : Rat) := fun j => by
    rw [by_, e, eb, tb, rc_mul, rc_mul, rc_mul, rc_pow, rc_pow, Rat.pow_succ]
    have pz : ((t : Int) : Rat) ^ j ≠ 0 := by
      rw [← rc_pow]
      exact rc_ne (Int.pow_ne_zero ht)
    grind
  have one : ∀ j (x : Int), j < dm a b → x.natAbs < 2 ^ n2 → (J j (pl a b j + (b.length - 1)) * x).natAbs < 2 ^ n := fun j x hj hx => Nat.lt_of_lt_of_le (na_mul (zj _ _) hx) (p2le (by
    have := up (j + 1) hj
    rw [Nat.add_mul] at this
    omega))
  refine ⟨fun j i hj => hq_frac (nz j) (Nat.lt_of_lt_of_le (zj j i) (p2le (up j hj))) (zz j hj) (e j i), fun j hj => hq_frac (nz (j + 1)) (one j k hj zk) (zz _ hj) (eby j), fun j i hj => hq_frac (nz (j + 1)) (one j (B i) hj (zb i)) (zz _ hj) ?_, hb'.hl.mono h2⟩
  rw [eby, eb, rc_mul, rc_mul]
  have := rc_ne (nz (j + 1))
  grind
theorem rem_bd {a b : List Rat} {n1 n2 n : Nat} (ha : Bd n1 a) (hb : Bd n2 b) (nb : Nf b) (hl : 0 < b.length) (h1 : n1 + dm a b * (n2 + 1) ≤ n) : Bd n (rem a b) := by
  obtain ⟨m, t, B, J, k, hm, ht, hk, zm, zt, zk, zb, zj, e, eb, tb⟩ := dv_bd ha hb nb hl
  refine ⟨J (dm a b), m * t ^ dm a b, Int.mul_ne_zero hm (Int.pow_ne_zero ht), Nat.lt_of_lt_of_le (na_mulp zm zt) (p2le (Nat.le_trans ?_ h1)), fun i => Nat.lt_of_lt_of_le (zj _ i) (p2le h1), fun i => by rw [cf_rem nb hl, e]⟩
  have : dm a b * n2 ≤ dm a b * (n2 + 1) := Nat.mul_le_mul_left _ (by omega)
  omega
/-- with the lead 1 -/
theorem pplain_bd {l : List Rat} {n : Nat} (nl : Nf l) (h : Pr n (cf l)) (hn : 0 < n) : Bd n (pplain l) := by
  obtain ⟨A, c, hc, z, e⟩ := h
  rcases Nat.eq_zero_or_pos l.length with q | q
  · have : l = [] := List.eq_nil_of_length_eq_zero q
    subst this
    refine ⟨fun _ => 0, 1, by decide, Nat.one_lt_two_pow (by omega), fun _ => Nat.pow_pos (by decide), fun i => ?_⟩
    show cf [] i = ((0 : Int) : Rat) / _
    rw [cf_nil, Rat.intCast_zero]
    grind
  · have t := nl.top q
    have tz : A (l.length - 1) ≠ 0 := fun z => by
      rw [e, z, Rat.intCast_zero] at t
      exact t (by grind)
    have tr := rc_ne tz
    refine ⟨fun i => if i < l.length then A i else 0, _, tz, z _, fun i => ?_, fun i => ?_⟩
    · dsimp only
      split
      · exact z i
      · exact Nat.pow_pos (by decide)
    · rw [pplain, cf_pO]
      dsimp only
      split
      · rw [e, e]; grind
      · rw [Rat.intCast_zero]; grind
theorem mul_pr {G l : List Rat} {n1 n2 : Nat} (hG : Pr n1 (cf G)) (hl : Pr n2 (cf l)) (lG : G.length ≤ 3) : Pr (n1 + n2 + 2) (cf (pmul G l)) := by
  obtain ⟨A, c, hc, za, ea⟩ := hG
  obtain ⟨B, d, hd, zb, eb⟩ := hl
  refine ⟨fun i => (if 0 ≤ i then A 0 * B i else 0) + (if 1 ≤ i then A 1 * B (i - 1) else 0) + (if 2 ≤ i then A 2 * B (i - 2) else 0), c * d, by grind, fun i => ?_, fun i => ?_⟩
  · have z0 := na_mul (za 0) (zb i)
    have z1 := na_mul (za 1) (zb (i - 1))
    have z2 := na_mul (za 2) (zb (i - 2))
    rw [Nat.pow_add 2 (n1 + n2) 2]
    dsimp only
    split <;> split <;> split <;> omega
  · rw [cf_pmul, conv_wide (n := 3) fun k hk => cf_ge (by omega)]
    show (0 : Rat) + _ + _ + _ = _
    dsimp only
    rw [ea, ea, ea, eb, eb, eb]
    by_cases h1 : 1 ≤ i
    · by_cases h2 : 2 ≤ i
      · rw [if_pos (Nat.zero_le _), if_pos h1, if_pos h2, if_pos (Nat.zero_le _), if_pos h1, if_pos h2, Rat.intCast_add, Rat.intCast_add, rc_mul, rc_mul, rc_mul, Nat.sub_zero]; grind
      · rw [if_pos (Nat.zero_le _), if_pos h1, if_neg h2, if_pos (Nat.zero_le _), if_pos h1, if_neg h2, Rat.intCast_add, Rat.intCast_add, rc_mul, rc_mul, Rat.intCast_zero, Nat.sub_zero]; grind
    · rw [if_pos (Nat.zero_le _), if_neg h1, if_neg (by omega), if_pos (Nat.zero_le _), if_neg h1, if_neg (by omega), Rat.intCast_add, Rat.intCast_add, rc_mul, Rat.intCast_zero, Nat.sub_zero]; grind
theorem mul_bd {G l : List Rat} {n1 n2 : Nat} (hG : Bd n1 G) (hl : Bd n2 l) (lG : G.length ≤ 3) : Bd (n1 + n2 + 2) (pmul G l) := by
  obtain ⟨A, c, hc, zc, za, ea⟩ := hG
  obtain ⟨B, d, hd, zd, zb, eb⟩ := hl
  have hc' := rc_ne hc
  have hd' := rc_ne hd
  refine ⟨fun i => (if 0 ≤ i then A 0 * B i else 0) + (if 1 ≤ i then A 1 * B (i - 1) else 0) + (if 2 ≤ i then A 2 * B (i - 2) else 0), c * d, Int.mul_ne_zero hc hd, Nat.lt_of_lt_of_le (na_mul zc zd) (p2le (by omega)), fun i => ?_, fun i => ?_⟩
  · have z0 := na_mul (za 0) (zb i)
    have z1 := na_mul (za 1) (zb (i - 1))
    have z2 := na_mul (za 2) (zb (i - 2))
    rw [Nat.pow_add 2 (n1 + n2) 2]
    dsimp only
    split <;> split <;> split <;> omega
  · rw [cf_pmul, conv_wide (n := 3) fun k hk => cf_ge (by omega), rc_mul]
    show (0 : Rat) + _ + _ + _ = _
    dsimp only
    rw [ea, ea, ea, eb, eb, eb]
    by_cases h1 : 1 ≤ i
    · by_cases h2 : 2 ≤ i
      · rw [if_pos (Nat.zero_le _), if_pos h1, if_pos h2, if_pos (Nat.zero_le _), if_pos h1, if_pos h2, Rat.intCast_add, Rat.intCast_add, rc_mul, rc_mul, rc_mul, Nat.sub_zero]; grind
      · rw [if_pos (Nat.zero_le _), if_pos h1, if_neg h2, if_pos (Nat.zero_le _), if_pos h1, if_neg h2, Rat.intCast_add, Rat.intCast_add, rc_mul, rc_mul, Rat.intCast_zero, Nat.sub_zero]; grind
    · rw [if_pos (Nat.zero_le _), if_neg h1, if_neg (by omega), if_pos (Nat.zero_le _), if_neg h1, if_neg (by omega), Rat.intCast_add, Rat.intCast_add, rc_mul, Rat.intCast_zero, Nat.sub_zero]; grind
theorem frac_mul {x y d : Rat} (hy : y ≠ 0) (hd : d ≠ 0) : x / y = x * d / (y * d) := by grind
/-- numbers below 2 ^ m in top and bottom -/
theorem bd_hl0 {m : Nat} : ∀ {l : List Rat}, Hl m l → ∃ (A : Nat → Int) (c : Int), c ≠ 0 ∧ (c.natAbs ≤ 2 ^ (l.length * m) ∧ ∀ i, (A i).natAbs ≤ 2 ^ (l.length * m)) ∧ (0 < l.length → c.natAbs < 2 ^ (l.length * m) ∧ ∀ i, (A i).natAbs < 2 ^ (l.length * m)) ∧ ∀ i, cf l i = (A i : Rat) / (c : Rat)
  | [], _ => ⟨fun _ => 0, 1, by decide, ⟨by simp, fun _ => Nat.zero_le _⟩, fun h => absurd h (Nat.not_lt_zero _), fun i => by
      rw [cf_nil]
      show (0 : Rat) = ((0 : Int) : Rat) / _
      rw [Rat.intCast_zero]; grind⟩
  | q :: r, h => by
    have hr : Hl m r := fun i => by have := h (i + 1); rwa [cf_succ] at this
    have hq := h 0
    rw [cf_zero] at hq
    have d0 : (q.den : Int) ≠ 0 := by have := q.den_pos; omega
    have dz : ((q.den : Int)).natAbs < 2 ^ m := by simpa using hq.2
    obtain ⟨A, c, hc, ⟨zc, za⟩, _, ea⟩ := bd_hl0 hr
    have hc' := rc_ne hc
    have hd' := rc_ne d0
    have mul : ∀ x y : Int, x.natAbs ≤ 2 ^ (r.length * m) → y.natAbs < 2 ^ m → (x * y).natAbs < 2 ^ ((q :: r).length * m) := fun x y hx hy => by
      rw [List.length_cons, Nat.add_mul, Nat.one_mul, Nat.pow_add, Int.natAbs_mul]
      exact Nat.mul_lt_mul_of_le_of_lt hx hy (Nat.pow_pos (by decide))
    have sA : ∀ i, ((fun i => match i with | 0 => c * q.num | i + 1 => A i * q.den : Nat → Int) i).natAbs < 2 ^ ((q :: r).length * m) := fun i => by
      cases i with
      | zero => exact mul _ _ zc hq.1
      | succ i => exact mul _ _ (za i) dz
    refine ⟨fun i => match i with | 0 => c * q.num | i + 1 => A i * q.den, c * q.den, Int.mul_ne_zero hc d0, ⟨Nat.le_of_lt (mul _ _ zc dz), fun i => Nat.le_of_lt (sA i)⟩, fun _ => ⟨mul _ _ zc dz, sA⟩, fun i => ?_⟩
    cases i with
    | zero =>
      rw [cf_zero]
      show q = ((c * q.num : Int) : Rat) / _
      rw [rc_mul, rc_mul]
      have e := rat_self q
      rw [Rat.divInt_eq_div] at e
      have : (q.num : Rat) = q * ((q.den : Int) : Rat) := by
        conv => rhs; lhs; rw [← e]
        grind
      rw [this]
      grind
    | succ i =>
      rw [cf_succ]
      show _ = ((A i * q.den : Int) : Rat) / _
      rw [rc_mul, rc_mul, ea]
      exact frac_mul hc' hd'
theorem bd_hl {m k : Nat} {l : List Rat} (h : Hl m l) (hl : l.length ≤ k) (hk : 0 < k * m) : Bd (k * m) l := by
  obtain ⟨A, c, hc, ⟨z1, z2⟩, z3, e⟩ := bd_hl0 h
  have le : l.length * m ≤ k * m := Nat.mul_le_mul_right _ hl
  rcases Nat.eq_zero_or_pos l.length with q | q
  · rw [q, Nat.zero_mul, Nat.pow_zero] at z1 z2
    have one : 1 < 2 ^ (k * m) := Nat.one_lt_two_pow (by omega)
    exact ⟨A, c, hc, by omega, fun i => by have := z2 i; omega, e⟩
  · exact ⟨A, c, hc, Nat.lt_of_lt_of_le (z3 q).1 (p2le le), fun i => Nat.lt_of_lt_of_le ((z3 q).2 i) (p2le le), e⟩
end G3
end
section
set_option maxHeartbeats 4000000
/-! the law's own multiples: whole numbers without a common divisor -/
namespace G3
/-- the k-th number over the bottom L -/
def zt (l : List Rat) (L k : Nat) : Int := (cf l k).num * ((L : Int) / ((cf l k).den : Int))
theorem zt_eq {l : List Rat} {L k : Nat} (h : (cf l k).den ∣ L) : (zt l L k : Rat) = cf l k * ((L : Int) : Rat) := by
  obtain ⟨c, rfl⟩ := h
  have dp := (cf l k).den_pos
  unfold zt
  rw [Int.natCast_mul, Int.mul_ediv_cancel_left _ (by omega), rc_mul, rc_mul]
  have e := rat_self (cf l k)
  rw [Rat.divInt_eq_div] at e
  have hd : (((cf l k).den : Int) : Rat) ≠ 0 := rc_ne (by omega)
  have : ((cf l k).num : Rat) = cf l k * (((cf l k).den : Int) : Rat) := by
    conv => rhs; lhs; rw [← e]
    grind
  rw [this]
  grind
theorem gcT_dvd {l : List Rat} {L k : Nat} : ∀ {i : Nat}, k < i → gcT l L i ∣ (zt l L k).natAbs
  | 0, h => absurd h (Nat.not_lt_zero _)
  | i + 1, h => by
    by_cases e : k = i
    · subst e; exact Nat.gcd_dvd_right _ _
    · exact Nat.dvd_trans (Nat.gcd_dvd_left _ _) (gcT_dvd (by omega))
theorem dvd_gcT {l : List Rat} {L m : Nat} : ∀ {i : Nat}, (∀ k, k < i → m ∣ (zt l L k).natAbs) → m ∣ gcT l L i
  | 0, _ => Nat.dvd_zero _
  | i + 1, h => Nat.dvd_gcd (dvd_gcT fun k hk => h k (by omega)) (h i (by omega))
theorem lcD_dvd_of {l : List Rat} {m : Nat} (h : ∀ i, (cf l i).den ∣ m) : ∀ n, lcD l n ∣ m
  | 0 => Nat.one_dvd _
  | n + 1 => Nat.lcm_dvd (lcD_dvd_of h n) (h n)
theorem den_dvd {q : Rat} {a m : Int} (hm : m ≠ 0) (e : q = (a : Rat) / (m : Rat)) : q.den ∣ m.natAbs := by
  rw [e, ← Rat.divInt_eq_div, Rat.den_divInt, if_neg hm]
  exact Nat.div_dvd_of_dvd (Int.ofNat_dvd_left.mp (Int.gcd_dvd_left _ _))
/-- what p_short meets -/
theorem short_sz {l : List Rat} {n : Nat} (nl : Nf l) (h : Bd n l) (hn : n ≤ 4400) : ShortSz l := by
  obtain ⟨A, m, hm, zm, za, ea⟩ := h
  have hm' := rc_ne hm
  have L0 := lcD_pos l l.length
  have dv : lcD l l.length ∣ m.natAbs := lcD_dvd_of (fun i => den_dvd hm (ea i)) _
  have up : ∀ {x : Nat}, x < 2 ^ n → x < 2 ^ 4400 := fun h => Nat.lt_of_lt_of_le h (p2le hn)
  refine ⟨up (Nat.lt_of_le_of_lt (Nat.le_of_dvd (by omega) dv) zm), fun hl => ?_⟩
  have t := nl.top hl
  have dt : (cf l (l.length - 1)).den ∣ lcD l l.length := lcD_dvd (by omega) (Nat.le_refl _)
  have et := zt_eq dt
  have z0 : zt l (lcD l l.length) (l.length - 1) ≠ 0 := fun z => by
    rw [z, Rat.intCast_zero] at et
    have : (((lcD l l.length : Nat) : Int) : Rat) ≠ 0 := rc_ne (by omega)
    grind
  have gd := gcT_dvd (l := l) (L := lcD l l.length) (k := l.length - 1) (i := l.length) (by omega)
  have gpos : 0 < gcT l (lcD l l.length) l.length := by
    rcases Nat.eq_zero_or_pos (gcT l (lcD l l.length) l.length) with z | z
    · rw [z] at gd
      have := Nat.eq_zero_of_zero_dvd gd
      omega
    · exact z
  refine ⟨gpos, up (Nat.lt_of_le_of_lt (Nat.le_of_dvd (by omega) gd) (Nat.lt_of_le_of_lt ?_ (za (l.length - 1))))⟩
  obtain ⟨k, hk⟩ := dv
  have k0 : 0 < k := Nat.pos_of_ne_zero fun z => by rw [z, Nat.mul_zero] at hk; omega
  have e3 : (zt l (lcD l l.length) (l.length - 1)).natAbs * k = (A (l.length - 1)).natAbs := by
    have e4 : zt l (lcD l l.length) (l.length - 1) * m = A (l.length - 1) * (lcD l l.length : Nat) := by
      apply Rat.intCast_inj.mp
      rw [rc_mul, rc_mul, et, ea]
      grind
    have e5 := congrArg Int.natAbs e4
    rw [Int.natAbs_mul, Int.natAbs_mul, hk, Int.natAbs_natCast, Nat.mul_comm (lcD l l.length) k, ← Nat.mul_assoc] at e5
    exact Nat.eq_of_mul_eq_mul_right L0 e5
  rw [← e3]
  exact Nat.le_mul_of_pos_right _ k0
theorem pshort_pp {l : List Rat} (nl : Nf l) (h : ShortSz l) : Pp (pshort l) l := by
  rcases Nat.eq_zero_or_pos l.length with q | q
  · have : l = [] := List.eq_nil_of_length_eq_zero q
    subst this
    exact Pp.refl _
  · obtain ⟨g0, _⟩ := h.2 q
    have L0 := lcD_pos l l.length
    have a := rc_ne (a := ((lcD l l.length : Nat) : Int)) (by omega)
    have b := rc_ne (a := ((gcT l (lcD l l.length) l.length : Nat) : Int)) (by omega)
    refine Pp.of (nf_pO _ _) nl (c := (((lcD l l.length : Nat) : Int) : Rat) / (((gcT l (lcD l l.length) l.length : Nat) : Int) : Rat)) (by grind) fun i => ?_
    rw [pshort, cf_pscale, Rat.divInt_eq_div]
    grind
theorem pshort_bd {l : List Rat} {n : Nat} (nl : Nf l) (h : Pr n (cf l)) (hs : ShortSz l) (hn : 0 < n) : Bd n (pshort l) := by
  rcases Nat.eq_zero_or_pos l.length with q | q
  · have : l = [] := List.eq_nil_of_length_eq_zero q
    subst this
    refine ⟨fun _ => 0, 1, by decide, Nat.one_lt_two_pow (by omega), fun _ => Nat.pow_pos (by decide), fun i => ?_⟩
    show cf [] i = ((0 : Int) : Rat) / _
    rw [cf_nil, Rat.intCast_zero]
    grind
  · obtain ⟨g0, _⟩ := hs.2 q
    obtain ⟨A, c, hc, za, ea⟩ := h
    have L0 := lcD_pos l l.length
    have L1 := rc_ne (a := ((lcD l l.length : Nat) : Int)) (by omega)
    have g1 := rc_ne (a := ((gcT l (lcD l l.length) l.length : Nat) : Int)) (by omega)
    have zd : ∀ i, i < l.length → (cf l i).den ∣ lcD l l.length := fun i hi => lcD_dvd hi (Nat.le_refl _)
    have gd : ∀ i, i < l.length → ((gcT l (lcD l l.length) l.length : Nat) : Int) ∣ zt l (lcD l l.length) i := fun i hi => Int.ofNat_dvd_left.mpr (gcT_dvd hi)
    have gm : ∀ m, (∀ k, k < l.length → m ∣ (zt l (lcD l l.length) k).natAbs) → m ∣ gcT l (lcD l l.length) l.length := fun m hm => dvd_gcT hm
    have ez : ∀ i, i < l.length → (zt l (lcD l l.length) i : Rat) = cf l i * (((lcD l l.length : Nat) : Int) : Rat) := fun i hi => zt_eq (zd i hi)
    have ep : ∀ i, cf (pshort l) i = cf l i * ((((lcD l l.length : Nat) : Int) : Rat) / (((gcT l (lcD l l.length) l.length : Nat) : Int) : Rat)) := fun i => by
      rw [pshort, cf_pscale, Rat.divInt_eq_div]
    generalize zt l (lcD l l.length) = z at *
    generalize gcT l (lcD l l.length) l.length = g at *
    generalize lcD l l.length = L at *
    -- the whole numbers
    have ew : ∀ i, i < l.length → ((z i / (g : Int) : Int) : Rat) = cf l i * (((L : Int) : Rat) / ((g : Int) : Rat)) := fun i hi => by
      obtain ⟨w, hw⟩ := gd i hi
      have := ez i hi
      rw [hw, Int.mul_ediv_cancel_left _ (by omega)]
      rw [hw, rc_mul] at this
      grind
    have small : ∀ i, i < l.length → (z i / (g : Int)).natAbs ≤ (A i).natAbs := by
      have k0 : c * (((L : Int) : Rat) / ((g : Int) : Rat)) ≠ 0 := by grind
      generalize hk : c * (((L : Int) : Rat) / ((g : Int) : Rat)) = kap at k0
      have e1 : ∀ i, i < l.length → (z i / (g : Int)).natAbs * kap.den = kap.num.natAbs * (A i).natAbs := fun i hi => by
        have := ew i hi
        rw [ea] at this
        have e := rat_self kap
        rw [Rat.divInt_eq_div] at e
        have dp := kap.den_pos
        have d1 := rc_ne (a := ((kap.den : Nat) : Int)) (by omega)
        have e2 : (z i / (g : Int)) * (kap.den : Int) = kap.num * A i := by
          apply Rat.intCast_inj.mp
          rw [rc_mul, rc_mul, this]
          have : c * (A i : Rat) * (((L : Int) : Rat) / ((g : Int) : Rat)) = kap * (A i : Rat) := by rw [← hk]; grind
          rw [this]
          have : (kap.num : Rat) = kap * ((kap.den : Int) : Rat) := by
            conv => rhs; lhs; rw [← e]
            grind
          rw [this]
          grind
        have := congrArg Int.natAbs e2
        rw [Int.natAbs_mul, Int.natAbs_mul, Int.natAbs_natCast] at this
        exact this
      have p1 : kap.num.natAbs ≤ 1 := by
        have h2 : kap.num.natAbs * g ∣ g := gm _ fun k hk2 => by
          have h3 : kap.num.natAbs ∣ (z k / (g : Int)).natAbs * kap.den := ⟨_, e1 k hk2⟩
          have h4 : kap.num.natAbs ∣ (z k / (g : Int)).natAbs := Nat.Coprime.dvd_of_dvd_mul_right kap.reduced h3
          obtain ⟨w, hw⟩ := gd k hk2
          rw [hw, Int.mul_ediv_cancel_left _ (by omega)] at h4
          rw [hw, Int.natAbs_mul, Int.natAbs_natCast, Nat.mul_comm]
          exact Nat.mul_dvd_mul_left _ h4
        have h5 := Nat.le_of_dvd g0 h2
        rcases Nat.lt_or_ge 1 kap.num.natAbs with y | y
        · have : 2 * g ≤ kap.num.natAbs * g := Nat.mul_le_mul_right _ y
          omega
        · exact y
      intro i hi
      have e2 := e1 i hi
      have dp := kap.den_pos
      have a1 : (z i / (g : Int)).natAbs ≤ (z i / (g : Int)).natAbs * kap.den := Nat.le_mul_of_pos_right _ dp
      have a2 : kap.num.natAbs * (A i).natAbs ≤ 1 * (A i).natAbs := Nat.mul_le_mul_right _ p1
      omega
    refine ⟨fun i => if i < l.length then z i / (g : Int) else 0, 1, by decide, Nat.one_lt_two_pow (by omega), fun i => ?_, fun i => ?_⟩
    · dsimp only
      split
      · exact Nat.lt_of_le_of_lt (small i (by assumption)) (za i)
      · exact Nat.pow_pos (by decide)
    · dsimp only
      rw [ep]
      have e1 : ((1 : Int) : Rat) = 1 := rfl
      rw [e1]
      split
      · rw [ew i (by assumption)]
        grind
      · rw [cf_ge (by omega), Rat.intCast_zero]
        grind
end G3
end
section
set_option maxHeartbeats 4000000
/-! the chains of common divisors: all numbers are small -/
namespace G3
/-- one division behind another, each rest made plain by f -/
def sqn (f : List Rat → List Rat) (p q : List Rat) : Nat → List Rat × List Rat
  | 0 => (p, q)
  | i + 1 => ((sqn f p q i).2, f (rem (sqn f p q i).1 (sqn f p q i).2))
def et : Nat → Nat
  | 6 => 45
  | 5 => 91
  | 4 => 229
  | 3 => 551
  | 2 => 1333
  | 1 => 3219
  | _ => 0
def Cd (a b na nb : Nat) : Prop := (a ≤ 5 ∧ b ≤ 5 ∧ na = 45 ∧ nb = 45) ∨ ∃ x, a < x ∧ x ≤ 6 ∧ b < a ∧ na ≤ et x ∧ nb ≤ et a
theorem num1 : ∀ x, x < 7 → ∀ a, a < x → ∀ b, b < a → 1 ≤ b → et x + (a + 1 - b) * (et a + 1) ≤ et b ∧ et x + 29 + (a + 1 - b) * (et a + 30) ≤ 4400 := by decide +kernel
theorem num0 : ∀ a, a < 6 → ∀ b, b < 6 → 1 ≤ b → 45 + (a + 1 - b) * 46 ≤ et b ∧ 74 + (a + 1 - b) * 75 ≤ 4400 := by decide +kernel
theorem et_le : ∀ a, et a ≤ 3219 := fun a => by unfold et; split <;> omega
theorem Cd.le {a b na nb : Nat} (h : Cd a b na nb) : a ≤ 5 ∧ b ≤ 5 ∧ na ≤ 3219 ∧ nb ≤ 3219 := by
  rcases h with ⟨h1, h2, h3, h4⟩ | ⟨x, h1, h2, h3, h4, h5⟩
  · omega
  · have := et_le x
    have := et_le a
    omega
theorem Cd.next {a b na nb : Nat} (h : Cd a b na nb) (hb : 1 ≤ b) : na + 29 + (a + 1 - b) * (nb + 29 + 1) ≤ 4400 ∧ ∀ c, c < b → Cd b c nb (na + (a + 1 - b) * (nb + 1)) := by
  rcases h with ⟨h1, h2, h3, h4⟩ | ⟨x, h1, h2, h3, h4, h5⟩
  · subst h3 h4
    have z := num0 a (by omega) b (by omega) hb
    exact ⟨z.2, fun c hc => .inr ⟨6, by omega, by omega, hc, Nat.le_refl _, z.1⟩⟩
  · have z := num1 x (by omega) a h1 b h3 hb
    have m1 := Nat.mul_le_mul_left (a + 1 - b) (show nb + 1 ≤ et a + 1 by omega)
    have m2 := Nat.mul_le_mul_left (a + 1 - b) (show nb + 29 + 1 ≤ et a + 30 by omega)
    exact ⟨by omega, fun c hc => .inr ⟨a, h3, by omega, hc, h5, by omega⟩⟩
/-- where the chain stands: without (p, q) and with (P, Q) the planted divisor -/
structure StZ (G p q P Q : List Rat) : Prop where
  np : Nf p
  nq : Nf q
  nP : Nf P
  nQ : Nf Q
  pp : Pp P (pmul G p)
  pq : Pp Q (pmul G q)
  sz : ∃ na nb, Cd p.length q.length na nb ∧ Pr na (cf p) ∧ Pr nb (cf q) ∧ Bd (na + 29) P ∧ Bd (nb + 29) Q
structure FPl (f : List Rat → List Rat) : Prop where
  nf : ∀ l, Nf l → Nf (f l)
  pp : ∀ l, Nf l → Bd 4400 l → Pp (f l) l
  bd : ∀ l n, Nf l → Bd 4400 l → 0 < n → Pr n (cf l) → Bd n (f l)
theorem f_pplain : FPl pplain := ⟨fun _ _ => nf_pplain _, fun _ h _ => pplain_pp h, fun _ _ h _ hn hp => pplain_bd h hp hn⟩
theorem f_pshort : FPl pshort := ⟨fun _ _ => nf_pO _ _, fun _ h b => pshort_pp h (short_sz h b (Nat.le_refl _)), fun _ _ h b hn hp => pshort_bd h hp (short_sz h b (Nat.le_refl _)) hn⟩
section
variable {G p q P Q : List Rat} {f : List Rat → List Rat}
theorem StZ.len (s : StZ G p q P Q) (nG : Nf G) (hG : 0 < G.length) (lG : G.length ≤ 3) : P.length ≤ 7 ∧ Q.length ≤ 7 ∧ (0 < q.length → 0 < Q.length ∧ dm P Q = dm p q) ∧ (q = [] → Q = []) := by
  obtain ⟨na, nb, c, _⟩ := s.sz
  obtain ⟨l1, l2, _⟩ := c.le
  have h1 := s.pp.1
  have h2 := s.pq.1
  have h3 := pmul_le G p
  have h4 := pmul_le G q
  refine ⟨by omega, by omega, fun hq => ?_, fun e => ?_⟩
  · have h5 := pmul_len nG s.nq hG hq
    have h6 := dm_mul nG s.np s.nq hG hq
    refine ⟨by omega, ?_⟩
    rw [← h6]
    unfold dm
    rw [h1, h2]
  · subst e
    rw [pmul_nil2] at h2
    exact List.eq_nil_of_length_eq_zero h2
/-- a turn -/
theorem StZ.step (s : StZ G p q P Q) (F : FPl f) (nG : Nf G) (hG : 0 < G.length) (lG : G.length ≤ 3) (zG : Pr 27 (cf G)) (hq : 0 < q.length) :
    DivSz P Q ∧ Bd 4400 (rem P Q) ∧ Pp (f (rem P Q)) (rem P Q) ∧ Bd 4400 (f (rem P Q)) ∧ StZ G q (rem p q) Q (f (rem P Q)) := by
  obtain ⟨na, nb, c, r1, r2, b1, b2⟩ := s.sz
  obtain ⟨_, _, l1, l2⟩ := c.le
  obtain ⟨hQ, ed⟩ := (s.len nG hG lG).2.2.1 hq
  obtain ⟨n1, n2⟩ := c.next hq
  have hd : dm p q = p.length + 1 - q.length := rfl
  have dz := div_sz b1 b2 s.nQ hQ (n := 4400) (by rw [ed, hd]; exact n1) (by omega)
  have rb := rem_bd b1 b2 s.nQ hQ (n := 4400) (by rw [ed, hd]; exact n1)
  have ro := rem_pr r1 r2 s.nq hq
  have nr := nf_rem P Q
  have e : Pp (rem P Q) (pmul G (rem p q)) := by
    have e1 := rem_pp s.pp s.pq s.nQ (nf_pmul G q) hQ
    rwa [rem_mul nG s.np s.nq hG hq] at e1
  have rP : Pr (na + dm p q * (nb + 1) + 29) (cf (rem P Q)) := ((mul_pr zG ro lG).mono (by omega)).pp e.symm
  have bf := F.bd _ _ nr rb (by omega) rP
  refine ⟨dz, rb, F.pp _ nr rb, ?_, s.nq, nf_rem _ _, s.nQ, F.nf _ nr, s.pq, (F.pp _ nr rb).trans e, nb, na + dm p q * (nb + 1), ?_, r2, ro, b2, bf⟩
  · exact F.bd _ _ nr rb (by omega) rb.pr
  · rw [hd]
    exact n2 _ (by have := rem_le p q; omega)
theorem sqn_go (F : FPl f) (nG : Nf G) (hG : 0 < G.length) (lG : G.length ≤ 3) (zG : Pr 27 (cf G)) (s : StZ G p q P Q) : ∃ n, n ≤ 5 ∧ (sqn (fun l => l) p q n).2 = [] ∧ (∀ i, i < n → 0 < (sqn (fun l => l) p q i).2.length) := by
  have go : ∀ (k : Nat) (g : Nat → Nat), g 0 = k → (∀ i, g i ≠ 0 → g (i + 1) < g i) → ∃ n, n ≤ k ∧ g n = 0 ∧ ∀ i, i < n → 0 < g i := by
    intro k
    induction k using Nat.strongRecOn with
    | _ k ih =>
      intro g h0 hg
      rcases Nat.eq_zero_or_pos k with z | z
      · exact ⟨0, Nat.zero_le _, by omega, fun i hi => absurd hi (Nat.not_lt_zero _)⟩
      · have h1 : g 1 < g 0 := hg 0 (by omega)
        obtain ⟨n, a, b, c⟩ := ih (g 1) (by omega) (fun i => g (i + 1)) rfl fun i => hg (i + 1)
        refine ⟨n + 1, by omega, b, fun i hi => ?_⟩
        cases i with
        | zero => omega
        | succ i => exact c i (by omega)
  obtain ⟨na, nb, c, _⟩ := s.sz
  have l2 := c.le.2.1
  obtain ⟨n, a, b, d⟩ := go q.length (fun i => (sqn (fun l => l) p q i).2.length) rfl fun i hi => by
    show (rem _ _).length < _
    have := rem_le (sqn (fun l => l) p q i).1 (sqn (fun l => l) p q i).2
    omega
  exact ⟨n, by omega, List.eq_nil_of_length_eq_zero b, d⟩
theorem sqn_st (F : FPl f) (nG : Nf G) (hG : 0 < G.length) (lG : G.length ≤ 3) (zG : Pr 27 (cf G)) (s : StZ G p q P Q) {n : Nat} (hn : ∀ i, i < n → 0 < (sqn (fun l => l) p q i).2.length) :
    ∀ i, i ≤ n → StZ G (sqn (fun l => l) p q i).1 (sqn (fun l => l) p q i).2 (sqn f P Q i).1 (sqn f P Q i).2
  | 0, _ => s
  | i + 1, hi => ((sqn_st F nG hG lG zG s hn i (by omega)).step F nG hG lG zG (hn i (by omega))).2.2.2.2
end
theorem inv_hq {l : List Rat} {n : Nat} (nl : Nf l) (h : Bd n l) (hl : 0 < l.length) : Hq n (1 / cf l (l.length - 1)) := by
  obtain ⟨A, m, hm, zm, za, ea⟩ := h
  have t := nl.top hl
  have tz : A (l.length - 1) ≠ 0 := fun z => by
    rw [ea, z, Rat.intCast_zero] at t
    exact t (by grind)
  have a := rc_ne tz
  have b := rc_ne hm
  exact hq_frac tz zm (za _) (by rw [ea]; grind)
/-- what the common divisor needs, both ways -/
structure ComOk (A B : List Rat) : Prop where
  ex : ∃ t s n, t 0 = A ∧ t 1 = B ∧ Chain t n ∧ s 0 = A ∧ s 1 = B ∧ LChain s n ∧ pplain (t n) = pplain (s n)
  dz : 0 < B.length → DivSz A B
  qu : 0 < B.length → Hl (74 + dm A B * 75) (quo A B) ∧ Hl (74 + dm A B * 75) (rem A B)
theorem com_nil {A : List Rat} (nA : Nf A) (lA : A.length ≤ 400) (b : Bd 4400 A) : ComOk A [] := by
  refine ⟨⟨fun i => if i = 0 then A else [], fun i => if i = 0 then A else [], 0, rfl, rfl, ?_, rfl, rfl, ?_, rfl⟩, fun h => absurd h (Nat.not_lt_zero _), fun h => absurd h (Nat.not_lt_zero _)⟩
  · refine ⟨fun i hi => ?_, fun i hi => ?_, fun i hi => absurd hi (Nat.not_lt_zero _), fun i hi => absurd hi (Nat.not_lt_zero _), fun i hi => absurd hi (Nat.not_lt_zero _), fun i hi => absurd hi (Nat.not_lt_zero _), rfl, b.hl, (pplain_bd nA b.pr (by decide)).hl⟩
    · split
      · exact nA
      · exact nf_nil
    · split
      · exact lA
      · exact Nat.zero_le _
  · refine ⟨fun i hi => ?_, fun i hi => ?_, fun i hi => absurd hi (Nat.not_lt_zero _), fun i hi => absurd hi (Nat.not_lt_zero _), fun i hi => absurd hi (Nat.not_lt_zero _), fun i hi => absurd hi (Nat.not_lt_zero _), rfl, Nat.zero_le _, b.hl, fun h => inv_hq nA b h⟩
    · split
      · exact nA
      · exact nf_nil
    · split
      · exact lA
      · exact Nat.zero_le _
theorem com_ok {G a b : List Rat} (nG : Nf G) (na : Nf a) (nb : Nf b) (zG : Hl 9 G) (za : Hl 9 a) (zb : Hl 9 b) (lG : G.length ≤ 3) (la : a.length ≤ 5) (lb : b.length ≤ 5) (hG : 0 < G.length) : ComOk (pmul G a) (pmul G b) := by
  have bG := bd_hl zG lG (by decide)
  have ba := bd_hl za la (by decide)
  have bb := bd_hl zb lb (by decide)
  have bA : Bd 74 (pmul G a) := mul_bd bG ba lG
  have bB : Bd 74 (pmul G b) := mul_bd bG bb lG
  have s : StZ G a b (pmul G a) (pmul G b) := ⟨na, nb, nf_pmul _ _, nf_pmul _ _, Pp.refl _, Pp.refl _, 45, 45, .inl ⟨la, lb, rfl, rfl⟩, ba.pr, bb.pr, bA, bB⟩
  refine ⟨?_, fun hB => ?_, fun hB => ?_⟩
  · obtain ⟨n, hn, en, hne⟩ := sqn_go f_pplain nG hG lG bG.pr s
    have st := sqn_st f_pplain nG hG lG bG.pr s hne
    have ss := sqn_st f_pshort nG hG lG bG.pr s hne
    have tu := fun i (hi : i < n) => (st i (by omega)).step f_pplain nG hG lG bG.pr (hne i hi)
    have su := fun i (hi : i < n) => (ss i (by omega)).step f_pshort nG hG lG bG.pr (hne i hi)
    have tl := fun i (hi : i ≤ n) => (st i hi).len nG hG lG
    have sl := fun i (hi : i ≤ n) => (ss i hi).len nG hG lG
    refine ⟨fun i => (sqn pplain (pmul G a) (pmul G b) i).1, fun i => (sqn pshort (pmul G a) (pmul G b) i).1, n, rfl, rfl, ?_, rfl, rfl, ?_, ?_⟩
    · have fin := st n (Nat.le_refl _)
      have b4 : Bd 4400 (sqn pplain (pmul G a) (pmul G b) n).1 := by
        obtain ⟨x, y, c, _, _, z, _⟩ := fin.sz
        exact z.mono (by have := c.le; omega)
      refine ⟨fun i hi => ?_, fun i hi => ?_, fun i hi => ((tl i (by omega)).2.2.1 (hne i hi)).1, fun i hi => (tu i hi).1, fun i hi => ⟨(tu i hi).2.1.hl, ?_⟩, fun i hi => rfl, (tl n (Nat.le_refl _)).2.2.2 en, b4.hl, (pplain_bd fin.nP b4.pr (by decide)).hl⟩
      · cases i with
        | zero => exact (st 0 (Nat.zero_le _)).nP
        | succ i => exact (st i (by omega)).nQ
      · cases i with
        | zero => exact Nat.le_trans (tl 0 (Nat.zero_le _)).1 (by decide)
        | succ i => have := (tl i (by omega)).2.1; show (sqn pplain (pmul G a) (pmul G b) i).2.length ≤ 400; omega
      · exact (tu i hi).2.2.2.1.hl
    · have fin := ss n (Nat.le_refl _)
      have b4 : Bd 4400 (sqn pshort (pmul G a) (pmul G b) n).1 := by
        obtain ⟨x, y, c, _, _, z, _⟩ := fin.sz
        exact z.mono (by have := c.le; omega)
      refine ⟨fun i hi => ?_, fun i hi => ?_, fun i hi => ((sl i (by omega)).2.2.1 (hne i hi)).1, fun i hi => (su i hi).1, fun i hi => ⟨(su i hi).2.1.hl, short_sz (nf_rem _ _) (su i hi).2.1 (Nat.le_refl _)⟩, fun i hi => rfl, (sl n (Nat.le_refl _)).2.2.2 en, by omega, b4.hl, fun h => inv_hq fin.nP b4 h⟩
      · cases i with
        | zero => exact (ss 0 (Nat.zero_le _)).nP
        | succ i => exact (ss i (by omega)).nQ
      · cases i with
        | zero => exact Nat.le_trans (sl 0 (Nat.zero_le _)).1 (by decide)
        | succ i => have := (sl i (by omega)).2.1; show (sqn pshort (pmul G a) (pmul G b) i).2.length ≤ 400; omega
    · exact pplain_eq ((st n (Nat.le_refl _)).pp.trans (ss n (Nat.le_refl _)).pp.symm)
  · have hb : 0 < b.length := by
      rcases Nat.eq_zero_or_pos b.length with z | z
      · have : b = [] := List.eq_nil_of_length_eq_zero z
        subst this
        rw [pmul_nil2] at hB
        exact absurd hB (Nat.not_lt_zero _)
      · exact z
    exact (s.step f_pplain nG hG lG bG.pr hb).1
  · have z := div_sz bA bB (nf_pmul G b) hB (n := 74 + dm (pmul G a) (pmul G b) * 75) (Nat.le_refl _) (by omega)
    have r := rem_bd bA bB (nf_pmul G b) hB (n := 74 + dm (pmul G a) (pmul G b) * 75) (Nat.le_refl _)
    refine ⟨hl_pO (by omega) fun i hi => z.2.1 _ (by omega), r.hl⟩
theorem qu_num0 : ∀ d, d < 9 → ∀ k, k < 9 → d + k ≤ 8 → (min d k + 1) * (74 + d * 75 + 74 + 2) ≤ 4400 ∧ min d k * (74 + d * 75 + 74 + 1) + 1 + (74 + d * 75) ≤ 4300 := by decide +kernel
/-- quotient times divisor: the sizes -/
theorem qu_num {A B : List Rat} (hB : 0 < B.length) (lA : A.length ≤ 7) : (min (quo A B).length B.length + 1) * (74 + dm A B * 75 + 74 + 2) ≤ 4400 ∧ min (quo A B).length B.length * (74 + dm A B * 75 + 74 + 1) + 1 + (74 + dm A B * 75) ≤ 4300 := by
  have d : dm A B = A.length + 1 - B.length := rfl
  have q : (quo A B).length ≤ dm A B := pO_le _ _
  rcases Nat.lt_or_ge 7 B.length with z | z
  · have e : dm A B = 0 := by omega
    have e2 : (quo A B).length = 0 := by omega
    rw [e, e2, Nat.zero_min]
    decide
  · obtain ⟨h1, h2⟩ := qu_num0 (dm A B) (by omega) B.length (by omega) (by omega)
    have m : min (quo A B).length B.length ≤ min (dm A B) B.length := by omega
    have m1 := Nat.mul_le_mul_right (74 + dm A B * 75 + 74 + 2) (Nat.add_le_add_right m 1)
    have m2 := Nat.mul_le_mul_right (74 + dm A B * 75 + 74 + 1) m
    omega
end G3
end
section
set_option maxHeartbeats 4000000
namespace G3
open PySem PySem.Spec PyProof.Rows L2
local macro_rules | `(tactic| walk_at "rd") => `(tactic| simp only [wipe, sDPut, tDGet, tDisp, tPairs, tBM0, tBM, tBreak, sFld, tPar3, tRevL, tLstRg, tRg1, tRg2, gSub, rSetL,  tSl, tNoPart, tPart, iRng1, iRng2, iRng3, tRevT, tLc_eq, tFor_eq, iEnumT, iSeq, iList, iTup, RZ.iZipA, tFld_eq, tMeth, tVar, tC, tOp, tUn, tCons, tNil, tCB, tCall, tRet, tSeq, tAsg, gName, tIfS, tIf, tTest, tB, tNot, tAnd, tOr, tNotV, tAndV, tOrV, rI0_int, rI_int, rU_int, rEq_int, rNe_int, tPar, tNext, tDrop, tTup_nt, tLst_nl, tMkBN, tMkBR, cxOf_K, L2.start, List.map_cons, List.map_nil, List.length_cons, List.length_nil, List.cons_append, List.nil_append, List.append_nil, List.replicate_succ, List.replicate_zero, Nat.reduceAdd, Nat.reduceSub, Nat.sub_self, List.getElem?_cons_zero, List.getElem?_cons_succ, List.set_cons_zero, List.set_cons_succ, Option.some.injEq, V.int.injEq, V.bl.injEq, exists_eq_left', exists_eq_left, exists_eq_right, exists_eq_right', true_and, and_true, if_true, if_false, ite_true, ite_false, Bool.false_eq_true, Bool.not_true, Bool.not_false, reduceIte])
local macro_rules | `(tactic| walk_at "ix") => `(tactic| repeat (first | refine Sq.ix (by assumption) (by rfl) ?_ | (walk_at "rd"; refine ⟨Sz.mul (by assumption) (by assumption), ?_⟩)))
section
variable {P : Program} {w : World} {K : PySem.W.Frag} {mg : Str → Option Value} {base : Heap}
abbrev N_law_ratios_right : List Str := ["_law_pen_here", "_law_one", "_law_two", "_law_b", "_law_whole", "_law_a", "_law_call", "_law_more", "_law_odd", "_law_zero"]
theorem sc_law_ratios_right : FnScope N_law_ratios_right ["_law_pen_here"] (defScope s_law_ratios_right) := ⟨rfl, rfl, rfl, by decide +kernel, rfl, by decide +kernel, by decide +kernel⟩
theorem gTup3 {K : PySem.W.Frag} {n i j k : Nat} {a : Addr} {x y z : V} {σ : L2.St} {H : Hp} {Q : L2.St → Hp → Prop} (h : H a = some (.tup [x, y, z])) (q : Q (((σ.set i (some x)).set j (some y)).set k (some z)) H) (hn : 3 = n := by rfl) :
    gTup K n (gCons (gName i) (gCons (gName j) (gCons (gName k) gNil))) (.ref a) σ H Q := ⟨a, _, rfl, L2.SqT.of h, hn, x, _, rfl, y, _, rfl, z, _, rfl, rfl, q⟩
theorem IsM.x2 {v : V} {m : Nat} {q : Rat} {H : Hp} (h : IsM H v m q) (hm : m ≤ 4400) : ∃ x y, RatV H v x y ∧ Sz x ∧ Sz y := let ⟨a, b, r, z1, z2, _⟩ := h; ⟨a, b, r, Nat.lt_of_lt_of_le z1 (Nat.pow_le_pow_right (by decide) hm), Nat.lt_of_lt_of_le z2 (Nat.pow_le_pow_right (by decide) hm)⟩
structure RF (K : PySem.W.Frag) (H : Hp) (a odd more zero : V) (d1 d2 dz : PyData) : Prop where
  ra : ∃ x y, RatV H a x y ∧ Sz x ∧ Sz y
  n1 : NoRat H odd
  n2 : NoRat H more
  x1 : Dx K H odd d1
  x2 : Dx K H more d2
  rz : ∃ y, RatV H zero 0 y ∧ Sz y
  xz : Dx K H zero dz
theorem ok_law_ratios_right (T : Tx K mg) {Tt : List (Addr × Str)} (LT : ∀ cdv, CdOf K (He.ga K "_law_ratios_right") cdv "_law_ratios_right" → LamT base mg Tt cdv ("_law_ratios_right" ++ ".<locals>.<lambda>")) : CalG P w K mg base CX0 10 "_law_ratios_right" (spRight Tt 1000) := by
  have c_law_draw := ok_law_draw (P := P) (w := w) (base := base) T
  have c_law_pick := ok_law_pick (P := P) (w := w) (base := base) T
  have c_law_passed := ok_law_passed (P := P) (w := w) (base := base) T
  have c_law_some_ratio := ok_law_some_ratio (P := P) (w := w) (base := base) T
  have c_law_any := ok_law_any (P := P) (w := w) (base := base) T
  have c_law_far := ok_law_far (P := P) (w := w) (base := base) T
  have c_law_q := ok_law_q (P := P) (w := w) (base := base) T
  have c_law_plus := ok_law_plus (P := P) (w := w) (base := base) T
  have c_law_minus := ok_law_minus (P := P) (w := w) (base := base) T
  have c_law_times := ok_law_times (P := P) (w := w) (base := base) T
  have c_law_share := ok_law_share (P := P) (w := w) (base := base) T
  have c_law_less := ok_law_less (P := P) (w := w) (base := base) T
  have c_law_is := ok_law_is (P := P) (w := w) (base := base) T
  have c_law_is_whole := ok_law_is_whole (P := P) (w := w) (base := base) T
  have c_is_ratio := ok_is_ratio (P := P) (w := w) (base := base) T
  have c_told := ok_told (P := P) (w := w) (base := base) T
  have c_plus := ok_plus (P := P) (w := w) (base := base) T
  have c_minus := ok_minus (P := P) (w := w) (base := base) T
  have c_times := ok_times (P := P) (w := w) (base := base) T
  have c_share := ok_share (P := P) (w := w) (base := base) T
  have c_lower := ok_lower (P := P) (w := w) (base := base) T
  have c_floor_of := ok_floor_of (P := P) (w := w) (base := base) T
  have c_ratio_text := ok_ratio_text (P := P) (w := w) (base := base) T
  obtain ⟨fd, F⟩ := T.f_law_ratios_right
  refine calG0 F T.g_law_ratios_right sc_law_ratios_right (ps := ["_law_pen_here"]) (fun _ _ _ _ _ _ us hl => match us, hl with | [_], _ => rfl) (fun vs H Q E h => ?_) (fun cdv A outer s H vs Q E hc hg hr h => ?_)
  · obtain ⟨p, cl, n, rfl, _⟩ := h
    rfl
  · obtain ⟨p, cl, n, rfl, hp, tb, k⟩ := h
    obtain ⟨c, Pt, rfl, TB, hmT, hu⟩ := (LT _ hc).ex
    have hcode : (Value.ref c) = .ref c := rfl
    have mkR : CallR (cxOf CX0 P w K mg base N_law_ratios_right "_law_ratios_right" (defScope s_law_ratios_right) (He.ga K "_law_ratios_right") (.ref c) A outer s H E).nox (.builtin "repr") (rReprX K) := call_reprX hg hr.units
    have restF : ∃ t, PSs (cxOf CX0 P w K mg base N_law_ratios_right "_law_ratios_right" (defScope s_law_ratios_right) (He.ga K "_law_ratios_right") (.ref c) A outer s H E).nox ((defBody s_law_ratios_right).drop 14) t ∧
        ∀ (H1 : Hp) (o1 o2 o3 o4 o6 : Option V) (a odd more zero : V) (d1 d2 dz : PyData), (∀ H', Sx [] [] H1 H' → RF K H' a odd more zero d1 d2 dz) → Gd d1 3 20 → Gd d2 3 20 → Gd dz 3 20 → LamX.Tabs Tt H1 → (∀ H', Sx [] [] H1 H' → LamX.Tabs Tt H' → Q (.bl true) H') →
          t { nx := fun _ H' => Q .non H', rt := Q } [some (.ref p), o1, o2, o3, o4, some a, o6, some more, some odd, some zero] H1 := by
      refine ⟨_, (pss_cons (ps_if (pt_cmpR (op_neD (room64 hr)) (pe_why T hg hr TB hcode hmT hu (LamX.lamS_by (sc := defScope s_law_ratios_right) (by decide +kernel)) (fun A2 outer2 s2 H2 E2 f2 c2 hr2 => (pe_cal c_share hr2 (by decide) lam_px (pa_cons (pv 8) (pa_cons (pv 9) pa_nil))))) (pe_tup (pa_cons pe_str (pa_cons pe_str (pa_cons (pe_callB mkR (by rfl) T.b_repr (by decide +kernel) (pa_cons (pv 8) pa_nil)) pa_nil)))) (nomark _)) (pss_one (ps_ret pe_bl)) pss_nil)
      (pss_one (ps_ret (pe_cmpR (op_eqD (room64 hr)) (pe_why T hg hr TB hcode hmT hu (LamX.lamS_by (sc := defScope s_law_ratios_right) (by decide +kernel)) (fun A2 outer2 s2 H2 E2 f2 c2 hr2 => (pe_cal c_share hr2 (by decide) lam_px (pa_cons (pv 5) (pa_cons (pv 9) pa_nil))))) (pe_tup (pa_cons pe_str (pa_cons pe_str (pa_cons (pe_callB mkR (by rfl) T.b_repr (by decide +kernel) (pa_cons (pv 9) pa_nil)) pa_nil)))) (nomark _))))), ?_⟩
      intro H1 o1 o2 o3 o4 o6 a odd more zero d1 d2 dz at_ g1 g2 gz tb1 fin
      walk_at "rd"
      refine why_num (z := "ratio") tb1 (fun H' z => (at_ H' z).x1) g1 (by decide) (by decide) (fun E' H' Q' z ex => ?_) fun q H2 s2 t2 hq => ?_
      · exact ⟨_, rfl, _, rfl, odd, zero, rfl, .inr (.inl ⟨(at_ H' z).n1, ex⟩)⟩
      refine ⟨odd, d1, rfl, .x (at_ H2 s2).x1, g1.shw, nt_of (fun q2 H3 n3 s3 hq2 => ?_) (by simp)⟩
      refine ne_strs ["number", "ratio", d1.shown] (s3.tup hq) hq2 (fun x hx => ?_) ⟨false, rfl, ?_⟩
      · simp only [List.mem_cons, List.not_mem_nil, or_false] at hx
        rcases hx with rfl | rfl | rfl
        · exact ok_of _
        · exact ok_of _
        · exact g1.ok
      rw [if_neg (by decide)]
      have s13 : Sx [] [] H1 H3 := s2.trans s3.x
      refine why_num (z := "divisor") (tabs_sm t2 s3) (fun H' z => (at_ H' (s13.trans z)).xz) gz (by decide) (by decide) (fun E' H' Q' z ex => ?_) fun q5 H5 s5 t5 hq5 => ?_
      · obtain ⟨x, y, ra, zx, zy⟩ := (at_ H' (s13.trans z)).ra
        obtain ⟨y2, rz, zz⟩ := (at_ H' (s13.trans z)).rz
        exact ⟨_, rfl, _, rfl, a, zero, rfl, .inl ⟨x, y, 0, y2, ra, rz, zx, zy, Nat.two_pow_pos _, zz, fun h => absurd rfl h, fun _ => ex⟩⟩
      refine ⟨zero, dz, rfl, .x (at_ H5 (s13.trans s5)).xz, gz.shw, nt_of (fun q6 H6 n6 s6 hq6 => ?_) (by simp)⟩
      refine eq_strs ["number", "divisor", dz.shown] (s6.tup hq5) hq6 (fun x hx => ?_) (fin H6 ((s13.trans s5).trans s6.x) (tabs_sm t5 s6))
      simp only [List.mem_cons, List.not_mem_nil, or_false] at hx
      rcases hx with rfl | rfl | rfl
      · exact ok_of _
      · exact ok_of _
      · exact gz.ok
    obtain ⟨tF, hF1, hF2⟩ := restF
    have restG : ∃ t, PSs (cxOf CX0 P w K mg base N_law_ratios_right "_law_ratios_right" (defScope s_law_ratios_right) (He.ga K "_law_ratios_right") (.ref c) A outer s H E).nox ((defBody s_law_ratios_right).drop 13) t ∧
        ∀ (H1 : Hp) (o1 o2 o3 o4 o6 : Option V) (a odd more zero : V) (d1 d2 dz : PyData), (∀ H', Sx [] [] H1 H' → RF K H' a odd more zero d1 d2 dz) → Gd d1 3 20 → Gd d2 3 20 → Gd dz 3 20 → LamX.Tabs Tt H1 → (∀ H', Sx [] [] H1 H' → LamX.Tabs Tt H' → Q (.bl true) H') →
          t { nx := fun _ H' => Q .non H', rt := Q } [some (.ref p), o1, o2, o3, o4, some a, o6, some more, some odd, some zero] H1 := by
      refine ⟨_, (pss_cons (ps_for PassesOwn.never rfl (pi_list (pe_lst (pa_cons (pe_glob (v := .ref (He.ga K "floor_of")) rfl T.g_floor_of rfl) (pa_cons (pe_glob (v := .ref (He.ga K "ratio_text")) rfl T.g_ratio_text rfl) pa_nil)))) (pg_name (i := 6) sc_law_ratios_right.nd rfl (Or.inr rfl)) (pss_one (ps_if (pt_cmpR (op_neD (room64 hr)) (pe_why T hg hr TB hcode hmT hu (LamX.lamS_by (sc := defScope s_law_ratios_right) (by decide +kernel)) (fun A2 outer2 s2 H2 E2 f2 c2 hr2 => (pe_callZ (k := 4) hr2 (by decide) (i := 6) (x := "_law_call") rfl (.inr (.inr rfl)) (pa_cons (pv 8) pa_nil)))) (pe_tup (pa_cons pe_str (pa_cons pe_str (pa_cons (pe_callB mkR (by rfl) T.b_repr (by decide +kernel) (pa_cons (pv 8) pa_nil)) pa_nil)))) (nomark _)) (pss_one (ps_ret pe_bl)) pss_nil)))
      hF1), ?_⟩
      intro H1 o1 o2 o3 o4 o6 a odd more zero d1 d2 dz at_ g1 g2 gz tb1 fin
      walk_at "rd"
      refine nl_of (fun l H2 nl s2 hl => ?_) (by simp)
      refine ⟨l, rfl, ⟨_, L2.SqL.of hl⟩, for_it' (walk_list (K := K) (a := l) (xs := [.ref (He.ga K "floor_of"), .ref (He.ga K "ratio_text")])) (fun i σ H' => Sx [] [] H1 H' ∧ LamX.Tabs Tt H' ∧ H' l = some (.lst [.ref (He.ga K "floor_of"), .ref (He.ga K "ratio_text")]) ∧ ∃ o : Option V, σ = [some (.ref p), o1, o2, o3, o4, some a, o, some more, some odd, some zero]) ?_ ?_ ?_ ?_⟩
      · exact ⟨s2.x, tabs_sm tb1 s2, hl, o6, rfl⟩
      · intro i σ H' _ z
        exact L2.SqL.of z.2.2.1
      · intro i x σ H3 H4 hi z y
        obtain ⟨s3, t3, l3, o, rfl⟩ := z
        obtain ⟨rfl, y⟩ := y
        walk_at "rd"
        refine why_num (z := "ratio") t3 (fun H' z => (at_ H' (s3.trans z)).x1) g1 (by decide) (by decide) (fun E' H' Q' z ex => ?_) fun q H5 s5 t5 hq => ?_
        · have hx : x = .ref (He.ga K "floor_of") ∨ x = .ref (He.ga K "ratio_text") := by
            have := List.mem_of_getElem? y
            simpa using this
          rcases hx with rfl | rfl
          · exact ⟨_, "floor_of", _, rfl, T.g_floor_of, c_floor_of, odd, rfl, odd, rfl, .inr ⟨(at_ H' (s3.trans z)).n1, ex⟩⟩
          · exact ⟨_, "ratio_text", _, rfl, T.g_ratio_text, c_ratio_text, odd, rfl, odd, rfl, .inr ⟨(at_ H' (s3.trans z)).n1, ex⟩⟩
        refine ⟨odd, d1, rfl, .x (at_ H5 (s3.trans s5)).x1, g1.shw, nt_of (fun q2 H6 n6 s6 hq2 => ?_) (by simp)⟩
        refine ne_strs ["number", "ratio", d1.shown] (s6.tup hq) hq2 (fun x hx => ?_) ⟨false, rfl, ?_⟩
        · simp only [List.mem_cons, List.not_mem_nil, or_false] at hx
          rcases hx with rfl | rfl | rfl
          · exact ok_of _
          · exact ok_of _
          · exact g1.ok
        rw [if_neg (by decide)]
        exact ⟨(s3.trans s5).trans s6.x, tabs_sm t5 s6, s6.lst (s5.lst l3 List.not_mem_nil) List.not_mem_nil, _, rfl⟩
      · intro σ H3 z
        obtain ⟨s3, t3, l3, o, rfl⟩ := z
        exact hF2 H3 _ _ _ _ _ a odd more zero d1 d2 dz (fun H' z => at_ H' (s3.trans z)) g1 g2 gz t3 fun H' z t => fin H' (s3.trans z) t
    obtain ⟨tG, hG1, hG2⟩ := restG
    have restH : ∃ t, PSs (cxOf CX0 P w K mg base N_law_ratios_right "_law_ratios_right" (defScope s_law_ratios_right) (He.ga K "_law_ratios_right") (.ref c) A outer s H E).nox ((defBody s_law_ratios_right).drop 12) t ∧
        ∀ (H1 : Hp) (o1 o2 o3 o4 o6 : Option V) (a odd more zero : V) (d1 d2 dz : PyData), (∀ H', Sx [] [] H1 H' → RF K H' a odd more zero d1 d2 dz) → Gd d1 3 20 → Gd d2 3 20 → Gd dz 3 20 → LamX.Tabs Tt H1 → (∀ H', Sx [] [] H1 H' → LamX.Tabs Tt H' → Q (.bl true) H') →
          t { nx := fun _ H' => Q .non H', rt := Q } [some (.ref p), o1, o2, o3, o4, some a, o6, some more, some odd, some zero] H1 := by
      refine ⟨_, (pss_cons (ps_for PassesOwn.never rfl (pi_list (pe_lst (pa_cons (pe_glob (v := .ref (He.ga K "plus")) rfl T.g_plus rfl) (pa_cons (pe_glob (v := .ref (He.ga K "minus")) rfl T.g_minus rfl) (pa_cons (pe_glob (v := .ref (He.ga K "times")) rfl T.g_times rfl) (pa_cons (pe_glob (v := .ref (He.ga K "share")) rfl T.g_share rfl) (pa_cons (pe_glob (v := .ref (He.ga K "lower")) rfl T.g_lower rfl) pa_nil))))))) (pg_name (i := 6) sc_law_ratios_right.nd rfl (Or.inr rfl)) (pss_cons (ps_if (pt_cmpR (op_neD (room64 hr)) (pe_why T hg hr TB hcode hmT hu (LamX.lamS_by (sc := defScope s_law_ratios_right) (by decide +kernel)) (fun A2 outer2 s2 H2 E2 f2 c2 hr2 => (pe_callZ (k := 4) hr2 (by decide) (i := 6) (x := "_law_call") rfl (.inr (.inr rfl)) (pa_cons (pv 8) (pa_cons (pv 7) pa_nil))))) (pe_tup (pa_cons pe_str (pa_cons pe_str (pa_cons (pe_callB mkR (by rfl) T.b_repr (by decide +kernel) (pa_cons (pv 8) pa_nil)) pa_nil)))) (nomark _)) (pss_one (ps_ret pe_bl)) pss_nil)
      (pss_one (ps_if (pt_cmpR (op_neD (room64 hr)) (pe_why T hg hr TB hcode hmT hu (LamX.lamS_by (sc := defScope s_law_ratios_right) (by decide +kernel)) (fun A2 outer2 s2 H2 E2 f2 c2 hr2 => (pe_callZ (k := 4) hr2 (by decide) (i := 6) (x := "_law_call") rfl (.inr (.inr rfl)) (pa_cons (pv 5) (pa_cons (pv 7) pa_nil))))) (pe_tup (pa_cons pe_str (pa_cons pe_str (pa_cons (pe_callB mkR (by rfl) T.b_repr (by decide +kernel) (pa_cons (pv 7) pa_nil)) pa_nil)))) (nomark _)) (pss_one (ps_ret pe_bl)) pss_nil))))
      hG1), ?_⟩
      intro H1 o1 o2 o3 o4 o6 a odd more zero d1 d2 dz at_ g1 g2 gz tb1 fin
      walk_at "rd"
      refine nl_of (fun l H2 nl s2 hl => ?_) (by simp)
      refine ⟨l, rfl, ⟨_, L2.SqL.of hl⟩, for_it' (walk_list (K := K) (a := l) (xs := [.ref (He.ga K "plus"), .ref (He.ga K "minus"), .ref (He.ga K "times"), .ref (He.ga K "share"), .ref (He.ga K "lower")])) (fun i σ H' => Sx [] [] H1 H' ∧ LamX.Tabs Tt H' ∧ H' l = some (.lst [.ref (He.ga K "plus"), .ref (He.ga K "minus"), .ref (He.ga K "times"), .ref (He.ga K "share"), .ref (He.ga K "lower")]) ∧ ∃ o : Option V, σ = [some (.ref p), o1, o2, o3, o4, some a, o, some more, some odd, some zero]) ?_ ?_ ?_ ?_⟩
      · exact ⟨s2.x, tabs_sm tb1 s2, hl, o6, rfl⟩
      · intro i σ H' _ z
        exact L2.SqL.of z.2.2.1
      · intro i x σ H3 H4 hi z y
        obtain ⟨s3, t3, l3, o, rfl⟩ := z
        obtain ⟨rfl, y⟩ := y
        walk_at "rd"
        have hx : x = .ref (He.ga K "plus") ∨ x = .ref (He.ga K "minus") ∨ x = .ref (He.ga K "times") ∨ x = .ref (He.ga K "share") ∨ x = .ref (He.ga K "lower") := by
          have := List.mem_of_getElem? y
          simpa using this
        refine why_num (z := "ratio") t3 (fun H' z => (at_ H' (s3.trans z)).x1) g1 (by decide) (by decide) (fun E' H' Q' z ex => ?_) fun q H5 s5 t5 hq => ?_
        · rcases hx with rfl | rfl | rfl | rfl | rfl
          · exact ⟨_, "plus", _, rfl, T.g_plus, c_plus, odd, rfl, more, rfl, odd, more, rfl, .inr (.inl ⟨(at_ H' (s3.trans z)).n1, ex⟩)⟩
          · exact ⟨_, "minus", _, rfl, T.g_minus, c_minus, odd, rfl, more, rfl, odd, more, rfl, .inr (.inl ⟨(at_ H' (s3.trans z)).n1, ex⟩)⟩
          · exact ⟨_, "times", _, rfl, T.g_times, c_times, odd, rfl, more, rfl, odd, more, rfl, .inr (.inl ⟨(at_ H' (s3.trans z)).n1, ex⟩)⟩
          · exact ⟨_, "share", _, rfl, T.g_share, c_share, odd, rfl, more, rfl, odd, more, rfl, .inr (.inl ⟨(at_ H' (s3.trans z)).n1, ex⟩)⟩
          · exact ⟨_, "lower", _, rfl, T.g_lower, c_lower, odd, rfl, more, rfl, odd, more, rfl, .inr (.inl ⟨(at_ H' (s3.trans z)).n1, ex⟩)⟩
        refine ⟨odd, d1, rfl, .x (at_ H5 (s3.trans s5)).x1, g1.shw, nt_of (fun q2 H6 n6 s6 hq2 => ?_) (by simp)⟩
        refine ne_strs ["number", "ratio", d1.shown] (s6.tup hq) hq2 (fun x hx => ?_) ⟨false, rfl, ?_⟩
        · simp only [List.mem_cons, List.not_mem_nil, or_false] at hx
          rcases hx with rfl | rfl | rfl
          · exact ok_of _
          · exact ok_of _
          · exact g1.ok
        rw [if_neg (by decide)]
        have s36 : Sx [] [] H1 H6 := (s3.trans s5).trans s6.x
        refine why_num (z := "ratio") (tabs_sm t5 s6) (fun H' z => (at_ H' (s36.trans z)).x2) g2 (by decide) (by decide) (fun E' H' Q' z ex => ?_) fun q H7 s7 t7 hq7 => ?_
        · obtain ⟨xa, ya, ra, _, _⟩ := (at_ H' (s36.trans z)).ra
          rcases hx with rfl | rfl | rfl | rfl | rfl
          · exact ⟨_, "plus", _, rfl, T.g_plus, c_plus, a, rfl, more, rfl, a, more, rfl, .inr (.inr ⟨xa, ya, ra, (at_ H' (s36.trans z)).n2, ex⟩)⟩
          · exact ⟨_, "minus", _, rfl, T.g_minus, c_minus, a, rfl, more, rfl, a, more, rfl, .inr (.inr ⟨xa, ya, ra, (at_ H' (s36.trans z)).n2, ex⟩)⟩
          · exact ⟨_, "times", _, rfl, T.g_times, c_times, a, rfl, more, rfl, a, more, rfl, .inr (.inr ⟨xa, ya, ra, (at_ H' (s36.trans z)).n2, ex⟩)⟩
          · exact ⟨_, "share", _, rfl, T.g_share, c_share, a, rfl, more, rfl, a, more, rfl, .inr (.inr ⟨xa, ya, ra, (at_ H' (s36.trans z)).n2, ex⟩)⟩
          · exact ⟨_, "lower", _, rfl, T.g_lower, c_lower, a, rfl, more, rfl, a, more, rfl, .inr (.inr ⟨xa, ya, ra, (at_ H' (s36.trans z)).n2, ex⟩)⟩
        refine ⟨more, d2, rfl, .x (at_ H7 (s36.trans s7)).x2, g2.shw, nt_of (fun q8 H8 n8 s8 hq8 => ?_) (by simp)⟩
        refine ne_strs ["number", "ratio", d2.shown] (s8.tup hq7) hq8 (fun x hx => ?_) ⟨false, rfl, ?_⟩
        · simp only [List.mem_cons, List.not_mem_nil, or_false] at hx
          rcases hx with rfl | rfl | rfl
          · exact ok_of _
          · exact ok_of _
          · exact g2.ok
        rw [if_neg (by decide)]
        exact ⟨(s36.trans s7).trans s8.x, tabs_sm t7 s8, s8.lst (s7.lst (s6.lst (s5.lst l3 List.not_mem_nil) List.not_mem_nil) List.not_mem_nil) List.not_mem_nil, _, rfl⟩
      · intro σ H3 z
        obtain ⟨s3, t3, l3, o, rfl⟩ := z
        exact hG2 H3 _ _ _ _ _ a odd more zero d1 d2 dz (fun H' z => at_ H' (s3.trans z)) g1 g2 gz t3 fun H' z t => fin H' (s3.trans z) t
    obtain ⟨tH, hH1, hH2⟩ := restH
    have restI : ∃ t, PSs (cxOf CX0 P w K mg base N_law_ratios_right "_law_ratios_right" (defScope s_law_ratios_right) (He.ga K "_law_ratios_right") (.ref c) A outer s H E).nox ((defBody s_law_ratios_right).drop 10) t ∧
        ∀ (H1 : Hp) (o1 o2 o3 o4 o6 o7 o8 o9 : Option V) (a : V) (q : Rat), Sx [p] [] H H1 → IsM H1 a 62 q → LamX.Tabs Tt H1 → Pen H1 p cl (n + 3) → 
          t { nx := fun _ H' => Q .non H', rt := Q } [some (.ref p), o1, o2, o3, o4, some a, o6, o7, o8, o9] H1 := by
      refine ⟨_, (pss_cons (ps_asg (pe_tup (pa_cons (pe_cal c_law_any hr (by decide) pass0 (pa_cons (pv 0) pa_nil)) (pa_cons (pe_cal c_law_any hr (by decide) pass0 (pa_cons (pv 0) pa_nil)) (pa_cons (pe_cal c_law_pick hr (by decide) pass0 (pa_cons (pv 0) (pa_cons (pe_lst (pa_cons pe_int (pa_cons (pe_tup (pa_cons pe_int (pa_cons pe_int pa_nil))) (pa_cons (pe_lst (pa_cons pe_int (pa_cons pe_int pa_nil))) pa_nil)))) pa_nil))) pa_nil)))) (pg_tup (n := 3) rfl (pgs_cons (pg_name (i := 8) sc_law_ratios_right.nd rfl (Or.inr rfl)) (pgs_cons (pg_name (i := 7) sc_law_ratios_right.nd rfl (Or.inr rfl)) (pgs_cons (pg_name (i := 9) sc_law_ratios_right.nd rfl (Or.inr rfl)) pgs_nil)))))
      (pss_cons (ps_if (PW.pt (pw_or (pt_not (pt_val (pe_cal c_law_is hr (by decide) pass0 (pa_cons (pe_cal c_is_ratio hr (by decide) pass0 (pa_cons (pv 8) pa_nil)) (pa_cons pe_bl pa_nil))))) (pw_or1 (pt_cmpR (op_neD (room64 hr)) (pe_why T hg hr TB hcode hmT hu (LamX.lamS_by (sc := defScope s_law_ratios_right) (by decide +kernel)) (fun A2 outer2 s2 H2 E2 f2 c2 hr2 => (pe_cal c_told hr2 (by decide) lam_px (pa_cons (pv 8) (pa_cons pe_str pa_nil))))) (pe_tup (pa_cons pe_str (pa_cons pe_str (pa_cons (pe_callB mkR (by rfl) T.b_repr (by decide +kernel) (pa_cons (pv 8) pa_nil)) pa_nil)))) (nomark _))))) (pss_one (ps_ret pe_bl)) pss_nil)
      hH1)), ?_⟩
      intro H1 o1 o2 o3 o4 o6 o7 o8 o9 a q s1 ha tb1 hp1
      walk_at "rd"
      have pn : ∀ {H' : Hp} {cl' : Addr} {m : Nat}, Pen H' p cl' m → H' p ≠ none := fun hp' z => by
        obtain ⟨ns, at_, dg, co, fo, z2, _⟩ := hp'
        rw [z] at z2; cases z2
      refine ⟨p, cl, n + 2, rfl, hp1, fun odd d1 H2 s2 hp2 ho1 => ?_⟩
      refine ⟨p, cl, n + 1, rfl, hp2, fun more d2 H3 s3 hp3 ho2 => ?_⟩
      have dp1 : ∀ b ∈ [p], H1 b ≠ none := fun b hb => by rw [List.mem_singleton.mp hb]; exact pn hp1
      have dp2 : ∀ b ∈ [p], H2 b ≠ none := fun b hb => by rw [List.mem_singleton.mp hb]; exact pn hp2
      have no : ∀ {H' : Hp}, ∀ b ∈ ([] : List Addr), H' b ≠ none := fun _ hb => nomatch hb
      refine nt_of (fun z1 H4 n4 s4 h4 => ?_) (by simp)
      refine nl_of (fun z2 H5 n5 s5 h5 => ?_) (by simp)
      refine nl_of (fun z3 H6 n6 s6 h6 => ?_) (by simp)
      refine ⟨p, cl, z3, _, n, rfl, h6, by simp, by simp, ((hp3.m s4).m s5).m s6, fun zero H7 s7 hp7 hz => ?_⟩
      refine nt_of (fun t8 H8 n8 s8 h8 => gTup3 h8 ?_) (by simp)
      walk_at "rd"
      have s38 : Sm [p] [] H3 H8 := ((((s4.trans s5).trans s6).any).trans s7).trans s8.any
      have s28 := s3.trans s38
      have s18 := s2.trans s28
      have hz8 : ∃ dz y, (∀ H', Sx [] [] H8 H' → RatV H' zero 0 y ∧ Dx K H' zero dz) ∧ Sz y ∧ Gd dz 3 20 := by
        have s48 : Sm [p] [] H4 H8 := (((s5.trans s6).any).trans s7).trans s8.any
        have s58 : Sm [p] [] H5 H8 := (s6.any.trans s7).trans s8.any
        have h48 := s48.tup h4
        have h58 := s58.lst h5 List.not_mem_nil
        have z1 : Sz 1 := Nat.one_lt_two_pow (by decide)
        have z5 : Sz 5 := Nat.lt_of_lt_of_le (show (5 : Int).natAbs < 2 ^ 3 by decide) (Nat.pow_le_pow_right (by decide) (by decide))
        simp only [List.mem_cons, List.not_mem_nil, or_false] at hz
        rcases hz with rfl | rfl | rfl
        · exact ⟨.int 0, 1, fun H' _ => ⟨.int 0, .b (.int _) rfl⟩, z1, shw_of⟩
        · exact ⟨.tuple [.int 0, .int 1], 1, fun H' z => ⟨.sq (.inl (z.tup h48)) (by decide), .b (.tup (L2.SqT.of (z.tup h48)) (.cons (.int _) (.cons (.int _) .nil))) rfl⟩, z1, shw_of⟩
        · exact ⟨.list [.int 0, .int 5], 5, fun H' z => ⟨.sq (.inr (z.lst h58 List.not_mem_nil)) (by decide), .b (.lst (L2.SqL.of (z.lst h58 List.not_mem_nil)) (.cons (.int _) (.cons (.int _) .nil))) rfl⟩, z5, shw_of⟩
      obtain ⟨dz, yz, hz8, zyz, gz⟩ := hz8
      have rf : ∀ H', Sx [] [] H8 H' → RF K H' a odd more zero d1 d2 dz := fun H' z => by
        have o1 := ((ho1.on s28.x dp1 no).on z no no)
        have o2 := ((ho2.on s38.x dp2 no).on z no no)
        exact ⟨((ha.x s18.x).x z).x2 (by decide), o1.no, o2.no, o1.dx, o2.dx, ⟨yz, (hz8 H' z).1, zyz⟩, (hz8 H' z).2⟩
      refine ⟨odd, rfl, .inr ⟨(rf H8 Sx.refl).n1, fun H9 s9 => ⟨false, false, rfl, ?_⟩⟩⟩
      refine ⟨true, rfl, ?_⟩
      rw [if_neg (by decide)]
      have s19 : Sx [p] [] H1 H9 := s18.x.trans s9.any.x
      have tb9 := tabs_sm (tabs_sm tb1 s18) s9
      refine why_num (z := "price") tb9 (fun H' z => (rf H' (s9.x.trans z)).x1) ho1.1 (by decide) (by decide) (fun E' H' Q' z ex => ?_) fun q2 Ha sa ta hq2 => ?_
      · exact ⟨_, rfl, odd, _, rfl, .inr ⟨(rf H' (s9.x.trans z)).n1, ex⟩⟩
      refine ⟨odd, d1, rfl, .x (rf Ha (s9.x.trans sa)).x1, ho1.1.shw, nt_of (fun q3 Hb nb sb hq3 => ?_) (by simp)⟩
      refine ne_strs ["number", "price", d1.shown] (sb.tup hq2) hq3 (fun x hx => ?_) ⟨false, rfl, ?_⟩
      · simp only [List.mem_cons, List.not_mem_nil, or_false] at hx
        rcases hx with rfl | rfl | rfl
        · exact ok_of _
        · exact ok_of _
        · exact ho1.1.ok
      rw [if_neg (by decide)]
      have s8b : Sx [] [] H8 Hb := (s9.x.trans sa).trans sb.x
      have hp8 : Pen H8 p cl n := hp7.m s8
      refine hH2 Hb _ _ _ _ _ a odd more zero d1 d2 dz (fun H' z => rf H' (s8b.trans z)) ho1.1 ho2.1 gz (tabs_sm ta sb) fun H' z t => ?_
      have s8z := s8b.trans z
      exact k H' (s1.trans (s18.x.trans (s8z.w (fun _ h => nomatch h) (fun _ h => h)))) t (hp8.x s8z)
    obtain ⟨tI, hI1, hI2⟩ := restI
    have restJ : ∃ t, PSs (cxOf CX0 P w K mg base N_law_ratios_right "_law_ratios_right" (defScope s_law_ratios_right) (He.ga K "_law_ratios_right") (.ref c) A outer s H E).nox ((defBody s_law_ratios_right).drop 6) t ∧
        ∀ (H1 : Hp) (o4 o6 o7 o8 o9 : Option V) (one two a b : V) (q1 q2 : Rat), Sx [p] [] H H1 → IsQ H1 one q1 → IsQ H1 two q2 → Hq 60 q1 → Hq 60 q2 → IsM H1 a 62 q1 → IsM H1 b 62 q2 → LamX.Tabs Tt H1 → Pen H1 p cl (n + 3) → 
          t { nx := fun _ H' => Q .non H', rt := Q } [some (.ref p), some one, some two, some b, o4, some a, o6, o7, o8, o9] H1 := by
      refine ⟨_, (pss_cons (ps_set (i := 4) sc_law_ratios_right.nd rfl (Or.inl rfl) (pe_cal c_floor_of hr (by decide) passL (pa_cons (pv 3) pa_nil)))
      (pss_cons (ps_if (PW.pt (pw_or (pt_not (pt_val (pe_cal c_law_is_whole hr (by decide) pass0 (pa_cons (pv 4) pa_nil)))) (pw_or1 (pt_not (pt_chain op_le op_lt (pe_op op_mulS (pv 4) (pe_ix ix_tup (pv 2) pe_int (fun _ _ => rfl))) (pe_ix ix_tup (pv 2) pe_int (fun _ _ => rfl)) (pe_op op_mulS (pe_op op_add (pv 4) pe_int) (pe_ix ix_tup (pv 2) pe_int (fun _ _ => rfl)))))))) (pss_one (ps_ret pe_bl)) pss_nil)
      (pss_cons (ps_if (pt_cmpR (op_neD (room64 hr)) (pe_cal c_ratio_text hr (by decide) passL (pa_cons (pv 3) pa_nil)) (pe_op op_add_str (pe_callTy call_str_int (by rfl) T.b_str (by decide +kernel) (pa_cons (pe_ix ix_tup (pv 2) pe_int (fun _ _ => rfl)) pa_nil)) (pe_ifExp (pt_cmpR op_eq (pe_ix ix_tup (pv 2) pe_int (fun _ _ => rfl)) pe_int (nomark _)) pe_str (pe_op op_add_str pe_str (pe_callTy call_str_int (by rfl) T.b_str (by decide +kernel) (pa_cons (pe_ix ix_tup (pv 2) pe_int (fun _ _ => rfl)) pa_nil))))) (nomark _)) (pss_one (ps_ret pe_bl)) pss_nil)
      (pss_cons (ps_if (PW.pt (pw_or (pt_not (pt_val (pe_cal c_law_is hr (by decide) pass0 (pa_cons (pe_cal c_lower hr (by decide) passL (pa_cons (pv 5) (pa_cons (pv 3) pa_nil))) (pa_cons (pe_cal c_law_less hr (by decide) pass0 (pa_cons (pv 1) (pa_cons (pv 2) pa_nil))) pa_nil))))) (pw_or1 (pt_not (pt_val (pe_cal c_law_is hr (by decide) pass0 (pa_cons (pe_cal c_is_ratio hr (by decide) pass0 (pa_cons (pv 5) pa_nil)) (pa_cons pe_bl pa_nil)))))))) (pss_one (ps_ret pe_bl)) pss_nil)
      hI1)))), ?_⟩
      intro H1 o4 o6 o7 o8 o9 one two a b q1 q2 s1 h1 h2 z1 z2 ha hb tb1 hp1
      walk_at "rd"
      obtain ⟨xa, ya, ra, zxa, zya, ea⟩ := id ha
      obtain ⟨xb, yb, rb, zxb, zyb, eb⟩ := id hb
      have pa := ra.pos
      have pb := rb.pos
      have up9 : ∀ {x : Nat}, x < 2 ^ 62 → x < 2 ^ 9000 := fun h => Nat.lt_of_lt_of_le h (Nat.pow_le_pow_right (by decide) (by decide))
      have up44 : ∀ {x : Int}, x.natAbs < 2 ^ 62 → Sz x := fun h => Nat.lt_of_lt_of_le h (Nat.pow_le_pow_right (by decide) (by decide))
      refine ⟨b, rfl, .inl ⟨xb, yb, rb, up9 zyb, fun H2 s2 => ?_⟩⟩
      obtain ⟨w2, rfl, h2'⟩ := id (h2.m s2)
      refine ⟨_, _, rfl, .int _, true, rfl, ?_⟩
      rw [if_neg (by decide)]
      have fz := floor_sz pb zxb
      obtain ⟨f1, f2⟩ := floor_le pb eb
      generalize xb.fdiv yb = f at *
      have z2n := (z2.szn (by decide : 60 ≤ 4400))
      have z2d := (z2.szd (by decide : 60 ≤ 4400))
      have f1z : Sz (f + 1) := by
        have : (f + 1).natAbs < 2 ^ 63 := by rw [Nat.pow_succ]; omega
        exact Nat.lt_of_lt_of_le this (Nat.pow_le_pow_right (by decide) (by decide))
      have rest : ∀ H3, Sm [] [] H2 H3 → spLower (He.ga K "BadNumber") [a, b] H3 (fun x_8 H1 => spLess [one, .ref w2] H1 (fun x_9 H1 => spLIs [x_8, x_9] H1 (fun x_10 H1 => ∃ c, x_10 = V.bl c ∧ if (!c) = true then Q (V.bl false) H1 else
          spRatio [a] H1 (fun x_11 H1 => spLIs [x_11, V.bl true] H1 (fun x_12 H1 => ∃ c, x_12 = V.bl c ∧ if (!c) = true then Q (V.bl false) H1 else tI { nx := fun _ H' => Q V.non H', rt := Q } [some (V.ref p), some one, some (V.ref w2), some b, some (V.int f), some a, o6, o7, o8, o9] H1) E0) E0) E0) E0) E0 := by
        intro H3 s3
        have s13 := s2.trans s3
        refine ⟨a, b, rfl, .inl ⟨xa, ya, xb, yb, ra.m s13, rb.m s13, up44 zxa, up44 zya, up44 zxb, up44 zyb, fun H4 s4 => ?_⟩⟩
        have s14 := s13.trans s4
        refine ⟨_, _, q1, q2, rfl, h1.m s14, h2.m s14, z1.mono (by decide), z2.mono (by decide), ?_⟩
        refine ⟨_, _, rfl, true, by rw [less_eq pa pb ea eb, decide_eq_true rfl], ?_⟩
        rw [if_neg (by decide)]
        refine ⟨a, rfl, .inl ⟨xa, ya, ra.m s14, fun H5 s5 => ⟨_, _, rfl, true, by rw [decide_eq_true rfl], ?_⟩⟩⟩
        rw [if_neg (by decide)]
        have s15 := s14.trans s5
        exact hI2 H5 _ _ _ _ _ _ _ _ a q1 (s1.trans s15.any.x) (ha.m' s15) (tabs_sm tb1 s15) (hp1.m s15)
      show tOp _ _ _ _ _ _
      walk_at "rd"
      refine SqT.ix h2' rfl ?_
      rw [rI_int]
      refine ⟨Sz.mul (up44 fz) z2d, SqT.ix h2' rfl ?_⟩
      rw [rI0_int]
      refine ⟨true, by rw [decide_eq_true f1], ?_⟩
      rw [if_pos rfl]
      refine SqT.ix h2' rfl ?_
      rw [rI_int]
      refine ⟨Sz.mul f1z z2d, ?_⟩
      rw [rI0_int]
      refine ⟨true, by rw [decide_eq_true f2], ?_⟩
      rw [if_neg (by decide)]
      have z19n : q2.num.natAbs < 2 ^ 1900 := Nat.lt_of_lt_of_le z2.1 (Nat.pow_le_pow_right (by decide) (by decide))
      have z19d : q2.den < 2 ^ 1900 := Nat.lt_of_lt_of_le z2.2 (Nat.pow_le_pow_right (by decide) (by decide))
      refine ⟨b, rfl, .inl ⟨xb, yb, rb.m s2, up9 zyb, by rw [eb]; exact z19n, by rw [eb]; exact z19d, fun H3 s3 => ?_⟩⟩
      rw [eb]
      have h3' := s3.tup h2'
      have l1 : q2.num.natAbs.log2 < 1920 := Nat.lt_of_lt_of_le (PySem.Flt.log2_lt_of (k := 1900) (by decide) z19n) (by decide)
      have l2 : (((q2.den : Nat) : Int)).natAbs.log2 < 1920 := Nat.lt_of_lt_of_le (PySem.Flt.log2_lt_of (k := 1900) (by decide) (by rw [Int.natAbs_natCast]; exact z19d)) (by decide)
      have e1 := int_text_length_le (by decide) l1
      have e2 := int_text_length_le (by decide) l2
      refine SqT.ix h3' rfl ⟨_, rfl, l1, SqT.ix h3' rfl ?_⟩
      rw [rEq_int]
      refine ⟨_, rfl, ?_⟩
      by_cases e : q2.den = 1
      · rw [decide_eq_true (show ((q2.den : Nat) : Int) = 1 by omega), if_pos rfl]
        refine ⟨_, _, rfl, rfl, ?_, ?_⟩
        · rw [PySem.ofString_length, PySem.ofString_length, sizeLine_eq]
          have : ("" : String).length = 0 := rfl
          omega
        · have et : Str.ofString (toString q2.num) ++ Str.ofString "" = qText q2 := by
            unfold qText
            rw [if_pos e]
            exact PySem.Str.append_empty _
          rw [et]
          refine ne_str (by unfold qText; rw [if_pos e]; exact ok_of _) ⟨false, rfl, ?_⟩
          rw [if_neg (by decide)]
          exact rest H3 s3
      · rw [decide_eq_false (show ¬ ((q2.den : Nat) : Int) = 1 by omega), if_neg (by decide)]
        refine SqT.ix h3' rfl ⟨_, rfl, l2, _, _, rfl, rfl, ?_, _, _, rfl, rfl, ?_, ?_⟩
        · rw [PySem.ofString_length, PySem.ofString_length, sizeLine_eq]
          have : ("/" : String).length = 1 := rfl
          omega
        · rw [strLen_append, PySem.ofString_length, PySem.ofString_length, PySem.ofString_length, sizeLine_eq]
          have : ("/" : String).length = 1 := rfl
          omega
        · have et : Str.ofString (toString q2.num) ++ (Str.ofString "/" ++ Str.ofString (toString ((q2.den : Nat) : Int))) = qText q2 := by
            unfold qText
            rw [if_neg e]
            exact (PySem.Str.append_assoc _ _ _).symm
          rw [et]
          refine ne_str (by unfold qText; rw [if_neg e]; exact ok_app (ok_app (ok_of _) (ok_of _)) (ok_of _)) ⟨false, rfl, ?_⟩
          rw [if_neg (by decide)]
          exact rest H3 s3
    obtain ⟨tJ, hJ1, hJ2⟩ := restJ
    have restK : ∃ t, PSs (cxOf CX0 P w K mg base N_law_ratios_right "_law_ratios_right" (defScope s_law_ratios_right) (He.ga K "_law_ratios_right") (.ref c) A outer s H E).nox ((defBody s_law_ratios_right).drop 3) t ∧
        ∀ (H1 : Hp) (o4 o6 o7 o8 o9 : Option V) (one two a b : V) (q1 q2 : Rat), Sx [p] [] H H1 → IsQ H1 one q1 → IsQ H1 two q2 → Hq 60 q1 → Hq 60 q2 → IsM H1 a 62 q1 → IsM H1 b 62 q2 → LamX.Tabs Tt H1 → Pen H1 p cl (n + 3) → 
          t { nx := fun _ H' => Q .non H', rt := Q } [some (.ref p), some one, some two, some b, o4, some a, o6, o7, o8, o9] H1 := by
      refine ⟨_, (pss_cons (ps_if (pt_cmpR (op_neD (room64 hr)) (pe_callB mkR (by rfl) T.b_repr (by decide +kernel) (pa_cons (pe_tup (pa_cons (pe_cal c_told hr (by decide) passL (pa_cons (pv 5) (pa_cons pe_str pa_nil))) (pa_cons (pe_cal c_plus hr (by decide) passL (pa_cons (pv 5) (pa_cons (pv 3) pa_nil))) (pa_cons (pe_cal c_minus hr (by decide) passL (pa_cons (pv 5) (pa_cons (pv 3) pa_nil))) pa_nil)))) pa_nil)) (pe_callB mkR (by rfl) T.b_repr (by decide +kernel) (pa_cons (pe_tup (pa_cons (pv 1) (pa_cons (pe_cal c_law_plus hr (by decide) pass0 (pa_cons (pv 1) (pa_cons (pv 2) pa_nil))) (pa_cons (pe_cal c_law_minus hr (by decide) pass0 (pa_cons (pv 1) (pa_cons (pv 2) pa_nil))) pa_nil)))) pa_nil)) (nomark _)) (pss_one (ps_ret pe_bl)) pss_nil)
      (pss_cons (ps_if (pt_cmpR (op_neD (room64 hr)) (pe_callB mkR (by rfl) T.b_repr (by decide +kernel) (pa_cons (pe_cal c_times hr (by decide) passL (pa_cons (pv 5) (pa_cons (pv 3) pa_nil))) pa_nil)) (pe_callB mkR (by rfl) T.b_repr (by decide +kernel) (pa_cons (pe_cal c_law_times hr (by decide) pass0 (pa_cons (pv 1) (pa_cons (pv 2) pa_nil))) pa_nil)) (nomark _)) (pss_one (ps_ret pe_bl)) pss_nil)
      (pss_cons (ps_if (PW.pt (pw_and (pt_cmpR op_ne (pe_ix ix_tup (pv 2) pe_int (fun _ _ => rfl)) pe_int (nomark _)) (pw_and1 (pt_cmpR (op_neD (room64 hr)) (pe_callB mkR (by rfl) T.b_repr (by decide +kernel) (pa_cons (pe_cal c_share hr (by decide) passL (pa_cons (pv 5) (pa_cons (pv 3) pa_nil))) pa_nil)) (pe_callB mkR (by rfl) T.b_repr (by decide +kernel) (pa_cons (pe_cal c_law_share hr (by decide) pass0 (pa_cons (pv 1) (pa_cons (pv 2) pa_nil))) pa_nil)) (nomark _))))) (pss_one (ps_ret pe_bl)) pss_nil)
      hJ1))), ?_⟩
      intro H1 o4 o6 o7 o8 o9 one two a b q1 q2 s1 h1 h2 z1 z2 ha hb tb1 hp1
      walk_at "rd"
      have r1 := ha.r (by decide)
      have r2 := hb.r (by decide)
      have p1 := fun H' (z : Sm [] [] H1 H') => (h1.m z).p z1 (by decide)
      have p2 := fun H' (z : Sm [] [] H1 H') => (h2.m z).p z2 (by decide)
      have zs := z1.add z2
      have zm := z1.sub z2
      have zt := z1.mul z2
      have go : ∀ H', Sm [] [] H1 H' → tJ { nx := fun _ H' => Q V.non H', rt := Q } [some (V.ref p), some one, some two, some b, o4, some a, o6, o7, o8, o9] H' := fun H' z => hJ2 H' _ _ _ _ _ one two a b q1 q2 (s1.trans z.any.x) (h1.m z) (h2.m z) z1 z2 (ha.m' z) (hb.m' z) (tabs_sm tb1 z) (hp1.m z)
      obtain ⟨xa, ya, ra, zxa, zya, ea⟩ := id ha
      refine ⟨a, _, rfl, .inl ⟨xa, ya, ra, Nat.lt_of_lt_of_le zya (Nat.pow_le_pow_right (by decide) (by decide)), fun u2 H2 s2 hu2 => ?_⟩⟩
      rw [ea] at hu2
      refine plus_r (r1.m s2) (r2.m s2) fun u3 H3 s3 hu3 => ?_
      have s13 := s2.trans s3
      refine minus_r (r1.m s13) (r2.m s13) fun u4 H4 s4 hu4 => ?_
      have s14 := s13.trans s4
      refine nt_of (fun t5 H5 n5 s5 h5 => ?_) (by simp)
      have s15 := s14.trans s5
      have g3 : Gd (.tuple [qd q1, qd (q1 + q2), qd (q1 - q2)]) 2 9 := gd_tuple (n := 3) (dep := 1) (bk := 2) (fun d hd => by
        simp only [List.mem_cons, List.not_mem_nil, or_false] at hd
        rcases hd with rfl | rfl | rfl
        · exact gd_q z1 (by decide)
        · exact gd_q zs (by decide)
        · exact gd_q zm (by decide)) (Nat.le_refl _)
      have nd3 : (PyData.tuple [qd q1, qd (q1 + q2), qd (q1 - q2)]).hasDict = false := by simp [qd, PyData.hasDict, PyData.hasDictAll]
      refine ⟨.ref t5, .tuple [qd q1, qd (q1 + q2), qd (q1 - q2)], rfl, .x (.b (.tup (L2.SqT.of h5) (.cons (dp_q (hu2.m ((s3.trans s4).trans s5))) (.cons (dp_q (hu3.m (s4.trans s5))) (.cons (dp_q (hu4.m s5)) .nil)))) nd3), g3.shw, ?_⟩
      refine ⟨_, _, q1, q2, rfl, p1 _ s15, p2 _ s15, fun u6 H6 s6 hu6 => ?_⟩
      have s16 := s15.trans s6
      refine ⟨_, _, q1, q2, rfl, p1 _ s16, p2 _ s16, fun u7 H7 s7 hu7 => ?_⟩
      have s17 := s16.trans s7
      refine nt_of (fun t8 H8 n8 s8 h8 => ?_) (by simp)
      have s18 := s17.trans s8
      refine ⟨.ref t8, .tuple [qd q1, qd (q1 + q2), qd (q1 - q2)], rfl, .x (.b (.tup (L2.SqT.of h8) (.cons (dp_q (h1.m s18)) (.cons (dp_q (hu6.m (s7.trans s8))) (.cons (dp_q (hu7.m s8)) .nil)))) nd3), g3.shw, ?_⟩
      refine ne_str g3.ok ⟨false, rfl, ?_⟩
      rw [if_neg (by decide)]
      refine times_r (r1.m s18) (r2.m s18) fun u9 H9 s9 hu9 => rp_q hu9 zt (by decide) ?_
      have s19 := s18.trans s9
      refine ⟨_, _, q1, q2, rfl, p1 _ s19, p2 _ s19, fun ua Ha sa hua => rp_q hua zt (by decide) ?_⟩
      have s1a := s19.trans sa
      refine ne_str (ok_q zt (by decide)) ⟨false, rfl, ?_⟩
      rw [if_neg (by decide)]
      obtain ⟨w2, rfl, hw2⟩ := id (h2.m s1a)
      refine SqT.ix hw2 rfl ?_
      rw [rNe_int]
      refine ⟨_, rfl, ?_⟩
      by_cases e : q2.num = 0
      · rw [decide_eq_true e, if_neg (by decide)]
        exact go Ha s1a
      · rw [decide_eq_false e, if_pos (by decide)]
        have q0 : q2 ≠ 0 := fun z => e (by rw [z]; rfl)
        have zd : Hq 120 (q1 / q2) := by
          have eq : q1 / q2 = Rat.divInt (q1.num * (q2.den : Int)) ((q1.den : Int) * q2.num) := by
            conv => lhs; rw [← rat_self q1, ← rat_self q2]
            rw [Rat.div_def, Rat.inv_divInt, Rat.divInt_mul_divInt]
          rw [eq]
          have d1 := q1.den_pos
          refine hq_divInt (Int.mul_ne_zero (by omega) e) ?_ ?_
          · rw [Int.natAbs_mul, Int.natAbs_natCast]
            exact pow_lt (m := 60) (n := 60) z1.1 z2.2
          · rw [Int.natAbs_mul, Int.natAbs_natCast]
            exact pow_lt (m := 60) (n := 60) z1.2 z2.1
        refine share_r (r1.m s1a) (r2.m s1a) q0 fun ub Hb sb hub => rp_q hub zd (by decide) ?_
        have s1b := s1a.trans sb
        refine ⟨_, _, q1, q2, rfl, p1 _ s1b, p2 _ s1b, q0, fun uc Hc sc huc => rp_q huc zd (by decide) ?_⟩
        refine ne_str (ok_q zd (by decide)) ⟨false, rfl, ?_⟩
        rw [if_neg (by decide)]
        exact go Hc (s1b.trans sc)
    obtain ⟨tK, hK1, hK2⟩ := restK
    refine ⟨_, (pss_cons (ps_par (i := 1) (j := 2) rfl sc_law_ratios_right.nd rfl rfl (by decide) rfl rfl (pa_cons (pe_cal c_law_some_ratio hr (by decide) pass0 (pa_cons (pv 0) pa_nil)) (pa_cons (pe_cal c_law_pick hr (by decide) pass0 (pa_cons (pv 0) (pa_cons (pe_lst (pa_cons (pe_cal c_law_some_ratio hr (by decide) pass0 (pa_cons (pv 0) pa_nil)) (pa_cons (pe_cal c_law_q hr (by decide) pass0 (pa_cons (pe_cal c_law_far hr (by decide) pass0 (pa_cons (pv 0) pa_nil)) (pa_cons pe_int pa_nil))) pa_nil))) pa_nil))) pa_nil)) (by rfl))
      (pss_cons (ps_set (i := 2) sc_law_ratios_right.nd rfl (Or.inl rfl) (pe_cal c_law_pick hr (by decide) pass0 (pa_cons (pv 0) (pa_cons (pe_lst (pa_cons (pv 2) (pa_cons (pv 2) (pa_cons (pv 1) (pa_cons (pe_tup (pa_cons (pe_un un_neg (pe_ix ix_tup (pv 1) pe_int (fun _ _ => rfl))) (pa_cons (pe_ix ix_tup (pv 1) pe_int (fun _ _ => rfl)) pa_nil))) pa_nil))))) pa_nil))))
      (pss_cons (ps_asg (pe_tup (pa_cons (pe_cal c_law_passed hr (by decide) pass0 (pa_cons (pv 0) (pa_cons (pv 1) pa_nil))) (pa_cons (pe_cal c_law_passed hr (by decide) pass0 (pa_cons (pv 0) (pa_cons (pv 2) pa_nil))) pa_nil))) (pg_tup (n := 2) rfl (pgs_cons (pg_name (i := 5) sc_law_ratios_right.nd rfl (Or.inr rfl)) (pgs_cons (pg_name (i := 3) sc_law_ratios_right.nd rfl (Or.inl rfl)) pgs_nil))))
      hK1))), ?_⟩
    walk_at "rd"
    have na : ∀ {H' H'' : Hp}, Sm [] [] H' H'' → Sm [p] [] H' H'' := fun z => z.any
    refine ⟨p, cl, n + 984, rfl, hp, fun one q1 H1 s1 hp1 h1 z1 => ?_⟩
    refine ⟨p, cl, n + 968, rfl, hp1, fun t1 qt H2 s2 hp2 h2 zt2 => ?_⟩
    refine ⟨p, cl, n + 960, rfl, hp2, fun f H3 s3 hp3 f3 => ?_⟩
    have b60 : (10 : Nat) ^ 18 < 2 ^ 60 := by decide
    refine ⟨f, 2, rfl, by decide, Nat.lt_of_lt_of_le (show (2 : Int).natAbs < 2 ^ 2 by decide) (Nat.pow_le_pow_right (by decide) (by decide)), fun t2 H4 s4 h4 => ?_⟩
    have zf : Hq 60 (Rat.divInt f 2) := hq_divInt (by decide) (by omega) (by decide)
    refine nl_of (fun l5 H5 n5 s5 h5 => ?_) (by simp)
    refine ⟨p, cl, l5, _, n + 959, rfl, h5, by simp, by simp, (hp3.m s4).m s5, fun t6 H6 s6 hp6 ht6 => ?_⟩
    have s46 : Sm [p] [] H4 H6 := s5.any.trans s6
    have s26 : Sm [p] [] H2 H6 := (s3.trans s4.any).trans s46
    have s16 := s2.trans s26
    have h6 : ∃ q2, IsQ H6 t6 q2 ∧ Hq 60 q2 := by
      simp only [List.mem_cons, List.not_mem_nil, or_false] at ht6
      rcases ht6 with rfl | rfl
      · exact ⟨qt, h2.m s26, zt2⟩
      · exact ⟨_, h4.m s46, zf⟩
    obtain ⟨q2, h6, z2⟩ := h6
    have h16 := h1.m s16
    refine ⟨one, t6, rfl, ?_⟩
    obtain ⟨w1, rfl, hw1⟩ := id h16
    refine SqT.ix hw1 rfl ?_
    rw [rU_int]
    refine SqT.ix hw1 rfl ?_
    refine nt_of (fun t7 H7 n7 s7 h7 => ?_) (by simp)
    refine nl_of (fun l8 H8 n8 s8 h8 => ?_) (by simp)
    refine ⟨p, cl, l8, _, n + 958, rfl, h8, by simp, by simp, (hp6.m s7).m s8, fun two H9 s9 hp9 h9 => ?_⟩
    have s79 : Sm [p] [] H7 H9 := s8.any.trans s9
    have s69 : Sm [p] [] H6 H9 := s7.any.trans s79
    have h2' : ∃ q3, IsQ H9 two q3 ∧ Hq 60 q3 := by
      simp only [List.mem_cons, List.not_mem_nil, or_false] at h9
      rcases h9 with rfl | rfl | rfl | rfl
      · exact ⟨q2, h6.m s69, z2⟩
      · exact ⟨q2, h6.m s69, z2⟩
      · exact ⟨q1, h16.m s69, z1⟩
      · exact ⟨-q1, ⟨t7, rfl, by have := s79.tup h7; exact this⟩, z1.neg⟩
    obtain ⟨q3, h9', z3⟩ := h2'
    have h19 := h16.m s69
    refine ⟨p, cl, _, q1, 60, n + 955, rfl, hp9, h19, z1, by decide, fun a Ha sa hpa ha _ => ?_⟩
    refine ⟨p, cl, _, q3, 60, n + 952, rfl, hpa, h9'.m sa, z3, by decide, fun b Hb sb hpb hb _ => ?_⟩
    refine nt_of (fun tc Hc nc sc hc2 => gTup2 hc2 ?_) (by simp)
    have sac : Sm [p] [] Ha Hc := sb.trans sc.any
    have s9c : Sm [p] [] H9 Hc := sa.trans sac
    have s0c : Sm [p] [] H Hc := ((s1.trans s16).trans s69).trans s9c
    exact hK2 Hc _ _ _ _ _ (.ref w1) two a b q1 q3 s0c.x (h19.m s9c) (h9'.m s9c) z1 z3 (ha.m' sac) (hb.m' sc) (tabs_sm tb s0c) ((hpb.m sc).mono (by omega))
end
end G3
end
section
set_option maxHeartbeats 4000000
namespace G3
open PySem PySem.Spec PyProof.Rows L2
local macro_rules | `(tactic| walk_at "rd") => `(tactic| simp only [wipe, sDPut, tDGet, tDisp, tPairs, tBM0, tBM, tBreak, sFld, tPar3, tRevL, tLstRg, tRg1, tRg2, gSub, rSetL,  tSl, tNoPart, tPart, iRng1, iRng2, iRng3, tRevT, tLc_eq, tFor_eq, iEnumT, iSeq, iList, iTup, RZ.iZipA, tFld_eq, tMeth, tVar, tC, tOp, tUn, tCons, tNil, tCB, tCall, tRet, tSeq, tAsg, gName, tIfS, tIf, tTest, tB, tNot, tAnd, tOr, tNotV, tAndV, tOrV, rI0_int, rI_int, rU_int, rEq_int, rNe_int, tPar, tNext, tDrop, tTup_nt, tLst_nl, tMkBN, tMkBR, cxOf_K, L2.start, List.map_cons, List.map_nil, List.length_cons, List.length_nil, List.cons_append, List.nil_append, List.append_nil, List.replicate_succ, List.replicate_zero, Nat.reduceAdd, Nat.reduceSub, Nat.sub_self, List.getElem?_cons_zero, List.getElem?_cons_succ, List.set_cons_zero, List.set_cons_succ, Option.some.injEq, V.int.injEq, V.bl.injEq, exists_eq_left', exists_eq_left, exists_eq_right, exists_eq_right', true_and, and_true, if_true, if_false, ite_true, ite_false, Bool.false_eq_true, Bool.not_true, Bool.not_false, reduceIte])
local macro_rules | `(tactic| walk_at "ix") => `(tactic| repeat (first | refine Sq.ix (by assumption) (by rfl) ?_ | (walk_at "rd"; refine ⟨Sz.mul (by assumption) (by assumption), ?_⟩)))
/-- tuple(xs) within a comprehension -/
def rTupC (K : PySem.W.Frag) : List V → Hp → VK → Prop := fun xs H Q => ∃ p ys, xs = [V.ref p] ∧ ((L2.SqL K H p ys ∧ ∀ l, H l = none → Q (.ref l) (upd H l (.tup ys))) ∨ L2.SqT K H p ys ∧ Q (.ref p) H)
theorem call_tupK {X : Cx} {K : PySem.W.Frag} (h : X.K = K) : CallR X (.type "tuple") (rTupC K) := by subst h; exact call_tuple_of
theorem LQ.mL {D : Addr} {Dm : List Addr} {H H' : Hp} {v : V} {l : List Rat} (h : LQ H v l) (n : ∀ c, v = .ref c → c ≠ D) (s : Sm Dm [D] H H') : LQ H' v l := by
  obtain ⟨p, vs, rfl, a, b⟩ := h
  exact ⟨p, vs, rfl, s.lst a fun z => n _ rfl (List.mem_singleton.mp z), b.m s⟩
theorem LQ.ne {H : Hp} {v : V} {l : List Rat} {D : Addr} (h : LQ H v l) (n : H D = none) : ∀ c, v = .ref c → c ≠ D := fun c e z => by
  obtain ⟨p, vs, e2, a, b⟩ := h
  rw [e] at e2
  cases e2
  rw [z, n] at a
  cases a
theorem hl_one1 : Hl 9 [1] := hl_one ⟨by decide, by decide⟩
theorem com_any {G a b : List Rat} (nG : Nf G) (na : Nf a) (nb : Nf b) (zG : Hl 9 G) (za : Hl 9 a) (zb : Hl 9 b) (lG : G.length ≤ 3) (la : a.length ≤ 5) (lb : b.length ≤ 5) : ComOk (pmul G a) (pmul G b) := by
  rcases Nat.eq_zero_or_pos G.length with z | z
  · have e : G = [] := List.eq_nil_of_length_eq_zero z
    subst e
    rw [pmul_nil, pmul_nil]
    exact com_nil nf_nil (by simp) ((bd_hl (k := 1) zG (by simp) (by decide)).mono (by decide))
  · exact com_ok nG na nb zG za zb lG la lb z
theorem hl_pm {G a : List Rat} (zG : Hl 9 G) (za : Hl 9 a) (lG : G.length ≤ 3) : Hl 74 (pmul G a) := (hl_pmul zG za).mono (by
  have : min G.length a.length * (9 + 9 + 1) ≤ 3 * 19 := Nat.mul_le_mul_right _ (by omega)
  omega)
theorem len2 {xs : List V} (h : xs.length = 2) : ∃ a b, xs = [a, b] := by
  match xs, h with
  | [a, b], _ => exact ⟨a, b, rfl⟩
theorem shaped_pp (a b : List Rat) : SeqAt.shaped (.list [pd a, pd b]) = true := by
  unfold SeqAt.shaped
  rw [Bool.and_eq_true]
  refine ⟨by simp only [PyData.canLay0, PyData.canLayAll0, pd_lay, Bool.and_self], decide_eq_true ?_⟩
  have h1 := pd_depth a
  have h2 := pd_depth b
  simp only [PyData.depth, PyData.depthAll]
  omega
section
variable {P : Program} {w : World} {K : PySem.W.Frag} {mg : Str → Option Value} {base : Heap}
abbrev N_law_divided_right : List Str := ["_law_pen_here", "_law_planted", "_law_ones", "_law_k", "_law_other", "_law_both", "_law_due", "_law_a", "_law_b", "_law_one"]
theorem sc_law_divided_right : FnScope N_law_divided_right ["_law_pen_here"] (defScope s_law_divided_right) := ⟨rfl, rfl, rfl, by decide +kernel, rfl, by decide +kernel, by decide +kernel⟩
theorem ok_law_divided_right (T : Tx K mg) {Tt : List (Addr × Str)} (LT : ∀ cdv, CdOf K (He.ga K "_law_divided_right") cdv "_law_divided_right" → LamT base mg Tt cdv ("_law_divided_right" ++ ".<locals>.<lambda>")) : CalG P w K mg base CX0 10 "_law_divided_right" (spRight Tt 1200) := by
  have c_law_draw := ok_law_draw (P := P) (w := w) (base := base) T
  have c_law_pick := ok_law_pick (P := P) (w := w) (base := base) T
  have c_law_drawn := ok_law_drawn (P := P) (w := w) (base := base) T
  have c_law_made_poly := ok_law_made_poly (P := P) (w := w) (base := base) T
  have c_law_p_times := ok_law_p_timesF (P := P) (w := w) (base := base) T
  have c_law_p_common := ok_law_p_common (P := P) (w := w) (base := base) T
  have c_law_p_divided := ok_law_p_divided (P := P) (w := w) (base := base) T
  have c_common := ok_common (P := P) (w := w) (base := base) T
  have c_divided := ok_divided (P := P) (w := w) (base := base) T
  have c_mul := ok_mul (P := P) (w := w) (base := base) T
  have c_rmul := ok_rmul (P := P) (w := w) (base := base) T
  have c_add := ok_add (P := P) (w := w) (base := base) T
  have c_radd := ok_radd (P := P) (w := w) (base := base) T
  have c_eq := ok_eq (P := P) (w := w) (base := base) T
  obtain ⟨fd, F⟩ := T.f_law_divided_right
  refine calG0 F T.g_law_divided_right sc_law_divided_right (ps := ["_law_pen_here"]) (fun _ _ _ _ _ _ us hl => match us, hl with | [_], _ => rfl) (fun vs H Q E h => ?_) (fun cdv A outer s H vs Q E hc hg hr h => ?_)
  · obtain ⟨p, cl, n, rfl, _⟩ := h
    rfl
  · obtain ⟨p, cl, n, rfl, hp, tb, k⟩ := h
    obtain ⟨c, Pt, rfl, TB, hmT, hu⟩ := (LT _ hc).ex
    have hcode : (Value.ref c) = .ref c := rfl
    have mkR : CallR (cxOf CX0 P w K mg base N_law_divided_right "_law_divided_right" (defScope s_law_divided_right) (He.ga K "_law_divided_right") (.ref c) A outer s H E).nox (.builtin "repr") (rReprX K) := call_reprX hg hr.units
    have restD : ∃ t, PSs (cxOf CX0 P w K mg base N_law_divided_right "_law_divided_right" (defScope s_law_divided_right) (He.ga K "_law_divided_right") (.ref c) A outer s H E).nox ((defBody s_law_divided_right).drop 5) t ∧
        ∀ (H1 : Hp) (o1 o3 o4 o5 o6 o9 : Option V) (ones : Addr) (w0 w1 a b : V) (A1 B1 : List Rat), Sx [p] [] H H1 → LamX.Tabs Tt H1 → Pen H1 p cl n → H1 ones = some (.lst [w0, w1]) → LQ H1 w0 A1 → LQ H1 w1 B1 → PoV (He.ga K "Poly") H1 a A1 → PoV (He.ga K "Poly") H1 b B1 →
          Nf A1 → Nf B1 → Hl 74 A1 → Hl 74 B1 → A1.length ≤ 7 → B1.length ≤ 7 → 0 < B1.length → ComOk A1 B1 →
          t { nx := fun _ H' => Q .non H', rt := Q } [some (.ref p), o1, some (.ref ones), o3, o4, o5, o6, some a, some b, o9] H1 := by
      refine ⟨_, (pss_cons (ps_par (i := 5) (j := 6) rfl sc_law_divided_right.nd rfl rfl (by decide) rfl rfl (pa_cons (pe_cal c_divided hr (by decide) passL (pa_cons (pv 7) (pa_cons (pv 8) pa_nil))) (pa_cons (pe_lc (own := [("_law_one", 9)]) rfl sc_law_divided_right.nd (pi_seq (pe_cal c_law_p_divided hr (by decide) pass0 (pa_cons (pe_ix ix_list (pv 2) pe_int (fun _ _ => rfl)) (pa_cons (pe_ix ix_list (pv 2) pe_int (fun _ _ => rfl)) pa_nil)))) (blkOk_by (own := [("_law_one", 9)]) (N := N_law_divided_right) (sc := defScope s_law_divided_right) (by decide +kernel)) (fun _ _ _ _ _ => (pg_name (i := 9) sc_law_divided_right.nd rfl (Or.inl rfl) (Or.inr rfl))) (fun _ _ _ _ _ => pts_nil) (fun _ _ _ _ _ => (pe_callTy (call_tupK (K := K) rfl) (by rfl) T.b_tuple (by decide +kernel) (pa_cons (pv 9) pa_nil)))) pa_nil)) (by rfl))
      (pss_cons (ps_if (PW.pt (pw_or (pt_not (pt_val (pe_callB call_isi (by rfl) T.b_isinstance (by decide +kernel) (pa_cons (pv 5) (pa_cons (pe_bltn (v := .ty "tuple") (by rfl) T.b_tuple (by decide +kernel) rfl) pa_nil))))) (pw_or1 (pt_cmpR (op_neD (room64 hr)) (pe_lc (own := [("_law_one", 9)]) rfl sc_law_divided_right.nd (pi_seq (pv 5)) (blkOk_by (own := [("_law_one", 9)]) (N := N_law_divided_right) (sc := defScope s_law_divided_right) (by decide +kernel)) (fun _ _ _ _ _ => (pg_name (i := 9) sc_law_divided_right.nd rfl (Or.inl rfl) (Or.inr rfl))) (fun _ _ _ _ _ => pts_nil) (fun _ _ _ _ _ => (pe_fldK (K := K) rfl (pv 9) rfl))) (pv 6) (nomark _))))) (pss_one (ps_ret pe_bl)) pss_nil)
      (pss_one (ps_ret (pe_cmpR (op_ownE T.ow c_eq hr (by decide) pass0) (pe_op (op_ownL opf_add T.ow c_add c_radd hr (by decide) pass0) (pe_op (op_ownL opf_mul T.ow c_mul c_rmul hr (by decide) pass0) (pe_ix ix_tup (pv 5) pe_int (fun _ _ => rfl)) (pv 8)) (pe_ix ix_tup (pv 5) pe_int (fun _ _ => rfl))) (pv 7) (nomark _)))))), ?_⟩
      intro H1 o1 o3 o4 o5 o6 o9 ones w0 w1 a b A1 B1 s1 tb1 hp1 ho hw0 hw1 ha hb na nb za zb la lb pb co
      walk_at "rd"
      refine ⟨a, b, A1, B1, rfl, ha, hb, by omega, by omega, .inl ⟨pb, nb, co.dz pb, fun d x y H2 s2 hd hx hy => ?_⟩⟩
      have ho2 := s2.lst ho List.not_mem_nil
      refine SqL.ix ho2 rfl (SqL.ix ho2 rfl ?_)
      refine ⟨_, _, A1, B1, rfl, hw0.m s2, hw1.m s2, by omega, by omega, pb, nb, co.dz pb, fun e x2 y2 H3 s3 he hx2 hy2 => ?_⟩
      refine ⟨e, _, rfl, .inl he, fun J w D nD => ?_⟩
      refine lc_list' w (Dm := []) (R := fun k v H => TQ H v ([quo A1 B1, rem A1 B1].getD k [])) (P := fun _ _ => True) nD (by simp) trivial (fun _ _ _ _ h s => h.m s) (fun _ _ _ _ _ _ => trivial) (fun H s => Sq.eq (.inl he) s) ?_ ?_
      · intro i x H4 H5 C hi s4 _ _ yy hc'
        obtain ⟨rfl, yy⟩ := yy
        walk_at "rd"
        have hxx : LQ H5 x ([quo A1 B1, rem A1 B1].getD i []) := by
          match i, yy with
          | 0, yy => cases yy; exact hx2.m s4
          | 1, yy => cases yy; exact hy2.m s4
        obtain ⟨pa, vs, rfl, hpa, hq⟩ := hxx
        refine ⟨pa, vs, rfl, .inl ⟨L2.SqL.of hpa, fun l nl => ?_⟩⟩
        have s6 : Sm [] [] H5 (upd H5 l (.tup vs)) := Sm.new nl
        exact hc' _ _ s6 ⟨l, vs, rfl, upd_same, hq.m s6⟩ trivial
      · intro acc H4 s4 hD hl4 hr4 _
        obtain ⟨u1, u2, rfl⟩ := len2 hl4
        have t1 : TQ H4 u1 (quo A1 B1) := hr4 0 u1 rfl
        have t2 : TQ H4 u2 (rem A1 B1) := hr4 1 u2 rfl
        have s34 := s3.trans s4
        have hd4 := s34.tup hd
        refine ⟨.ref d, .ref D, rfl, isi_of (.tup hd4) (show kitB "tuple" "tuple" = some true by decide +kernel) ⟨true, rfl, ?_⟩⟩
        rw [if_neg (by decide)]
        refine ⟨d, _, rfl, .inl hd4, fun J2 w2 D2 nD2 => ?_⟩
        have hx4 := hx.m s34
        have hy4 := hy.m s34
        refine lc_list' w2 (Dm := []) (R := fun k v H => TQ H v ([quo A1 B1, rem A1 B1].getD k [])) (P := fun _ _ => True) nD2 (by simp) trivial (fun _ _ _ _ h s => h.m s) (fun _ _ _ _ _ _ => trivial) (fun H s => Sq.eq (.inl hd4) s) ?_ ?_
        · intro i x H5 H6 C hi s5 _ _ yy hc'
          obtain ⟨rfl, yy⟩ := yy
          walk_at "rd"
          have hxx : PoV (He.ga K "Poly") H6 x ([quo A1 B1, rem A1 B1].getD i []) := by
            match i, yy with
            | 0, yy => cases yy; exact hx4.m s5
            | 1, yy => cases yy; exact hy4.m s5
          exact po_num T hxx fun pa vs hpa hq => hc' _ _ Sm.refl ⟨pa, vs, rfl, hpa, hq⟩ trivial
        · intro acc H5 s5 hD2 hl5 hr5 _
          obtain ⟨v1, v2, rfl⟩ := len2 hl5
          have t3 : TQ H5 v1 (quo A1 B1) := hr5 0 v1 rfl
          have t4 : TQ H5 v2 (rem A1 B1) := hr5 1 v2 rfl
          have hD5 := s5.lst hD List.not_mem_nil
          have sh := shaped_pp (quo A1 B1) (rem A1 B1)
          refine ⟨_, _, .lst (L2.SqL.of hD2) (.cons (dp_t t3) (.cons (dp_t t4) .nil)), .lst (L2.SqL.of hD5) (.cons (dp_t (t1.m s5)) (.cons (dp_t (t2.m s5)) .nil)), sh, sh, false, by rw [SeqAt.eqv_refl _ (SeqAt.canLay_of_shaped sh)]; rfl, ?_⟩
          rw [if_neg (by decide)]
          have hd5 := s5.tup hd4
          have s15 : Sm [] [] H1 H5 := ((s2.trans s3).trans s4).trans s5
          obtain ⟨q1, q2⟩ := qu_num pb la
          obtain ⟨z1, z2⟩ := co.qu pb
          have ql : (quo A1 B1).length ≤ 400 := by
            have : (quo A1 B1).length ≤ dm A1 B1 := pO_le _ _
            have : dm A1 B1 = A1.length + 1 - B1.length := rfl
            omega
          have rl : (rem A1 B1).length ≤ 400 := by
            have := rem_le A1 B1
            omega
          refine SqT.ix hd5 rfl ?_
          refine ownL_mul (hx4.m s5) (hb.m s15) z1 zb ql (by omega) q1 fun u H6 s6 hu6 => ?_
          refine SqT.ix (s6.tup hd5) rfl ?_
          have pl : (pmul (quo A1 B1) B1).length ≤ 400 := by
            have := pmul_le (quo A1 B1) B1
            have : (quo A1 B1).length ≤ dm A1 B1 := pO_le _ _
            have : dm A1 B1 = A1.length + 1 - B1.length := rfl
            omega
          refine ownL_add hu6 ((hy4.m s5).m s6) (hl_pmul z1 zb) z2 pl rl q2 fun u7 H7 s7 hu7 => ?_
          rw [div_all na nb pb] at hu7
          have s17 := (s15.trans s6).trans s7
          refine own_pp hu7 (ha.m s17) ?_
          rw [decide_eq_true rfl]
          exact k H7 (s1.trans s17.any.x) (tabs_sm tb1 s17) (hp1.m s17)
    obtain ⟨tD, hD1, hD2⟩ := restD
    have restC : ∃ t, PSs (cxOf CX0 P w K mg base N_law_divided_right "_law_divided_right" (defScope s_law_divided_right) (He.ga K "_law_divided_right") (.ref c) A outer s H E).nox ((defBody s_law_divided_right).drop 3) t ∧
        ∀ (H1 : Hp) (o1 o3 o4 o5 o6 o9 : Option V) (ones : Addr) (w0 w1 a b : V) (A1 B1 : List Rat), Sx [p] [] H H1 → LamX.Tabs Tt H1 → Pen H1 p cl n → H1 ones = some (.lst [w0, w1]) → LQ H1 w0 A1 → LQ H1 w1 B1 → PoV (He.ga K "Poly") H1 a A1 → PoV (He.ga K "Poly") H1 b B1 →
          Nf A1 → Nf B1 → Hl 74 A1 → Hl 74 B1 → A1.length ≤ 7 → B1.length ≤ 7 → ComOk A1 B1 →
          t { nx := fun _ H' => Q .non H', rt := Q } [some (.ref p), o1, some (.ref ones), o3, o4, o5, o6, some a, some b, o9] H1 := by
      refine ⟨_, (pss_cons (ps_if (pt_cmpR (op_neD (room64 hr)) (pe_fld (pe_cal c_common hr (by decide) pass0 (pa_cons (pv 7) (pa_cons (pv 8) pa_nil))) rfl) (pe_callTy call_tuple_of (by rfl) T.b_tuple (by decide +kernel) (pa_cons (pe_cal c_law_p_common hr (by decide) pass0 (pa_cons (pe_ix ix_list (pv 2) pe_int (fun _ _ => rfl)) (pa_cons (pe_ix ix_list (pv 2) pe_int (fun _ _ => rfl)) pa_nil))) pa_nil)) (nomark _)) (pss_one (ps_ret pe_bl)) pss_nil)
      (pss_cons (ps_if (pt_cmpR (op_eqD (room64 hr)) (pe_ix ix_list (pv 2) pe_int (fun _ _ => rfl)) (pe_lst pa_nil) (nomark _)) (pss_one (ps_ret (pe_cmpR (op_eqD (room64 hr)) (pe_why T hg hr TB hcode hmT hu (LamX.lamS_by (sc := defScope s_law_divided_right) (by decide +kernel)) (fun A2 outer2 s2 H2 E2 f2 c2 hr2 => (pe_cal c_divided hr2 (by decide) lam_px (pa_cons (pv 7) (pa_cons (pv 8) pa_nil))))) (pe_tup (pa_cons pe_str (pa_cons pe_str (pa_cons pe_str pa_nil)))) (nomark _)))) pss_nil)
      hD1)), ?_⟩
      intro H1 o1 o3 o4 o5 o6 o9 ones w0 w1 a b A1 B1 s1 tb1 hp1 ho hw0 hw1 ha hb na nb za zb la lb co
      walk_at "rd"
      obtain ⟨t, u, m, t0, t1, ct, u0, u1, cu, e⟩ := id co.ex
      refine ⟨a, b, t, m, rfl, by rw [t0]; exact ha, by rw [t1]; exact hb, ct, fun r H2 s2 hr2 => po_num T hr2 fun pr vr hpr hqr => ?_⟩
      have ho2 := s2.lst ho List.not_mem_nil
      refine SqL.ix ho2 rfl (SqL.ix ho2 rfl ?_)
      refine ⟨_, _, u, m, rfl, by rw [u0]; exact hw0.m s2, by rw [u1]; exact hw1.m s2, cu, fun r3 H3 s3 hr3 => ?_⟩
      obtain ⟨p3, v3, rfl, h3, q3⟩ := hr3
      refine ⟨p3, v3, rfl, .inl ⟨L2.SqL.of h3, fun l nl => ?_⟩⟩
      have s4 : Sm [] [] H3 (upd H3 l (.tup v3)) := Sm.new nl
      have hl4 := upd_same (H := H3) (a := l) (o := .tup v3)
      generalize upd H3 l (.tup v3) = H4 at *
      have d1 : Dp K H4 (.ref pr) (pd (pplain (t m))) := dp_t ⟨pr, vr, rfl, (s3.trans s4).tup hpr, hqr.m (s3.trans s4)⟩
      have d2 : Dp K H4 (.ref l) (pd (pplain (t m))) := dp_t ⟨l, v3, rfl, hl4, by rw [e]; exact q3.m s4⟩
      have sh := pd_shaped (pplain (t m))
      refine ⟨_, _, d1, d2, sh, sh, false, by rw [SeqAt.eqv_refl _ (SeqAt.canLay_of_shaped sh)]; rfl, ?_⟩
      rw [if_neg (by decide)]
      have s14 : Sm [] [] H1 H4 := (s2.trans s3).trans s4
      have ho4 := s14.lst ho List.not_mem_nil
      refine SqL.ix ho4 rfl ?_
      refine nl_of (fun l5 H5 n5 s5 h5 => ?_) (by simp)
      have s15 := s14.trans s5
      obtain ⟨pb, vb, rfl, hpb, hqb⟩ := id (hw1.m s15)
      refine eq_nil hpb hqb h5 ⟨_, rfl, ?_⟩
      by_cases eB : B1 = []
      · subst eB
        rw [decide_eq_true rfl, if_pos rfl]
        refine why_num (v := .int 0) (d := .int 0) (z := "divisor") (tabs_sm tb1 s15) (fun H' z => .b (.int _) rfl) (shw_of) (by decide) (by decide) (fun E' H' Q' z ex => ?_) fun q6 H6 s6 t6 hq6 => ?_
        · exact ⟨_, rfl, _, rfl, a, b, A1, [], rfl, (ha.m s15).x z, (hb.m s15).x z, by omega, by simp, .inr ⟨rfl, ex⟩⟩
        refine nt_of (fun t7 H7 n7 s7 h7 => ?_) (by simp)
        refine eq_strs ["number", "divisor", "0"] (s7.tup hq6) h7 (fun x hx => ?_) ?_
        · simp only [List.mem_cons, List.not_mem_nil, or_false] at hx
          rcases hx with rfl | rfl | rfl
          · exact ok_of _
          · exact ok_of _
          · exact ok_of _
        · have s57 : Sx [] [] H5 H7 := s6.trans s7.x
          exact k H7 (s1.trans (s15.any.x.trans (s57.w (fun _ h => nomatch h) (fun _ h => h)))) (tabs_sm t6 s7) ((hp1.m s15).x s57)
      · rw [decide_eq_false eB, if_neg (by decide)]
        have pB : 0 < B1.length := Nat.pos_of_ne_zero fun z => eB (List.eq_nil_of_length_eq_zero z)
        exact hD2 H5 _ _ _ _ _ _ ones w0 (.ref pb) a b A1 B1 (s1.trans s15.any.x) (tabs_sm tb1 s15) (hp1.m s15) (s15.lst ho List.not_mem_nil) (hw0.m s15) (hw1.m s15) (ha.m s15) (hb.m s15) na nb za zb la lb pB co
    obtain ⟨tC, hC1, hC2⟩ := restC
    have restB : ∃ t, PSs (cxOf CX0 P w K mg base N_law_divided_right "_law_divided_right" (defScope s_law_divided_right) (He.ga K "_law_divided_right") (.ref c) A outer s H E).nox ((defBody s_law_divided_right).drop 2) t ∧
        ∀ (H1 : Hp) (o1 o3 o4 o5 o6 o7 o8 o9 : Option V) (ones : Addr) (w0 w1 : V) (A1 B1 : List Rat), Sx [p] [] H H1 → LamX.Tabs Tt H1 → Pen H1 p cl (n + 400) → H1 ones = some (.lst [w0, w1]) → LQ H1 w0 A1 → LQ H1 w1 B1 →
          Nf A1 → Nf B1 → Hl 74 A1 → Hl 74 B1 → A1.length ≤ 7 → B1.length ≤ 7 → ComOk A1 B1 →
          t { nx := fun _ H' => Q .non H', rt := Q } [some (.ref p), o1, some (.ref ones), o3, o4, o5, o6, o7, o8, o9] H1 := by
      refine ⟨_, (pss_cons (ps_asg (pe_tup (pa_cons (pe_cal c_law_made_poly hr (by decide) pass0 (pa_cons (pv 0) (pa_cons (pe_ix ix_list (pv 2) pe_int (fun _ _ => rfl)) pa_nil))) (pa_cons (pe_cal c_law_made_poly hr (by decide) pass0 (pa_cons (pv 0) (pa_cons (pe_ix ix_list (pv 2) pe_int (fun _ _ => rfl)) pa_nil))) pa_nil))) (pg_tup (n := 2) rfl (pgs_cons (pg_name (i := 7) sc_law_divided_right.nd rfl (Or.inr rfl)) (pgs_cons (pg_name (i := 8) sc_law_divided_right.nd rfl (Or.inr rfl)) pgs_nil))))
      hC1), ?_⟩
      intro H1 o1 o3 o4 o5 o6 o7 o8 o9 ones w0 w1 A1 B1 s1 tb1 hp1 ho hw0 hw1 na nb za zb la lb co
      walk_at "rd"
      refine SqL.ix ho rfl ?_
      refine ⟨p, cl, w0, A1, n + 200, 74, rfl, hp1, hw0, na, za, by omega, by decide, fun a H2 s2 hp2 ha => ?_⟩
      refine SqL.ix (s2.lst ho List.not_mem_nil) rfl ?_
      refine ⟨p, cl, w1, B1, n, 74, rfl, hp2, hw1.m s2, nb, zb, by omega, by decide, fun b H3 s3 hp3 hb => ?_⟩
      refine nt_of (fun t4 H4 n4 s4 h4 => gTup2 h4 ?_) (by simp)
      have s24 : Sm [p] [] H2 H4 := s3.trans s4.any
      have s14 := s2.trans s24
      exact hC2 H4 _ _ _ _ _ _ ones w0 w1 a b A1 B1 (s1.trans s14.x) (tabs_sm tb1 s14) (hp3.m s4) (s14.lst ho List.not_mem_nil) (hw0.m s14) (hw1.m s14) (ha.m s24) (hb.m s4) na nb za zb la lb co
    obtain ⟨tB, hB1, hB2⟩ := restB
    refine ⟨_, (pss_cons (ps_par (i := 1) (j := 2) rfl sc_law_divided_right.nd rfl rfl (by decide) rfl rfl (pa_cons (pe_cal c_law_drawn hr (by decide) pass0 (pa_cons (pv 0) (pa_cons pe_int (pa_cons pe_int pa_nil)))) (pa_cons (pe_lst pa_nil) pa_nil)) (by rfl))
      (pss_cons (ps_for PassesOwn.never rfl (pi_range1 (by rfl) T.b_range (pa_cons pe_int pa_nil)) (pg_name (i := 3) sc_law_divided_right.nd rfl (Or.inl rfl)) (pss_cons (ps_set (i := 4) sc_law_divided_right.nd rfl (Or.inl rfl) (pe_cal c_law_drawn hr (by decide) pass0 (pa_cons (pv 0) (pa_cons pe_int (pa_cons pe_int pa_nil)))))
      (pss_one (ps_expr (pe_bm PySem.F.plainAttrs_list PySem.F.slot_list_append PySem.F.type_list_append mt_append (pv 2) (pa_cons (pe_cal c_law_p_times hr (by decide) pass0 (pa_cons (pv 1) (pa_cons (pe_cal c_law_pick hr (by decide) pass0 (pa_cons (pv 0) (pa_cons (pe_lst (pa_cons (pv 4) (pa_cons (pv 4) (pa_cons (pe_lst (pa_cons (pe_tup (pa_cons pe_int (pa_cons pe_int pa_nil))) pa_nil)) (pa_cons (pe_lst pa_nil) pa_nil))))) pa_nil))) pa_nil))) pa_nil))))))
      hB1)), ?_⟩
    walk_at "rd"
    refine ⟨p, cl, 2, 3, 9, n + 1000, rfl, by decide, by decide, by decide, by decide, by decide, by decide, hp, fun pl G H1 s1 hp1 hG nG zG lG => ?_⟩
    refine nl_of (fun ones H2 n2 s2 h2 => ?_) (by simp)
    refine ⟨pl, .ref ones, rfl, 2, rfl, by decide, by decide, ?_⟩
    have n0 : H ones = none := s1.free n2
    have cne : cl ≠ ones := hp1.ne n2
    refine for_it' (walk_range (lo := 0) (n := 2)) (fun i σ H' => ∃ (o3 o4 : Option V) (ws : List V), σ = [some (.ref p), some pl, some (.ref ones), o3, o4, none, none, none, none, none] ∧ Sm [p] [] H H' ∧ Pen H' p cl (n + 400 + 300 * (2 - i)) ∧ H' ones = some (.lst ws) ∧ ws.length = i ∧ LQ H' pl G ∧ (∀ c, pl = .ref c → c ≠ ones) ∧
      ∀ (j : Nat) (w : V), ws[j]? = some w → (∀ c, w = .ref c → c ≠ ones) ∧ ∃ O, LQ H' w (pmul G O) ∧ Nf O ∧ Hl 9 O ∧ O.length ≤ 5) ?_ (fun _ _ _ _ _ => trivial) ?_ ?_
    · exact ⟨none, none, [], rfl, s1.trans s2.any, hp1.m s2, h2, rfl, hG.m s2, hG.ne n2, fun j w e => by cases e⟩
    · intro i x σ H3 H4 hi z y
      obtain ⟨o3, o4, ws, rfl, s3, hp3, ho3, lw, hG3, nG3, hw3⟩ := z
      obtain ⟨rfl, rfl⟩ := y
      walk_at "rd"
      refine ⟨p, cl, 4, 3, 9, n + 400 + 300 * (2 - (i + 1)) + 100, rfl, by decide, by decide, by decide, by decide, by decide, by decide, hp3.mono (by omega), fun ot O H5 s5 hp5 hO nO zO lO => ?_⟩
      have ho5 := s5.lst ho3 List.not_mem_nil
      refine ⟨.inl ⟨rfl, _, L2.SqL.of ho5⟩, ?_⟩
      refine nt_of (fun t6 H6 n6 s6 h6 => ?_) (by simp)
      refine nl_of (fun t7 H7 n7 s7 h7 => ?_) (by simp)
      refine nl_of (fun t8 H8 n8 s8 h8 => ?_) (by simp)
      refine nl_of (fun t9 H9 n9 s9 h9 => ?_) (by simp)
      refine ⟨p, cl, t9, _, n + 400 + 300 * (2 - (i + 1)), rfl, h9, by simp, by simp, (((hp5.m s6).m s7).m s8).m s9 |>.mono (by omega), fun v Ha sa hpa hv => ?_⟩
      have s8a : Sm [p] [] H8 Ha := s9.any.trans sa
      have s7a : Sm [p] [] H7 Ha := s8.any.trans s8a
      have s5a : Sm [p] [] H5 Ha := (s6.trans s7).any.trans s7a
      have s4a := s5.trans s5a
      have hv2 : ∃ O, LQ Ha v O ∧ Nf O ∧ Hl 9 O ∧ O.length ≤ 5 := by
        simp only [List.mem_cons, List.not_mem_nil, or_false] at hv
        rcases hv with rfl | rfl | rfl | rfl
        · exact ⟨O, hO.m s5a, nO, zO, by omega⟩
        · exact ⟨O, hO.m s5a, nO, zO, by omega⟩
        · exact ⟨[1], ⟨t7, _, rfl, s7a.lst h7 List.not_mem_nil, Qs.one ⟨t6, rfl, (s7.any.trans s7a).tup h6⟩⟩, .inr (by decide), hl_one1, by simp⟩
        · exact ⟨[], ⟨t8, _, rfl, s8a.lst h8 List.not_mem_nil, Qs.nil⟩, nf_nil, fun i => by rw [cf_nil]; exact hq_zero (by decide), by simp⟩
      obtain ⟨O2, hv2, nO2, zO2, lO2⟩ := hv2
      have hGa := hG3.m s4a
      refine ⟨pl, v, G, O2, 9, 9, rfl, hGa, hv2, zG, zO2, ?_, by omega, by omega, fun r Hb sb hr nr => ?_⟩
      · have : (G.length + 1) * (9 + 9 + 1) ≤ 4 * 19 := Nat.mul_le_mul_right _ (by omega)
        omega
      have s4b : Sm [p] [] H4 Hb := s4a.trans sb.any
      have hob := s4b.lst ho3 List.not_mem_nil
      have rne : ∀ c, r = .ref c → c ≠ ones := fun c e z => by
        have := nr c e
        rw [z, s4a.lst ho3 List.not_mem_nil] at this
        cases this
      refine ⟨ones, _, _, rfl, rfl, hob, by rw [lw, sizeLine_eq]; omega, ?_⟩
      have sc : Sm [p] [ones] Hb (upd Hb ones (.lst (ws ++ [r]))) := Sm.put hob (List.mem_singleton.mpr rfl)
      refine ⟨_, _, ws ++ [r], rfl, ((((s3.trans s4b).w (fun _ h => h) (fun _ h => nomatch h)).trans sc).drop n0), (hpa.m sb).put hob cne, upd_same, by rw [List.length_append, lw]; rfl, (hGa.m sb).mL nG3 sc, nG3, fun j w e => ?_⟩
      by_cases hj : j < ws.length
      · rw [List.getElem?_append_left hj] at e
        obtain ⟨m, O', q', nO', zO', lO'⟩ := hw3 j w e
        exact ⟨m, O', (q'.m s4b).mL m sc, nO', zO', lO'⟩
      · rw [List.getElem?_append_right (by omega)] at e
        have ew : w = r := by
          obtain ⟨h1, h2⟩ := List.getElem?_eq_some_iff.mp e
          have h1 : j - ws.length < 1 := h1
          have e0 : j - ws.length = 0 := by omega
          rw [e0] at e
          exact (Option.some.inj e).symm
        subst ew
        exact ⟨rne, O2, hr.mL rne sc, nO2, zO2, lO2⟩
    · intro σ H3 z
      obtain ⟨o3, o4, ws, rfl, s3, hp3, ho3, lw, hG3, nG3, hw3⟩ := z
      obtain ⟨w0, w1, rfl⟩ := len2 lw
      obtain ⟨m0, O0, q0, nO0, zO0, lO0⟩ := hw3 0 w0 rfl
      obtain ⟨m1, O1, q1, nO1, zO1, lO1⟩ := hw3 1 w1 rfl
      have l1 := pmul_le G O0
      have l2 := pmul_le G O1
      exact hB2 H3 _ _ _ _ _ _ _ _ ones w0 w1 (pmul G O0) (pmul G O1) s3.x (tabs_sm tb s3) (hp3.mono (by omega)) ho3 q0 q1 (nf_pmul _ _) (nf_pmul _ _) (hl_pm zG zO0 (by omega)) (hl_pm zG zO1 (by omega)) (by omega) (by omega) (com_any nG nO0 nO1 zG zO0 zO1 (by omega) lO0 lO1)
end
end G3
end
section
set_option maxHeartbeats 4000000
namespace G3
open PySem PySem.Spec PyProof.Rows L2
local macro_rules | `(tactic| walk_at "rd") => `(tactic| simp only [wipe, sDPut, tDGet, tDisp, tPairs, tBM0, tBM, tBreak, sFld, tPar3, tRevL, tLstRg, tRg1, tRg2, gSub, rSetL,  tSl, tNoPart, tPart, iRng1, iRng2, iRng3, tRevT, tLc_eq, tFor_eq, iEnumT, iSeq, iList, iTup, RZ.iZipA, tFld_eq, tMeth, tVar, tC, tOp, tUn, tCons, tNil, tCB, tCall, tRet, tSeq, tAsg, gName, tIfS, tIf, tTest, tB, tNot, tAnd, tOr, tNotV, tAndV, tOrV, rI0_int, rI_int, rU_int, rEq_int, rNe_int, tPar, tNext, tDrop, tTup_nt, tLst_nl, tMkBN, tMkBR, cxOf_K, L2.start, List.map_cons, List.map_nil, List.length_cons, List.length_nil, List.cons_append, List.nil_append, List.append_nil, List.replicate_succ, List.replicate_zero, Nat.reduceAdd, Nat.reduceSub, Nat.sub_self, List.getElem?_cons_zero, List.getElem?_cons_succ, List.set_cons_zero, List.set_cons_succ, Option.some.injEq, V.int.injEq, V.bl.injEq, exists_eq_left', exists_eq_left, exists_eq_right, exists_eq_right', true_and, and_true, if_true, if_false, ite_true, ite_false, Bool.false_eq_true, Bool.not_true, Bool.not_false, reduceIte])
local macro_rules | `(tactic| walk_at "ix") => `(tactic| repeat (first | refine Sq.ix (by assumption) (by rfl) ?_ | (walk_at "rd"; refine ⟨Sz.mul (by assumption) (by assumption), ?_⟩)))
def forB : Stmt → List Stmt
  | .For _ _ b _ _ => b
  | _ => []
abbrev lawB : List Stmt := forB ((defBody s_law).getD 1 (.Pass ⟨0, 0, 0, 0⟩))
/-- the slots of law: the script, the pen, whatever else -/
def LawS (sc : V) (p : Addr) (σ : L2.St) : Prop := ∃ o2 o3 o4 o5 o6 o7 o8 o9 o10 o11 o12 o13 o14 o15 o16 o17 : Option V, σ = [some sc, some (.ref p), o2, o3, o4, o5, o6, o7, o8, o9, o10, o11, o12, o13, o14, o15, o16, o17]
/-- a pair of a polynomial and the list that is due -/
def RowOk (C : Addr) (H : Hp) (v : V) : Prop := ∃ t x y l, v = .ref t ∧ H t = some (.tup [x, y]) ∧ PoV C H x l ∧ LQ H y l ∧ Hl 1900 l ∧ l.length ≤ 50
theorem RowOk.m {C : Addr} {D : List Addr} {H H' : Hp} {v : V} (h : RowOk C H v) (s : Sm D [] H H') : RowOk C H' v := let ⟨t, x, y, l, e, a, b, d, z, n⟩ := h; ⟨t, x, y, l, e, s.tup a, b.m s, d.m s, z, n⟩
/-- an int or a tuple -/
def IntTup (H : Hp) (v : V) : Prop := (∃ i, v = .int i) ∨ ∃ b ys, v = .ref b ∧ H b = some (.tup ys)
theorem IntTup.m {D L : List Addr} {H H' : Hp} {v : V} (h : IntTup H v) (s : Sm D L H H') : IntTup H' v := by
  rcases h with h | ⟨b, ys, e, h⟩
  · exact .inl h
  · exact .inr ⟨b, ys, e, s.tup h⟩
/-- a told error against ("number", z, repr(v)) -/
theorem ne_num {K : PySem.W.Frag} {H : Hp} {q : Addr} {v : V} {z : Str} {d : PyData} {Q : VK} (hq : H q = some (.tup [.str "number", .str z, .str d.shown])) (dx : Dx K H v d) (g : Gd d 3 20) (ok : PyData.strOk z = true) (k : ∀ H', Sm [] [] H H' → Q (.bl false) H') :
    rReprX K [v] H fun x H1 => NT [.str "number", .str z, x] H1 fun y H2 => rNeD K (.ref q) y H2 Q := by
  refine ⟨v, d, rfl, .x dx, g.shw, nt_of (fun t H' nt s ht => ?_) (by simp)⟩
  refine ne_strs ["number", z, d.shown] (s.tup hq) ht (fun x hx => ?_) (k H' s)
  simp only [List.mem_cons, List.not_mem_nil, or_false] at hx
  rcases hx with rfl | rfl | rfl
  · exact ok_of _
  · exact ok
  · exact g.ok
section
variable {K : PySem.W.Frag} {C : Addr} {H : Hp} {x y : V} {a : List Rat} {q : Rat} {n1 n2 : Nat} {s : Int} {Q : VK} {E : XK}
theorem arg_or (h : IntTup H y) : (∃ i, y = .int i) ∨ ∃ b ys, y = .ref b ∧ L2.SqT K H b ys := by
  rcases h with h | ⟨b, ys, e, h⟩
  · exact .inl h
  · exact .inr ⟨b, ys, e, L2.SqT.of h⟩
theorem po_ref {H' : Hp} {r : V} {l : List Rat} (h : PoV C H' r l) : (∃ p, r = .ref p) ∨ ∃ b, r = .bl b := by
  obtain ⟨c, _, _, rfl, _⟩ := h
  exact .inl ⟨c, rfl⟩
theorem len_1 (q : Rat) : (strip [q]).length ≤ 1 := strip_le [q]
theorem ownL_addR (hx : PoV C H x a) (hy : IsR H y q) (hi : IntTup H y) (h1 : Hl n1 a) (h2 : Hl n2 (strip [q])) (la : a.length ≤ 400) (hz : n1 + n2 ≤ 4300) (k : ∀ r H', Sm [] [] H H' → PoV C H' r (padd s a (strip [q])) → Q r H') : rOwnL K C (spAdd C s) E x y H Q := by
  obtain ⟨p, dx, u, rfl, hp, _⟩ := id hx
  exact ⟨p, dx, _, rfl, hp, .inr (arg_or hi), _, _, a, _, n1, n2, rfl, hx, .inr ⟨q, hy, rfl⟩, h1, h2, la, by have := len_1 q; omega, hz, fun r H' s hr => ⟨po_ref hr, k r H' s hr⟩⟩
theorem ownL_mulR (hx : PoV C H x a) (hy : IsR H y q) (hi : IntTup H y) (h1 : Hl n1 a) (h2 : Hl n2 (strip [q])) (la : a.length ≤ 400) (hz : 2 * (n1 + n2 + 2) ≤ 4400) (k : ∀ r H', Sm [] [] H H' → PoV C H' r (pmul a (strip [q])) → Q r H') : rOwnL K C (spMulS C) E x y H Q := by
  obtain ⟨p, dx, u, rfl, hp, _⟩ := id hx
  have l1 := len_1 q
  refine ⟨p, dx, _, rfl, hp, .inr (arg_or hi), _, _, a, _, n1, n2, rfl, hx, .inr ⟨q, hy, rfl⟩, h1, h2, la, by omega, ?_, fun r H' s hr => ⟨po_ref hr, k r H' s hr⟩⟩
  exact Nat.le_trans (Nat.mul_le_mul_right _ (show min a.length (strip [q]).length + 1 ≤ 2 by omega)) hz
theorem ownR_addR (hx : PoV C H x a) (hy : IsR H y q) (hi : IntTup H y) (h1 : Hl n1 a) (h2 : Hl n2 (strip [q])) (la : a.length ≤ 400) (hz : n1 + n2 ≤ 4300) (k : ∀ r H', Sm [] [] H H' → PoV C H' r (padd s (strip [q]) a) → Q r H') : rOwnR K C (spAddR C s) E y x H Q := by
  obtain ⟨p, dx, u, rfl, hp, _⟩ := id hx
  exact ⟨p, dx, _, rfl, hp, arg_or hi, _, _, a, _, n1, n2, rfl, hx, .inr ⟨q, hy, rfl⟩, h1, h2, la, by have := len_1 q; omega, hz, fun r H' s hr => ⟨po_ref hr, k r H' s hr⟩⟩
theorem ownR_mulR (hx : PoV C H x a) (hy : IsR H y q) (hi : IntTup H y) (h1 : Hl n1 a) (h2 : Hl n2 (strip [q])) (la : a.length ≤ 400) (hz : 2 * (n2 + n1 + 2) ≤ 4400) (k : ∀ r H', Sm [] [] H H' → PoV C H' r (pmul (strip [q]) a) → Q r H') : rOwnR K C (spMulR C) E y x H Q := by
  obtain ⟨p, dx, u, rfl, hp, _⟩ := id hx
  have l1 := len_1 q
  refine ⟨p, dx, _, rfl, hp, arg_or hi, _, _, a, _, n1, n2, rfl, hx, .inr ⟨q, hy, rfl⟩, h1, h2, la, by omega, ?_, fun r H' s hr => ⟨po_ref hr, k r H' s hr⟩⟩
  exact Nat.le_trans (Nat.mul_le_mul_right _ (show min (strip [q]).length a.length + 1 ≤ 2 by omega)) hz
theorem rowNT {l : List Rat} (hx : PoV C H x l) (hy : LQ H y l) (hz : Hl n1 l) (hn : n1 ≤ 1900) (hl : l.length ≤ 50) (k : ∀ t H', Sm [] [] H H' → RowOk C H' (.ref t) → Q (.ref t) H') : NT [x, y] H Q :=
  nt_of (fun t H' _ s ht => k t H' s ⟨t, x, y, l, rfl, ht, hx.m s, hy.m s, hz.mono hn, hl⟩) (by simp)
theorem rows_add {rows : Addr} {vs ts : List V} (hr : H rows = some (.lst vs)) (rok : ∀ v ∈ vs, RowOk C H v) (ht : ∀ v ∈ ts, RowOk C H v) (hl : vs.length ≤ 20) (ht2 : ts.length ≤ 20) (k : ∀ e us H', Sm [] [] H H' → H' e = some (.lst us) → (∀ v ∈ us, RowOk C H' v) → us.length = vs.length + ts.length → Q (.ref e) H') :
    NL ts H fun y H2 => rCat (.ref rows) y H2 Q := by
  refine nl_of (fun l H2 n s2 h2 => ⟨rows, l, vs, ts, rfl, rfl, s2.lst hr List.not_mem_nil, h2, by rw [sizeLine_eq]; omega, fun e ne => ?_⟩) (by omega)
  have s3 : Sm [] [] H2 (upd H2 e (.lst (vs ++ ts))) := Sm.new ne
  refine k e (vs ++ ts) _ (s2.trans s3) upd_same (fun v hv => ?_) (by rw [List.length_append])
  rcases List.mem_append.mp hv with hv | hv
  · exact (rok v hv).m (s2.trans s3)
  · exact (ht v hv).m (s2.trans s3)
theorem two_ok {t1 t2 : V} (h1 : RowOk C H t1) (h2 : RowOk C H t2) : ∀ v ∈ [t1, t2], RowOk C H v := fun v hv => by
  simp only [List.mem_cons, List.not_mem_nil, or_false] at hv
  rcases hv with rfl | rfl
  · exact h1
  · exact h2
end
theorem pscale_neg (a : List Rat) : pscale a (-1) = pneg a := by
  have h : ∀ i, cf (pscale a (-1)) i = cf (pneg a) i := fun i => by rw [cf_pscale, cf_pneg]; grind
  exact (nf_pO _ _).ext (nf_pO _ _) h
def third : Rat := ⟨1, 3, by decide, by decide⟩
theorem hl_third : Hl 2 [third] := hl_one ⟨show (1 : Int).natAbs < 2 ^ 2 by decide, show 3 < 2 ^ 2 by decide⟩
theorem hl_slope {l : List Rat} (zl : Hl 9 l) (ll : l.length ≤ 6) : Hl 12 (pslope l) := hl_pO (by decide) fun i hi => by
  have h : Hq 3 ((((i + 1 : Nat) : Int)) : Rat) := hq_int (by rw [Int.natAbs_natCast]; omega) (by decide)
  exact h.mul (zl (i + 1))
theorem mvB : ∀ i, i < 7 → (i < 6 → (i + 1) * (mB 9 9 i + 9 + 1) + 1 ≤ 4300 ∧ 3 * (mB 9 9 i + 9 + 9 + 3) ≤ 4300) ∧ mB 9 9 i ≤ 1900 := by decide +kernel
def spLaw (K : PySem.W.Frag) (Tt : List (Addr × Str)) : Sp := fun vs H Q _ => ∃ (a : Addr) (ns : List Int), vs = [.ref a] ∧ L2.SqL K H a (ns.map V.int) ∧ ns.length ≤ 63 ∧ LamX.Tabs Tt H ∧ ∀ H', Sx [] [] H H' → Q (.bl true) H'
section
variable {P : Program} {w : World} {K : PySem.W.Frag} {mg : Str → Option Value} {base : Heap}
abbrev N_law : List Str := ["_law_script", "_law_pen_here", "_law_lap", "_law_one", "_law_two", "_law_b", "_law_by", "_law_rows", "_law_flat", "_law_passed_here", "_law_start", "_law_step", "_law_moved", "_law_told_poly", "_law_due", "_law_a", "_law_more", "_law_odd"]
theorem sc_law : FnScope N_law ["_law_script"] (defScope s_law) := ⟨rfl, rfl, rfl, by decide +kernel, rfl, by decide +kernel, by decide +kernel⟩
theorem ok_law (T : Tx K mg) {Tt : List (Addr × Str)} (LT : ∀ cdv, CdOf K (He.ga K "law") cdv "law" → LamT base mg Tt cdv ("law" ++ ".<locals>.<lambda>"))
    (LT1 : ∀ cdv, CdOf K (He.ga K "_law_ratios_right") cdv "_law_ratios_right" → LamT base mg Tt cdv ("_law_ratios_right" ++ ".<locals>.<lambda>")) (LT2 : ∀ cdv, CdOf K (He.ga K "_law_made_right") cdv "_law_made_right" → LamT base mg Tt cdv ("_law_made_right" ++ ".<locals>.<lambda>"))
    (LT3 : ∀ cdv, CdOf K (He.ga K "_law_divided_right") cdv "_law_divided_right" → LamT base mg Tt cdv ("_law_divided_right" ++ ".<locals>.<lambda>")) : CalG P w K mg base CX0 12 "law" (spLaw K Tt) := by
  have c_law_draw := ok_law_draw (P := P) (w := w) (base := base) T
  have c_law_pick := ok_law_pick (P := P) (w := w) (base := base) T
  have c_law_pen := ok_law_pen (P := P) (w := w) (base := base) T
  have c_law_drawn := ok_law_drawn (P := P) (w := w) (base := base) T
  have c_law_made_poly := ok_law_made_poly (P := P) (w := w) (base := base) T
  have c_law_ratio := ok_law_ratio (P := P) (w := w) (base := base) T
  have c_law_poly := ok_law_poly (P := P) (w := w) (base := base) T
  have c_law_any := ok_law_any (P := P) (w := w) (base := base) T
  have c_law_passed := ok_law_passed (P := P) (w := w) (base := base) T
  have c_law_p_times := ok_law_p_times (P := P) (w := w) (base := base) T
  have c_law_p_plus := ok_law_p_plus (P := P) (w := w) (base := base) T
  have c_law_p_minus := ok_law_p_minus (P := P) (w := w) (base := base) T
  have c_law_p_scaled := ok_law_p_scaled (P := P) (w := w) (base := base) T
  have c_law_p_slope := ok_law_p_slope (P := P) (w := w) (base := base) T
  have c_law_p_moved := ok_law_p_moved (P := P) (w := w) (base := base) T
  have c_law_p_at := ok_law_p_at (P := P) (w := w) (base := base) T
  have c_init := ok_init (P := P) (w := w) (base := base) T
  have c_add := ok_add (P := P) (w := w) (base := base) T
  have c_sub := ok_sub (P := P) (w := w) (base := base) T
  have c_mul := ok_mul (P := P) (w := w) (base := base) T
  have c_radd := ok_radd (P := P) (w := w) (base := base) T
  have c_rsub := ok_rsub (P := P) (w := w) (base := base) T
  have c_rmul := ok_rmul (P := P) (w := w) (base := base) T
  have c_neg := ok_neg (P := P) (w := w) (base := base) T
  have c_slope := ok_slope (P := P) (w := w) (base := base) T
  have c_moved := ok_moved (P := P) (w := w) (base := base) T
  have c_at := ok_at (P := P) (w := w) (base := base) T
  have c_law_is := ok_law_is (P := P) (w := w) (base := base) T
  have c_law_ratios_right := ok_law_ratios_right (P := P) (w := w) (base := base) T LT1
  have c_law_made_right := ok_law_made_right (P := P) (w := w) (base := base) T LT2
  have c_law_divided_right := ok_law_divided_right (P := P) (w := w) (base := base) T LT3
  obtain ⟨fd, F⟩ := T.f_law
  refine calG0 F T.g_law sc_law (ps := ["_law_script"]) (fun _ _ _ _ _ _ us hl => match us, hl with | [_], _ => rfl) (fun vs H Q E h => ?_) (fun cdv A outer s H vs Q E hc hg hr h => ?_)
  · obtain ⟨sa, ns, rfl, _⟩ := h
    rfl
  · obtain ⟨sa, ns, rfl, hsa, hns, tb, k⟩ := h
    obtain ⟨c, Pt, rfl, TB, hmT, hu⟩ := (LT _ hc).ex
    have hcode : (Value.ref c) = .ref c := rfl
    have mkR : CallR (cxOf CX0 P w K mg base N_law "law" (defScope s_law) (He.ga K "law") (.ref c) A outer s H E).nox (.builtin "repr") (rReprX K) := call_reprX hg hr.units
    have restA : ∃ t, PSs (cxOf CX0 P w K mg base N_law "law" (defScope s_law) (He.ga K "law") (.ref c) A outer s H E).nox (lawB.drop 14) t ∧
        ∀ (N B : L2.St → Hp → Prop) (p cl : Addr) (m : Nat) (H1 : Hp) (o2 o3 o4 o5 o6 o7 o8 o9 o10 o11 o12 o13 o14 o16 o17 : Option V) (a : V) (l : List Rat), LamX.Tabs Tt H1 → Pen H1 p cl (m + 4000) → PoV (He.ga K "Poly") H1 a l → Hl 9 l → l.length ≤ 6 → 
          (∀ (σ' : L2.St) (H' : Hp), LawS (.ref sa) p σ' → Sx [p] [] H1 H' → LamX.Tabs Tt H' → Pen H' p cl m → N σ' H') →
          t { nx := N, rt := Q, bk := B, ct := N } [some (.ref sa), some (.ref p), o2, o3, o4, o5, o6, o7, o8, o9, o10, o11, o12, o13, o14, some a, o16, o17] H1 := by
      refine ⟨_, (pss_cons (ps_asg (pe_tup (pa_cons (pe_cal c_law_any hr (by decide) pass0 (pa_cons (pv 1) pa_nil)) (pa_cons (pe_cal c_law_any hr (by decide) pass0 (pa_cons (pv 1) pa_nil)) pa_nil))) (pg_tup (n := 2) rfl (pgs_cons (pg_name (i := 17) sc_law.nd rfl (Or.inr rfl)) (pgs_cons (pg_name (i := 16) sc_law.nd rfl (Or.inr rfl)) pgs_nil))))
      (pss_cons (ps_if (pt_cmpR (op_neD (room64 hr)) (pe_why T hg hr TB hcode hmT hu (LamX.lamS_by (sc := defScope s_law) (by decide +kernel)) (fun A2 outer2 s2 H2 E2 f2 c2 hr2 => (pe_met c_at T.cl hr2 (by decide) lam_px (pv 15) (pa_cons (pv 17) pa_nil)))) (pe_tup (pa_cons pe_str (pa_cons pe_str (pa_cons (pe_callB mkR (by rfl) T.b_repr (by decide +kernel) (pa_cons (pv 17) pa_nil)) pa_nil)))) (nomark _)) (pss_one (ps_ret pe_bl)) pss_nil)
      (pss_cons (ps_if (pt_cmpR (op_neD (room64 hr)) (pe_why T hg hr TB hcode hmT hu (LamX.lamS_by (sc := defScope s_law) (by decide +kernel)) (fun A2 outer2 s2 H2 E2 f2 c2 hr2 => (pe_met c_moved T.cl hr2 (by decide) lam_px (pv 15) (pa_cons (pv 17) (pa_cons (pv 16) pa_nil))))) (pe_tup (pa_cons pe_str (pa_cons pe_str (pa_cons (pe_callB mkR (by rfl) T.b_repr (by decide +kernel) (pa_cons (pv 17) pa_nil)) pa_nil)))) (nomark _)) (pss_one (ps_ret pe_bl)) pss_nil)
      (pss_cons (ps_if (pt_cmpR (op_neD (room64 hr)) (pe_why T hg hr TB hcode hmT hu (LamX.lamS_by (sc := defScope s_law) (by decide +kernel)) (fun A2 outer2 s2 H2 E2 f2 c2 hr2 => (pe_met c_moved T.cl hr2 (by decide) lam_px (pv 15) (pa_cons pe_int (pa_cons (pv 16) pa_nil))))) (pe_tup (pa_cons pe_str (pa_cons pe_str (pa_cons (pe_callB mkR (by rfl) T.b_repr (by decide +kernel) (pa_cons (pv 16) pa_nil)) pa_nil)))) (nomark _)) (pss_one (ps_ret pe_bl)) pss_nil)
      (pss_one (ps_if (PW.pt (pw_or (pt_not (pt_val (pe_calG c_law_ratios_right hg hr (by decide) pass0 (pa_cons (pv 1) pa_nil)))) (pw_or (pt_not (pt_val (pe_calG c_law_made_right hg hr (by decide) pass0 (pa_cons (pv 1) pa_nil)))) (pw_or1 (pt_not (pt_val (pe_calG c_law_divided_right hg hr (by decide) pass0 (pa_cons (pv 1) pa_nil)))))))) (pss_one (ps_ret pe_bl)) pss_nil)))))), ?_⟩
      intro N B p cl m H1 o2 o3 o4 o5 o6 o7 o8 o9 o10 o11 o12 o13 o14 o16 o17 a l tb1 hp1 ha zl ll fin
      walk_at "rd"
      have pn : ∀ {H' : Hp} {cl' : Addr} {m : Nat}, Pen H' p cl' m → H' p ≠ none := fun hp' z => by
        obtain ⟨ns, at_, dg, co, fo, z2, _⟩ := hp'
        rw [z] at z2; cases z2
      refine ⟨p, cl, m + 3999, rfl, hp1, fun odd d1 H2 s2 hp2 ho1 => ?_⟩
      refine ⟨p, cl, m + 3998, rfl, hp2, fun more d2 H3 s3 hp3 ho2 => ?_⟩
      have dp1 : ∀ b ∈ [p], H1 b ≠ none := fun b hb => by rw [List.mem_singleton.mp hb]; exact pn hp1
      have dp2 : ∀ b ∈ [p], H2 b ≠ none := fun b hb => by rw [List.mem_singleton.mp hb]; exact pn hp2
      have no : ∀ {H' : Hp}, ∀ b ∈ ([] : List Addr), H' b ≠ none := fun _ hb => nomatch hb
      refine nt_of (fun t4 H4 n4 s4 h4 => gTup2 h4 ?_) (by simp)
      walk_at "rd"
      have s34 : Sm [p] [] H3 H4 := s4.any
      have s24 := s3.trans s34
      have s14 := s2.trans s24
      have hp4 : Pen H4 p cl (m + 3998) := hp3.m s4
      have rf : ∀ H', Sx [] [] H4 H' → (NoRat H' odd ∧ Dx K H' odd d1) ∧ (NoRat H' more ∧ Dx K H' more d2) ∧ PoV (He.ga K "Poly") H' a l := fun H' z => by
        have o1 := ((ho1.on s24.x dp1 no).on z no no)
        have o2 := ((ho2.on s34.x dp2 no).on z no no)
        exact ⟨⟨o1.no, o1.dx⟩, ⟨o2.no, o2.dx⟩, (ha.m s14).x z⟩
      refine why_num (z := "place") (tabs_sm tb1 s14) (fun H' z => (rf H' z).1.2) ho1.1 (by decide) (by decide) (fun E' H' Q' z ex => ?_) fun q5 H5 s5 t5 hq5 => ?_
      · obtain ⟨pa, dx, u, e, hpa, _⟩ := id (rf H' z).2.2
        exact ⟨_, rfl, pa, dx, _, e, hpa, rfl, odd, rfl, a, odd, l, 9, rfl, (rf H' z).2.2, zl, by omega, .inr ⟨(rf H' z).1.1, ex⟩⟩
      refine ne_num hq5 (rf H5 s5).1.2 ho1.1 (ok_of _) fun H6 s6 => ⟨false, rfl, ?_⟩
      rw [if_neg (by decide)]
      have s46 : Sx [] [] H4 H6 := s5.trans s6.x
      refine why_num (z := "start") (tabs_sm t5 s6) (fun H' z => (rf H' (s46.trans z)).1.2) ho1.1 (by decide) (by decide) (fun E' H' Q' z ex => ?_) fun q7 H7 s7 t7 hq7 => ?_
      · obtain ⟨pa, dx, u, e, hpa, _⟩ := id (rf H' (s46.trans z)).2.2
        exact ⟨_, rfl, pa, dx, _, e, hpa, rfl, odd, rfl, more, rfl, a, odd, more, l, 9, rfl, (rf H' (s46.trans z)).2.2, zl, by omega, .inr (.inl ⟨(rf H' (s46.trans z)).1.1, ex⟩)⟩
      have s47 := s46.trans s7
      refine ne_num hq7 (rf H7 s47).1.2 ho1.1 (ok_of _) fun H8 s8 => ⟨false, rfl, ?_⟩
      rw [if_neg (by decide)]
      have s48 : Sx [] [] H4 H8 := s47.trans s8.x
      refine why_num (z := "step") (tabs_sm t7 s8) (fun H' z => (rf H' (s48.trans z)).2.1.2) ho2.1 (by decide) (by decide) (fun E' H' Q' z ex => ?_) fun q9 H9 s9 t9 hq9 => ?_
      · obtain ⟨pa, dx, u, e, hpa, _⟩ := id (rf H' (s48.trans z)).2.2
        exact ⟨_, rfl, pa, dx, _, e, hpa, rfl, more, rfl, a, .int 1, more, l, 9, rfl, (rf H' (s48.trans z)).2.2, zl, by omega, .inr (.inr ⟨_, isR_int (i := 1) (show (1 : Int).natAbs < 2 ^ 4400 from Nat.one_lt_two_pow (by decide)), (rf H' (s48.trans z)).2.1.1, ex⟩)⟩
      have s49 := s48.trans s9
      refine ne_num hq9 (rf H9 s49).2.1.2 ho2.1 (ok_of _) fun Ha sa' => ⟨false, rfl, ?_⟩
      rw [if_neg (by decide)]
      have s4a : Sx [] [] H4 Ha := s49.trans sa'.x
      have hpa : Pen Ha p cl (m + 3998) := hp4.x s4a
      refine ⟨p, cl, m + 2998, rfl, hpa, tabs_sm t9 sa', fun Hb sb tb2 hpb => ⟨true, rfl, ?_⟩⟩
      rw [if_neg (by decide)]
      refine ⟨p, cl, m + 1998, rfl, hpb, tb2, fun Hc sc tc hpc => ⟨true, rfl, ?_⟩⟩
      rw [if_neg (by decide)]
      refine ⟨p, cl, m + 798, rfl, hpc, tc, fun Hd sd td hpd => ⟨true, rfl, ?_⟩⟩
      rw [if_neg (by decide)]
      refine fin _ Hd ⟨_, _, _, _, _, _, _, _, _, _, _, _, _, _, _, _, rfl⟩ ?_ td (hpd.mono (by omega))
      exact s14.x.trans ((s4a.w (fun _ h => nomatch h) (fun _ h => h)).trans ((sb.trans sc).trans sd))
    obtain ⟨tA, hA1, hA2⟩ := restA
    have restB : ∃ t, PSs (cxOf CX0 P w K mg base N_law "law" (defScope s_law) (He.ga K "law") (.ref c) A outer s H E).nox (lawB.drop 12) t ∧
        ∀ (N B : L2.St → Hp → Prop) (p cl : Addr) (m : Nat) (H1 : Hp) (o2 o4 o5 o6 o8 o9 o13 o14 o16 o17 : Option V) (one start step moved a : V) (rows : Addr) (vs : List V) (l : List Rat) (qs qt : Rat), LamX.Tabs Tt H1 → Pen H1 p cl (m + 4010) → PoV (He.ga K "Poly") H1 a l → LQ H1 one l → Nf l → Hl 9 l → l.length ≤ 6 → IsQ H1 start qs → Hq 9 qs → IsQ H1 step qt → Hq 9 qt → PoV (He.ga K "Poly") H1 moved (mv l qs qt l.length) → H1 rows = some (.lst vs) → (∀ v ∈ vs, RowOk (He.ga K "Poly") H1 v) → vs.length ≤ 20 → 
          (∀ (σ' : L2.St) (H' : Hp), LawS (.ref sa) p σ' → Sx [p] [] H1 H' → LamX.Tabs Tt H' → Pen H' p cl m → N σ' H') →
          t { nx := N, rt := Q, bk := B, ct := N } [some (.ref sa), some (.ref p), o2, some one, o4, o5, o6, some (.ref rows), o8, o9, some start, some step, some moved, o13, o14, some a, o16, o17] H1 := by
      refine ⟨_, (pss_cons (ps_for PassesOwn.never rfl (pi_list (pe_op op_cat (pv 7) (pe_lst (pa_cons (pe_tup (pa_cons (pv 12) (pa_cons (pe_cal c_law_p_moved hr (by decide) pass0 (pa_cons (pv 3) (pa_cons (pv 10) (pa_cons (pv 11) pa_nil)))) pa_nil))) pa_nil)))) (pg_tup (n := 2) rfl (pgs_cons (pg_name (i := 13) sc_law.nd rfl (Or.inl rfl)) (pgs_cons (pg_name (i := 14) sc_law.nd rfl (Or.inl rfl)) pgs_nil))) (pss_one (ps_if (pt_cmpR (op_neD (room64 hr)) (pe_callB mkR (by rfl) T.b_repr (by decide +kernel) (pa_cons (pe_fld (pv 13) rfl) pa_nil)) (pe_callB mkR (by rfl) T.b_repr (by decide +kernel) (pa_cons (pe_callTy call_tuple_of (by rfl) T.b_tuple (by decide +kernel) (pa_cons (pv 14) pa_nil)) pa_nil)) (nomark _)) (pss_one (ps_ret pe_bl)) pss_nil)))
      (pss_cons (ps_if (pt_cmpR (op_neD (room64 hr)) (pe_callB mkR (by rfl) T.b_repr (by decide +kernel) (pa_cons (pe_met c_at T.cl hr (by decide) passL (pv 15) (pa_cons (pe_cal c_law_passed hr (by decide) pass0 (pa_cons (pv 1) (pa_cons (pv 10) pa_nil))) pa_nil)) pa_nil)) (pe_callB mkR (by rfl) T.b_repr (by decide +kernel) (pa_cons (pe_cal c_law_p_at hr (by decide) pass0 (pa_cons (pv 3) (pa_cons (pv 10) pa_nil))) pa_nil)) (nomark _)) (pss_one (ps_ret pe_bl)) pss_nil)
      hA1)), ?_⟩
      intro N B p cl m H1 o2 o4 o5 o6 o8 o9 o13 o14 o16 o17 one start step moved a rows vs l qs qt tb1 hp1 ha ho nl zl ll hs zs ht zt hm hr rok vl fin
      walk_at "rd"
      refine ⟨_, _, _, l, qs, qt, 9, 9, rfl, ho, hs, ht, zl, zs, zt, by decide, fun i hi => ((mvB i (by omega)).1 (by omega)).1, by omega, fun due H2 s2 hd => ?_⟩
      refine nt_of (fun t3 H3 n3 s3 h3 => ?_) (by simp)
      refine nl_of (fun l4 H4 n4 s4 h4 => ?_) (by simp)
      have s14 : Sm [] [] H1 H4 := (s2.trans s3).trans s4
      refine ⟨rows, l4, vs, _, rfl, rfl, s14.lst hr List.not_mem_nil, h4, by rw [List.length_singleton, sizeLine_eq]; omega, fun e ne => ?_⟩
      have s5 : Sm [] [] H4 (upd H4 e (.lst (vs ++ [.ref t3]))) := Sm.new ne
      have he := upd_same (H := H4) (a := e) (o := .lst (vs ++ [.ref t3]))
      generalize upd H4 e (.lst (vs ++ [.ref t3])) = H5 at *
      have s15 := s14.trans s5
      have zm : Hl 1900 (mv l qs qt l.length) := (hl_mv zl zs zt l.length).mono (mvB l.length (by omega)).2
      have rok5 : ∀ v ∈ vs ++ [.ref t3], RowOk (He.ga K "Poly") H5 v := fun v hv => by
        rcases List.mem_append.mp hv with hv | hv
        · exact (rok v hv).m s15
        · rw [List.mem_singleton.mp hv]
          have s35 := s4.trans s5
          exact ⟨t3, moved, due, _, rfl, s35.tup h3, hm.m s15, hd.m (s3.trans s35), zm, by have := mv_le l qs qt l.length; omega⟩
      refine ⟨e, rfl, ⟨_, L2.SqL.of he⟩, for_it' (walk_list (K := K) (a := e) (xs := vs ++ [.ref t3])) (fun i σ H' => Sm [] [] H5 H' ∧ ∃ q13 q14 : Option V, σ = [some (.ref sa), some (.ref p), o2, some one, o4, o5, o6, some (.ref rows), o8, o9, some start, some step, some moved, q13, q14, some a, o16, o17]) ?_ ?_ ?_ ?_⟩
      · exact ⟨Sm.refl, _, _, rfl⟩
      · intro i σ H' _ z
        exact L2.SqL.of (z.1.lst he List.not_mem_nil)
      · intro i x σ H6 H7 hi z y
        obtain ⟨s6, q13, q14, rfl⟩ := z
        obtain ⟨rfl, y⟩ := y
        obtain ⟨t, x1, y1, lr, rfl, h8, hx, hy, hz, hl⟩ := (rok5 x (List.mem_of_getElem? y)).m s6
        refine gTup2 h8 ?_
        walk_at "rd"
        have gp : Gd (pd lr) 2 150 := gd_p hz (by decide) hl
        refine po_num T hx fun pv us hpv hqv => ⟨.ref pv, pd lr, rfl, .x (.b (dp_t ⟨pv, us, rfl, hpv, hqv⟩) (pd_nd _)), gp.shw, ?_⟩
        obtain ⟨py, ys, rfl, hpy, hqy⟩ := id hy
        refine ⟨py, ys, rfl, .inl ⟨L2.SqL.of hpy, fun l9 nl9 => ?_⟩⟩
        have s9 : Sm [] [] H7 (upd H7 l9 (.tup ys)) := Sm.new nl9
        refine ⟨.ref l9, pd lr, rfl, .x (.b (dp_t ⟨l9, ys, rfl, upd_same, hqy.m s9⟩) (pd_nd _)), gp.shw, ?_⟩
        refine ne_str gp.ok ⟨false, rfl, ?_⟩
        rw [if_neg (by decide)]
        exact ⟨s6.trans s9, _, _, rfl⟩
      · intro σ H6 z
        obtain ⟨s6, q13, q14, rfl⟩ := z
        walk_at "rd"
        have s16 := s15.trans s6
        obtain ⟨pa, dx, u, rfl, hpa, _⟩ := id (ha.m s16)
        refine ⟨pa, dx, _, rfl, hpa, rfl, ?_⟩
        refine ⟨p, cl, start, qs, 9, m + 4000, rfl, (hp1.m s16).mono (by omega), hs.m s16, zs, by decide, fun ps H7 s7 hp7 h7 _ => ?_⟩
        have s17 : Sm [p] [] H1 H7 := s16.any.trans s7
        have zh := hq_hn zl zs l.length
        have zh2 : l.length * (9 + 9 + 1) ≤ 6 * 19 := Nat.mul_le_mul_right _ ll
        refine ⟨_, ps, l, 9, rfl, ha.m s17, zl, by omega, .inl ⟨qs, 9, h7.r (by decide), zs, by have : l.length * (9 + 9) ≤ 6 * 18 := Nat.mul_le_mul_right _ ll; omega, fun r8 H8 s8 hr8 => ?_⟩⟩
        refine rp_q hr8 zh (by omega) ?_
        have s18 : Sm [p] [] H1 H8 := s17.trans s8.any
        refine ⟨one, start, l, qs, 9, 9, rfl, ho.m s18, hs.m s18, zl, zs, by have : (l.length + 1) * (9 + 9 + 1) ≤ 7 * 19 := Nat.mul_le_mul_right _ (by omega); omega, by omega, fun r9 H9 s9 hr9 => ?_⟩
        refine rp_q hr9 zh (by omega) ?_
        refine ne_str (ok_q zh (by omega)) ⟨false, rfl, ?_⟩
        rw [if_neg (by decide)]
        have s19 : Sm [p] [] H1 H9 := s18.trans s9.any
        exact hA2 N B p cl m H9 _ _ _ _ _ _ _ _ _ _ _ _ _ _ _ (.ref pa) l (tabs_sm tb1 s19) ((hp7.m s8).m s9) (ha.m s19) zl ll fun σ' H' x1 x2 x3 x4 => fin σ' H' x1 (s19.x.trans x2) x3 x4
    obtain ⟨tB, hB1, hB2⟩ := restB
    have restC : ∃ t, PSs (cxOf CX0 P w K mg base N_law "law" (defScope s_law) (He.ga K "law") (.ref c) A outer s H E).nox (lawB.drop 10) t ∧
        ∀ (N B : L2.St → Hp → Prop) (p cl : Addr) (m : Nat) (H1 : Hp) (o2 o4 o5 o6 o8 o9 o10 o11 o12 o13 o14 o16 o17 : Option V) (one a : V) (rows : Addr) (vs : List V) (l : List Rat), LamX.Tabs Tt H1 → Pen H1 p cl (m + 4030) → PoV (He.ga K "Poly") H1 a l → LQ H1 one l → Nf l → Hl 9 l → l.length ≤ 6 → H1 rows = some (.lst vs) → (∀ v ∈ vs, RowOk (He.ga K "Poly") H1 v) → vs.length ≤ 20 → 
          (∀ (σ' : L2.St) (H' : Hp), LawS (.ref sa) p σ' → Sx [p] [] H1 H' → LamX.Tabs Tt H' → Pen H' p cl m → N σ' H') →
          t { nx := N, rt := Q, bk := B, ct := N } [some (.ref sa), some (.ref p), o2, some one, o4, o5, o6, some (.ref rows), o8, o9, o10, o11, o12, o13, o14, some a, o16, o17] H1 := by
      refine ⟨_, (pss_cons (ps_par (i := 10) (j := 11) rfl sc_law.nd rfl rfl (by decide) rfl rfl (pa_cons (pe_cal c_law_ratio hr (by decide) pass0 (pa_cons (pv 1) (pa_cons pe_int pa_nil))) (pa_cons (pe_cal c_law_pick hr (by decide) pass0 (pa_cons (pv 1) (pa_cons (pe_lst (pa_cons (pe_tup (pa_cons pe_int (pa_cons pe_int pa_nil))) (pa_cons (pe_cal c_law_ratio hr (by decide) pass0 (pa_cons (pv 1) (pa_cons pe_int pa_nil))) pa_nil))) pa_nil))) pa_nil)) (by rfl))
      (pss_cons (ps_set (i := 12) sc_law.nd rfl (Or.inl rfl) (pe_met c_moved T.cl hr (by decide) passL (pv 15) (pa_cons (pe_cal c_law_passed hr (by decide) pass0 (pa_cons (pv 1) (pa_cons (pv 10) pa_nil))) (pa_cons (pe_cal c_law_passed hr (by decide) pass0 (pa_cons (pv 1) (pa_cons (pv 11) pa_nil))) pa_nil))))
      hB1)), ?_⟩
      intro N B p cl m H1 o2 o4 o5 o6 o8 o9 o10 o11 o12 o13 o14 o16 o17 one a rows vs l tb1 hp1 ha ho nl zl ll hr rok vl fin
      walk_at "rd"
      refine ⟨p, cl, 3, 9, m + 4027, rfl, by decide, by decide, by decide, by decide, hp1, fun start qs H2 s2 hp2 h2 zs => ?_⟩
      refine nt_of (fun t3 H3 n3 s3 h3 => ?_) (by simp)
      refine ⟨p, cl, 3, 9, m + 4024, rfl, by decide, by decide, by decide, by decide, hp2.m s3, fun st4 q4 H4 s4 hp4 h4 z4 => ?_⟩
      refine nl_of (fun l5 H5 n5 s5 h5 => ?_) (by simp)
      refine ⟨p, cl, l5, _, m + 4023, rfl, h5, by simp, by simp, hp4.m s5, fun step H6 s6 hp6 hv => ?_⟩
      have s46 : Sm [p] [] H4 H6 := s5.any.trans s6
      have s36 := s4.trans s46
      have s26 : Sm [p] [] H2 H6 := s3.any.trans s36
      have s16 := s2.trans s26
      have hst : ∃ qt, IsQ H6 step qt ∧ Hq 9 qt := by
        simp only [List.mem_cons, List.not_mem_nil, or_false] at hv
        rcases hv with rfl | rfl
        · exact ⟨0, ⟨t3, rfl, s36.tup h3⟩, hq_zero (by decide)⟩
        · exact ⟨q4, h4.m s46, z4⟩
      obtain ⟨qt, h6, zt⟩ := hst
      obtain ⟨pa, dx, u, rfl, hpa, _⟩ := id (ha.m s16)
      refine ⟨start, step, rfl, pa, dx, _, rfl, hpa, rfl, ?_⟩
      refine ⟨p, cl, start, qs, 9, m + 4020, rfl, hp6, h2.m s26, zs, by decide, fun a7 H7 s7 hp7 h7 _ => ?_⟩
      refine ⟨p, cl, step, qt, 9, m + 4017, rfl, hp7, h6.m s7, zt, by decide, fun a8 H8 s8 hp8 h8 _ => ?_⟩
      have s68 := s7.trans s8
      have s18 := s16.trans s68
      refine ⟨_, _, _, l, 9, rfl, ha.m s18, zl, by omega, .inl ⟨qs, qt, 9, (h7.m' s8).r (by decide), h8.r (by decide), zs, zt, by decide, by decide, fun i hi => ((mvB i (by omega)).1 (by omega)).2, fun r9 H9 s9 hr9 => ?_⟩⟩
      have s69 : Sm [p] [] H6 H9 := s68.trans s9.any
      have s19 := s16.trans s69
      exact hB2 N B p cl m H9 _ _ _ _ _ _ _ _ _ _ one start step r9 (.ref pa) rows vs l qs qt (tabs_sm tb1 s19) ((hp8.m s9).mono (by omega)) (ha.m s19) (ho.m s19) nl zl ll (h2.m (s26.trans s69)) zs (h6.m s69) zt hr9 (s19.lst hr List.not_mem_nil) (fun v hv => (rok v hv).m s19) vl fun σ' H' x1 x2 x3 x4 => fin σ' H' x1 (s19.x.trans x2) x3 x4
    obtain ⟨tC, hC1, hC2⟩ := restC
    have restD : ∃ t, PSs (cxOf CX0 P w K mg base N_law "law" (defScope s_law) (He.ga K "law") (.ref c) A outer s H E).nox (lawB.drop 9) t ∧
        ∀ (N B : L2.St → Hp → Prop) (p cl : Addr) (m : Nat) (H1 : Hp) (o2 o4 o5 o6 o10 o11 o12 o13 o14 o16 o17 : Option V) (one flat ps a : V) (rows : Addr) (vs : List V) (l : List Rat) (q : Rat), LamX.Tabs Tt H1 → Pen H1 p cl (m + 4030) → PoV (He.ga K "Poly") H1 a l → LQ H1 one l → Nf l → Hl 9 l → l.length ≤ 6 → H1 rows = some (.lst vs) → (∀ v ∈ vs, RowOk (He.ga K "Poly") H1 v) → vs.length ≤ 9 → IsR H1 ps q → IntTup H1 ps → Hq 10 q → LQ H1 flat (strip [q]) → 
          (∀ (σ' : L2.St) (H' : Hp), LawS (.ref sa) p σ' → Sx [p] [] H1 H' → LamX.Tabs Tt H' → Pen H' p cl m → N σ' H') →
          t { nx := N, rt := Q, bk := B, ct := N } [some (.ref sa), some (.ref p), o2, some one, o4, o5, o6, some (.ref rows), some flat, some ps, o10, o11, o12, o13, o14, some a, o16, o17] H1 := by
      refine ⟨_, (pss_cons (ps_set (i := 7) sc_law.nd rfl (Or.inl rfl) (pe_op op_cat (pv 7) (pe_lst (pa_cons (pe_tup (pa_cons (pe_op (op_ownL opf_mul T.ow c_mul c_rmul hr (by decide) pass0) (pv 15) (pv 9)) (pa_cons (pe_cal c_law_p_times hr (by decide) pass0 (pa_cons (pv 3) (pa_cons (pv 8) pa_nil))) pa_nil))) (pa_cons (pe_tup (pa_cons (pe_op (op_ownL opf_sub T.ow c_sub c_rsub hr (by decide) pass0) (pv 15) (pv 9)) (pa_cons (pe_cal c_law_p_minus hr (by decide) pass0 (pa_cons (pv 3) (pa_cons (pv 8) pa_nil))) pa_nil))) pa_nil)))))
      hC1), ?_⟩
      intro N B p cl m H1 o2 o4 o5 o6 o10 o11 o12 o13 o14 o16 o17 one flat ps a rows vs l q tb1 hp1 ha ho nl zl ll hr rok vl hps hit zq hfl fin
      walk_at "rd"
      have zf : Hl 10 (strip [q]) := hl_strip (hl_one zq)
      have lf := len_1 q
      have z4 : Hl 4400 l := zl.mono (by decide)
      have zf4 : Hl 4400 (strip [q]) := zf.mono (by decide)
      have zmu : Hl 100 (pmul l (strip [q])) := (hl_pmul zl zf).mono (by
        have : min l.length (strip [q]).length * (9 + 10 + 1) ≤ 1 * 20 := Nat.mul_le_mul_right _ (by omega)
        omega)
      have lmu : (pmul l (strip [q])).length ≤ 50 := by have := pmul_le l (strip [q]); omega
      have tl : (l.length + 1) * (9 + 10 + 1) + 1 ≤ 4400 := by have : (l.length + 1) * (9 + 10 + 1) ≤ 7 * 20 := Nat.mul_le_mul_right _ (by omega); omega
      refine ownL_mulR ha hps hit zl zf (by omega) (by omega) fun x2 H2 s2 hx2 => ?_
      refine ⟨_, _, l, strip [q], 9, 10, rfl, ho.m s2, hfl.m s2, zl, zf, tl, by omega, by omega, fun y3 H3 s3 hy3 => ?_⟩
      refine rowNT (hx2.m s3) hy3 zmu (by decide) lmu fun t4 H4 s4 k1 => ?_
      have s14 := s2.trans (s3.trans s4)
      refine ownL_addR (ha.m s14) (hps.m s14) (hit.m s14) zl zf (by omega) (by omega) fun x5 H5 s5 hx5 => ?_
      have s15 := s14.trans s5
      refine ⟨_, _, l, strip [q], rfl, ho.m s15, hfl.m s15, z4, zf4, by omega, by omega, fun y6 H6 s6 hy6 => ?_⟩
      refine rowNT (hx5.m s6) hy6 (hl_padd (.inr rfl) zl zf) (by decide) (Nat.le_trans (padd_le _ _ _) (by omega)) fun t7 H7 s7 k2 => ?_
      have s17 := s15.trans (s6.trans s7)
      refine rows_add (s17.lst hr List.not_mem_nil) (fun v hv => (rok v hv).m s17) (two_ok (k1.m (s5.trans (s6.trans s7))) k2) (by omega) (by simp) fun e us H8 s8 he ok el => ?_
      have s18 := s17.trans s8
      have el2 : us.length = vs.length + 2 := el
      exact hC2 N B p cl m H8 _ _ _ _ _ _ _ _ _ _ _ _ _ one a e us l (tabs_sm tb1 s18) (hp1.m s18) (ha.m s18) (ho.m s18) nl zl ll he ok (by omega) fun σ' H' x1 x2 x3 x4 => fin σ' H' x1 (s18.any.x.trans x2) x3 x4
    obtain ⟨tD, hD1, hD2⟩ := restD
    have restE : ∃ t, PSs (cxOf CX0 P w K mg base N_law "law" (defScope s_law) (He.ga K "law") (.ref c) A outer s H E).nox (lawB.drop 8) t ∧
        ∀ (N B : L2.St → Hp → Prop) (p cl : Addr) (m : Nat) (H1 : Hp) (o2 o4 o5 o6 o10 o11 o12 o13 o14 o16 o17 : Option V) (one flat ps a : V) (rows : Addr) (vs : List V) (l : List Rat) (q : Rat), LamX.Tabs Tt H1 → Pen H1 p cl (m + 4030) → PoV (He.ga K "Poly") H1 a l → LQ H1 one l → Nf l → Hl 9 l → l.length ≤ 6 → H1 rows = some (.lst vs) → (∀ v ∈ vs, RowOk (He.ga K "Poly") H1 v) → vs.length ≤ 7 → IsR H1 ps q → IntTup H1 ps → Hq 10 q → LQ H1 flat (strip [q]) → 
          (∀ (σ' : L2.St) (H' : Hp), LawS (.ref sa) p σ' → Sx [p] [] H1 H' → LamX.Tabs Tt H' → Pen H' p cl m → N σ' H') →
          t { nx := N, rt := Q, bk := B, ct := N } [some (.ref sa), some (.ref p), o2, some one, o4, o5, o6, some (.ref rows), some flat, some ps, o10, o11, o12, o13, o14, some a, o16, o17] H1 := by
      refine ⟨_, (pss_cons (ps_set (i := 7) sc_law.nd rfl (Or.inl rfl) (pe_op op_cat (pv 7) (pe_lst (pa_cons (pe_tup (pa_cons (pe_op (op_ownR opf_mul T.ow c_rmul c_mul hr (by decide) pass0) (pv 9) (pv 15)) (pa_cons (pe_cal c_law_p_times hr (by decide) pass0 (pa_cons (pv 3) (pa_cons (pv 8) pa_nil))) pa_nil))) (pa_cons (pe_tup (pa_cons (pe_op (op_ownR opf_sub T.ow c_rsub c_sub hr (by decide) pass0) (pv 9) (pv 15)) (pa_cons (pe_cal c_law_p_minus hr (by decide) pass0 (pa_cons (pv 8) (pa_cons (pv 3) pa_nil))) pa_nil))) pa_nil)))))
      hD1), ?_⟩
      intro N B p cl m H1 o2 o4 o5 o6 o10 o11 o12 o13 o14 o16 o17 one flat ps a rows vs l q tb1 hp1 ha ho nl zl ll hr rok vl hps hit zq hfl fin
      walk_at "rd"
      have zf : Hl 10 (strip [q]) := hl_strip (hl_one zq)
      have lf := len_1 q
      have z4 : Hl 4400 l := zl.mono (by decide)
      have zf4 : Hl 4400 (strip [q]) := zf.mono (by decide)
      have zmu : Hl 100 (pmul l (strip [q])) := (hl_pmul zl zf).mono (by
        have : min l.length (strip [q]).length * (9 + 10 + 1) ≤ 1 * 20 := Nat.mul_le_mul_right _ (by omega)
        omega)
      have lmu : (pmul l (strip [q])).length ≤ 50 := by have := pmul_le l (strip [q]); omega
      have tl : (l.length + 1) * (9 + 10 + 1) + 1 ≤ 4400 := by have : (l.length + 1) * (9 + 10 + 1) ≤ 7 * 20 := Nat.mul_le_mul_right _ (by omega); omega
      refine ownR_mulR ha hps hit zl zf (by omega) (by omega) fun x2 H2 s2 hx2 => ?_
      rw [pmul_comm] at hx2
      refine ⟨_, _, l, strip [q], 9, 10, rfl, ho.m s2, hfl.m s2, zl, zf, tl, by omega, by omega, fun y3 H3 s3 hy3 => ?_⟩
      refine rowNT (hx2.m s3) hy3 zmu (by decide) lmu fun t4 H4 s4 k1 => ?_
      have s14 := s2.trans (s3.trans s4)
      refine ownR_addR (ha.m s14) (hps.m s14) (hit.m s14) zl zf (by omega) (by omega) fun x5 H5 s5 hx5 => ?_
      have s15 := s14.trans s5
      refine ⟨_, _, strip [q], l, rfl, hfl.m s15, ho.m s15, zf4, z4, by omega, by omega, fun y6 H6 s6 hy6 => ?_⟩
      refine rowNT (hx5.m s6) hy6 (hl_padd (.inr rfl) zf zl) (by decide) (Nat.le_trans (padd_le _ _ _) (by omega)) fun t7 H7 s7 k2 => ?_
      have s17 := s15.trans (s6.trans s7)
      refine rows_add (s17.lst hr List.not_mem_nil) (fun v hv => (rok v hv).m s17) (two_ok (k1.m (s5.trans (s6.trans s7))) k2) (by omega) (by simp) fun e us H8 s8 he ok el => ?_
      have s18 := s17.trans s8
      have el2 : us.length = vs.length + 2 := el
      exact hD2 N B p cl m H8 _ _ _ _ _ _ _ _ _ _ _ one flat ps a e us l q (tabs_sm tb1 s18) (hp1.m s18) (ha.m s18) (ho.m s18) nl zl ll he ok (by omega) (hps.m s18) (hit.m s18) zq (hfl.m s18) fun σ' H' x1 x2 x3 x4 => fin σ' H' x1 (s18.any.x.trans x2) x3 x4
    obtain ⟨tE, hE1, hE2⟩ := restE
    have restF : ∃ t, PSs (cxOf CX0 P w K mg base N_law "law" (defScope s_law) (He.ga K "law") (.ref c) A outer s H E).nox (lawB.drop 7) t ∧
        ∀ (N B : L2.St → Hp → Prop) (p cl : Addr) (m : Nat) (H1 : Hp) (o2 o4 o5 o6 o10 o11 o12 o13 o14 o16 o17 : Option V) (one flat ps a : V) (rows : Addr) (vs : List V) (l : List Rat) (q : Rat), LamX.Tabs Tt H1 → Pen H1 p cl (m + 4030) → PoV (He.ga K "Poly") H1 a l → LQ H1 one l → Nf l → Hl 9 l → l.length ≤ 6 → H1 rows = some (.lst vs) → (∀ v ∈ vs, RowOk (He.ga K "Poly") H1 v) → vs.length ≤ 5 → IsR H1 ps q → IntTup H1 ps → Hq 10 q → LQ H1 flat (strip [q]) → 
          (∀ (σ' : L2.St) (H' : Hp), LawS (.ref sa) p σ' → Sx [p] [] H1 H' → LamX.Tabs Tt H' → Pen H' p cl m → N σ' H') →
          t { nx := N, rt := Q, bk := B, ct := N } [some (.ref sa), some (.ref p), o2, some one, o4, o5, o6, some (.ref rows), some flat, some ps, o10, o11, o12, o13, o14, some a, o16, o17] H1 := by
      refine ⟨_, (pss_cons (ps_set (i := 7) sc_law.nd rfl (Or.inl rfl) (pe_op op_cat (pv 7) (pe_lst (pa_cons (pe_tup (pa_cons (pe_op (op_ownL opf_add T.ow c_add c_radd hr (by decide) pass0) (pv 15) (pv 9)) (pa_cons (pe_cal c_law_p_plus hr (by decide) pass0 (pa_cons (pv 3) (pa_cons (pv 8) pa_nil))) pa_nil))) (pa_cons (pe_tup (pa_cons (pe_op (op_ownR opf_add T.ow c_radd c_add hr (by decide) pass0) (pv 9) (pv 15)) (pa_cons (pe_cal c_law_p_plus hr (by decide) pass0 (pa_cons (pv 3) (pa_cons (pv 8) pa_nil))) pa_nil))) pa_nil)))))
      hE1), ?_⟩
      intro N B p cl m H1 o2 o4 o5 o6 o10 o11 o12 o13 o14 o16 o17 one flat ps a rows vs l q tb1 hp1 ha ho nl zl ll hr rok vl hps hit zq hfl fin
      walk_at "rd"
      have zf : Hl 10 (strip [q]) := hl_strip (hl_one zq)
      have lf := len_1 q
      have z4 : Hl 4400 l := zl.mono (by decide)
      have zf4 : Hl 4400 (strip [q]) := zf.mono (by decide)
      have zmu : Hl 100 (pmul l (strip [q])) := (hl_pmul zl zf).mono (by
        have : min l.length (strip [q]).length * (9 + 10 + 1) ≤ 1 * 20 := Nat.mul_le_mul_right _ (by omega)
        omega)
      have lmu : (pmul l (strip [q])).length ≤ 50 := by have := pmul_le l (strip [q]); omega
      have tl : (l.length + 1) * (9 + 10 + 1) + 1 ≤ 4400 := by have : (l.length + 1) * (9 + 10 + 1) ≤ 7 * 20 := Nat.mul_le_mul_right _ (by omega); omega
      refine ownL_addR ha hps hit zl zf (by omega) (by omega) fun x2 H2 s2 hx2 => ?_
      refine ⟨_, _, l, strip [q], rfl, ho.m s2, hfl.m s2, z4, zf4, by omega, by omega, fun y3 H3 s3 hy3 => ?_⟩
      refine rowNT (hx2.m s3) hy3 (hl_padd (.inl rfl) zl zf) (by decide) (Nat.le_trans (padd_le _ _ _) (by omega)) fun t4 H4 s4 k1 => ?_
      have s14 := s2.trans (s3.trans s4)
      refine ownR_addR (ha.m s14) (hps.m s14) (hit.m s14) zl zf (by omega) (by omega) fun x5 H5 s5 hx5 => ?_
      rw [padd_comm] at hx5
      have s15 := s14.trans s5
      refine ⟨_, _, l, strip [q], rfl, ho.m s15, hfl.m s15, z4, zf4, by omega, by omega, fun y6 H6 s6 hy6 => ?_⟩
      refine rowNT (hx5.m s6) hy6 (hl_padd (.inl rfl) zl zf) (by decide) (Nat.le_trans (padd_le _ _ _) (by omega)) fun t7 H7 s7 k2 => ?_
      have s17 := s15.trans (s6.trans s7)
      refine rows_add (s17.lst hr List.not_mem_nil) (fun v hv => (rok v hv).m s17) (two_ok (k1.m (s5.trans (s6.trans s7))) k2) (by omega) (by simp) fun e us H8 s8 he ok el => ?_
      have s18 := s17.trans s8
      have el2 : us.length = vs.length + 2 := el
      exact hE2 N B p cl m H8 _ _ _ _ _ _ _ _ _ _ _ one flat ps a e us l q (tabs_sm tb1 s18) (hp1.m s18) (ha.m s18) (ho.m s18) nl zl ll he ok (by omega) (hps.m s18) (hit.m s18) zq (hfl.m s18) fun σ' H' x1 x2 x3 x4 => fin σ' H' x1 (s18.any.x.trans x2) x3 x4
    obtain ⟨tF, hF1, hF2⟩ := restF
    have restG : ∃ t, PSs (cxOf CX0 P w K mg base N_law "law" (defScope s_law) (He.ga K "law") (.ref c) A outer s H E).nox (lawB.drop 5) t ∧
        ∀ (N B : L2.St → Hp → Prop) (p cl : Addr) (m : Nat) (H1 : Hp) (o2 o4 o5 o8 o9 o10 o11 o12 o13 o14 o16 o17 : Option V) (one by_ a : V) (rows : Addr) (vs : List V) (l : List Rat) (q : Rat), LamX.Tabs Tt H1 → Pen H1 p cl (m + 4040) → PoV (He.ga K "Poly") H1 a l → LQ H1 one l → Nf l → Hl 9 l → l.length ≤ 6 → H1 rows = some (.lst vs) → (∀ v ∈ vs, RowOk (He.ga K "Poly") H1 v) → vs.length ≤ 5 → IsQ H1 by_ q → Hq 10 q → 
          (∀ (σ' : L2.St) (H' : Hp), LawS (.ref sa) p σ' → Sx [p] [] H1 H' → LamX.Tabs Tt H' → Pen H' p cl m → N σ' H') →
          t { nx := N, rt := Q, bk := B, ct := N } [some (.ref sa), some (.ref p), o2, some one, o4, o5, some by_, some (.ref rows), o8, o9, o10, o11, o12, o13, o14, some a, o16, o17] H1 := by
      refine ⟨_, (pss_cons (ps_set (i := 8) sc_law.nd rfl (Or.inl rfl) (pe_cal c_law_poly hr (by decide) pass0 (pa_cons (pe_lst (pa_cons (pv 6) pa_nil)) pa_nil)))
      (pss_cons (ps_set (i := 9) sc_law.nd rfl (Or.inl rfl) (pe_cal c_law_pick hr (by decide) pass0 (pa_cons (pv 1) (pa_cons (pe_op op_cat (pe_lst (pa_cons (pv 6) (pa_cons (pe_tup (pa_cons (pe_op op_mulS pe_int (pe_ix ix_tup (pv 6) pe_int (fun _ _ => rfl))) (pa_cons (pe_op op_mulS pe_int (pe_ix ix_tup (pv 6) pe_int (fun _ _ => rfl))) pa_nil))) pa_nil))) (pe_ifExp (pt_cmpR op_eq (pe_ix ix_tup (pv 6) pe_int (fun _ _ => rfl)) pe_int (nomark _)) (pe_lst (pa_cons (pe_ix ix_tup (pv 6) pe_int (fun _ _ => rfl)) pa_nil)) (pe_lst pa_nil))) pa_nil))))
      hF1)), ?_⟩
      intro N B p cl m H1 o2 o4 o5 o8 o9 o10 o11 o12 o13 o14 o16 o17 one by_ a rows vs l q tb1 hp1 ha ho nl zl ll hr rok vl hby zq fin
      walk_at "rd"
      refine nl_of (fun l2 H2 n2 s2 h2 => ?_) (by simp)
      refine ⟨_, [q], rfl, ⟨l2, _, rfl, h2, Qs.one (hby.m s2)⟩, by simp, fun flat H3 s3 hfl => ?_⟩
      have s13 := s2.trans s3
      obtain ⟨pb, rfl, hpb⟩ := id (hby.m s13)
      have go : ∀ (H' : Hp) (lx : Addr) (xs : List V), Sm [] [] H3 H' → H' lx = some (.lst xs) → 0 < xs.length → xs.length ≤ 1000 → (∀ v ∈ xs, IsR H' v q ∧ IntTup H' v) → spPick [.ref p, .ref lx] H' (fun x_8 H1 => tF { nx := N, rt := Q, bk := B, ct := N } [some (V.ref sa), some (V.ref p), o2, some one, o4, o5, some (.ref pb), some (V.ref rows), some flat, some x_8, o10, o11, o12, o13, o14, some a, o16, o17] H1) E0 := by
        intro H' lx xs s4 hx x0 x1 hok
        have s14 := s13.trans s4
        refine ⟨p, cl, lx, xs, m + 4039, rfl, hx, x0, x1, (hp1.m s14).mono (by omega), fun v H5 s5 hp5 hv => ?_⟩
        obtain ⟨h6, h7⟩ := hok v hv
        have s15 : Sm [p] [] H1 H5 := s14.any.trans s5
        exact hF2 N B p cl m H5 _ _ _ _ _ _ _ _ _ _ _ one flat v a rows vs l q (tabs_sm tb1 s15) (hp5.mono (by omega)) (ha.m s15) (ho.m s15) nl zl ll (s15.lst hr List.not_mem_nil) (fun v hv => (rok v hv).m s15) vl (h6.m s5) (h7.m s5) zq (hfl.m (s4.any.trans s5)) fun σ' H' x1 x2 x3 x4 => fin σ' H' x1 (s15.x.trans x2) x3 x4
      have z3 : Sz 3 := Nat.lt_of_lt_of_le (show (3 : Int).natAbs < 2 ^ 2 by decide) (Nat.pow_le_pow_right (by decide) (by decide))
      have zn := zq.szn (by decide : 10 ≤ 4400)
      have zd := zq.szd (by decide : 10 ≤ 4400)
      have qp := q.den_pos
      refine SqT.ix hpb rfl ?_
      rw [rI_int]
      refine ⟨Sz.mul z3 zn, SqT.ix hpb rfl ?_⟩
      rw [rI_int]
      refine ⟨Sz.mul z3 zd, ?_⟩
      refine nt_of (fun t4 H4 n4 s4 h4 => ?_) (by simp)
      refine nl_of (fun l5 H5 n5 s5 h5 => ?_) (by simp)
      have s35 := s4.trans s5
      have up12 : ∀ {x : Int}, x.natAbs < 2 ^ 10 → (3 * x).natAbs < 2 ^ 12 := fun h => by omega
      have z3n : Sz (3 * q.num) := Nat.lt_of_lt_of_le (up12 zq.1) (Nat.pow_le_pow_right (by decide) (by decide))
      have z3d : Sz (3 * (q.den : Int)) := Nat.lt_of_lt_of_le (up12 (by rw [Int.natAbs_natCast]; exact zq.2)) (Nat.pow_le_pow_right (by decide) (by decide))
      have ok1 : ∀ H', Sm [] [] H3 H' → IsR H' (.ref pb) q ∧ IntTup H' (.ref pb) := fun H' z => ⟨((hby.m s13).m z).r zq (by decide), .inr ⟨pb, _, rfl, z.tup hpb⟩⟩
      have ok2 : ∀ H', Sm [] [] H4 H' → IsR H' (.ref t4) q ∧ IntTup H' (.ref t4) := fun H' z => ⟨⟨_, _, .sq (.inl (z.tup h4)) (by omega), z3n, z3d, by rw [Int.mul_comm 3, Int.mul_comm 3, divInt_mul _ _ _ (by decide), rat_self]⟩, .inr ⟨t4, _, rfl, z.tup h4⟩⟩
      refine SqT.ix (s35.tup hpb) rfl ?_
      rw [rEq_int]
      refine ⟨_, rfl, ?_⟩
      by_cases e : (q.den : Int) = 1
      · rw [decide_eq_true e, if_pos rfl]
        refine SqT.ix (s35.tup hpb) rfl ?_
        refine nl_of (fun l6 H6 n6 s6 h6 => ?_) (by simp)
        refine ⟨l5, l6, _, _, rfl, rfl, s6.lst h5 List.not_mem_nil, h6, Nat.le_of_lt (small1000 (by simp)), fun l7 n7 => ?_⟩
        have s7 : Sm [] [] H6 (upd H6 l7 (.lst ([.ref pb, .ref t4] ++ [.int q.num]))) := Sm.new n7
        have s47 := s5.trans (s6.trans s7)
        refine go _ l7 _ (s4.trans s47) upd_same (by simp) (by simp) fun v hv => ?_
        simp only [List.cons_append, List.nil_append, List.mem_cons, List.not_mem_nil, or_false] at hv
        rcases hv with rfl | rfl | rfl
        · exact ok1 _ (s4.trans s47)
        · exact ok2 _ s47
        · refine ⟨⟨q.num, 1, .int _, zn, Nat.one_lt_two_pow (by decide), ?_⟩, .inl ⟨_, rfl⟩⟩
          have := rat_self q
          rw [e] at this
          exact this
      · rw [decide_eq_false e, if_neg (by decide)]
        refine nl_of (fun l6 H6 n6 s6 h6 => ?_) (by simp)
        refine ⟨l5, l6, _, _, rfl, rfl, s6.lst h5 List.not_mem_nil, h6, Nat.le_of_lt (small1000 (by simp)), fun l7 n7 => ?_⟩
        have s7 : Sm [] [] H6 (upd H6 l7 (.lst ([.ref pb, .ref t4] ++ []))) := Sm.new n7
        have s47 := s5.trans (s6.trans s7)
        refine go _ l7 _ (s4.trans s47) upd_same (by simp) (by simp) fun v hv => ?_
        simp only [List.cons_append, List.nil_append, List.append_nil, List.mem_cons, List.not_mem_nil, or_false] at hv
        rcases hv with rfl | rfl
        · exact ok1 _ (s4.trans s47)
        · exact ok2 _ s47
    obtain ⟨tG, hG1, hG2⟩ := restG
    have restI : ∃ t, PSs (cxOf CX0 P w K mg base N_law "law" (defScope s_law) (He.ga K "law") (.ref c) A outer s H E).nox (lawB.drop 4) t ∧
        ∀ (N B : L2.St → Hp → Prop) (p cl : Addr) (m : Nat) (H1 : Hp) (o2 o4 o5 o8 o9 o10 o11 o12 o13 o14 o16 o17 : Option V) (one by_ a : V) (rows : Addr) (vs : List V) (l : List Rat) (q : Rat), LamX.Tabs Tt H1 → Pen H1 p cl (m + 4040) → PoV (He.ga K "Poly") H1 a l → LQ H1 one l → Nf l → Hl 9 l → l.length ≤ 6 → H1 rows = some (.lst vs) → (∀ v ∈ vs, RowOk (He.ga K "Poly") H1 v) → vs.length ≤ 3 → IsQ H1 by_ q → Hq 10 q → 
          (∀ (σ' : L2.St) (H' : Hp), LawS (.ref sa) p σ' → Sx [p] [] H1 H' → LamX.Tabs Tt H' → Pen H' p cl m → N σ' H') →
          t { nx := N, rt := Q, bk := B, ct := N } [some (.ref sa), some (.ref p), o2, some one, o4, o5, some by_, some (.ref rows), o8, o9, o10, o11, o12, o13, o14, some a, o16, o17] H1 := by
      refine ⟨_, (pss_cons (ps_set (i := 7) sc_law.nd rfl (Or.inl rfl) (pe_op op_cat (pv 7) (pe_lst (pa_cons (pe_tup (pa_cons (pe_un (un_own c_neg hr (by decide) pass0) (pv 15)) (pa_cons (pe_cal c_law_p_scaled hr (by decide) pass0 (pa_cons (pv 3) (pa_cons (pe_tup (pa_cons (pe_un un_neg pe_int) (pa_cons pe_int pa_nil))) pa_nil))) pa_nil))) (pa_cons (pe_tup (pa_cons (pe_met0 c_slope T.cl hr (by decide) pass0 (pv 15)) (pa_cons (pe_cal c_law_p_slope hr (by decide) pass0 (pa_cons (pv 3) pa_nil)) pa_nil))) pa_nil)))))
      hG1), ?_⟩
      intro N B p cl m H1 o2 o4 o5 o8 o9 o10 o11 o12 o13 o14 o16 o17 one by_ a rows vs l q tb1 hp1 ha ho nl zl ll hr rok vl hby zq fin
      walk_at "rd"
      obtain ⟨pa, dx, u, rfl, hpa, _⟩ := id ha
      refine ⟨pa, dx, _, rfl, hpa, _, l, 9, rfl, ha, zl, by decide, by omega, fun x2 H2 s2 hx2 => ?_⟩
      refine nt_of (fun t3 H3 n3 s3 h3 => ?_) (by simp)
      have s13 := s2.trans s3
      have one1 : Sz 1 := Nat.one_lt_two_pow (by decide)
      have hm : IsP H3 (.ref t3) (-1) := ⟨t3, -1, 1, rfl, h3, by decide, one1, one1, rfl⟩
      refine ⟨one, _, l, -1, rfl, ho.m s13, hm, zl.mono (by decide), by omega, fun y4 H4 s4 hy4 => ?_⟩
      rw [pscale_neg] at hy4
      refine rowNT (hx2.m (s3.trans s4)) hy4 (hl_pneg zl) (by decide) (Nat.le_trans (pO_le _ _) (by omega)) fun t5 H5 s5 k1 => ?_
      have s15 := s13.trans (s4.trans s5)
      refine ⟨pa, dx, _, rfl, s15.ins hpa, rfl, ?_⟩
      refine ⟨_, l, 9, rfl, ha.m s15, zl, by decide, by omega, fun x6 H6 s6 hx6 => ?_⟩
      have s16 := s15.trans s6
      refine ⟨one, l, rfl, ho.m s16, zl.mono (by decide), by omega, fun y7 H7 s7 hy7 => ?_⟩
      refine rowNT (hx6.m s7) hy7 (hl_slope zl ll) (by decide) (Nat.le_trans (pO_le _ _) (by omega)) fun t8 H8 s8 k2 => ?_
      have s18 := s16.trans (s7.trans s8)
      refine rows_add (s18.lst hr List.not_mem_nil) (fun v hv => (rok v hv).m s18) (two_ok (k1.m (s6.trans (s7.trans s8))) k2) (by omega) (by simp) fun e us H9 s9 he ok el => ?_
      have s19 := s18.trans s9
      have el2 : us.length = vs.length + 2 := el
      exact hG2 N B p cl m H9 _ _ _ _ _ _ _ _ _ _ _ _ one by_ (.ref pa) e us l q (tabs_sm tb1 s19) (hp1.m s19) (ha.m s19) (ho.m s19) nl zl ll he ok (by omega) (hby.m s19) zq fun σ' H' x1 x2 x3 x4 => fin σ' H' x1 (s19.any.x.trans x2) x3 x4
    obtain ⟨tI, hI1, hI2⟩ := restI
    have restJ : ∃ t, PSs (cxOf CX0 P w K mg base N_law "law" (defScope s_law) (He.ga K "law") (.ref c) A outer s H E).nox (lawB.drop 3) t ∧
        ∀ (N B : L2.St → Hp → Prop) (p cl : Addr) (m : Nat) (H1 : Hp) (o2 o7 o8 o9 o10 o11 o12 o13 o14 o16 o17 : Option V) (one two b by_ a : V) (l l2 : List Rat) (q : Rat), LamX.Tabs Tt H1 → Pen H1 p cl (m + 4040) → PoV (He.ga K "Poly") H1 a l → LQ H1 one l → Nf l → Hl 9 l → l.length ≤ 6 → PoV (He.ga K "Poly") H1 b l2 → LQ H1 two l2 → Nf l2 → Hl 12 l2 → l2.length ≤ 6 → IsQ H1 by_ q → Hq 10 q → 
          (∀ (σ' : L2.St) (H' : Hp), LawS (.ref sa) p σ' → Sx [p] [] H1 H' → LamX.Tabs Tt H' → Pen H' p cl m → N σ' H') →
          t { nx := N, rt := Q, bk := B, ct := N } [some (.ref sa), some (.ref p), o2, some one, some two, some b, some by_, o7, o8, o9, o10, o11, o12, o13, o14, some a, o16, o17] H1 := by
      refine ⟨_, (pss_cons (ps_set (i := 7) sc_law.nd rfl (Or.inl rfl) (pe_lst (pa_cons (pe_tup (pa_cons (pe_op (op_ownL opf_add T.ow c_add c_radd hr (by decide) pass0) (pv 15) (pv 5)) (pa_cons (pe_cal c_law_p_plus hr (by decide) pass0 (pa_cons (pv 3) (pa_cons (pv 4) pa_nil))) pa_nil))) (pa_cons (pe_tup (pa_cons (pe_op (op_ownL opf_sub T.ow c_sub c_rsub hr (by decide) pass0) (pv 15) (pv 5)) (pa_cons (pe_cal c_law_p_minus hr (by decide) pass0 (pa_cons (pv 3) (pa_cons (pv 4) pa_nil))) pa_nil))) (pa_cons (pe_tup (pa_cons (pe_op (op_ownL opf_mul T.ow c_mul c_rmul hr (by decide) pass0) (pv 15) (pv 5)) (pa_cons (pe_cal c_law_p_times hr (by decide) pass0 (pa_cons (pv 3) (pa_cons (pv 4) pa_nil))) pa_nil))) pa_nil)))))
      hI1), ?_⟩
      intro N B p cl m H1 o2 o7 o8 o9 o10 o11 o12 o13 o14 o16 o17 one two b by_ a l l2 q tb1 hp1 ha ho nl zl ll hb ho2 nl2 zl2 ll2 hby zq fin
      walk_at "rd"
      have z4 : Hl 4400 l := zl.mono (by decide)
      have z42 : Hl 4400 l2 := zl2.mono (by decide)
      refine ownL_add ha hb zl zl2 (by omega) (by omega) (by decide) fun x2 H2 s2 hx2 => ?_
      refine ⟨one, two, l, l2, rfl, ho.m s2, ho2.m s2, z4, z42, by omega, by omega, fun y3 H3 s3 hy3 => ?_⟩
      refine rowNT (hx2.m s3) hy3 (hl_padd (.inl rfl) zl zl2) (by decide) (Nat.le_trans (padd_le _ _ _) (by omega)) fun t4 H4 s4 k1 => ?_
      have s14 := s2.trans (s3.trans s4)
      refine ownL_add (ha.m s14) (hb.m s14) zl zl2 (by omega) (by omega) (by decide) fun x5 H5 s5 hx5 => ?_
      have s15 := s14.trans s5
      refine ⟨one, two, l, l2, rfl, ho.m s15, ho2.m s15, z4, z42, by omega, by omega, fun y6 H6 s6 hy6 => ?_⟩
      refine rowNT (hx5.m s6) hy6 (hl_padd (.inr rfl) zl zl2) (by decide) (Nat.le_trans (padd_le _ _ _) (by omega)) fun t7 H7 s7 k2 => ?_
      have s17 := s15.trans (s6.trans s7)
      have zmu : Hl 200 (pmul l l2) := (hl_pmul zl zl2).mono (by
        have : min l.length l2.length * (9 + 12 + 1) ≤ 6 * 22 := Nat.mul_le_mul_right _ (by omega)
        omega)
      refine ownL_mul (ha.m s17) (hb.m s17) zl zl2 (by omega) (by omega) (by have : (min l.length l2.length + 1) * (9 + 12 + 2) ≤ 7 * 23 := Nat.mul_le_mul_right _ (by omega); omega) fun x8 H8 s8 hx8 => ?_
      have s18 := s17.trans s8
      refine ⟨one, two, l, l2, 9, 12, rfl, ho.m s18, ho2.m s18, zl, zl2, by have : (l.length + 1) * (9 + 12 + 1) ≤ 7 * 22 := Nat.mul_le_mul_right _ (by omega); omega, by omega, by omega, fun y9 H9 s9 hy9 => ?_⟩
      refine rowNT (hx8.m s9) hy9 zmu (by decide) (by have := pmul_le l l2; omega) fun ta Ha sa' k3 => ?_
      have s8a := s8.trans (s9.trans sa')
      have s1a := s17.trans s8a
      refine nl_of (fun rw' Hb nb sb hb' => ?_) (by simp)
      have s1b := s1a.trans sb
      refine hI2 N B p cl m Hb _ _ _ _ _ _ _ _ _ _ _ _ one by_ a rw' _ l q (tabs_sm tb1 s1b) (hp1.m s1b) (ha.m s1b) (ho.m s1b) nl zl ll hb' (fun v hv => ?_) (by simp) (hby.m s1b) zq fun σ' H' x1 x2 x3 x4 => fin σ' H' x1 (s1b.any.x.trans x2) x3 x4
      simp only [List.mem_cons, List.not_mem_nil, or_false] at hv
      rcases hv with rfl | rfl | rfl
      · exact (k1.m ((s5.trans (s6.trans s7)).trans s8a)).m sb
      · exact (k2.m s8a).m sb
      · exact k3.m sb
    obtain ⟨tJ, hJ1, hJ2⟩ := restJ
    have lap : ∃ t, PSs (cxOf CX0 P w K mg base N_law "law" (defScope s_law) (He.ga K "law") (.ref c) A outer s H E).nox lawB t ∧ ∀ (N B : L2.St → Hp → Prop) (p cl : Addr) (m : Nat) (H1 : Hp) (o2 o3 o4 o5 o6 o7 o8 o9 o10 o11 o12 o13 o14 o15 o16 o17 : Option V), LamX.Tabs Tt H1 → Pen H1 p cl (m + 5000) →
        (∀ (σ' : L2.St) (H' : Hp), LawS (.ref sa) p σ' → Sx [p] [] H1 H' → LamX.Tabs Tt H' → Pen H' p cl m → N σ' H') →
        t { nx := N, rt := Q, bk := B, ct := N } [some (.ref sa), some (.ref p), o2, o3, o4, o5, o6, o7, o8, o9, o10, o11, o12, o13, o14, o15, o16, o17] H1 := by
      refine ⟨_, (pss_cons (ps_par (i := 3) (j := 4) rfl sc_law.nd rfl rfl (by decide) rfl rfl (pa_cons (pe_cal c_law_drawn hr (by decide) pass0 (pa_cons (pv 1) (pa_cons pe_int (pa_cons pe_int pa_nil)))) (pa_cons (pe_cal c_law_drawn hr (by decide) pass0 (pa_cons (pv 1) (pa_cons pe_int (pa_cons pe_int pa_nil)))) pa_nil)) (by rfl))
      (pss_cons (ps_set (i := 4) sc_law.nd rfl (Or.inl rfl) (pe_cal c_law_pick hr (by decide) pass0 (pa_cons (pv 1) (pa_cons (pe_lst (pa_cons (pv 4) (pa_cons (pv 4) (pa_cons (pe_cal c_law_p_scaled hr (by decide) pass0 (pa_cons (pv 3) (pa_cons (pe_tup (pa_cons (pe_un un_neg pe_int) (pa_cons pe_int pa_nil))) pa_nil))) (pa_cons (pe_cal c_law_p_plus hr (by decide) pass0 (pa_cons (pv 3) (pa_cons (pe_lst (pa_cons (pe_tup (pa_cons pe_int (pa_cons pe_int pa_nil))) pa_nil)) pa_nil))) pa_nil))))) pa_nil))))
      (pss_cons (ps_asg (pe_tup (pa_cons (pe_cal c_law_made_poly hr (by decide) pass0 (pa_cons (pv 1) (pa_cons (pv 3) pa_nil))) (pa_cons (pe_cal c_law_made_poly hr (by decide) pass0 (pa_cons (pv 1) (pa_cons (pv 4) pa_nil))) (pa_cons (pe_cal c_law_ratio hr (by decide) pass0 (pa_cons (pv 1) (pa_cons pe_int pa_nil))) pa_nil)))) (pg_tup (n := 3) rfl (pgs_cons (pg_name (i := 15) sc_law.nd rfl (Or.inr rfl)) (pgs_cons (pg_name (i := 5) sc_law.nd rfl (Or.inl rfl)) (pgs_cons (pg_name (i := 6) sc_law.nd rfl (Or.inl rfl)) pgs_nil)))))
      hJ1))), ?_⟩
      intro N B p cl m H1 o2 o3 o4 o5 o6 o7 o8 o9 o10 o11 o12 o13 o14 o15 o16 o17 tb1 hp1 fin
      walk_at "rd"
      refine ⟨p, cl, 5, 5, 9, m + 4800, rfl, by decide, by decide, by decide, by decide, by decide, by decide, hp1, fun one l H2 s2 hp2 h2 nl zl ll => ?_⟩
      refine ⟨p, cl, 5, 5, 9, m + 4600, rfl, by decide, by decide, by decide, by decide, by decide, by decide, hp2, fun two l2 H3 s3 hp3 h3 nl2 zl2 ll2 => ?_⟩
      refine ⟨one, two, rfl, ?_⟩
      refine nt_of (fun t4 H4 n4 s4 h4 => ?_) (by simp)
      have one1 : Sz 1 := Nat.one_lt_two_pow (by decide)
      have hm : IsP H4 (.ref t4) (-1) := ⟨t4, -1, 1, rfl, h4, by decide, one1, one1, rfl⟩
      have s34 : Sm [p] [] H3 H4 := s4.any
      have s24 := s3.trans s34
      refine ⟨one, _, l, -1, rfl, h2.m s24, hm, zl.mono (by decide), by omega, fun y5 H5 s5 hy5 => ?_⟩
      rw [pscale_neg] at hy5
      refine nt_of (fun t6 H6 n6 s6 h6 => ?_) (by simp)
      refine nl_of (fun l7 H7 n7 s7 h7 => ?_) (by simp)
      have s57 := s6.trans s7
      have s27 : Sm [p] [] H2 H7 := (s24.trans s5.any).trans s57.any
      have zt := hl_third
      have h7' : LQ H7 (.ref l7) [third] := ⟨l7, _, rfl, h7, Qs.one ⟨t6, rfl, s7.tup h6⟩⟩
      refine ⟨one, _, l, [third], rfl, h2.m s27, h7', zl.mono (by decide), zt.mono (by decide), by omega, by simp, fun y8 H8 s8 hy8 => ?_⟩
      refine nl_of (fun l9 H9 n9 s9 h9 => ?_) (by simp)
      have s59 : Sm [] [] H5 H9 := (s57.trans s8).trans s9
      have s39 : Sm [p] [] H3 H9 := (s34.trans s5.any).trans s59.any
      refine ⟨p, cl, l9, _, m + 4599, rfl, h9, by simp, by simp, ((hp3.m s4).m s5).m s59, fun two' Ha sa' hpa hv => ?_⟩
      have s3a := s39.trans sa'
      have h2' : ∃ l3, LQ Ha two' l3 ∧ Nf l3 ∧ Hl 12 l3 ∧ l3.length ≤ 6 := by
        simp only [List.mem_cons, List.not_mem_nil, or_false] at hv
        rcases hv with rfl | rfl | rfl | rfl
        · exact ⟨l2, h3.m s3a, nl2, zl2.mono (by decide), by omega⟩
        · exact ⟨l2, h3.m s3a, nl2, zl2.mono (by decide), by omega⟩
        · exact ⟨pneg l, hy5.m (s59.any.trans sa'), nf_pO _ _, (hl_pneg zl).mono (by decide), Nat.le_trans (pO_le _ _) (by omega)⟩
        · exact ⟨padd 1 l [third], hy8.m (s9.any.trans sa'), nf_padd _ _ _, hl_padd (.inl rfl) zl zt, Nat.le_trans (padd_le _ _ _) (by simp only [List.length_singleton]; omega)⟩
      obtain ⟨l3, h3', nl3, zl3, ll3⟩ := h2'
      have s2a := s3.trans s3a
      refine ⟨p, cl, one, l, m + 4399, 9, rfl, hpa, h2.m s2a, nl, zl, by omega, by decide, fun a Hb sb hpb hab => ?_⟩
      refine ⟨p, cl, two', l3, m + 4199, 12, rfl, hpb, h3'.m sb, nl3, zl3, by omega, by decide, fun b Hc sc hpc hbc => ?_⟩
      refine ⟨p, cl, 7, 10, m + 4196, rfl, by decide, by decide, by decide, by decide, hpc, fun by_ q Hd sd hpd hbd zq => ?_⟩
      refine nt_of (fun te He' ne se he => gTup3 he ?_) (by simp)
      have sce : Sm [p] [] Hc He' := sd.trans se.any
      have sbe := sc.trans sce
      have sae := sb.trans sbe
      have s2e := s2a.trans sae
      have s1e := s2.trans s2e
      exact hJ2 N B p cl m He' _ _ _ _ _ _ _ _ _ _ _ one two' b by_ a l l3 q (tabs_sm tb1 s1e) ((hpd.m se).mono (by omega)) (hab.m sbe) (h2.m s2e) nl zl (by omega) (hbc.m sce) (h3'.m sae) nl3 zl3 ll3 (hbd.m se) zq fun σ' H' x1 x2 x3 x4 => fin σ' H' x1 (s1e.x.trans x2) x3 x4
    obtain ⟨tL, hL1, hL2⟩ := lap
    refine ⟨_, (pss_cons (ps_set (i := 1) sc_law.nd rfl (Or.inl rfl) (pe_cal c_law_pen hr (by decide) pass0 (pa_cons (pv 0) pa_nil)))
      (pss_cons (ps_for PassesOwn.never rfl (pi_range1 (by rfl) T.b_range (pa_cons pe_int pa_nil)) (pg_name (i := 2) sc_law.nd rfl (Or.inl rfl)) hL1) (pss_one (ps_ret pe_bl)))), ?_⟩
    walk_at "rd"
    refine ⟨sa, ns, rfl, hsa, hns, fun p cl H1 s1 np hp1 => ?_⟩
    refine ⟨2, rfl, by decide, by decide, ?_⟩
    refine for_it' (walk_range (lo := 0) (n := 2)) (fun i σ H' => LawS (.ref sa) p σ ∧ Sx [p] [] H1 H' ∧ LamX.Tabs Tt H' ∧ Pen H' p cl (5000 * (2 - i))) ?_ (fun _ _ _ _ _ => trivial) ?_ ?_
    · exact ⟨⟨_, _, _, _, _, _, _, _, _, _, _, _, _, _, _, _, rfl⟩, Sx.refl, tabs_sm tb s1, hp1.mono (by decide)⟩
    · intro i x σ H3 H4 hi z y
      obtain ⟨⟨o2, o3, o4, o5, o6, o7, o8, o9, o10, o11, o12, o13, o14, o15, o16, o17, rfl⟩, s3, t3, hp3⟩ := z
      obtain ⟨rfl, rfl⟩ := y
      refine hL2 _ _ p cl (5000 * (2 - (i + 1))) H4 _ _ _ _ _ _ _ _ _ _ _ _ _ _ _ _ t3 (hp3.mono (by omega)) fun σ' H' x1 x2 x3 x4 => ⟨x1, s3.trans x2, x3, x4⟩
    · intro σ H3 z
      obtain ⟨⟨o2, o3, o4, o5, o6, o7, o8, o9, o10, o11, o12, o13, o14, o15, o16, o17, rfl⟩, s3, t3, hp3⟩ := z
      refine k H3 ?_
      intro b o hb nt
      have nbp : b ≠ p := ne_of_none hb np
      rcases s1 b o hb with h | ⟨m, _⟩ | ⟨m, _⟩
      · rcases s3 b o h nt with h | ⟨m, _⟩ | ⟨m, _⟩
        · exact .inl h
        · exact absurd (List.mem_singleton.mp m) nbp
        · cases m
      · cases m
      · cases m
end
end G3
end
section
set_option maxHeartbeats 4000000
/-! the law's call: what is known at its start, what is asked at its end -/
namespace G3
open PySem PySem.Spec PyProof.Rows L2
/-- a table of code objects that tells nothing yet -/
abbrev tabO : Obj := { cls := .none, data := .fields #[] }
abbrev lstO (vs : List Value) : Obj := { cls := .type "list", data := .seq vs.toArray }
/-- tracked at the start: the tables, and the script unless it is written -/
def begH (K : PySem.W.Frag) (T : List Addr) (a : Addr) (vs : List Value) (xs : List V) : Hp := fun b =>
  match T.contains b, decide (b = a) && (K.lookup a).isNone with
  | true, _ => some (.tbl #[])
  | false, true => some (.frz (lstO vs) (.lst xs))
  | false, false => none
section
variable {K : PySem.W.Frag} {T : List Addr} {a : Addr} {vs : List Value} {xs : List V}
theorem begH_tab {t : Addr} (h : t ∈ T) : begH K T a vs xs t = some (.tbl #[]) := by
  unfold begH
  rw [List.contains_iff_mem.mpr h]
theorem begH_or (b : Addr) : begH K T a vs xs b = none ∨ (b ∈ T ∧ begH K T a vs xs b = some (.tbl #[])) ∨ (b = a ∧ K.lookup a = none ∧ begH K T a vs xs b = some (.frz (lstO vs) (.lst xs))) := by
  by_cases h : b ∈ T
  · exact .inr (.inl ⟨h, begH_tab h⟩)
  · have e : T.contains b = false := by
      cases q : T.contains b with
      | false => rfl
      | true => exact absurd (List.contains_iff_mem.mp q) h
    cases q : decide (b = a) && (K.lookup a).isNone with
    | false =>
      refine .inl ?_
      unfold begH
      rw [e, q]
    | true =>
      obtain ⟨q1, q2⟩ := Bool.and_eq_true_iff.mp q
      refine .inr (.inr ⟨of_decide_eq_true q1, Option.isNone_iff_eq_none.mp q2, ?_⟩)
      unfold begH
      rw [e, q]
theorem begH_self (h1 : a ∉ T) (h2 : K.lookup a = none) : begH K T a vs xs a = some (.frz (lstO vs) (.lst xs)) := by
  rcases begH_or (K := K) (T := T) (a := a) (vs := vs) (xs := xs) a with z | ⟨z, _⟩ | ⟨_, _, z⟩
  · unfold begH at z
    have e : T.contains a = false := by
      cases q : T.contains a with
      | false => rfl
      | true => exact absurd (List.contains_iff_mem.mp q) h1
    rw [e, h2, decide_eq_true rfl] at z
    cases z
  · exact absurd z h1
  · exact z
end
theorem end_call {P : Program} {w : World} {K : PySem.W.Frag} {mg mb : Str → Option Value} {fa a : Addr} {T : List Addr} {s : Shared} {vs : List Value} {ns : List Int} (kin : K.In s.heap) (glob : s.heap.Ns mainGlobals mg) (blt : s.heap.Ns builtinsNs mb)
    (boot : ∀ x : Str, x ≠ "__name__" → mb x = bootBuiltins x) (lim : s.heap.NoLimit) (gens : s.gens = #[]) (tabs : ∀ t ∈ T, s.heap.get? t = some tabO) (tabK : ∀ t ∈ T, K.lookup t = none) (tabC : ∀ t ∈ T, isCodeTable s.heap t)
    (mod : ∃ (bm : Addr) (ob : Obj), mg "__builtins__" = some (.ref bm) ∧ bm ≠ builtinsNs ∧ s.heap.get? bm = some ob ∧ ob.cls = .type "module" ∧ ob.dict = some builtinsNs ∧ ob.data = .plain)
    (scr : s.heap.get? a = some (lstO vs)) (isInt : IntsAre vs ns) (most : ns.length ≤ sizeLine)
    (run : ∀ (base : Heap) (H : Hp), Env0 P w K mg base callerA [] s H → (∀ t ∈ T, base.BuiltinsAt mg t ∧ mainGlobals ≠ t) → (∀ t ∈ T, H t = some (.tbl #[])) → L2.SqL K H a (ns.map V.int) →
      codeAny (model P w) callerA (.call (.ref fa) ⟨[.ref a], []⟩) (CR CX0 [] P w H s (fun v _ => v = .bl true) fun _ _ _ => False) s) :
    codeAny (model P w) callerA (.call (.ref fa) ⟨[.ref a], []⟩) (fun r s' => r = .ok (.ret (.bool true)) ∧ OldK s.heap s'.heap ∧ s'.os = s.os ∧ AllBare s'.gens) s := by
  have rel := vals_ints isInt
  have size : (ns.map V.int).length ≤ sizeLine := by rw [List.length_map]; exact most
  have aT : a ∉ T := fun z => by
    have e := tabs a z
    rw [scr] at e
    cases congrArg Obj.data (Option.some.inj e)
  generalize hH : begH K T a vs (ns.map V.int) = H
  have tabH : ∀ t ∈ T, H t = some (.tbl #[]) := fun t ht => by rw [← hH]; exact begH_tab ht
  have orH : ∀ b, H b = none ∨ (b ∈ T ∧ H b = some (.tbl #[])) ∨ (b = a ∧ K.lookup a = none ∧ H b = some (.frz (lstO vs) (.lst (ns.map V.int)))) := fun b => by rw [← hH]; exact begH_or b
  have selfH : K.lookup a = none → H a = some (.frz (lstO vs) (.lst (ns.map V.int))) := fun e => by rw [← hH]; exact begH_self aT e
  clear hH
  -- what is neither the script nor a table is not tracked
  have off : ∀ {b : Addr} {o : Obj}, s.heap.get? b = some o → (∀ us n, o.data ≠ .seq us n) → o.data ≠ .fields #[] ∨ o.cls ≠ .none → H b = none := fun {b o} e d1 d2 => by
    rcases orH b with z | ⟨z, _⟩ | ⟨z, _⟩
    · exact z
    · rw [tabs b z] at e
      cases e
      rcases d2 with d2 | d2
      · exact absurd rfl d2
      · exact absurd rfl d2
    · rw [z, scr] at e
      cases e
      exact absurd rfl (d1 _ _)
  have low : ∀ {b : Addr} {o : Obj}, s.heap.get? b = some o → H b = none → (hidT s.heap H).get? b = some o := fun e n => hidT_get e n
  have spaces : ∀ {b : Addr} {m : Str → Option Value}, s.heap.Ns b m → (hidT s.heap H).Ns b m := fun {b m} x => by
    obtain ⟨o, es, ep, e, d, r⟩ := x
    refine ⟨o, es, ep, low e (off e (fun us n z => ?_) (.inl fun z => ?_)), d, r⟩
    · rw [d] at z; cases z
    · rw [d] at z; cases z
  have inK : K.In (hidT s.heap H) := fun b o e => low (kin b o e) (by
    rcases orH b with z | ⟨z, _⟩ | ⟨z, z2, _⟩
    · exact z
    · rw [tabK b z] at e; cases e
    · rw [z, z2] at e; cases e)
  have held : HOk P w H s.heap := fun b o e => by
    rcases orH b with z | ⟨z, z2⟩ | ⟨z, _, z2⟩
    · rw [z] at e; cases e
    · rw [z2] at e
      cases e
      exact tabs b z
    · rw [z2] at e
      cases e
      subst z
      exact ⟨scr, size, vs, _, rel, scr⟩
  have text : L2.Mod K mg (hidT s.heap H) := by
    obtain ⟨mc, l1, l2⟩ := lim
    exact ⟨inK, spaces glob, ⟨mb, spaces blt, boot⟩, ⟨mc, spaces l1, l2⟩⟩
  have start : Env0 P w K mg (hidT s.heap H) callerA [] s H := ⟨rfl, text, fun b o e => of_hidT e, Nat.le_of_eq (hidT_size _ _), trivial, fun b hb => (nomatch hb), held, .of_eq gens⟩
  have list : L2.SqL K H a (ns.map V.int) := by
    cases q : K.lookup a with
    | none => exact .inl (.inr ⟨_, selfH q⟩)
    | some o =>
      have e := kin a o q
      rw [scr] at e
      cases e
      exact .inr ⟨_, vs.toArray, _, q, rfl, rfl, rfl, by rw [List.size_toArray, isInt.length]; exact most, by simpa using rel⟩
  have mods : ∀ t ∈ T, (hidT s.heap H).BuiltinsAt mg t ∧ mainGlobals ≠ t := fun t ht => by
    obtain ⟨bm, ob, m1, m2, m3, m4, m5, m6⟩ := mod
    have n1 : bm ≠ mainGlobals := fun z => by
      obtain ⟨o, es, ep, e, d, _⟩ := glob
      rw [z, e] at m3
      cases m3
      rw [d] at m6
      cases m6
    have n2 : bm ≠ t := fun z => by
      rw [z, tabs t ht] at m3
      cases m3
      cases m6
    refine ⟨⟨bm, ob, m1, m2, n1, n2, low m3 (off m3 (fun us n z => ?_) (.inl fun z => ?_)), m4, m5, m6⟩, fun z => ?_⟩
    · rw [m6] at z; cases z
    · rw [m6] at z; cases z
    · obtain ⟨o, es, ep, e, d, _⟩ := glob
      rw [z, tabs t ht] at e
      cases e
      cases d
  refine codeAny_mono (run _ H start mods tabH list) fun r s' h => ?_
  match r, h with
  | .ok (.ret u), h =>
    obtain ⟨v, H', sys, bare, un, held', rv, q⟩ := h
    have q : v = .bl true := q
    subst q
    have eu : u = Value.bool true := rv
    subst eu
    have same : ∀ b o, b ∉ T → s.heap.get? b = some o → s'.heap.get? b = some o := fun b o nb e => by
      rcases orH b with z | ⟨z, _⟩ | ⟨z, _, z2⟩
      · exact un.keep b o e z (fun y => (nomatch y)) (fun y => (nomatch y))
      · exact absurd z nb
      · have w2 := (held' b _ (un.frzs b _ _ z2)).1
        rw [z, scr] at e
        cases e
        exact w2
    have grown : ∀ t ∈ T, ∃ more : Array Value, s'.heap.get? t = some { cls := .none, data := .fields more } := fun t ht => by
      obtain ⟨more, z⟩ := un.tbls t _ (tabH t ht)
      exact ⟨_, held' t _ z⟩
    refine ⟨rfl, ⟨fun b o e => ?_, fun b o e => ?_⟩, sys, bare⟩
    · by_cases hb : b ∈ T
      · obtain ⟨more, hm⟩ := grown b hb
        have e2 := tabs b hb
        rw [e] at e2
        cases e2
        exact .inr (.inl ⟨tabC b hb, rfl, #[], more, rfl, by rw [Array.empty_append]; exact hm⟩)
      · exact .inl (same b o hb e)
    · by_cases hb : b ∈ T
      · obtain ⟨more, hm⟩ := grown b hb
        exact ⟨_, hm⟩
      · exact ⟨o, same b o hb e⟩
  | .ok .next, h => exact h.elim
  | .ok .brk, h => exact h.elim
  | .ok .cont, h => exact h.elim
  | .error e, h => exact h.elim
end G3
end
section
set_option maxHeartbeats 4000000
/-! the law over the head -/
namespace G3
open PySem PySem.Spec PyProof.Rows L2
theorem nodup_inj {α β : Type} {f : α → β} : ∀ {l : List α}, (l.map f).Nodup → ∀ {x y : α}, x ∈ l → y ∈ l → f x = f y → x = y
  | [], _, _, _, hx, _, _ => nomatch hx
  | z :: r, h, x, y, hx, hy, e => by
    rw [List.map_cons, List.nodup_cons] at h
    rcases List.mem_cons.mp hx with ex | hx
    · rcases List.mem_cons.mp hy with ey | hy
      · rw [ex, ey]
      · exact absurd (List.mem_map.mpr ⟨y, hy, by rw [← e, ex]⟩) h.1
    · rcases List.mem_cons.mp hy with ey | hy
      · exact absurd (List.mem_map.mpr ⟨x, hx, by rw [e, ey]⟩) h.1
      · exact nodup_inj h.2 hx hy e
/-- the defs with lambdas: their tables, what the lambdas are called -/
def tts (K : PySem.W.Frag) : List (Addr × Str) := tf.map fun p => ((He.cT K p).2, p.1 ++ (".<locals>.<lambda>" : Str))
theorem lam_of {K : PySem.W.Frag} {base h : Heap} {mg : Str → Option Value} {w : World} {x : Str} {cdv : Value} (c : He.SaysX fa fn [] tf ex w h K) (X : K.In base) (B : ∀ t ∈ tf.map (fun p => (He.cT K p).2), base.BuiltinsAt mg t ∧ mainGlobals ≠ t)
    (hx : (x, none) ∈ tf) (hc : CdOf K (He.ga K x) cdv x) : LamT base mg (tts K) cdv (x ++ (".<locals>.<lambda>" : Str)) := by
  obtain ⟨nm, oc, od, g, sl, lk, e⟩ := hc
  obtain ⟨cc, rfl⟩ := He.codeIn_ref nm
  have ec : He.codeOf K (x, none) = cc := He.codeOf_eq (p := (x, none)) lk e
  have hd := c.hd (x, none) hx
  have hB := B (He.cT K (x, none)).2 (List.mem_map.mpr ⟨_, hx, rfl⟩)
  have e1 : (He.cT K (x, none)).1 = cc := ec
  rw [e1] at hd
  refine ⟨cc, (He.cT K (x, none)).2, rfl, ⟨PySem.W.codeHd_of_K X hd, hB.1, hB.2⟩, List.mem_map.mpr ⟨_, hx, rfl⟩, fun p hp ep => ?_⟩
  obtain ⟨y, hy, rfl⟩ := List.mem_map.mp hp
  have := nodup_inj (tabs_nodup c) hy hx ep
  rw [this]
theorem fin {w : World} {s : Shared} {mg mb : Str → Option Value} {fa₀ a : Addr} {vs : List Value} {ns : List Int} {K : PySem.W.Frag} (kin : K.In s.heap) (c : He.SaysX fa fn [] tf ex w s.heap K) (glob : s.heap.Ns mainGlobals mg) (blt : s.heap.Ns builtinsNs mb)
    (boot : ∀ x : Str, x ≠ "__name__" → mb x = bootBuiltins x) (lim : s.heap.NoLimit) (gens : s.gens = #[])
    (mod : ∃ (bm : Addr) (ob : Obj), mg "__builtins__" = some (.ref bm) ∧ bm ≠ builtinsNs ∧ s.heap.get? bm = some ob ∧ ob.cls = .type "module" ∧ ob.dict = some builtinsNs ∧ ob.data = .plain)
    (scr : s.heap.get? a = some (lstO vs)) (isInt : IntsAre vs ns) (most : ns.length ≤ 63) (hfa : mg "law" = some (.ref fa₀)) :
    codeAny (model (PySem.Challenge.rw_bestlooks_k01_whole_ratios_and_polynomia).prog w) callerA (.call (.ref fa₀) ⟨[.ref a], []⟩) (fun r s' => r = .ok (.ret (.bool true)) ∧ OldK s.heap s'.heap ∧ s'.os = s.os ∧ AllBare s'.gens) s := by
  have T := tx_of kin glob c
  have mem : ∀ {t : Addr}, t ∈ tf.map (fun p => (He.cT K p).2) → ∃ p ∈ tf, (He.cT K p).2 = t := fun ht => let ⟨p, hp, e⟩ := List.mem_map.mp ht; ⟨p, hp, e⟩
  refine end_call (T := tf.map fun p => (He.cT K p).2) kin glob blt boot lim gens (fun t ht => ?_) (fun t ht => ?_) (fun t ht => ?_) mod scr isInt (Nat.le_trans most (by rw [sizeLine_eq]; omega)) fun base H e0 B hT hS => ?_
  · obtain ⟨p, hp, rfl⟩ := mem ht
    exact c.empty p hp
  · obtain ⟨p, hp, rfl⟩ := mem ht
    exact c.out p hp
  · obtain ⟨p, hp, rfl⟩ := mem ht
    exact ((PySem.W.codeHd_of_K kin (c.hd p hp)).tab (c.empty p hp)).isCodeTable
  · have inB : K.In base := e0.mod.kin
    have m0 : (("law" : Str), (none : Option Str)) ∈ tf := List.mem_cons_self
    have m1 : (("_law_ratios_right" : Str), (none : Option Str)) ∈ tf := List.mem_cons_of_mem _ List.mem_cons_self
    have m2 : (("_law_made_right" : Str), (none : Option Str)) ∈ tf := List.mem_cons_of_mem _ (List.mem_cons_of_mem _ List.mem_cons_self)
    have m3 : (("_law_divided_right" : Str), (none : Option Str)) ∈ tf := List.mem_cons_of_mem _ (List.mem_cons_of_mem _ (List.mem_cons_of_mem _ List.mem_cons_self))
    obtain ⟨f, fd, ps, F, hm, kp, b⟩ := (ok_law (P := (PySem.Challenge.rw_bestlooks_k01_whole_ratios_and_polynomia).prog) (w := w) (base := base) T (Tt := tts K) (fun cdv hc => lam_of c inB B m0 hc) (fun cdv hc => lam_of c inB B m1 hc) (fun cdv hc => lam_of c inB B m2 hc) (fun cdv hc => lam_of c inB B m3 hc)).ex
    rw [hfa] at hm
    cases hm
    have tb : LamX.Tabs (tts K) H := fun p hp => by
      obtain ⟨q, hq, rfl⟩ := List.mem_map.mp hp
      exact .nil (hT _ (List.mem_map.mpr ⟨q, hq, rfl⟩))
    have sp : spLaw K (tts K) [.ref a] H (fun v _ => v = .bl true) fun _ _ _ => False := ⟨a, ns, rfl, hS, most, tb, fun _ _ => rfl⟩
    have len := F.len _ _ _ _ sp
    have bb := b s [.ref a] kin (by rw [List.append_nil]; exact len)
    rw [List.append_nil] at bb
    exact F.run callerA [] s H ⟨[.ref a], []⟩ [.ref a] [.ref a] _ _ rfl ⟨rfl, by decide, by decide⟩ e0 bb (.cons rfl .nil) sp
end G3
end
set_option maxHeartbeats 0
open PySem PySem.W PySem.Calls PyProof.Rows
theorem PySem.Challenge.cw_bestlooks_k01_whole_ratios_and_polynomia_holds : PySem.Challenge.rw_bestlooks_k01_whole_ratios_and_polynomia.Holds := by
  w_on; o_law
  refine HandSHeadRun.head_imp (r := OpenLaw.row PySem.Challenge.rw_bestlooks_k01_whole_ratios_and_polynomia) (q := view (OpenLaw.row PySem.Challenge.rw_bestlooks_k01_whole_ratios_and_polynomia).prog [0, 68]) (H := G3.hk) (ob := G3.ob) (M := 40000) (loose := G3.loose)
    (d := HandSHeadRun.topDef (OpenLaw.row PySem.Challenge.rw_bestlooks_k01_whole_ratios_and_polynomia).prog 68) (kwd := []) G3.ob_eq G3.run (by kernel_rfl) (by kernel_rfl) (by kernel_rfl) (by rfl) (by first | assumption | decide +kernel) (by decide +kernel) ⟨rfl, rfl, rfl, rfl, rfl, by decide +kernel⟩ ?hw ?hc
  case hw => w_witness2
  case hc =>
    refine Att.attach_callB (l := PySem.Challenge.rw_bestlooks_k01_whole_ratios_and_polynomia) (n := 63) rfl (by kernel_rfl) fun w s₀ s₁ mg mb fa o pm cd doc a vs ns G Y ho hd hcd hmg hobj hints hlen hbits hg => ?_
    obtain ⟨K, KX, c⟩ := Y
    have name : (HandSHeadRun.topDef (OpenLaw.row PySem.Challenge.rw_bestlooks_k01_whole_ratios_and_polynomia).prog 68).name = ("law" : PySem.Str) := by kernel_rfl
    rw [name] at hmg
    exact G3.fin KX c G.T.g G.T.b G.T.builtins G.T.nolimit hg G.T.bmain hobj hints hlen hmg
