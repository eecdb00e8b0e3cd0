/-
  The functions' numbers, written by program.
-/
namespace Go.Proofs.Ytpfikenknmlajaa.Ax
abbrev f_impl_order_less : Nat := 39
abbrev f_laws_eqIntS : Nat := 40
abbrev f_laws_markIntS : Nat := 41
abbrev f_laws_heldIntS : Nat := 42
abbrev f_impl_newOrder : Nat := 53
abbrev f_impl_order_isOrder : Nat := 54
abbrev f_laws_szIntS : Nat := 64
abbrev f_spec_l1Has : Nat := 66
abbrev f_laws_toIntS : Nat := 70
abbrev f_impl_rises : Nat := 71
abbrev f_impl_inSize : Nat := 72
abbrev f_spec_l1In : Nat := 80
abbrev f_impl_widthOf_1 : Nat := 81
abbrev f_laws_eqIntSS : Nat := 9
abbrev f_laws_markIntSS : Nat := 12
abbrev f_laws_heldIntSS : Nat := 13
abbrev f_laws_szIntSS : Nat := 32
abbrev f_laws_toIntSS : Nat := 36
abbrev f_impl_orderOf : Nat := 37
abbrev f_spec_l1Rising : Nat := 65
abbrev f_spec_l5Within : Nat := 67
abbrev f_spec_l23Leq : Nat := 69
abbrev f_impl_widthOf : Nat := 73
abbrev f_impl_order_fewest_1 : Nat := 74
abbrev f_laws_szPoset : Nat := 5
abbrev f_laws_toPoset : Nat := 7
abbrev f_laws_eqPoset : Nat := 10
abbrev f_laws_markPoset : Nat := 11
abbrev f_spec_l23Good : Nat := 33
abbrev f_spec_l23Less : Nat := 35
abbrev f_impl_order_fewest : Nat := 38
abbrev f_impl_FewestChains : Nat := 8
abbrev f_spec_l23Match : Nat := 68
abbrev f_spec_l23Followers : Nat := 34
abbrev f_spec_FewestChains : Nat := 6
abbrev f_laws_FnExactFewestChains : Nat := 3
end Go.Proofs.Ytpfikenknmlajaa.Ax
