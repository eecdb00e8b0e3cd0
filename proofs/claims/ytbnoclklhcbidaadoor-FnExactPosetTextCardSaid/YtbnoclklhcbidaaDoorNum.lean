/-
  The functions' numbers, written by program.
-/
namespace Go.Proofs.YtbnoclklhcbidaaDoor.Ax
abbrev f_strings_Builder_WriteString : Nat := 33
abbrev f_strconv_Itoa : Nat := 34
abbrev f_strings_Builder_String : Nat := 36
abbrev f_laws_szIntS : Nat := 59
abbrev f_spec_l1Has : Nat := 61
abbrev f_spec_l1Num : Nat := 63
abbrev f_laws_toIntS : Nat := 65
abbrev f_impl_newOrder : Nat := 66
abbrev f_impl_rises : Nat := 67
abbrev f_impl_inSize : Nat := 68
abbrev f_impl_order_isOrder : Nat := 69
abbrev f_laws_eqIntS : Nat := 73
abbrev f_spec_l1In : Nat := 93
abbrev f_impl_order_less : Nat := 97
abbrev f_laws_szIntSS : Nat := 28
abbrev f_laws_toIntSS : Nat := 31
abbrev f_impl_orderOf : Nat := 32
abbrev f_laws_eqIntSS : Nat := 37
abbrev f_spec_l1Rising : Nat := 60
abbrev f_spec_l5Within : Nat := 62
abbrev f_impl_order_covers : Nat := 72
abbrev f_spec_l23Leq : Nat := 108
abbrev f_laws_szPoset : Nat := 5
abbrev f_laws_toPoset : Nat := 7
abbrev f_laws_eqPoset : Nat := 9
abbrev f_spec_l23Good : Nat := 29
abbrev f_impl_order_coverPairs : Nat := 35
abbrev f_spec_l23Less : Nat := 103
abbrev f_impl_PosetText : Nat := 8
abbrev f_spec_l23Covers : Nat := 94
abbrev f_spec_l23Pairs : Nat := 64
abbrev f_spec_l23Text : Nat := 30
abbrev f_spec_PosetText : Nat := 6
abbrev f_laws_FnExactPosetText : Nat := 3
end Go.Proofs.YtbnoclklhcbidaaDoor.Ax
