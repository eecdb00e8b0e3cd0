/-
  The functions' numbers, written by program.
-/
namespace Go.Proofs.Ythcnmahjhahafaa.Ax
abbrev f_laws_eqIntS : Nat := 26
abbrev f_laws_markIntS : Nat := 28
abbrev f_laws_heldIntS : Nat := 29
abbrev f_laws_toIntS : Nat := 37
abbrev f_impl_order_less : Nat := 62
abbrev f_impl_order_those : Nat := 64
abbrev f_impl_hasNot : Nat := 74
abbrev f_spec_l1In : Nat := 82
abbrev f_impl_newOrder : Nat := 85
abbrev f_impl_order_isOrder : Nat := 86
abbrev f_laws_szIntS : Nat := 92
abbrev f_spec_l1Has : Nat := 94
abbrev f_impl_rises : Nat := 96
abbrev f_impl_inSize : Nat := 97
abbrev f_spec_l1Own : Nat := 98
abbrev f_laws_szIntSS : Nat := 52
abbrev f_laws_toIntSS : Nat := 54
abbrev f_impl_orderOf : Nat := 55
abbrev f_laws_eqIntSS : Nat := 56
abbrev f_impl_order_none : Nat := 60
abbrev f_laws_markIntSS : Nat := 67
abbrev f_impl_FirstExtension_1 : Nat := 75
abbrev f_spec_l1Rising : Nat := 93
abbrev f_spec_l5Within : Nat := 95
abbrev f_laws_szPoset : Nat := 15
abbrev f_laws_toPoset : Nat := 17
abbrev f_laws_eqPoset : Nat := 19
abbrev f_laws_markPoset : Nat := 27
abbrev f_impl_FirstExtension : Nat := 35
abbrev f_spec_l23Good : Nat := 53
abbrev f_spec_l23First : Nat := 73
abbrev f_spec_FirstExtension : Nat := 34
abbrev f_laws_FnExactFirstExtension : Nat := 9
end Go.Proofs.Ythcnmahjhahafaa.Ax
