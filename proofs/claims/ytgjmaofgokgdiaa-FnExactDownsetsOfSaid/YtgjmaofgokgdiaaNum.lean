/-
  The functions' numbers, written by program.
-/
namespace Go.Proofs.Ytgjmaofgokgdiaa.Ax
abbrev f_laws_eqIntS : Nat := 144
abbrev f_laws_markIntS : Nat := 145
abbrev f_laws_heldIntS : Nat := 146
abbrev f_impl_marks : Nat := 153
abbrev f_spec_l5List : Nat := 157
abbrev f_spec_l1Has : Nat := 166
abbrev f_impl_bitsOf : Nat := 172
abbrev f_spec_l5Bits : Nat := 173
abbrev f_spec_l5Less : Nat := 178
abbrev f_impl_inSize : Nat := 196
abbrev f_spec_l1In : Nat := 217
abbrev f_impl_compareLists : Nat := 243
abbrev f_impl_newOrder : Nat := 251
abbrev f_impl_order_isOrder : Nat := 252
abbrev f_laws_szIntS : Nat := 306
abbrev f_spec_l1Same : Nat := 308
abbrev f_laws_toIntS : Nat := 311
abbrev f_impl_rises : Nat := 312
abbrev f_impl_sortRows_1 : Nat := 319
abbrev f_laws_eqIntSS : Nat := 18
abbrev f_laws_markIntSS : Nat := 21
abbrev f_laws_heldIntSS : Nat := 22
abbrev f_laws_szIntSS : Nat := 138
abbrev f_laws_toIntSS : Nat := 141
abbrev f_impl_orderOf : Nat := 142
abbrev f_impl_sortRows : Nat := 176
abbrev f_impl_compareTerms : Nat := 177
abbrev f_spec_l5Within : Nat := 184
abbrev f_spec_l1Rising : Nat := 307
abbrev f_spec_l23Down : Nat := 309
abbrev f_spec_l5Sort : Nat := 310
abbrev f_impl_order_isDownset : Nat := 313
abbrev f_laws_szPoset : Nat := 14
abbrev f_laws_toPoset : Nat := 16
abbrev f_laws_eqPoset : Nat := 19
abbrev f_laws_markPoset : Nat := 20
abbrev f_spec_l23Good : Nat := 139
abbrev f_spec_l23Downsets : Nat := 140
abbrev f_impl_order_downsets : Nat := 143
abbrev f_spec_DownsetsOf : Nat := 15
abbrev f_impl_DownsetsOf : Nat := 17
abbrev f_laws_FnExactDownsetsOf : Nat := 3
end Go.Proofs.Ytgjmaofgokgdiaa.Ax
