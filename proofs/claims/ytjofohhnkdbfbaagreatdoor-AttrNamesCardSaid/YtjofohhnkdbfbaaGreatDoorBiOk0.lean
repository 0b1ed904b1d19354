/- THE SEAT's PARAMETERS ARE RIGHT. MADE BY PROGRAM (genok.py). -/
import Derived.Test.YtjofohhnkdbfbaaGreatDoorBi5
import Derived.Test.YtjofohhnkdbfbaaGreatDoorBiTy0
import Derived.Test.YtjofohhnkdbfbaaGreatDoorBiFn0
import Derived.Test.YtjofohhnkdbfbaaGreatDoorBi5
import Derived.Test.YtjofohhnkdbfbaaGreatDoorBiX2
import Derived.KernelRfl
set_option linter.unusedVariables false
set_option maxRecDepth 100000
namespace Go.Proofs.YtjofohhnkdbfbaaGreatDoor
open Go Go.BI
theorem insOk242 : InsOk Tryz.prog 242 151 (Value.int .u64 0).cells where
  shift := insert_shift
  grow := fun b off n c i vb voff m vc cs vs w h1 h2 h3 h4 h5 h6 h7 h8 h9 h10 h11 => ⟨grownCap w (n + m) c 151, grownCap_ge w _ _ _, insert_grow b off n c i vb voff m vc cs vs w h1 h2 h3 h4 h5 h6 h7 h8 h9 h10 h11⟩
  zs1 := rfl
theorem sp242 : SemOk par 242 (insRow par 242) := insRow_ok parT Tryz.func242 fok242.2.1 rfl insOk242
theorem sp248 : SemOk par 248 identB := by
  have h := noEscape_ok (par := par) (f := 248) (fn := Tryz.f248) Tryz.func248
  have h := h fok248.2.1
  have h := h rfl
  have h := h (by kernel_rfl)
  have h := h (by kernel_rfl)
  exact h
theorem sp281 : NatOk par 281 natCompare := by
  have h := compare_ok (par := par) (f := 281) (fn := Tryz.f281) Tryz.func281
  have h := h fok281.2.1
  have h := h rfl
  have h := h (by kernel_rfl)
  have h := h (by kernel_rfl)
  exact h
theorem sp329 : SemOk par 329 (mkBytes par 329) := by
  have h := makeNoZero_ok (par := par) parT (f := 329) (fn := Tryz.f329) (by kernel_rfl) Tryz.func329
  have h := h fok329.2.1
  have h := h rfl
  have h := h (by kernel_rfl)
  have h := h (by kernel_rfl)
  exact h
theorem sp355 : NatOk par 355 natIndexByte := by
  have h := indexByte_ok (par := par) (f := 355) (fn := Tryz.f355) Tryz.func355
  have h := h fok355.2.1
  have h := h rfl
  have h := h (by kernel_rfl)
  have h := h (by kernel_rfl)
  exact h
attribute [local irreducible] NextOk
theorem kindsAll : ktab.All fun f k => SpecK par f k :=
  (.node (SpecK.refs) (.node (SpecK.refs) (.node (SpecK.keeps) (.node (SpecK.keeps) (.node (SpecK.keeps) (.node (SpecK.keeps) (.node (SpecK.keeps) .leaf .leaf) .leaf) (.node (SpecK.keeps) .leaf .leaf)) (.node (SpecK.keeps) (.node (SpecK.keeps) (.node (SpecK.keeps) .leaf .leaf) .leaf) (.node (SpecK.keeps) .leaf .leaf))) (.node (SpecK.refs) (.node (SpecK.refs) (.node (SpecK.refs) (.node (SpecK.keeps) .leaf .leaf) .leaf) (.node (SpecK.keeps) .leaf .leaf)) (.node (SpecK.refs) (.node (SpecK.refs) .leaf .leaf) (.node (SpecK.refs) .leaf .leaf)))) (.node (SpecK.refs) (.node (SpecK.keeps) (.node (SpecK.keeps) (.node (SpecK.refs) (.node (SpecK.keeps) .leaf .leaf) .leaf) (.node (SpecK.keeps) .leaf .leaf)) (.node (SpecK.refs) (.node (SpecK.refs) (.node (SpecK.keeps) .leaf .leaf) .leaf) (.node (SpecK.keeps) .leaf .leaf))) (.node (SpecK.refs) (.node (SpecK.refs) (.node (SpecK.refs) (.node (SpecK.refs) .leaf .leaf) .leaf) (.node (SpecK.refs) .leaf .leaf)) (.node (SpecK.refs) (.node (SpecK.refs) .leaf .leaf) (.node (SpecK.refs) .leaf .leaf))))) (.node (SpecK.refs) (.node (SpecK.keeps) (.node (SpecK.refs) (.node (SpecK.refs) (.node (SpecK.refs) (.node (SpecK.refs) .leaf .leaf) .leaf) (.node (SpecK.refs) .leaf .leaf)) (.node (SpecK.refs) (.node (SpecK.refs) (.node (SpecK.refs) .leaf .leaf) .leaf) (.node (SpecK.refs) .leaf .leaf))) (.node (SpecK.refs) (.node (SpecK.refs) (.node (SpecK.refs) (.node (SpecK.keeps) .leaf .leaf) .leaf) (.node (SpecK.insert sp242) .leaf .leaf)) (.node (SpecK.refs) (.node (SpecK.ident sp248) .leaf .leaf) (.node (SpecK.refs) .leaf .leaf)))) (.node (SpecK.refs) (.node (SpecK.refs) (.node (SpecK.keeps) (.node (SpecK.refs) (.node (SpecK.refs) .leaf .leaf) .leaf) (.node (SpecK.nat sp281) .leaf .leaf)) (.node (SpecK.refs) (.node (SpecK.refs) .leaf .leaf) (.node (SpecK.refs) .leaf .leaf))) (.node (SpecK.refs) (.node (SpecK.refs) (.node (SpecK.refs) (.node (SpecK.refs) .leaf .leaf) .leaf) (.node (SpecK.refs) .leaf .leaf)) (.node (SpecK.nat sp355) (.node (SpecK.bytes sp329) .leaf .leaf) (.node (SpecK.refs) .leaf .leaf))))))
theorem parOk : ParOk par := parOk_of rfl parT parFn kindsAll
theorem laid0 : LaidAt Tryz.prog par.T Rows.attrNamesRow.laid 0 (cellsOfData Rows.laid_postmark_oid_known) := ⟨("postmark/oid.known", Rows.laid_postmark_oid_known), List.mem_of_getElem? (i := 11) rfl, by kernel_rfl, _, 9, rfl, by kernel_rfl⟩
theorem laid1 : LaidAt Tryz.prog par.T Rows.attrNamesRow.laid 1 (cellsOfData Rows.laid_postmark_cert_kinds) := ⟨("postmark/cert.kinds", Rows.laid_postmark_cert_kinds), List.mem_of_getElem? (i := 12) rfl, by kernel_rfl, _, 9, rfl, by kernel_rfl⟩
theorem laid2 : LaidAt Tryz.prog par.T Rows.attrNamesRow.laid 2 (cellsOfData Rows.laid_postmark_mask_sizes) := ⟨("postmark/mask.sizes", Rows.laid_postmark_mask_sizes), List.mem_of_getElem? (i := 10) rfl, by kernel_rfl, _, 9, rfl, by kernel_rfl⟩
theorem laid3 : LaidAt Tryz.prog par.T Rows.attrNamesRow.laid 3 (cellsOfData Rows.laid_postmark_sha256_first) := ⟨("postmark/sha256.first", Rows.laid_postmark_sha256_first), List.mem_of_getElem? (i := 7) rfl, by kernel_rfl, _, 9, rfl, by kernel_rfl⟩
theorem laid4 : LaidAt Tryz.prog par.T Rows.attrNamesRow.laid 4 (cellsOfData Rows.laid_postmark_sha512_square) := ⟨("postmark/sha512.square", Rows.laid_postmark_sha512_square), List.mem_of_getElem? (i := 9) rfl, by kernel_rfl, _, 9, rfl, by kernel_rfl⟩
theorem laid5 : LaidAt Tryz.prog par.T Rows.attrNamesRow.laid 5 (cellsOfData Rows.laid_postmark_sha256_cubes) := ⟨("postmark/sha256.cubes", Rows.laid_postmark_sha256_cubes), List.mem_of_getElem? (i := 6) rfl, by kernel_rfl, _, 9, rfl, by kernel_rfl⟩
theorem laid6 : LaidAt Tryz.prog par.T Rows.attrNamesRow.laid 6 (cellsOfData Rows.laid_postmark_sha512_cubes) := ⟨("postmark/sha512.cubes", Rows.laid_postmark_sha512_cubes), List.mem_of_getElem? (i := 8) rfl, by kernel_rfl, _, 9, rfl, by kernel_rfl⟩
theorem laid7 : LaidAt Tryz.prog par.T Rows.attrNamesRow.laid 7 (cellsOfData Rows.laid_strconv_ErrSyntax) := ⟨("strconv.ErrSyntax", Rows.laid_strconv_ErrSyntax), List.mem_of_getElem? (i := 5) rfl, by kernel_rfl, _, 9, rfl, by kernel_rfl⟩
theorem laid8 : LaidAt Tryz.prog par.T Rows.attrNamesRow.laid 8 (cellsOfData Rows.laid_strconv_ErrRange) := ⟨("strconv.ErrRange", Rows.laid_strconv_ErrRange), List.mem_of_getElem? (i := 4) rfl, by kernel_rfl, _, 9, rfl, by kernel_rfl⟩
theorem laid9 : LaidAt Tryz.prog par.T Rows.attrNamesRow.laid 9 (cellsOfData Rows.laid_unicode_utf8_first) := ⟨("unicode/utf8.first", Rows.laid_unicode_utf8_first), List.mem_of_getElem? (i := 13) rfl, by kernel_rfl, _, 9, rfl, by kernel_rfl⟩
theorem laid10 : LaidAt Tryz.prog par.T Rows.attrNamesRow.laid 10 (cellsOfData Rows.laid_unicode_utf8_acceptRanges) := ⟨("unicode/utf8.acceptRanges", Rows.laid_unicode_utf8_acceptRanges), List.mem_of_getElem? (i := 3) rfl, by kernel_rfl, _, 9, rfl, by kernel_rfl⟩
theorem laid12 : LaidAt Tryz.prog par.T Rows.attrNamesRow.laid 12 (cellsOfData Rows.laid_internal_strconv_uint64pow10) := ⟨("internal/strconv.uint64pow10", Rows.laid_internal_strconv_uint64pow10), List.mem_of_getElem? (i := 2) rfl, by kernel_rfl, _, 9, rfl, by kernel_rfl⟩
theorem laid13 : LaidAt Tryz.prog par.T Rows.attrNamesRow.laid 13 (cellsOfData Rows.laid_math_bits_deBruijn32tab) := ⟨("math/bits.deBruijn32tab", Rows.laid_math_bits_deBruijn32tab), List.mem_of_getElem? (i := 0) rfl, by kernel_rfl, _, 9, rfl, by kernel_rfl⟩
theorem laid14 : LaidAt Tryz.prog par.T Rows.attrNamesRow.laid 14 (cellsOfData Rows.laid_math_bits_deBruijn64tab) := ⟨("math/bits.deBruijn64tab", Rows.laid_math_bits_deBruijn64tab), List.mem_of_getElem? (i := 1) rfl, by kernel_rfl, _, 9, rfl, by kernel_rfl⟩
theorem laidAll : gtab.All fun i xs => LaidAt Tryz.prog par.T Rows.attrNamesRow.laid i xs :=
  (.node (laid7) (.node (laid3) (.node (laid1) (.node (laid0) .leaf .leaf) (.node (laid2) .leaf .leaf)) (.node (laid5) (.node (laid4) .leaf .leaf) (.node (laid6) .leaf .leaf))) (.node (laid12) (.node (laid9) (.node (laid8) .leaf .leaf) (.node (laid10) .leaf .leaf)) (.node (laid14) (.node (laid13) .leaf .leaf) .leaf)))
theorem globOk {w : World} (h : laidMet Tryz.prog Rows.attrNamesRow.laid w) : GlobOk par w (Gh.shut w (GlobS par)) ∧ ∀ a, GlobS par a → a.spot = none ∧ ∃ v, w.cell? a = some v :=
  globOk_of_laid parT h fun i => laidAll.get [] i
end Go.Proofs.YtjofohhnkdbfbaaGreatDoor
