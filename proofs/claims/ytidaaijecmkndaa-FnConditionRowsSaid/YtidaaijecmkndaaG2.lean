/-
 What the functions compute, as functions on plain data, and that the program does compute it; written by program.
-/
import Derived.Test.YtidaaijecmkndaaCode
import Derived.Test.YtidaaijecmkndaaG1
namespace Go.Proofs.Ytidaaijecmkndaa.Ax
open Go
set_option maxRecDepth 100000
set_option maxHeartbeats 4000000
noncomputable def Fy (name0 : ByteArray) : Option SCondition :=
 if (name0.toList == ({ data := #[(109 : UInt8), (97 : UInt8), (108 : UInt8), (99 : UInt8), (101 : UInt8), (118 : UInt8)] } : ByteArray).toList) = true then
 some ({ Arity := (3 : Int), Rules := [{ Left := [(0 : Int), (1 : Int), (1 : Int)], Right := [(0 : Int)] }, { Left := [(0 : Int), (0 : Int), (1 : Int)], Right := [(1 : Int)] }] })
 else
 if (name0.toList == ({ data := #[(109 : UInt8), (97 : UInt8), (106 : UInt8), (111 : UInt8), (114 : UInt8), (105 : UInt8), (116 : UInt8), (121 : UInt8)] } : ByteArray).toList) = true then
 some ({ Arity := (3 : Int), Rules := [{ Left := [(0 : Int), (0 : Int), (1 : Int)], Right := [(0 : Int)] }, { Left := [(0 : Int), (1 : Int), (0 : Int)], Right := [(0 : Int)] }, { Left := [(1 : Int), (0 : Int), (0 : Int)], Right := [(0 : Int)] }] })
 else
 if (name0.toList == ({ data := #[(109 : UInt8), (105 : UInt8), (110 : UInt8), (111 : UInt8), (114 : UInt8), (105 : UInt8), (116 : UInt8), (121 : UInt8)] } : ByteArray).toList) = true then
 some ({ Arity := (3 : Int), Rules := [{ Left := [(0 : Int), (0 : Int), (1 : Int)], Right := [(1 : Int)] }, { Left := [(0 : Int), (1 : Int), (0 : Int)], Right := [(1 : Int)] }, { Left := [(1 : Int), (0 : Int), (0 : Int)], Right := [(1 : Int)] }] })
 else
 if (name0.toList == ({ data := #[(112 : UInt8), (105 : UInt8), (120 : UInt8), (108 : UInt8), (101 : UInt8), (121 : UInt8)] } : ByteArray).toList) = true then
 some ({ Arity := (3 : Int), Rules := [{ Left := [(0 : Int), (1 : Int), (1 : Int)], Right := [(0 : Int)] }, { Left := [(0 : Int), (1 : Int), (0 : Int)], Right := [(0 : Int)] }, { Left := [(0 : Int), (0 : Int), (1 : Int)], Right := [(1 : Int)] }] })
 else
 if (name0.toList == ({ data := #[(99 : UInt8), (111 : UInt8), (109 : UInt8), (109 : UInt8), (117 : UInt8), (116 : UInt8), (97 : UInt8), (116 : UInt8), (105 : UInt8), (118 : UInt8), (101 : UInt8)] } : ByteArray).toList) = true then
 some ({ Arity := (2 : Int), Rules := [{ Left := [(0 : Int), (0 : Int)], Right := [(0 : Int)] }, { Left := [(0 : Int), (1 : Int)], Right := [(1 : Int), (0 : Int)] }] })
 else
 if (name0.toList == ({ data := #[(119 : UInt8), (101 : UInt8), (97 : UInt8), (107 : UInt8)] } : ByteArray).toList) = true then
 some ({ Arity := (3 : Int), Rules := [{ Left := [(0 : Int), (0 : Int), (0 : Int)], Right := [(0 : Int)] }, { Left := [(0 : Int), (0 : Int), (1 : Int)], Right := [(0 : Int), (1 : Int), (0 : Int)] }, { Left := [(0 : Int), (1 : Int), (0 : Int)], Right := [(1 : Int), (0 : Int), (0 : Int)] }] })
 else
 some ({ Arity := (0 : Int), Rules := Ba SRule })
theorem Xl {name0 : ByteArray} {v : SCondition} (h : Fy name0 = some v) : Ret Try.prog Kj [V.str name0] ((Ag true) v) := by
 refine Bg X7 (Nat.le_of_ble_eq_true rfl) ?_
 unfold Fy at h
 conv => whnf
 refine Br.ob h (fun p1 h => ?_) (fun p1 h => ?_)
 ·conv => whnf
  refine BslQ.o Ae ([(0 : Int), (1 : Int), (1 : Int)]) (by exact fun _ => ⟨rfl, rfl⟩) (by first | rfl | simp only [Aa, V.fz, fzL, V.up, upL, Ab, Ac, Ad, slr, List.cons_append, List.nil_append] | simp [Aa, V.fz, fzL, V.up, upL, Ab, Ac, Ad, slr]) ?_
  conv => whnf
  refine BslQ.o Ae ([(0 : Int)]) (by exact fun _ => ⟨rfl, rfl⟩) (by first | rfl | simp only [Aa, V.fz, fzL, V.up, upL, Ab, Ac, Ad, slr, List.cons_append, List.nil_append] | simp [Aa, V.fz, fzL, V.up, upL, Ab, Ac, Ad, slr]) ?_
  conv => whnf
  refine BslQ.o Ae ([(0 : Int), (0 : Int), (1 : Int)]) (by exact fun _ => ⟨rfl, rfl⟩) (by first | rfl | simp only [Aa, V.fz, fzL, V.up, upL, Ab, Ac, Ad, slr, List.cons_append, List.nil_append] | simp [Aa, V.fz, fzL, V.up, upL, Ab, Ac, Ad, slr]) ?_
  conv => whnf
  refine BslQ.o Ae ([(1 : Int)]) (by exact fun _ => ⟨rfl, rfl⟩) (by first | rfl | simp only [Aa, V.fz, fzL, V.up, upL, Ab, Ac, Ad, slr, List.cons_append, List.nil_append] | simp [Aa, V.fz, fzL, V.up, upL, Ab, Ac, Ad, slr]) ?_
  conv => whnf
  refine BslQ.o (Bb true) ([{ Left := [(0 : Int), (1 : Int), (1 : Int)], Right := [(0 : Int)] }, { Left := [(0 : Int), (0 : Int), (1 : Int)], Right := [(1 : Int)] }]) (by exact fun _ => ⟨rfl, rfl⟩) (by first | rfl | simp only [Aa, V.fz, fzL, V.up, upL, Ab, Ac, Ad, slr, List.cons_append, List.nil_append] | simp [Aa, V.fz, fzL, V.up, upL, Ab, Ac, Ad, slr]) ?_
  conv => whnf
  refine SetKids.lit rfl ?_
  conv => whnf
  cases h; exact (by first | rfl | simp only [Ah, Aa, V.fz, fzL, V.up, upL, Ab, Ac, Ad, slr] | simp [Ah, Aa, V.fz, fzL, V.up, upL, Ab, Ac, Ad, slr])
 conv => whnf
 refine Br.ob h (fun p2 h => ?_) (fun p2 h => ?_)
 ·conv => whnf
  refine BslQ.o Ae ([(0 : Int), (0 : Int), (1 : Int)]) (by exact fun _ => ⟨rfl, rfl⟩) (by first | rfl | simp only [Aa, V.fz, fzL, V.up, upL, Ab, Ac, Ad, slr, List.cons_append, List.nil_append] | simp [Aa, V.fz, fzL, V.up, upL, Ab, Ac, Ad, slr]) ?_
  conv => whnf
  refine BslQ.o Ae ([(0 : Int)]) (by exact fun _ => ⟨rfl, rfl⟩) (by first | rfl | simp only [Aa, V.fz, fzL, V.up, upL, Ab, Ac, Ad, slr, List.cons_append, List.nil_append] | simp [Aa, V.fz, fzL, V.up, upL, Ab, Ac, Ad, slr]) ?_
  conv => whnf
  refine BslQ.o Ae ([(0 : Int), (1 : Int), (0 : Int)]) (by exact fun _ => ⟨rfl, rfl⟩) (by first | rfl | simp only [Aa, V.fz, fzL, V.up, upL, Ab, Ac, Ad, slr, List.cons_append, List.nil_append] | simp [Aa, V.fz, fzL, V.up, upL, Ab, Ac, Ad, slr]) ?_
  conv => whnf
  refine BslQ.o Ae ([(0 : Int)]) (by exact fun _ => ⟨rfl, rfl⟩) (by first | rfl | simp only [Aa, V.fz, fzL, V.up, upL, Ab, Ac, Ad, slr, List.cons_append, List.nil_append] | simp [Aa, V.fz, fzL, V.up, upL, Ab, Ac, Ad, slr]) ?_
  conv => whnf
  refine BslQ.o Ae ([(1 : Int), (0 : Int), (0 : Int)]) (by exact fun _ => ⟨rfl, rfl⟩) (by first | rfl | simp only [Aa, V.fz, fzL, V.up, upL, Ab, Ac, Ad, slr, List.cons_append, List.nil_append] | simp [Aa, V.fz, fzL, V.up, upL, Ab, Ac, Ad, slr]) ?_
  conv => whnf
  refine BslQ.o Ae ([(0 : Int)]) (by exact fun _ => ⟨rfl, rfl⟩) (by first | rfl | simp only [Aa, V.fz, fzL, V.up, upL, Ab, Ac, Ad, slr, List.cons_append, List.nil_append] | simp [Aa, V.fz, fzL, V.up, upL, Ab, Ac, Ad, slr]) ?_
  conv => whnf
  refine BslQ.o (Bb true) ([{ Left := [(0 : Int), (0 : Int), (1 : Int)], Right := [(0 : Int)] }, { Left := [(0 : Int), (1 : Int), (0 : Int)], Right := [(0 : Int)] }, { Left := [(1 : Int), (0 : Int), (0 : Int)], Right := [(0 : Int)] }]) (by exact fun _ => ⟨rfl, rfl⟩) (by first | rfl | simp only [Aa, V.fz, fzL, V.up, upL, Ab, Ac, Ad, slr, List.cons_append, List.nil_append] | simp [Aa, V.fz, fzL, V.up, upL, Ab, Ac, Ad, slr]) ?_
  conv => whnf
  refine SetKids.lit rfl ?_
  conv => whnf
  cases h; exact (by first | rfl | simp only [Ah, Aa, V.fz, fzL, V.up, upL, Ab, Ac, Ad, slr] | simp [Ah, Aa, V.fz, fzL, V.up, upL, Ab, Ac, Ad, slr])
 conv => whnf
 refine Br.ob h (fun p3 h => ?_) (fun p3 h => ?_)
 ·conv => whnf
  refine BslQ.o Ae ([(0 : Int), (0 : Int), (1 : Int)]) (by exact fun _ => ⟨rfl, rfl⟩) (by first | rfl | simp only [Aa, V.fz, fzL, V.up, upL, Ab, Ac, Ad, slr, List.cons_append, List.nil_append] | simp [Aa, V.fz, fzL, V.up, upL, Ab, Ac, Ad, slr]) ?_
  conv => whnf
  refine BslQ.o Ae ([(1 : Int)]) (by exact fun _ => ⟨rfl, rfl⟩) (by first | rfl | simp only [Aa, V.fz, fzL, V.up, upL, Ab, Ac, Ad, slr, List.cons_append, List.nil_append] | simp [Aa, V.fz, fzL, V.up, upL, Ab, Ac, Ad, slr]) ?_
  conv => whnf
  refine BslQ.o Ae ([(0 : Int), (1 : Int), (0 : Int)]) (by exact fun _ => ⟨rfl, rfl⟩) (by first | rfl | simp only [Aa, V.fz, fzL, V.up, upL, Ab, Ac, Ad, slr, List.cons_append, List.nil_append] | simp [Aa, V.fz, fzL, V.up, upL, Ab, Ac, Ad, slr]) ?_
  conv => whnf
  refine BslQ.o Ae ([(1 : Int)]) (by exact fun _ => ⟨rfl, rfl⟩) (by first | rfl | simp only [Aa, V.fz, fzL, V.up, upL, Ab, Ac, Ad, slr, List.cons_append, List.nil_append] | simp [Aa, V.fz, fzL, V.up, upL, Ab, Ac, Ad, slr]) ?_
  conv => whnf
  refine BslQ.o Ae ([(1 : Int), (0 : Int), (0 : Int)]) (by exact fun _ => ⟨rfl, rfl⟩) (by first | rfl | simp only [Aa, V.fz, fzL, V.up, upL, Ab, Ac, Ad, slr, List.cons_append, List.nil_append] | simp [Aa, V.fz, fzL, V.up, upL, Ab, Ac, Ad, slr]) ?_
  conv => whnf
  refine BslQ.o Ae ([(1 : Int)]) (by exact fun _ => ⟨rfl, rfl⟩) (by first | rfl | simp only [Aa, V.fz, fzL, V.up, upL, Ab, Ac, Ad, slr, List.cons_append, List.nil_append] | simp [Aa, V.fz, fzL, V.up, upL, Ab, Ac, Ad, slr]) ?_
  conv => whnf
  refine BslQ.o (Bb true) ([{ Left := [(0 : Int), (0 : Int), (1 : Int)], Right := [(1 : Int)] }, { Left := [(0 : Int), (1 : Int), (0 : Int)], Right := [(1 : Int)] }, { Left := [(1 : Int), (0 : Int), (0 : Int)], Right := [(1 : Int)] }]) (by exact fun _ => ⟨rfl, rfl⟩) (by first | rfl | simp only [Aa, V.fz, fzL, V.up, upL, Ab, Ac, Ad, slr, List.cons_append, List.nil_append] | simp [Aa, V.fz, fzL, V.up, upL, Ab, Ac, Ad, slr]) ?_
  conv => whnf
  refine SetKids.lit rfl ?_
  conv => whnf
  cases h; exact (by first | rfl | simp only [Ah, Aa, V.fz, fzL, V.up, upL, Ab, Ac, Ad, slr] | simp [Ah, Aa, V.fz, fzL, V.up, upL, Ab, Ac, Ad, slr])
 conv => whnf
 refine Br.ob h (fun p4 h => ?_) (fun p4 h => ?_)
 ·conv => whnf
  refine BslQ.o Ae ([(0 : Int), (1 : Int), (1 : Int)]) (by exact fun _ => ⟨rfl, rfl⟩) (by first | rfl | simp only [Aa, V.fz, fzL, V.up, upL, Ab, Ac, Ad, slr, List.cons_append, List.nil_append] | simp [Aa, V.fz, fzL, V.up, upL, Ab, Ac, Ad, slr]) ?_
  conv => whnf
  refine BslQ.o Ae ([(0 : Int)]) (by exact fun _ => ⟨rfl, rfl⟩) (by first | rfl | simp only [Aa, V.fz, fzL, V.up, upL, Ab, Ac, Ad, slr, List.cons_append, List.nil_append] | simp [Aa, V.fz, fzL, V.up, upL, Ab, Ac, Ad, slr]) ?_
  conv => whnf
  refine BslQ.o Ae ([(0 : Int), (1 : Int), (0 : Int)]) (by exact fun _ => ⟨rfl, rfl⟩) (by first | rfl | simp only [Aa, V.fz, fzL, V.up, upL, Ab, Ac, Ad, slr, List.cons_append, List.nil_append] | simp [Aa, V.fz, fzL, V.up, upL, Ab, Ac, Ad, slr]) ?_
  conv => whnf
  refine BslQ.o Ae ([(0 : Int)]) (by exact fun _ => ⟨rfl, rfl⟩) (by first | rfl | simp only [Aa, V.fz, fzL, V.up, upL, Ab, Ac, Ad, slr, List.cons_append, List.nil_append] | simp [Aa, V.fz, fzL, V.up, upL, Ab, Ac, Ad, slr]) ?_
  conv => whnf
  refine BslQ.o Ae ([(0 : Int), (0 : Int), (1 : Int)]) (by exact fun _ => ⟨rfl, rfl⟩) (by first | rfl | simp only [Aa, V.fz, fzL, V.up, upL, Ab, Ac, Ad, slr, List.cons_append, List.nil_append] | simp [Aa, V.fz, fzL, V.up, upL, Ab, Ac, Ad, slr]) ?_
  conv => whnf
  refine BslQ.o Ae ([(1 : Int)]) (by exact fun _ => ⟨rfl, rfl⟩) (by first | rfl | simp only [Aa, V.fz, fzL, V.up, upL, Ab, Ac, Ad, slr, List.cons_append, List.nil_append] | simp [Aa, V.fz, fzL, V.up, upL, Ab, Ac, Ad, slr]) ?_
  conv => whnf
  refine BslQ.o (Bb true) ([{ Left := [(0 : Int), (1 : Int), (1 : Int)], Right := [(0 : Int)] }, { Left := [(0 : Int), (1 : Int), (0 : Int)], Right := [(0 : Int)] }, { Left := [(0 : Int), (0 : Int), (1 : Int)], Right := [(1 : Int)] }]) (by exact fun _ => ⟨rfl, rfl⟩) (by first | rfl | simp only [Aa, V.fz, fzL, V.up, upL, Ab, Ac, Ad, slr, List.cons_append, List.nil_append] | simp [Aa, V.fz, fzL, V.up, upL, Ab, Ac, Ad, slr]) ?_
  conv => whnf
  refine SetKids.lit rfl ?_
  conv => whnf
  cases h; exact (by first | rfl | simp only [Ah, Aa, V.fz, fzL, V.up, upL, Ab, Ac, Ad, slr] | simp [Ah, Aa, V.fz, fzL, V.up, upL, Ab, Ac, Ad, slr])
 conv => whnf
 refine Br.ob h (fun p5 h => ?_) (fun p5 h => ?_)
 ·conv => whnf
  refine BslQ.o Ae ([(0 : Int), (0 : Int)]) (by exact fun _ => ⟨rfl, rfl⟩) (by first | rfl | simp only [Aa, V.fz, fzL, V.up, upL, Ab, Ac, Ad, slr, List.cons_append, List.nil_append] | simp [Aa, V.fz, fzL, V.up, upL, Ab, Ac, Ad, slr]) ?_
  conv => whnf
  refine BslQ.o Ae ([(0 : Int)]) (by exact fun _ => ⟨rfl, rfl⟩) (by first | rfl | simp only [Aa, V.fz, fzL, V.up, upL, Ab, Ac, Ad, slr, List.cons_append, List.nil_append] | simp [Aa, V.fz, fzL, V.up, upL, Ab, Ac, Ad, slr]) ?_
  conv => whnf
  refine BslQ.o Ae ([(0 : Int), (1 : Int)]) (by exact fun _ => ⟨rfl, rfl⟩) (by first | rfl | simp only [Aa, V.fz, fzL, V.up, upL, Ab, Ac, Ad, slr, List.cons_append, List.nil_append] | simp [Aa, V.fz, fzL, V.up, upL, Ab, Ac, Ad, slr]) ?_
  conv => whnf
  refine BslQ.o Ae ([(1 : Int), (0 : Int)]) (by exact fun _ => ⟨rfl, rfl⟩) (by first | rfl | simp only [Aa, V.fz, fzL, V.up, upL, Ab, Ac, Ad, slr, List.cons_append, List.nil_append] | simp [Aa, V.fz, fzL, V.up, upL, Ab, Ac, Ad, slr]) ?_
  conv => whnf
  refine BslQ.o (Bb true) ([{ Left := [(0 : Int), (0 : Int)], Right := [(0 : Int)] }, { Left := [(0 : Int), (1 : Int)], Right := [(1 : Int), (0 : Int)] }]) (by exact fun _ => ⟨rfl, rfl⟩) (by first | rfl | simp only [Aa, V.fz, fzL, V.up, upL, Ab, Ac, Ad, slr, List.cons_append, List.nil_append] | simp [Aa, V.fz, fzL, V.up, upL, Ab, Ac, Ad, slr]) ?_
  conv => whnf
  refine SetKids.lit rfl ?_
  conv => whnf
  cases h; exact (by first | rfl | simp only [Ah, Aa, V.fz, fzL, V.up, upL, Ab, Ac, Ad, slr] | simp [Ah, Aa, V.fz, fzL, V.up, upL, Ab, Ac, Ad, slr])
 conv => whnf
 refine Br.ob h (fun p6 h => ?_) (fun p6 h => ?_)
 ·conv => whnf
  refine BslQ.o Ae ([(0 : Int), (0 : Int), (0 : Int)]) (by exact fun _ => ⟨rfl, rfl⟩) (by first | rfl | simp only [Aa, V.fz, fzL, V.up, upL, Ab, Ac, Ad, slr, List.cons_append, List.nil_append] | simp [Aa, V.fz, fzL, V.up, upL, Ab, Ac, Ad, slr]) ?_
  conv => whnf
  refine BslQ.o Ae ([(0 : Int)]) (by exact fun _ => ⟨rfl, rfl⟩) (by first | rfl | simp only [Aa, V.fz, fzL, V.up, upL, Ab, Ac, Ad, slr, List.cons_append, List.nil_append] | simp [Aa, V.fz, fzL, V.up, upL, Ab, Ac, Ad, slr]) ?_
  conv => whnf
  refine BslQ.o Ae ([(0 : Int), (0 : Int), (1 : Int)]) (by exact fun _ => ⟨rfl, rfl⟩) (by first | rfl | simp only [Aa, V.fz, fzL, V.up, upL, Ab, Ac, Ad, slr, List.cons_append, List.nil_append] | simp [Aa, V.fz, fzL, V.up, upL, Ab, Ac, Ad, slr]) ?_
  conv => whnf
  refine BslQ.o Ae ([(0 : Int), (1 : Int), (0 : Int)]) (by exact fun _ => ⟨rfl, rfl⟩) (by first | rfl | simp only [Aa, V.fz, fzL, V.up, upL, Ab, Ac, Ad, slr, List.cons_append, List.nil_append] | simp [Aa, V.fz, fzL, V.up, upL, Ab, Ac, Ad, slr]) ?_
  conv => whnf
  refine BslQ.o Ae ([(0 : Int), (1 : Int), (0 : Int)]) (by exact fun _ => ⟨rfl, rfl⟩) (by first | rfl | simp only [Aa, V.fz, fzL, V.up, upL, Ab, Ac, Ad, slr, List.cons_append, List.nil_append] | simp [Aa, V.fz, fzL, V.up, upL, Ab, Ac, Ad, slr]) ?_
  conv => whnf
  refine BslQ.o Ae ([(1 : Int), (0 : Int), (0 : Int)]) (by exact fun _ => ⟨rfl, rfl⟩) (by first | rfl | simp only [Aa, V.fz, fzL, V.up, upL, Ab, Ac, Ad, slr, List.cons_append, List.nil_append] | simp [Aa, V.fz, fzL, V.up, upL, Ab, Ac, Ad, slr]) ?_
  conv => whnf
  refine BslQ.o (Bb true) ([{ Left := [(0 : Int), (0 : Int), (0 : Int)], Right := [(0 : Int)] }, { Left := [(0 : Int), (0 : Int), (1 : Int)], Right := [(0 : Int), (1 : Int), (0 : Int)] }, { Left := [(0 : Int), (1 : Int), (0 : Int)], Right := [(1 : Int), (0 : Int), (0 : Int)] }]) (by exact fun _ => ⟨rfl, rfl⟩) (by first | rfl | simp only [Aa, V.fz, fzL, V.up, upL, Ab, Ac, Ad, slr, List.cons_append, List.nil_append] | simp [Aa, V.fz, fzL, V.up, upL, Ab, Ac, Ad, slr]) ?_
  conv => whnf
  refine SetKids.lit rfl ?_
  conv => whnf
  cases h; exact (by first | rfl | simp only [Ah, Aa, V.fz, fzL, V.up, upL, Ab, Ac, Ad, slr] | simp [Ah, Aa, V.fz, fzL, V.up, upL, Ab, Ac, Ad, slr])
 conv => whnf
 refine SetKids.lit rfl ?_
 conv => whnf
 cases h; exact (by first | rfl | simp only [Ah, Aa, V.fz, fzL, V.up, upL, Ab, Ac, Ad, slr] | simp [Ah, Aa, V.fz, fzL, V.up, upL, Ab, Ac, Ad, slr])
noncomputable def Do (c0 : Sl1Cur) : Option (Int × Sl1Cur) :=
 ((if c0.at_ < (↑c0.code.length : Int) then
 ask ((0 : Int) ≤ c0.at_ ∧ c0.at_ < (↑c0.code.length : Int)) <|
 some (IntKind.i64.wrap (nth c0.code c0.at_.toNat))
 else
 some (0 : Int) : Option Int)).bind fun q3_3 =>
 ask (InI (c0.at_ + (1 : Int))) <|
 if c0.at_ + (1 : Int) ≤ (↑c0.code.length : Int) then
 some (q3_3, { code := c0.code, at_ := c0.at_ + (1 : Int), seed := IntKind.u64.wrap (IntKind.u64.wrap (IntKind.u64.wrap (c0.seed * (6364136223846793005 : Int)) + IntKind.u64.wrap q3_3) + (550289 : Int)) })
 else
 some (IntKind.i64.wrap (IntKind.u64.wrap (↑(BitVec.ofInt IntKind.u64.bits ((IntKind.u64.wrap (IntKind.u64.wrap (IntKind.u64.wrap (c0.seed * (6364136223846793005 : Int)) + IntKind.u64.wrap q3_3) + (550289 : Int))).fdiv ((2 : Int) ^ min (Int.toNat (40 : Int)) IntKind.u64.bits)) &&& BitVec.ofInt IntKind.u64.bits (255 : Int)).toNat : Int)), { code := c0.code, at_ := c0.at_ + (1 : Int), seed := IntKind.u64.wrap (IntKind.u64.wrap (IntKind.u64.wrap (c0.seed * (6364136223846793005 : Int)) + IntKind.u64.wrap q3_3) + (550289 : Int)) })
theorem Mx {c0 : Sl1Cur} {v : (Int × Sl1Cur)} (h : Do c0 = some v) : Tc Try.prog F9 [(rP true (Aj false)) c0] (Ae v.1) 0 ((rP true (Aj false)) v.2) := by
 refine Mz Vk (Nat.le_of_ble_eq_true rfl) ?_
 unfold Do at h
 conv => whnf
 refine CutQ.o (fun t : Int => match t with | s => (Ex.normal, [3, 0, 62], [(3, A.val (Ae s)), (0, A.ref 62 []), (62, A.val ((rP true (Aj false)) (c0)))])) h ?_ ?_
 ·intro t h
  conv => whnf
  refine Cells.lit rfl rfl ?_
  conv => whnf
  refine Cells.lit rfl rfl ?_
  conv => whnf
  refine Len.map ?_
  conv => whnf
  refine Br.od h (fun p1 h => ?_) (fun p1 h => ?_)
  ·conv => whnf
   refine Cells.lit rfl rfl ?_
   conv => whnf
   refine Cells.lit rfl rfl ?_
   conv => whnf
   refine Len.map ?_
   conv => whnf
   refine Ask.o h fun p2 h => ?_
   conv => whnf
   refine Elem.o (by first | omega | (simp [A1] at *; omega)) ?_
   conv => whnf
   cases h; exact ⟨rfl, rfl⟩
  conv => whnf
  cases h; exact ⟨rfl, rfl⟩
 rintro q3_3 h
 try dsimp only at h
 conv => whnf
 refine Cells.lit rfl rfl ?_
 conv => whnf
 refine Ask.o h fun p4 h => ?_
 conv => whnf
 refine SetKids.lit rfl ?_
 conv => whnf
 refine Cells.lit rfl rfl ?_
 conv => whnf
 refine SetKids.lit rfl ?_
 conv => whnf
 refine Cells.lit rfl rfl ?_
 conv => whnf
 refine Cells.lit rfl rfl ?_
 conv => whnf
 refine Len.map ?_
 conv => whnf
 refine Br.od h (fun p5 h => ?_) (fun p5 h => ?_)
 ·conv => whnf
  cases h; exact ⟨(by first | rfl | simp only [Ah, Aa, V.fz, fzL, V.up, upL, Ab, Ac, Ad, slr] | simp [Ah, Aa, V.fz, fzL, V.up, upL, Ab, Ac, Ad, slr]), (by first | rfl | simp only [Ah, Aa, V.fz, fzL, V.up, upL, Ab, Ac, Ad, slr] | simp [Ah, Aa, V.fz, fzL, V.up, upL, Ab, Ac, Ad, slr])⟩
 conv => whnf
 refine Cells.lit rfl rfl ?_
 conv => whnf
 cases h; exact ⟨(by first | rfl | simp only [Ah, Aa, V.fz, fzL, V.up, upL, Ab, Ac, Ad, slr] | simp [Ah, Aa, V.fz, fzL, V.up, upL, Ab, Ac, Ad, slr]), (by first | rfl | simp only [Ah, Aa, V.fz, fzL, V.up, upL, Ab, Ac, Ad, slr] | simp [Ah, Aa, V.fz, fzL, V.up, upL, Ab, Ac, Ad, slr])⟩
noncomputable def Db (a0 : List Int) (b0 : List Int) : Int → Option (Int ⊕ (Unit ⊕ Unit)) := fun x5 =>
 if x5 < (↑a0.length : Int) then
 ask ((0 : Int) ≤ x5 ∧ x5 < (↑a0.length : Int)) <|
 ask ((0 : Int) ≤ x5 ∧ x5 < (↑b0.length : Int)) <|
 if nth a0 x5.toNat ≠ nth b0 x5.toNat then
 some (.inr (.inl ()))
 else
 ask (InI (x5 + (1 : Int))) <|
 some (.inl (x5 + (1 : Int)))
 else
 some (.inr (.inr ()))
def Jk (a0 : List Int) (b0 : List Int) : Int → St := fun s => [(5, A.val (Ae s)), (0, A.val ((slr false 1 Ae) (a0))), (1, A.val ((slr false 1 Ae) (b0)))]
def Od (_a0 : List Int) (_b0 : List Int) : (Unit ⊕ Unit) → Tgt
 | (.inl _s) => (Ex.ret, [4], [(4, A.val (V.bool (false)))])
 | (.inr _s) => ((Ex.exit 0), [], [])
theorem Ws {a0 : List Int} {b0 : List Int} (x5 : Int) (o : Int ⊕ (Unit ⊕ Unit)) (h : Db a0 b0 x5 = some o) : vc Try.prog N1 (Er [5, 0, 1] (Jk a0 b0) (Od a0 b0) o) (Jk a0 b0 x5) := by
 unfold Db at h
 try dsimp only at h
 conv => whnf
 refine Len.map ?_
 conv => whnf
 refine Br.od h (fun p2 h => ?_) (fun p2 h => ?_)
 ·conv => whnf
  refine Len.map ?_
  conv => whnf
  refine Ask.o h fun p3 h => ?_
  conv => whnf
  refine Elem.o (by first | omega | (simp [A1] at *; omega)) ?_
  conv => whnf
  refine Len.map ?_
  conv => whnf
  refine Ask.o h fun p4 h => ?_
  conv => whnf
  refine Elem.o (by first | omega | (simp [A1] at *; omega)) ?_
  conv => whnf
  refine Br.on h (fun p5 h => ?_) (fun p5 h => ?_)
  ·conv => whnf
   cases h; exact ⟨rfl, rfl⟩
  conv => whnf
  refine Ask.o h fun p6 h => ?_
  conv => whnf
  cases h; exact ⟨rfl, rfl⟩
 conv => whnf
 cases h; exact ⟨rfl, rfl⟩
noncomputable def Hk (a0 : (List Int)) (b0 : (List Int)) : Option Bool :=
 if (↑a0.length : Int) ≠ (↑b0.length : Int) then
 some false
 else
 (Aw (Db a0 b0) (0 : Int)).bind fun t => match t with
 | (.inl _) => (some false)
 | (.inr _) => (some true)
theorem Abx {a0 : (List Int)} {b0 : (List Int)} {v : Bool} (h : Hk a0 b0 = some v) : Ret Try.prog Nj [(slr false 1 Ae) a0, (slr false 1 Ae) b0] (V.bool v) := by
 refine Bg Abu (Nat.le_of_ble_eq_true rfl) ?_
 unfold Hk at h
 conv => whnf
 refine Len.map ?_
 conv => whnf
 refine Len.map ?_
 conv => whnf
 refine Br.on h (fun p1 h => ?_) (fun p1 h => ?_)
 ·conv => whnf
  cases h; exact (by first | rfl | simp only [Ah, Aa, V.fz, fzL, V.up, upL, Ab, Ac, Ad, slr] | simp [Ah, Aa, V.fz, fzL, V.up, upL, Ab, Ac, Ad, slr])
 conv => whnf
 refine LoopQ.o [5, 0, 1] (Jk a0 b0) (Od a0 b0) h (fun s o h => Ws s o h) (by first | rfl | simp [restrict, look, Aa, V.fz, fzL, V.up, upL, Ab, Ac, Ad, slr]) (by rintro (_ | _) <;> rfl) ?_
 rintro (⟨⟩ | ⟨⟩) h
 ·try dsimp only at h
  conv => whnf
  cases h; exact (by first | rfl | simp only [Ah, Aa, V.fz, fzL, V.up, upL, Ab, Ac, Ad, slr] | simp [Ah, Aa, V.fz, fzL, V.up, upL, Ab, Ac, Ad, slr])
 try dsimp only at h
 conv => whnf
 cases h; exact (by first | rfl | simp only [Ah, Aa, V.fz, fzL, V.up, upL, Ab, Ac, Ad, slr] | simp [Ah, Aa, V.fz, fzL, V.up, upL, Ab, Ac, Ad, slr])
noncomputable def Ei (s0 : ByteArray) : (Int × SOp) → Option ((Int × SOp) ⊕ SOp) := fun (x4, x3) =>
 if x4 < (↑s0.size : Int) then
 ask ((0 : Int) ≤ x4 ∧ x4 < (↑s0.size : Int)) <|
 ask ((x3.Table).length + ([IntKind.i64.wrap (IntKind.u8.wrap (Xe s0 x4 - (48 : Int)))]).length ≤ LIM) <|
 ask (InI (x4 + (1 : Int))) <|
 some (.inl (x4 + (1 : Int), { Arity := x3.Arity, Table := x3.Table ++ [IntKind.i64.wrap (IntKind.u8.wrap (Xe s0 x4 - (48 : Int)))] }))
 else
 some (.inr x3)
def H2 (s0 : ByteArray) : (Int × SOp) → St := fun s => [(4, A.val (Ae s.1)), (3, A.val ((rP true (Al true)) s.2)), (2, A.val ((rP true (Al true)) ({ Arity := (0 : Int), Table := Ba Int }))), (0, A.val (V.str (s0)))]
def L6 (_s0 : ByteArray) : SOp → Tgt
 | s => ((Ex.exit 0), [3, 2], [(3, A.val ((rP true (Al true)) s)), (2, A.val ((rP true (Al true)) ({ Arity := (0 : Int), Table := Ba Int })))])
theorem Tx {s0 : ByteArray} (s : (Int × SOp)) (o : (Int × SOp) ⊕ SOp) (h : Ei s0 s = some o) : vc Try.prog Lu (Er [4, 3, 2, 0] (H2 s0) (L6 s0) o) (H2 s0 s) := by
 obtain ⟨x4, x3⟩ := s
 unfold Ei at h
 try dsimp only at h
 conv => whnf
 refine Br.od h (fun p1 h => ?_) (fun p1 h => ?_)
 ·conv => whnf
  refine Cells.lit rfl rfl ?_
  conv => whnf
  refine Ask.o h fun p2 h => ?_
  conv => whnf
  refine BslQ.o Ae ([IntKind.i64.wrap (IntKind.u8.wrap (Xe s0 x4 - (48 : Int)))]) (by exact fun _ => ⟨rfl, rfl⟩) (by first | rfl | simp only [Aa, V.fz, fzL, V.up, upL, Ab, Ac, Ad, slr, List.cons_append, List.nil_append] | simp [Aa, V.fz, fzL, V.up, upL, Ab, Ac, Ad, slr]) ?_
  conv => whnf
  refine NoOwn.o (fun _ => rfl) ?_
  conv => whnf
  refine Kid.lit rfl rfl ?_
  conv => whnf
  refine Kid.lit rfl rfl ?_
  conv => whnf
  refine SetKids.lit rfl ?_
  conv => whnf
  refine AppQ.o (m := 1) Ae (by exact fun _ => ⟨rfl, rfl⟩) (x3.Table) ([IntKind.i64.wrap (IntKind.u8.wrap (Xe s0 x4 - (48 : Int)))]) (by first | rfl | simp only [Aa, V.fz, fzL, V.up, upL, Ab, Ac, Ad, slr, List.cons_append, List.nil_append] | simp [Aa, V.fz, fzL, V.up, upL, Ab, Ac, Ad, slr]) (by first | rfl | simp only [Aa, V.fz, fzL, V.up, upL, Ab, Ac, Ad, slr, List.cons_append, List.nil_append] | simp [Aa, V.fz, fzL, V.up, upL, Ab, Ac, Ad, slr]) h fun h => ?_
  conv => whnf
  refine SetKids.lit rfl ?_
  conv => whnf
  refine Ask.o h fun p3 h => ?_
  conv => whnf
  cases h; exact ⟨rfl, rfl⟩
 conv => whnf
 cases h; exact ⟨rfl, rfl⟩
noncomputable def A2 (s0 : ByteArray) : Option SOp :=
 (Aw (Ei s0) ((0 : Int), { Arity := (2 : Int), Table := Ba Int })).bind fun q4_3 =>
 some q4_3
theorem A9 {s0 : ByteArray} {v : SOp} (h : A2 s0 = some v) : Ret Try.prog A6 [V.str s0] ((Al true) v) := by
 refine Bg Yj (Nat.le_of_ble_eq_true rfl) ?_
 unfold A2 at h
 conv => whnf
 refine SetKids.lit rfl ?_
 conv => whnf
 refine LoopQ.o [4, 3, 2, 0] (H2 s0) (L6 s0) h (fun s o h => Tx s o h) (by first | rfl | simp [restrict, look, Aa, V.fz, fzL, V.up, upL, Ab, Ac, Ad, slr]) (fun _ => rfl) ?_
 rintro q4_3 h
 try dsimp only at h
 conv => whnf
 refine Cells.lit rfl rfl ?_
 conv => whnf
 refine SetKids.lit rfl ?_
 conv => whnf
 cases h; exact (by first | rfl | simp only [Ah, Aa, V.fz, fzL, V.up, upL, Ab, Ac, Ad, slr] | simp [Ah, Aa, V.fz, fzL, V.up, upL, Ab, Ac, Ad, slr])
noncomputable def Eg (n0 : Int) : (Int × SOp) → Option ((Int × SOp) ⊕ SOp) := fun (x4, x3) =>
 ask (InI (n0 * n0)) <|
 ask (InI (n0 * n0 * n0)) <|
 if x4 < n0 * n0 * n0 then
 ask (InI (n0 * n0)) <|
 ask (n0 * n0 ≠ (0 : Int) ∧ InI (x4.tdiv (n0 * n0))) <|
 ask (InI (x4.tdiv (n0 * n0) + n0)) <|
 ask (n0 ≠ (0 : Int) ∧ InI (x4.tdiv n0)) <|
 ask (n0 ≠ (0 : Int)) <|
 ask (InI (x4.tdiv (n0 * n0) + n0 - (x4.tdiv n0).tmod n0)) <|
 ask (n0 ≠ (0 : Int)) <|
 ask (InI (x4.tdiv (n0 * n0) + n0 - (x4.tdiv n0).tmod n0 + x4.tmod n0)) <|
 ask (n0 ≠ (0 : Int)) <|
 ask ((x3.Table).length + ([(x4.tdiv (n0 * n0) + n0 - (x4.tdiv n0).tmod n0 + x4.tmod n0).tmod n0]).length ≤ LIM) <|
 ask (InI (x4 + (1 : Int))) <|
 some (.inl (x4 + (1 : Int), { Arity := x3.Arity, Table := x3.Table ++ [(x4.tdiv (n0 * n0) + n0 - (x4.tdiv n0).tmod n0 + x4.tmod n0).tmod n0] }))
 else
 some (.inr x3)
def Ia (n0 : Int) : (Int × SOp) → St := fun s => [(4, A.val (Ae s.1)), (3, A.val ((rP true (Al true)) s.2)), (2, A.val ((rP true (Al true)) ({ Arity := (0 : Int), Table := Ba Int }))), (0, A.val (Ae (n0)))]
def Lk (_n0 : Int) : SOp → Tgt
 | s => ((Ex.exit 0), [3, 2], [(3, A.val ((rP true (Al true)) s)), (2, A.val ((rP true (Al true)) ({ Arity := (0 : Int), Table := Ba Int })))])
theorem Tw {n0 : Int} (s : (Int × SOp)) (o : (Int × SOp) ⊕ SOp) (h : Eg n0 s = some o) : vc Try.prog Ln (Er [4, 3, 2, 0] (Ia n0) (Lk n0) o) (Ia n0 s) := by
 obtain ⟨x4, x3⟩ := s
 unfold Eg at h
 try dsimp only at h
 conv => whnf
 refine Ask.o h fun p1 h => ?_
 conv => whnf
 refine Ask.o h fun p2 h => ?_
 conv => whnf
 refine Br.od h (fun p3 h => ?_) (fun p3 h => ?_)
 ·conv => whnf
  refine Cells.lit rfl rfl ?_
  conv => whnf
  refine Ask.o h fun p4 h => ?_
  conv => whnf
  refine Ask.o h fun p5 h => ?_
  conv => whnf
  refine Ask.o h fun p6 h => ?_
  conv => whnf
  refine Ask.o h fun p7 h => ?_
  conv => whnf
  refine Ask.o h fun p8 h => ?_
  conv => whnf
  refine Ask.o h fun p9 h => ?_
  conv => whnf
  refine Ask.o h fun p10 h => ?_
  conv => whnf
  refine Ask.o h fun p11 h => ?_
  conv => whnf
  refine Ask.o h fun p12 h => ?_
  conv => whnf
  refine BslQ.o Ae ([(x4.tdiv (n0 * n0) + n0 - (x4.tdiv n0).tmod n0 + x4.tmod n0).tmod n0]) (by exact fun _ => ⟨rfl, rfl⟩) (by first | rfl | simp only [Aa, V.fz, fzL, V.up, upL, Ab, Ac, Ad, slr, List.cons_append, List.nil_append] | simp [Aa, V.fz, fzL, V.up, upL, Ab, Ac, Ad, slr]) ?_
  conv => whnf
  refine NoOwn.o (fun _ => rfl) ?_
  conv => whnf
  refine Kid.lit rfl rfl ?_
  conv => whnf
  refine Kid.lit rfl rfl ?_
  conv => whnf
  refine SetKids.lit rfl ?_
  conv => whnf
  refine AppQ.o (m := 1) Ae (by exact fun _ => ⟨rfl, rfl⟩) (x3.Table) ([(x4.tdiv (n0 * n0) + n0 - (x4.tdiv n0).tmod n0 + x4.tmod n0).tmod n0]) (by first | rfl | simp only [Aa, V.fz, fzL, V.up, upL, Ab, Ac, Ad, slr, List.cons_append, List.nil_append] | simp [Aa, V.fz, fzL, V.up, upL, Ab, Ac, Ad, slr]) (by first | rfl | simp only [Aa, V.fz, fzL, V.up, upL, Ab, Ac, Ad, slr, List.cons_append, List.nil_append] | simp [Aa, V.fz, fzL, V.up, upL, Ab, Ac, Ad, slr]) h fun h => ?_
  conv => whnf
  refine SetKids.lit rfl ?_
  conv => whnf
  refine Ask.o h fun p13 h => ?_
  conv => whnf
  cases h; exact ⟨rfl, rfl⟩
 conv => whnf
 cases h; exact ⟨rfl, rfl⟩
noncomputable def E2 (n0 : Int) : Option SOp :=
 (Aw (Eg n0) ((0 : Int), { Arity := (3 : Int), Table := Ba Int })).bind fun q14_3 =>
 some q14_3
theorem Pv {n0 : Int} {v : SOp} (h : E2 n0 = some v) : Ret Try.prog Hv [Ae n0] ((Al true) v) := by
 refine Bg Xk (Nat.le_of_ble_eq_true rfl) ?_
 unfold E2 at h
 conv => whnf
 refine SetKids.lit rfl ?_
 conv => whnf
 refine LoopQ.o [4, 3, 2, 0] (Ia n0) (Lk n0) h (fun s o h => Tw s o h) (by first | rfl | simp [restrict, look, Aa, V.fz, fzL, V.up, upL, Ab, Ac, Ad, slr]) (fun _ => rfl) ?_
 rintro q14_3 h
 try dsimp only at h
 conv => whnf
 refine Cells.lit rfl rfl ?_
 conv => whnf
 refine SetKids.lit rfl ?_
 conv => whnf
 cases h; exact (by first | rfl | simp only [Ah, Aa, V.fz, fzL, V.up, upL, Ab, Ac, Ad, slr] | simp [Ah, Aa, V.fz, fzL, V.up, upL, Ab, Ac, Ad, slr])
noncomputable def Dw (n0 : Int) : (Int × Int) → Option ((Int × Int) ⊕ Int) := fun (x5, x1) =>
 if x1 > (0 : Int) then
 ask (InI (x5 * n0)) <|
 ask (InI (x1 - (1 : Int))) <|
 some (.inl (x5 * n0, x1 - (1 : Int)))
 else
 some (.inr x5)
def Kq (n0 : Int) : (Int × Int) → St := fun s => [(5, A.val (Ae s.1)), (0, A.val (Ae (n0))), (1, A.val (Ae s.2))]
def P1 (_n0 : Int) : Int → Tgt
 | s => ((Ex.exit 0), [5], [(5, A.val (Ae s))])
theorem Yr {n0 : Int} (s : (Int × Int)) (o : (Int × Int) ⊕ Int) (h : Dw n0 s = some o) : vc Try.prog P4 (Er [5, 0, 1] (Kq n0) (P1 n0) o) (Kq n0 s) := by
 obtain ⟨x5, x1⟩ := s
 unfold Dw at h
 try dsimp only at h
 conv => whnf
 refine Br.od h (fun p1 h => ?_) (fun p1 h => ?_)
 ·conv => whnf
  refine Ask.o h fun p2 h => ?_
  conv => whnf
  refine Ask.o h fun p3 h => ?_
  conv => whnf
  cases h; exact ⟨rfl, rfl⟩
 conv => whnf
 cases h; exact ⟨rfl, rfl⟩
noncomputable def Gu (n0 : Int) (k0 : Int) : Option Int :=
 (Aw (Dw n0) ((1 : Int), k0)).bind fun q4_5 =>
 some q4_5
theorem Add {n0 : Int} {k0 : Int} {v : Int} (h : Gu n0 k0 = some v) : Ret Try.prog Oy [Ae n0, Ae k0] (Ae v) := by
 refine Bg Adz (Nat.le_of_ble_eq_true rfl) ?_
 unfold Gu at h
 conv => whnf
 refine LoopQ.o [5, 0, 1] (Kq n0) (P1 n0) h (fun s o h => Yr s o h) (by first | rfl | simp [restrict, look, Aa, V.fz, fzL, V.up, upL, Ab, Ac, Ad, slr]) (fun _ => rfl) ?_
 rintro q4_5 h
 try dsimp only at h
 conv => whnf
 cases h; exact (by first | rfl | simp only [Ah, Aa, V.fz, fzL, V.up, upL, Ab, Ac, Ad, slr] | simp [Ah, Aa, V.fz, fzL, V.up, upL, Ab, Ac, Ad, slr])
noncomputable def Ch (a0 : List Int) (b0 : List Int) : Int → Option (Int ⊕ (Unit ⊕ Unit)) := fun x14 =>
 if x14 < (↑a0.length : Int) then
 ask ((0 : Int) ≤ x14 ∧ x14 < (↑a0.length : Int)) <|
 ask ((0 : Int) ≤ x14 ∧ x14 < (↑b0.length : Int)) <|
 if nth b0 x14.toNat ≠ nth a0 x14.toNat then
 some (.inr (.inl ()))
 else
 ask (InI (x14 + (1 : Int))) <|
 some (.inl (x14 + (1 : Int)))
 else
 some (.inr (.inr ()))
def H1 (a0 : List Int) (b0 : List Int) : Int → St := fun s => [(14, A.val (Ae s)), (13, A.val (Ae ((↑a0.length : Int)))), (12, A.val ((slr false 1 Ae) (a0))), (1, A.val ((slr false 1 Ae) (b0)))]
def L2 (_a0 : List Int) (_b0 : List Int) : (Unit ⊕ Unit) → Tgt
 | (.inl _s) => (Ex.ret, [4], [(4, A.val (V.bool (false)))])
 | (.inr _s) => ((Ex.exit 0), [], [])
theorem S3 {a0 : List Int} {b0 : List Int} (x14 : Int) (o : Int ⊕ (Unit ⊕ Unit)) (h : Ch a0 b0 x14 = some o) : vc Try.prog Ma (Er [14, 13, 12, 1] (H1 a0 b0) (L2 a0 b0) o) (H1 a0 b0 x14) := by
 unfold Ch at h
 try dsimp only at h
 conv => whnf
 refine Br.od h (fun p2 h => ?_) (fun p2 h => ?_)
 ·conv => whnf
  refine Len.map ?_
  conv => whnf
  refine Ask.o h fun p3 h => ?_
  conv => whnf
  refine Elem.o (by first | omega | (simp [A1] at *; omega)) ?_
  conv => whnf
  refine Len.map ?_
  conv => whnf
  refine Ask.o h fun p4 h => ?_
  conv => whnf
  refine Elem.o (by first | omega | (simp [A1] at *; omega)) ?_
  conv => whnf
  refine Br.on h (fun p5 h => ?_) (fun p5 h => ?_)
  ·conv => whnf
   cases h; exact ⟨rfl, rfl⟩
  conv => whnf
  refine Ask.o h fun p6 h => ?_
  conv => whnf
  cases h; exact ⟨rfl, rfl⟩
 conv => whnf
 cases h; exact ⟨rfl, rfl⟩
noncomputable def F0 (a0 : (List Int)) (b0 : (List Int)) : Option Bool :=
 if (↑a0.length : Int) ≠ (↑b0.length : Int) then
 some false
 else
 (Aw (Ch a0 b0) (0 : Int)).bind fun t => match t with
 | (.inl _) => (some false)
 | (.inr _) => (some true)
theorem Yb {a0 : (List Int)} {b0 : (List Int)} {v : Bool} (h : F0 a0 b0 = some v) : Ret Try.prog Km [(slr false 1 Ae) a0, (slr false 1 Ae) b0] (V.bool v) := by
 refine Bg X2 (Nat.le_of_ble_eq_true rfl) ?_
 unfold F0 at h
 conv => whnf
 refine Len.map ?_
 conv => whnf
 refine Len.map ?_
 conv => whnf
 refine Br.on h (fun p1 h => ?_) (fun p1 h => ?_)
 ·conv => whnf
  cases h; exact (by first | rfl | simp only [Ah, Aa, V.fz, fzL, V.up, upL, Ab, Ac, Ad, slr] | simp [Ah, Aa, V.fz, fzL, V.up, upL, Ab, Ac, Ad, slr])
 conv => whnf
 refine Len.map ?_
 conv => whnf
 refine LoopQ.o [14, 13, 12, 1] (H1 a0 b0) (L2 a0 b0) h (fun s o h => S3 s o h) (by first | rfl | simp [restrict, look, Aa, V.fz, fzL, V.up, upL, Ab, Ac, Ad, slr]) (by rintro (_ | _) <;> rfl) ?_
 rintro (⟨⟩ | ⟨⟩) h
 ·try dsimp only at h
  conv => whnf
  cases h; exact (by first | rfl | simp only [Ah, Aa, V.fz, fzL, V.up, upL, Ab, Ac, Ad, slr] | simp [Ah, Aa, V.fz, fzL, V.up, upL, Ab, Ac, Ad, slr])
 try dsimp only at h
 conv => whnf
 cases h; exact (by first | rfl | simp only [Ah, Aa, V.fz, fzL, V.up, upL, Ab, Ac, Ad, slr] | simp [Ah, Aa, V.fz, fzL, V.up, upL, Ab, Ac, Ad, slr])
noncomputable def C9 (a0 : List (List Int)) (b0 : List (List Int)) : Int → Option (Int ⊕ (Unit ⊕ Unit)) := fun x5 =>
 if x5 < (↑a0.length : Int) then
 ask ((0 : Int) ≤ x5 ∧ x5 < (↑a0.length : Int)) <|
 ask ((0 : Int) ≤ x5 ∧ x5 < (↑b0.length : Int)) <|
 (E9 (nth a0 x5.toNat) (nth b0 x5.toNat)).bind fun r5 =>
 if (r5) = true then
 ask (InI (x5 + (1 : Int))) <|
 some (.inl (x5 + (1 : Int)))
 else
 some (.inr (.inl ()))
 else
 some (.inr (.inr ()))
def Jr (a0 : List (List Int)) (b0 : List (List Int)) : Int → St := fun s => [(5, A.val (Ae s)), (0, A.val ((slr false 1 (slr false 1 Ae)) (a0))), (1, A.val ((slr false 1 (slr false 1 Ae)) (b0)))]
def N3 (_a0 : List (List Int)) (_b0 : List (List Int)) : (Unit ⊕ Unit) → Tgt
 | (.inl _s) => (Ex.ret, [4], [(4, A.val (V.bool (false)))])
 | (.inr _s) => ((Ex.exit 0), [], [])
theorem Wa {a0 : List (List Int)} {b0 : List (List Int)} (x5 : Int) (o : Int ⊕ (Unit ⊕ Unit)) (h : C9 a0 b0 x5 = some o) : vc Try.prog Of (Er [5, 0, 1] (Jr a0 b0) (N3 a0 b0) o) (Jr a0 b0 x5) := by
 unfold C9 at h
 try dsimp only at h
 conv => whnf
 refine Len.map ?_
 conv => whnf
 refine Br.od h (fun p2 h => ?_) (fun p2 h => ?_)
 ·conv => whnf
  refine Len.map ?_
  conv => whnf
  refine Ask.o h fun p3 h => ?_
  conv => whnf
  refine Elem.o (by first | omega | (simp [A1] at *; omega)) ?_
  conv => whnf
  refine Len.map ?_
  conv => whnf
  refine Ask.o h fun p4 h => ?_
  conv => whnf
  refine Elem.o (by first | omega | (simp [A1] at *; omega)) ?_
  conv => whnf
  refine CallQ.o V.bool (by first | rfl | simp only [Aa, V.fz, fzL, V.up, upL, Ab, Ac, Ad, slr, List.cons_append, List.nil_append] | simp [Aa, V.fz, fzL, V.up, upL, Ab, Ac, Ad, slr]) h (fun r h => Vj h) (fun r5 h => ?_)
  conv => whnf
  refine Br.flip ?_
  conv => whnf
  refine Br.ob h (fun p6 h => ?_) (fun p6 h => ?_)
  ·conv => whnf
   refine Ask.o h fun p7 h => ?_
   conv => whnf
   cases h; exact ⟨rfl, rfl⟩
  conv => whnf
  cases h; exact ⟨rfl, rfl⟩
 conv => whnf
 cases h; exact ⟨rfl, rfl⟩
noncomputable def F4 (a0 : (List (List Int))) (b0 : (List (List Int))) : Option Bool :=
 if (↑a0.length : Int) ≠ (↑b0.length : Int) then
 some false
 else
 (Aw (C9 a0 b0) (0 : Int)).bind fun t => match t with
 | (.inl _) => (some false)
 | (.inr _) => (some true)
theorem Abs {a0 : (List (List Int))} {b0 : (List (List Int))} {v : Bool} (h : F4 a0 b0 = some v) : Ret Try.prog Nr [(slr false 1 (slr false 1 Ae)) a0, (slr false 1 (slr false 1 Ae)) b0] (V.bool v) := by
 refine Bg Abv (Nat.le_of_ble_eq_true rfl) ?_
 unfold F4 at h
 conv => whnf
 refine Len.map ?_
 conv => whnf
 refine Len.map ?_
 conv => whnf
 refine Br.on h (fun p1 h => ?_) (fun p1 h => ?_)
 ·conv => whnf
  cases h; exact (by first | rfl | simp only [Ah, Aa, V.fz, fzL, V.up, upL, Ab, Ac, Ad, slr] | simp [Ah, Aa, V.fz, fzL, V.up, upL, Ab, Ac, Ad, slr])
 conv => whnf
 refine LoopQ.o [5, 0, 1] (Jr a0 b0) (N3 a0 b0) h (fun s o h => Wa s o h) (by first | rfl | simp [restrict, look, Aa, V.fz, fzL, V.up, upL, Ab, Ac, Ad, slr]) (by rintro (_ | _) <;> rfl) ?_
 rintro (⟨⟩ | ⟨⟩) h
 ·try dsimp only at h
  conv => whnf
  cases h; exact (by first | rfl | simp only [Ah, Aa, V.fz, fzL, V.up, upL, Ab, Ac, Ad, slr] | simp [Ah, Aa, V.fz, fzL, V.up, upL, Ab, Ac, Ad, slr])
 try dsimp only at h
 conv => whnf
 cases h; exact (by first | rfl | simp only [Ah, Aa, V.fz, fzL, V.up, upL, Ab, Ac, Ad, slr] | simp [Ah, Aa, V.fz, fzL, V.up, upL, Ab, Ac, Ad, slr])
noncomputable def Jy (op0 : SOp) : Option SOp :=
 (Fs (op0.Table)).bind fun r1 =>
 some ({ Arity := op0.Arity, Table := r1 })
theorem Abe {op0 : SOp} {v : SOp} (h : Jy op0 = some v) : Ret Try.prog Ni [(Al false) op0] ((Al true) v) := by
 refine Bg Aba (Nat.le_of_ble_eq_true rfl) ?_
 unfold Jy at h
 conv => whnf
 refine Cells.lit rfl rfl ?_
 conv => whnf
 refine Cells.lit rfl rfl ?_
 conv => whnf
 refine CallP.o (slr true 1 Ae) (by first | rfl | simp only [Aa, V.fz, fzL, V.up, upL, Ab, Ac, Ad, slr, List.cons_append, List.nil_append] | simp [Aa, V.fz, fzL, V.up, upL, Ab, Ac, Ad, slr]) h (fun r h => On h) (fun r1 h => ?_)
 conv => whnf
 refine SetKids.lit rfl ?_
 conv => whnf
 cases h; exact (by first | rfl | simp only [Ah, Aa, V.fz, fzL, V.up, upL, Ab, Ac, Ad, slr] | simp [Ah, Aa, V.fz, fzL, V.up, upL, Ab, Ac, Ad, slr])
end Go.Proofs.Ytidaaijecmkndaa.Ax
