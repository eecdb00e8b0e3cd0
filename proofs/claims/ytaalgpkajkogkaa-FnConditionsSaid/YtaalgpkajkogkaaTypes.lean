/-
 The kinds of data, written by program.
-/
import Derived.Test.YtaalgpkajkogkaaAx4
import Derived.Test.YtaalgpkajkogkaaNum
namespace Go.Proofs.Ytaalgpkajkogkaa.Ax
open Go
structure Sl1Cur where
 code:(List Int)
 at_:Int
 seed:Int
 deriving Inhabited,DecidableEq
abbrev Al (o:Bool) (s:Sl1Cur):V:= .agg [(slr o 1 (V.int .u8)) s.code,Ae s.at_,(V.int .u64) s.seed]
instance:Fz (Al true) (Al false):=⟨λs=>by simp [V.fz,fzL,Ab,Al,slr]⟩
instance:Fz (Al false) (Al false):=⟨λs=>by simp [V.fz,fzL,Al,slr]⟩
instance:NoFz (Al true):=⟨λs=>by first | simp [V.noFz,Bq,Bb] | simp [V.noFz,Bq,Bb,NoFz.eq,Al,slr]⟩
theorem A71 (o:Bool):O7 3 (Al o):=λ_=>⟨rfl,rfl⟩
structure SCloneStep where
 Op:Int
 Args:(List Int)
 deriving Inhabited,DecidableEq
abbrev Af (o:Bool) (s:SCloneStep):V:= .agg [Ae s.Op,(slr o 1 Ae) s.Args]
instance:Fz (Af true) (Af false):=⟨λs=>by simp [V.fz,fzL,Ab,Af,slr]⟩
instance:Fz (Af false) (Af false):=⟨λs=>by simp [V.fz,fzL,Af,slr]⟩
instance:NoFz (Af true):=⟨λs=>by first | simp [V.noFz,Bq,Bb] | simp [V.noFz,Bq,Bb,NoFz.eq,Af,slr]⟩
theorem A20 (o:Bool):O7 2 (Af o):=λ_=>⟨rfl,rfl⟩
structure SOp where
 Arity:Int
 Table:(List Int)
 deriving Inhabited,DecidableEq
abbrev Bd (o:Bool) (s:SOp):V:= .agg [Ae s.Arity,(slr o 1 Ae) s.Table]
instance:Fz (Bd true) (Bd false):=⟨λs=>by simp [V.fz,fzL,Ab,Bd,slr]⟩
instance:Fz (Bd false) (Bd false):=⟨λs=>by simp [V.fz,fzL,Bd,slr]⟩
instance:NoFz (Bd true):=⟨λs=>by first | simp [V.noFz,Bq,Bb] | simp [V.noFz,Bq,Bb,NoFz.eq,Bd,slr]⟩
theorem A8z (o:Bool):O7 2 (Bd o):=λ_=>⟨rfl,rfl⟩
structure SRule where
 Left:(List Int)
 Right:(List Int)
 deriving Inhabited,DecidableEq
abbrev Ca (o:Bool) (s:SRule):V:= .agg [(slr o 1 Ae) s.Left,(slr o 1 Ae) s.Right]
instance:Fz (Ca true) (Ca false):=⟨λs=>by simp [V.fz,fzL,Ab,Ca,slr]⟩
instance:Fz (Ca false) (Ca false):=⟨λs=>by simp [V.fz,fzL,Ca,slr]⟩
instance:NoFz (Ca true):=⟨λs=>by first | simp [V.noFz,Bq,Bb] | simp [V.noFz,Bq,Bb,NoFz.eq,Ca,slr]⟩
theorem A79 (o:Bool):O7 2 (Ca o):=λ_=>⟨rfl,rfl⟩
structure SAlgebra where
 Size:Int
 Ops:(List SOp)
 deriving Inhabited,DecidableEq
abbrev Aj (o:Bool) (s:SAlgebra):V:= .agg [Ae s.Size,(slr o 2 (Bd o)) s.Ops]
instance:Fz (Aj true) (Aj false):=⟨λs=>by simp [V.fz,fzL,Ab,Aj,slr]⟩
instance:Fz (Aj false) (Aj false):=⟨λs=>by simp [V.fz,fzL,Aj,slr]⟩
instance:NoFz (Aj true):=⟨λs=>by first | simp [V.noFz,Bq,Bb] | simp [V.noFz,Bq,Bb,NoFz.eq,Aj,slr]⟩
theorem A4v (o:Bool):O7 2 (Aj o):=λ_=>⟨rfl,rfl⟩
structure SCondition where
 Arity:Int
 Rules:(List SRule)
 deriving Inhabited,DecidableEq
abbrev Ah (o:Bool) (s:SCondition):V:= .agg [Ae s.Arity,(slr o 2 (Ca o)) s.Rules]
instance:Fz (Ah true) (Ah false):=⟨λs=>by simp [V.fz,fzL,Ab,Ah,slr]⟩
instance:Fz (Ah false) (Ah false):=⟨λs=>by simp [V.fz,fzL,Ah,slr]⟩
instance:NoFz (Ah true):=⟨λs=>by first | simp [V.noFz,Bq,Bb] | simp [V.noFz,Bq,Bb,NoFz.eq,Ah,slr]⟩
theorem A4p (o:Bool):O7 2 (Ah o):=λ_=>⟨rfl,rfl⟩
abbrev Uc (s:SCondition):V:= .agg [Ae s.Arity,slr true 2 (Ca false) s.Rules]
instance:Fz (Uc) (Ah false):=⟨λs=>by simp [V.fz,fzL,Ab,Uc,Ah,slr]⟩
abbrev Lj (x:(SAlgebra×SCondition×(List (List Int)))):V:= .fclo Iw [(rP false (Aj false)) x.1,(rP false (Ah false)) x.2.1,(rP false (slr false 1 (slr false 1 Ae))) x.2.2]
structure SrowSearch where
 a:SAlgebra
 good:(SAlgebra×SCondition×(List (List Int)))
 rows:(List (List Int))
 steps:(List SCloneStep)
 seen:(List (ByteArray×Bool))
 tried:Int
 state:Int
 deriving Inhabited,DecidableEq
abbrev Ha (o:Bool) (s:SrowSearch):V:= .agg [Ae s.a.Size,(slr o 2 (Bd o)) s.a.Ops,Lj s.good,(slr o 1 (slr o 1 Ae)) s.rows,(slr o 2 (Af o)) s.steps,(rMp o Lf.bool) s.seen,Ae s.tried,Ae s.state]
instance:Fz (Ha true) (Ha false):=⟨λs=>by simp [V.fz,fzL,Ab,Ha,slr]⟩
instance:Fz (Ha false) (Ha false):=⟨λs=>by simp [V.fz,fzL,Ha,slr]⟩
theorem A38 (o:Bool):O7 8 (Ha o):=λ_=>⟨rfl,rfl⟩
abbrev Bf (s:SrowSearch):V:= .agg [Ae s.a.Size,(slr false 2 (Bd false)) s.a.Ops,Lj s.good,slr true 1 (slr false 1 Ae) s.rows,slr true 2 (Af false) s.steps,(rMp true Lf.bool) s.seen,Ae s.tried,Ae s.state]
instance:Fz (Bf) (Ha false):=⟨λs=>by simp [V.fz,fzL,Ab,Bf,Ha,slr]⟩
structure Sl15Search where
 rows:(List (List Int))
 steps:(List SCloneStep)
 place:Int
 tries:Int
 open_:Bool
 deriving Inhabited,DecidableEq
abbrev Fl (o:Bool) (s:Sl15Search):V:= .agg [(slr o 1 (slr o 1 Ae)) s.rows,(slr o 2 (Af o)) s.steps,Ae s.place,Ae s.tries,V.bool s.open_]
instance:Fz (Fl true) (Fl false):=⟨λs=>by simp [V.fz,fzL,Ab,Fl,slr]⟩
instance:Fz (Fl false) (Fl false):=⟨λs=>by simp [V.fz,fzL,Fl,slr]⟩
instance:NoFz (Fl true):=⟨λs=>by first | simp [V.noFz,Bq,Bb] | simp [V.noFz,Bq,Bb,NoFz.eq,Fl,slr]⟩
theorem A4l (o:Bool):O7 5 (Fl o):=λ_=>⟨rfl,rfl⟩
abbrev Aw (s:Sl15Search):V:= .agg [slr true 1 (slr false 1 Ae) s.rows,slr true 2 (Af false) s.steps,Ae s.place,Ae s.tries,V.bool s.open_]
instance:Fz (Aw) (Fl false):=⟨λs=>by simp [V.fz,fzL,Ab,Aw,Fl,slr]⟩
structure Sspan where
 a:SAlgebra
 k:Int
 list:(List (List Int))
 at_:(List (ByteArray×Int))
 deriving Inhabited,DecidableEq
abbrev Pu (o:Bool) (s:Sspan):V:= .agg [Ae s.a.Size,(slr o 2 (Bd o)) s.a.Ops,Ae s.k,(slr o 1 (slr o 1 Ae)) s.list,(rMp o (Lf.int IntKind.i64)) s.at_]
instance:Fz (Pu true) (Pu false):=⟨λs=>by simp [V.fz,fzL,Ab,Pu,slr]⟩
instance:Fz (Pu false) (Pu false):=⟨λs=>by simp [V.fz,fzL,Pu,slr]⟩
instance:NoFz (Pu true):=⟨λs=>by first | simp [V.noFz,Bq,Bb] | simp [V.noFz,Bq,Bb,NoFz.eq,Pu,slr]⟩
theorem A8a (o:Bool):O7 5 (Pu o):=λ_=>⟨rfl,rfl⟩
abbrev Azo (s:Sspan):V:= .agg [Ae s.a.Size,(slr false 2 (Bd false)) s.a.Ops,Ae s.k,slr true 1 (slr false 1 Ae) s.list,(rMp true (Lf.int IntKind.i64)) s.at_]
instance:Fz (Azo) (Pu false):=⟨λs=>by simp [V.fz,fzL,Ab,Azo,Pu,slr]⟩
end Go.Proofs.Ytaalgpkajkogkaa.Ax
