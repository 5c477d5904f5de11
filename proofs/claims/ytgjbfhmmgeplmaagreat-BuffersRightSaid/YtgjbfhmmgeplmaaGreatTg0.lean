/- The templates: see the main text. -/
import Derived.Test.YtgjbfhmmgeplmaaGreatSvG2
import Derived.Test.YtgjbfhmmgeplmaaGreatProg
import Derived.KernelRfl
set_option linter.defProp false
namespace Go.Sv
abbrev LI.z (d : Nat) (o : LOp) : LI := ⟨some d, none, o⟩
abbrev LI.m (d t : Nat) : LI := ⟨some d, none, .move (.t t)⟩
abbrev LI.l (d t : Nat) : LI := ⟨some d, none, .load1 (.t t)⟩
abbrev LI.f (d n t : Nat) : LI := ⟨some d, none, .fieldAddr n (.t t)⟩
abbrev LI.y (d g : Nat) (o : LOp) : LI := ⟨some d, some (g, true), o⟩
abbrev LI.n (d g : Nat) (o : LOp) : LI := ⟨some d, some (g, false), o⟩
abbrev LI.my (d g t : Nat) : LI := ⟨some d, some (g, true), .move (.t t)⟩
abbrev LI.mn (d g t : Nat) : LI := ⟨some d, some (g, false), .move (.t t)⟩
abbrev LI.v (o : LOp) : LI := ⟨none, none, o⟩
abbrev LOp.w (f : Nat) (l : List Lx) : LOp := .callV (.c (.fn (.func f) [] [])) l
abbrev Lx.k (n : Int) : Lx := .c (.i n)
abbrev Lx.T : Lx := .c (.bool true)
abbrev Lx.F : Lx := .c (.bool false)
abbrev LC.q (l : List LI) (s : LC) : LC := .seq (.ops l) s
abbrev LI.N (d a : Nat) : LI := .z d (.nilChk (.t a))
abbrev LI.L (d n a : Nat) : LI := .z d (.loadN n (.t a))
abbrev LI.I (d n a b : Nat) : LI := .z d (.ixAddr n (.t a) (.t b))
abbrev LI.b (d : Nat) (o : BinOp) (t a : Nat) (k : Int) : LI := .z d (.bin o true t (.t a) (.k k))
abbrev LI.c (d : Nat) (o : BinOp) (t a b : Nat) : LI := .z d (.bin o false t (.t a) (.t b))
abbrev LI.u (d : Nat) (o : BinOp) (t a : Nat) (k : UInt64) : LI := .z d (.bin o true t (.t a) (.c (.u k)))
abbrev LI.nb (d g : Nat) (o : BinOp) (t a : Nat) (k : Int) : LI := .n d g (.bin o true t (.t a) (.k k))
abbrev LI.p (d a b : Nat) : LI := .z d (.pick (.t a) .T (.t b))
abbrev LI.q (d a b : Nat) : LI := .z d (.pick (.t a) (.t b) .F)
abbrev LI.K (d : Nat) (k : Int) : LI := .z d (.move (.k k))
abbrev LI.F (d : Nat) : LI := .z d (.move .F)
abbrev LI.e (d : Nat) : LI := .z d (.move (.c .nilSl))
abbrev LI.S (n a b : Nat) : LI := .v (.store n (.t a) (.t b))
abbrev LI.s (d a : Nat) : LI := .z d (.lenSl (.t a))
abbrev LI.x (d a : Nat) : LI := .z d (.box (.t a))
abbrev LI.X (d n a : Nat) : LI := .z d (.extract n (.t a))
abbrev LI.w (d f a : Nat) : LI := .z d (.w f [.t a])
abbrev LI.W (d f a b : Nat) : LI := .z d (.w f [.t a, .t b])
abbrev LI.V (d f a b c : Nat) : LI := .z d (.w f [.t a, .t b, .t c])
abbrev LI.nf (d g n a : Nat) : LI := .n d g (.fieldAddr n (.t a))
abbrev LI.yf (d g n a : Nat) : LI := .y d g (.fieldAddr n (.t a))
abbrev LI.nl (d g a : Nat) : LI := .n d g (.load1 (.t a))
abbrev LI.yl (d g a : Nat) : LI := .y d g (.load1 (.t a))
abbrev LI.a (d n a b : Nat) : LI := .z d (.appG n (.t a) (.t b))
end Go.Sv
noncomputable section
namespace Go.Proofs.YtgjbfhmmgeplmaaGreat
open Go.Sv
set_option linter.unusedSimpArgs false
set_option maxRecDepth 10000
abbrev Mo := Ni Tryz.prog
abbrev P6 := S0 Tryz.prog
abbrev Oa := Qq Tryz.prog
def mixedP:Tryz.prog.follows .mixedOrders=true:=Aa
def law25_lives_run:rg Tryz.prog noO 10000 6=true:=Aa
def law25_lives_ok:Mo 6 [] (.bool true) []:=Ni.lives ⟨Aa,Aa⟩ Aa (zqy mixedP law25_lives_run)
end Go.Proofs.YtgjbfhmmgeplmaaGreat
end
