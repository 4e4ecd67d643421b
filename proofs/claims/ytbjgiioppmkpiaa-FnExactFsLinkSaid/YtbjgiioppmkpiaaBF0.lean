/- What the functions of this seat compute, each as a plain function on lists and numbers, with the proof that a call answers so. No condition. -/
import Derived.Test.YtbjgiioppmkpiaaProg
import Derived.KernelRfl
import Derived.WalkKit
import Derived.Lib.Walk
import Derived.Lib.Bytealg
import Derived.Laws.Externs
import Derived.Lib.AppendZerosOnto
import Derived.Laws.NewBlocks
import Derived.Test.YtbjgiioppmkpiaaRxK3
set_option linter.unusedVariables false
set_option linter.unusedSimpArgs false
namespace Go.Proofs.Ytbjgiioppmkpiaa.Rx
abbrev NT:Type:=Int × Int × Int × Int × Int × Int × Bool × ByteArray × List (ByteArray × Int)
abbrev ZN:NT:=((0:Int),(0:Int),(0:Int),(0:Int),(0:Int),(0:Int),false,ByteArray.empty,[])
end Go.Proofs.Ytbjgiioppmkpiaa.Rx
namespace Go.Proofs.Ytbjgiioppmkpiaa.Rx.S
open Go Go.RowKit Go.Proofs
def tbl:List (TypeId × TI):=[
(2,⟨.int .i64,1,8,[.int .i64],some (.int .i64),false⟩),
(3,⟨.int .i64,1,8,[.int .i64],some (.int .i64),false⟩),
(4,⟨.bool,1,1,[.bool],some .bool,false⟩),
(5,⟨.int .u8,1,1,[.int .u8],some (.int .u8),false⟩),
(6,⟨.int .u8,1,1,[.int .u8],some (.int .u8),false⟩),
(7,⟨.struct [(0,1),(1,1),(2,1),(3,1)],4,24,[.int .i64,.int .i64,.bool,.int .u8],some (.pair (.int .i64) (.pair (.int .i64) (.pair .bool (.int .u8)))),true⟩),
(8,⟨.struct [(0,1),(1,1),(2,1),(3,1)],4,24,[.int .i64,.int .i64,.bool,.int .u8],some (.pair (.int .i64) (.pair (.int .i64) (.pair .bool (.int .u8)))),true⟩),
(9,⟨.str,1,16,[.str],some .str,false⟩),
(10,⟨.str,1,16,[.str],some .str,false⟩),
(11,⟨.str,1,16,[.str],some .str,false⟩),
(12,⟨.int .u64,1,8,[.int .u64],some (.int .u64),false⟩),
(13,⟨.struct [(0,1),(1,1)],2,24,[.str,.int .u64],some (.pair .str (.int .u64)),false⟩),
(14,⟨.struct [(0,1),(1,1)],2,24,[.str,.int .u64],some (.pair .str (.int .u64)),false⟩),
(15,⟨.ptr,1,8,[.ptr],none,false⟩),
(16,⟨.ptr,1,8,[.ptr],none,false⟩),
(17,⟨.ptr,1,8,[.ptr],none,false⟩),
(18,⟨.struct [(0,1)],1,8,[.ptr],none,false⟩),
(19,⟨.struct [(0,1)],1,8,[.ptr],none,false⟩),
(21,⟨.int .i32,1,4,[.int .i32],some (.int .i32),false⟩),
(22,⟨.slice 5,1,24,[.slice],some (.row 5 (.int .u8)),false⟩),
(23,⟨.slice 37,1,24,[.slice],some (.row 37 (.pair (.int .i64) (.pair (.int .i64) (.pair (.int .i64) (.pair (.int .i64) (.pair (.int .i64) (.pair (.int .i64) (.pair .bool (.pair .str (.row 100 (.pair .str (.int .i64)))))))))))),false⟩),
(24,⟨.struct [(0,1)],1,24,[.slice],some (.row 37 (.pair (.int .i64) (.pair (.int .i64) (.pair (.int .i64) (.pair (.int .i64) (.pair (.int .i64) (.pair (.int .i64) (.pair .bool (.pair .str (.row 100 (.pair .str (.int .i64)))))))))))),false⟩),
(25,⟨.struct [(0,1)],1,24,[.slice],some (.row 37 (.pair (.int .i64) (.pair (.int .i64) (.pair (.int .i64) (.pair (.int .i64) (.pair (.int .i64) (.pair (.int .i64) (.pair .bool (.pair .str (.row 100 (.pair .str (.int .i64)))))))))))),false⟩),
(26,⟨.slice 3,1,24,[.slice],some (.row 3 (.int .i64)),false⟩),
(27,⟨.struct [(0,1),(1,1),(2,1)],3,40,[.int .i64,.int .i64,.slice],some (.pair (.int .i64) (.pair (.int .i64) (.row 3 (.int .i64)))),false⟩),
(28,⟨.struct [(0,1),(1,1),(2,1)],3,40,[.int .i64,.int .i64,.slice],some (.pair (.int .i64) (.pair (.int .i64) (.row 3 (.int .i64)))),false⟩),
(35,⟨.slice 100,1,24,[.slice],some (.row 100 (.pair .str (.int .i64))),false⟩),
(36,⟨.struct [(0,1),(1,1),(2,1),(3,1),(4,1),(5,1),(6,1),(7,1),(8,1)],9,96,[.int .i64,.int .i64,.int .i64,.int .i64,.int .i64,.int .i64,.bool,.str,.slice],some (.pair (.int .i64) (.pair (.int .i64) (.pair (.int .i64) (.pair (.int .i64) (.pair (.int .i64) (.pair (.int .i64) (.pair .bool (.pair .str (.row 100 (.pair .str (.int .i64))))))))))),false⟩),
(37,⟨.struct [(0,1),(1,1),(2,1),(3,1),(4,1),(5,1),(6,1),(7,1),(8,1)],9,96,[.int .i64,.int .i64,.int .i64,.int .i64,.int .i64,.int .i64,.bool,.str,.slice],some (.pair (.int .i64) (.pair (.int .i64) (.pair (.int .i64) (.pair (.int .i64) (.pair (.int .i64) (.pair (.int .i64) (.pair .bool (.pair .str (.row 100 (.pair .str (.int .i64))))))))))),false⟩),
(44,⟨.slice 25,1,24,[.slice],some (.row 25 (.row 37 (.pair (.int .i64) (.pair (.int .i64) (.pair (.int .i64) (.pair (.int .i64) (.pair (.int .i64) (.pair (.int .i64) (.pair .bool (.pair .str (.row 100 (.pair .str (.int .i64))))))))))))),false⟩),
(45,⟨.struct [(0,1),(1,1)],2,32,[.slice,.int .i64],some (.pair (.row 25 (.row 37 (.pair (.int .i64) (.pair (.int .i64) (.pair (.int .i64) (.pair (.int .i64) (.pair (.int .i64) (.pair (.int .i64) (.pair .bool (.pair .str (.row 100 (.pair .str (.int .i64))))))))))))) (.int .i64)),false⟩),
(46,⟨.struct [(0,1),(1,1)],2,32,[.slice,.int .i64],some (.pair (.row 25 (.row 37 (.pair (.int .i64) (.pair (.int .i64) (.pair (.int .i64) (.pair (.int .i64) (.pair (.int .i64) (.pair (.int .i64) (.pair .bool (.pair .str (.row 100 (.pair .str (.int .i64))))))))))))) (.int .i64)),false⟩),
(54,⟨.slice 68,1,24,[.slice],some (.row 68 (.row 161 (.pair (.int .i64) (.pair (.int .i64) (.pair (.int .i64) (.pair (.int .i64) (.pair (.int .i64) (.pair (.int .i64) (.pair .bool (.pair .str (.row 178 (.pair .str (.int .i64))))))))))))),false⟩),
(55,⟨.struct [(0,1),(1,1)],2,32,[.slice,.int .i64],some (.pair (.row 68 (.row 161 (.pair (.int .i64) (.pair (.int .i64) (.pair (.int .i64) (.pair (.int .i64) (.pair (.int .i64) (.pair (.int .i64) (.pair .bool (.pair .str (.row 178 (.pair .str (.int .i64))))))))))))) (.int .i64)),false⟩),
(56,⟨.struct [(0,1),(1,1)],2,32,[.slice,.int .i64],some (.pair (.row 68 (.row 161 (.pair (.int .i64) (.pair (.int .i64) (.pair (.int .i64) (.pair (.int .i64) (.pair (.int .i64) (.pair (.int .i64) (.pair .bool (.pair .str (.row 178 (.pair .str (.int .i64))))))))))))) (.int .i64)),false⟩),
(57,⟨.struct [(0,1),(1,1),(2,1)],3,40,[.int .i64,.int .i64,.slice],some (.pair (.int .i64) (.pair (.int .i64) (.row 3 (.int .i64)))),false⟩),
(66,⟨.slice 161,1,24,[.slice],some (.row 161 (.pair (.int .i64) (.pair (.int .i64) (.pair (.int .i64) (.pair (.int .i64) (.pair (.int .i64) (.pair (.int .i64) (.pair .bool (.pair .str (.row 178 (.pair .str (.int .i64)))))))))))),false⟩),
(67,⟨.struct [(0,1)],1,24,[.slice],some (.row 161 (.pair (.int .i64) (.pair (.int .i64) (.pair (.int .i64) (.pair (.int .i64) (.pair (.int .i64) (.pair (.int .i64) (.pair .bool (.pair .str (.row 178 (.pair .str (.int .i64)))))))))))),false⟩),
(68,⟨.struct [(0,1)],1,24,[.slice],some (.row 161 (.pair (.int .i64) (.pair (.int .i64) (.pair (.int .i64) (.pair (.int .i64) (.pair (.int .i64) (.pair (.int .i64) (.pair .bool (.pair .str (.row 178 (.pair .str (.int .i64)))))))))))),false⟩),
(86,⟨.ptr,1,8,[.ptr],none,false⟩),
(99,⟨.struct [(0,1),(1,1)],2,24,[.str,.int .i64],some (.pair .str (.int .i64)),true⟩),
(100,⟨.struct [(0,1),(1,1)],2,24,[.str,.int .i64],some (.pair .str (.int .i64)),true⟩),
(128,⟨.int .i64,1,8,[.int .i64],some (.int .i64),false⟩),
(132,⟨.struct [(0,1),(1,1)],2,32,[.slice,.int .i64],some (.pair (.row 5 (.int .u8)) (.int .i64)),false⟩),
(133,⟨.struct [(0,1),(1,1)],2,32,[.slice,.int .i64],some (.pair (.row 5 (.int .u8)) (.int .i64)),false⟩),
(139,⟨.slice 4,1,24,[.slice],some (.row 4 .bool),false⟩),
(144,⟨.slice 9,1,24,[.slice],some (.row 9 .str),false⟩),
(148,⟨.ptr,1,8,[.ptr],none,false⟩),
(149,⟨.ptr,1,8,[.ptr],none,false⟩),
(159,⟨.slice 178,1,24,[.slice],some (.row 178 (.pair .str (.int .i64))),false⟩),
(160,⟨.struct [(0,1),(1,1),(2,1),(3,1),(4,1),(5,1),(6,1),(7,1),(8,1)],9,96,[.int .i64,.int .i64,.int .i64,.int .i64,.int .i64,.int .i64,.bool,.str,.slice],some (.pair (.int .i64) (.pair (.int .i64) (.pair (.int .i64) (.pair (.int .i64) (.pair (.int .i64) (.pair (.int .i64) (.pair .bool (.pair .str (.row 178 (.pair .str (.int .i64))))))))))),false⟩),
(161,⟨.struct [(0,1),(1,1),(2,1),(3,1),(4,1),(5,1),(6,1),(7,1),(8,1)],9,96,[.int .i64,.int .i64,.int .i64,.int .i64,.int .i64,.int .i64,.bool,.str,.slice],some (.pair (.int .i64) (.pair (.int .i64) (.pair (.int .i64) (.pair (.int .i64) (.pair (.int .i64) (.pair (.int .i64) (.pair .bool (.pair .str (.row 178 (.pair .str (.int .i64))))))))))),false⟩),
(172,⟨.int .u64,1,8,[.int .u64],some (.int .u64),false⟩),
(178,⟨.struct [(0,1),(1,1)],2,24,[.str,.int .i64],some (.pair .str (.int .i64)),true⟩),
(183,⟨.struct [(0,1),(1,1),(2,1),(3,1)],4,40,[.ptr,.ptr,.ptr,.str],none,false⟩),
(184,⟨.struct [(0,1),(1,1),(2,1),(3,1)],4,40,[.ptr,.ptr,.ptr,.str],none,false⟩),
(186,⟨.struct [(0,0)],0,0,[],none,false⟩),
(187,⟨.struct [(0,0)],0,0,[],none,false⟩),
(189,⟨.int .u32,1,4,[.int .u32],some (.int .u32),false⟩),
(190,⟨.int .u8,1,1,[.int .u8],some (.int .u8),false⟩),
(191,⟨.int .u8,1,1,[.int .u8],some (.int .u8),false⟩),
(193,⟨.ptr,1,8,[.ptr],none,false⟩),
(194,⟨.int .i32,1,4,[.int .i32],some (.int .i32),false⟩),
(195,⟨.int .i32,1,4,[.int .i32],some (.int .i32),false⟩),
(199,⟨.other,1,8,[.ptr],none,false⟩)]
def TT:TB:=tbOf tbl
theorem tt_ok:TBok Try.prog TT:=tbOk (by decide +kernel)
abbrev i64:Ty:=.int .i64
abbrev tEn:Ty:=.pair .str i64
abbrev tIn (a:TypeId):Ty:=.pair i64 (.pair i64 (.pair i64 (.pair i64 (.pair i64 (.pair i64 (.pair .bool (.pair .str (.row a tEn))))))))
abbrev tFs:Ty:=.row 37 (tIn 100)
abbrev tLf:Ty:=.row 161 (tIn 178)
abbrev tCr:Ty:=.pair i64 (.pair i64 (.row 3 i64))
theorem mixed:Try.prog.follows .mixedOrders=true:=by kernel_rfl
end Go.Proofs.Ytbjgiioppmkpiaa.Rx.S

namespace Go.Proofs.Ytbjgiioppmkpiaa.Rx.S
open Go Go.RowKit Go.Proofs
set_option maxRecDepth 100000
noncomputable def c66:Code:=(Try.f66.body.getD .skip)
def an66:An:=⟨fun _=>⟨[],[]⟩,fun _ _=>none⟩
abbrev ps66:List PK:=[.val i64 false,.val i64 false,.val i64 false]
abbrev rs66:List RK:=[.val .bool false]
abbrev R66:=retsD rs66 × outsD ps66
noncomputable def G66:Gam:=fun _=>none
theorem h0_66 (hg:GamOK Try.prog G66):Holds Try.prog 66 ⟨ps66,rs66,false,runF TT G66 an66 Try.f66 c66 ps66 rs66⟩:=holds_of tt_ok hg mixed Try.func66 (by kernel_rfl) (by rfl) (by decide +kernel)
noncomputable def st66_top (n:Nat) (a:Int) (b:Int) (c:Int):Option R66 :=
 cond (decide (b≤a)) (some ((decide (a≤c),()),())) (some ((false,()),()))
theorem e66_top (n:Nat) (a:Int) (b:Int) (c:Int):runF TT G66 an66 Try.f66 c66 ps66 rs66 n (a,b,c,())=st66_top n a b c:=by kernel_rfl
noncomputable def p66 (n:Nat) (a:Int) (b:Int) (c:Int):Option R66:=st66_top n a b c
theorem F66_eq (n:Nat) (a:Int) (b:Int) (c:Int):runF TT G66 an66 Try.f66 c66 ps66 rs66 n (a,b,c,())=p66 n a b c:=by
 rw [e66_top]
 skip
 try rfl
noncomputable def q66 (n:Nat) (x:argsD ps66):Option R66:=p66 n x.1 x.2.1 x.2.2.1
noncomputable def Sm66:Sm:=⟨ps66,rs66,false,q66⟩
theorem holds66 (hg:GamOK Try.prog G66):Holds Try.prog 66 Sm66:=by
 have:=h0_66 hg
 have e:(runF TT G66 an66 Try.f66 c66 ps66 rs66)=q66:=by
  funext n x
  exact F66_eq n x.1 x.2.1 x.2.2.1
 rw [e] at this
 exact this
theorem gam66:GamOK Try.prog G66:=fun _ _ h=>by cases h
theorem hh66:Holds Try.prog 66 Sm66:=holds66 gam66
end Go.Proofs.Ytbjgiioppmkpiaa.Rx.S

namespace Go.Proofs.Ytbjgiioppmkpiaa.Rx.S
open Go Go.RowKit Go.Proofs
set_option maxRecDepth 100000
noncomputable def c118:Code:=(Try.f118.body.getD .skip)
def an118:An:=⟨fun _=>⟨[],[]⟩,fun _ _=>none⟩
abbrev ps118:List PK:=[.val i64 false]
abbrev rs118:List RK:=[.val .bool false]
abbrev R118:=retsD rs118 × outsD ps118
noncomputable def G118:Gam:=fun f=>match f with | 66=>some Sm66 | _=>none
theorem h0_118 (hg:GamOK Try.prog G118):Holds Try.prog 118 ⟨ps118,rs118,false,runF TT G118 an118 Try.f118 c118 ps118 rs118⟩:=holds_of tt_ok hg mixed Try.func118 (by kernel_rfl) (by rfl) (by decide +kernel)
noncomputable def st118_top (n:Nat) (a:Int):Option R118 :=
 (q66 n (a,(0:Int),(9:Int),())).bind fun r0=>some ((r0.1.1,()),())
theorem e118_top (n:Nat) (a:Int):runF TT G118 an118 Try.f118 c118 ps118 rs118 n (a,())=st118_top n a:=by kernel_rfl
noncomputable def p118 (n:Nat) (a:Int):Option R118:=st118_top n a
theorem F118_eq (n:Nat) (a:Int):runF TT G118 an118 Try.f118 c118 ps118 rs118 n (a,())=p118 n a:=by
 rw [e118_top]
 skip
 try rfl
noncomputable def q118 (n:Nat) (x:argsD ps118):Option R118:=p118 n x.1
noncomputable def Sm118:Sm:=⟨ps118,rs118,false,q118⟩
theorem holds118 (hg:GamOK Try.prog G118):Holds Try.prog 118 Sm118:=by
 have:=h0_118 hg
 have e:(runF TT G118 an118 Try.f118 c118 ps118 rs118)=q118:=by
  funext n x
  exact F118_eq n x.1
 rw [e] at this
 exact this
theorem gam118:GamOK Try.prog G118:=by
 intro f s h
 unfold G118 at h
 split at h
 ·injection h with h; subst h; exact ⟨⟨Try.f66,c66,Try.func66,by kernel_rfl,by decide +kernel⟩,hh66⟩
 ·cases h
theorem hh118:Holds Try.prog 118 Sm118:=holds118 gam118
end Go.Proofs.Ytbjgiioppmkpiaa.Rx.S

namespace Go.Proofs.Ytbjgiioppmkpiaa.Rx.S
open Go Go.RowKit Go.Proofs
set_option maxRecDepth 100000
noncomputable def c65:Code:=(Try.f65.body.getD .skip)
def an65:An:=⟨fun _=>⟨[],[]⟩,fun _ _=>none⟩
abbrev ps65:List PK:=[.val tFs true,.val i64 false]
abbrev rs65:List RK:=[.val .bool false]
abbrev R65:=retsD rs65 × outsD ps65
noncomputable def G65:Gam:=fun f=>match f with | 66=>some Sm66 | _=>none
theorem h0_65 (hg:GamOK Try.prog G65):Holds Try.prog 65 ⟨ps65,rs65,false,runF TT G65 an65 Try.f65 c65 ps65 rs65⟩:=holds_of tt_ok hg mixed Try.func65 (by kernel_rfl) (by rfl) (by decide +kernel)
noncomputable def st65_top (n:Nat) (a:List NT) (b:Int):Option R65 :=
 (q66 n (b,(0:Int),Go.IntKind.i64.wrap ((↑a.length:Int) - (1:Int)),())).bind fun r0=>cond (r0.1.1) (cond (decide ((0:Int)≤b)) (cond (decide (b < (↑a.length:Int))) (some ((!decide ((a.getD b.toNat ZN).1=(0:Int)),()),())) (none)) (none)) (some ((false,()),()))
theorem e65_top (n:Nat) (a:List NT) (b:Int):runF TT G65 an65 Try.f65 c65 ps65 rs65 n (a,b,())=st65_top n a b:=by kernel_rfl
noncomputable def p65 (n:Nat) (a:List NT) (b:Int):Option R65:=st65_top n a b
theorem F65_eq (n:Nat) (a:List NT) (b:Int):runF TT G65 an65 Try.f65 c65 ps65 rs65 n (a,b,())=p65 n a b:=by
 rw [e65_top]
 skip
 try rfl
noncomputable def q65 (n:Nat) (x:argsD ps65):Option R65:=p65 n x.1 x.2.1
noncomputable def Sm65:Sm:=⟨ps65,rs65,false,q65⟩
theorem holds65 (hg:GamOK Try.prog G65):Holds Try.prog 65 Sm65:=by
 have:=h0_65 hg
 have e:(runF TT G65 an65 Try.f65 c65 ps65 rs65)=q65:=by
  funext n x
  exact F65_eq n x.1 x.2.1
 rw [e] at this
 exact this
theorem gam65:GamOK Try.prog G65:=by
 intro f s h
 unfold G65 at h
 split at h
 ·injection h with h; subst h; exact ⟨⟨Try.f66,c66,Try.func66,by kernel_rfl,by decide +kernel⟩,hh66⟩
 ·cases h
theorem hh65:Holds Try.prog 65 Sm65:=holds65 gam65
end Go.Proofs.Ytbjgiioppmkpiaa.Rx.S

namespace Go.Proofs.Ytbjgiioppmkpiaa.Rx.S
open Go Go.RowKit Go.Proofs
set_option maxRecDepth 100000
noncomputable def c160:Code:=(Try.f160.body.getD .skip)
def an160:An:=⟨fun r=>match r with | 2=>⟨[0,1,5],[]⟩ | _=>⟨[],[]⟩,fun _ _=>none⟩
abbrev ps160:List PK:=[.val (.row 3 i64) false,.val i64 false]
abbrev rs160:List RK:=[.val .bool false]
abbrev R160:=retsD rs160 × outsD ps160
noncomputable def G160:Gam:=fun _=>none
theorem h0_160 (hg:GamOK Try.prog G160):Holds Try.prog 160 ⟨ps160,rs160,false,runF TT G160 an160 Try.f160 c160 ps160 rs160⟩:=holds_of tt_ok hg mixed Try.func160 (by kernel_rfl) (by rfl) (by decide +kernel)
noncomputable def at160:Nat→Pt→List Nat→St→Option R160:=atF TT G160 an160 Try.f160 c160 _ _
def sh160_L2 (x0:List Int) (x1:Int) (x2:Int):St:=(St.mk ((AV.one (SV.con (⟨3,Ty.int Go.IntKind.i64,x0⟩:Rw))) :: ((AV.one (SV.int (Go.IntKind.i64) x1)) :: (AV.undef :: (AV.undef :: (AV.undef :: ((AV.one (SV.int (Go.IntKind.i64) x2)) :: (AV.undef :: (AV.undef :: (AV.undef :: (AV.undef :: (AV.undef :: (AV.undef :: (AV.undef :: (AV.undef :: (AV.undef :: (AV.undef :: (AV.undef :: (AV.undef :: [])))))))))))))))))) [])
noncomputable def st160_top (n:Nat) (lL2:(List Int)→Int→Int→Option R160) (a:List Int) (b:Int):Option R160 :=
 lL2 (a) (b) ((0:Int))
noncomputable def st160_L2 (n:Nat) (lL2:(List Int)→Int→Int→Option R160) (x0:List Int) (x1:Int) (x2:Int):Option R160 :=
 cond (decide (x2 < (↑x0.length:Int))) (cond (decide ((0:Int)≤x2)) (cond (decide (x2 < (↑x0.length:Int))) (cond (decide (x0.getD x2.toNat (0:Int)=x1)) (some ((true,()),())) (lL2 (x0) (x1) (Go.IntKind.i64.wrap (x2 + (1:Int))))) (none)) (none)) (some ((false,()),()))
theorem e160_top (n:Nat) (a:List Int) (b:Int):runF TT G160 an160 Try.f160 c160 ps160 rs160 n (a,b,())=st160_top n (fun x0 x1 x2=>at160 n (.head 2) [n] (sh160_L2 x0 x1 x2)) a b:=by kernel_rfl
theorem e160_L2_0 (n:Nat) (x0:List Int) (x1:Int) (x2:Int):at160 n (.head 2) [0] (sh160_L2 x0 x1 x2)=none:=by kernel_rfl
theorem e160_L2 (n:Nat) (m2:Nat) (x0:List Int) (x1:Int) (x2:Int):at160 n (.head 2) [m2 + 1] (sh160_L2 x0 x1 x2)=st160_L2 n (fun x0 x1 x2=>at160 n (.head 2) [m2] (sh160_L2 x0 x1 x2)) x0 x1 x2:=by kernel_rfl
noncomputable def p160_L2 (n:Nat):Nat→(List Int)→Int→Int→Option R160
 | 0,_,_,_=>none
 | m + 1,x0,x1,x2=>st160_L2 n (p160_L2 n m) x0 x1 x2
noncomputable def p160 (n:Nat) (a:List Int) (b:Int):Option R160:=st160_top n (p160_L2 n n) a b
theorem t160_L2 (n:Nat):∀ (m2:Nat) (x0:List Int) (x1:Int) (x2:Int),at160 n (.head 2) [m2] (sh160_L2 x0 x1 x2)=p160_L2 n m2 x0 x1 x2:=by
 intro m
 induction m with
 | zero=>intros; rw [e160_L2_0]; rfl
 | succ m ih =>
  intros
  rw [e160_L2]
  try simp only [ih]
  rfl
theorem F160_eq (n:Nat) (a:List Int) (b:Int):runF TT G160 an160 Try.f160 c160 ps160 rs160 n (a,b,())=p160 n a b:=by
 rw [e160_top]
 simp only [t160_L2]
 try rfl
noncomputable def q160 (n:Nat) (x:argsD ps160):Option R160:=p160 n x.1 x.2.1
noncomputable def Sm160:Sm:=⟨ps160,rs160,false,q160⟩
theorem holds160 (hg:GamOK Try.prog G160):Holds Try.prog 160 Sm160:=by
 have:=h0_160 hg
 have e:(runF TT G160 an160 Try.f160 c160 ps160 rs160)=q160:=by
  funext n x
  exact F160_eq n x.1 x.2.1
 rw [e] at this
 exact this
theorem gam160:GamOK Try.prog G160:=fun _ _ h=>by cases h
theorem hh160:Holds Try.prog 160 Sm160:=holds160 gam160
end Go.Proofs.Ytbjgiioppmkpiaa.Rx.S

namespace Go.Proofs.Ytbjgiioppmkpiaa.Rx.S
open Go Go.RowKit Go.Proofs
set_option maxRecDepth 100000
noncomputable def c154:Code:=(Try.f154.body.getD .skip)
def an154:An:=⟨fun _=>⟨[],[]⟩,fun _ _=>none⟩
abbrev ps154:List PK:=[.val tCr true,.val i64 false,.val i64 false,.val i64 false,.val i64 false]
abbrev rs154:List RK:=[.val .bool false]
abbrev R154:=retsD rs154 × outsD ps154
noncomputable def G154:Gam:=fun f=>match f with | 160=>some Sm160 | _=>none
theorem h0_154 (hg:GamOK Try.prog G154):Holds Try.prog 154 ⟨ps154,rs154,false,runF TT G154 an154 Try.f154 c154 ps154 rs154⟩:=holds_of tt_ok hg mixed Try.func154 (by kernel_rfl) (by rfl) (by decide +kernel)
noncomputable def st154_top (n:Nat) (a:Int × Int × List Int) (b:Int) (c:Int) (d:Int) (e:Int):Option R154 :=
 cond (decide (a.1=(0:Int))) (cond (decide ((0:Int) < Go.IntKind.i64.wrap (Go.IntKind.i64.wrap (d.tmod (2:Int) + (Go.IntKind.i64.wrap (d.tdiv (8:Int))).tmod (2:Int)) + (Go.IntKind.i64.wrap (d.tdiv (64:Int))).tmod (2:Int)))) (some ((decide (Go.IntKind.i64.wrap (↑(BitVec.ofInt Go.IntKind.i64.bits (7:Int) &&& BitVec.ofInt Go.IntKind.i64.bits e).toNat:Int)=e),()),())) (some ((decide (Go.IntKind.i64.wrap (↑(BitVec.ofInt Go.IntKind.i64.bits (6:Int) &&& BitVec.ofInt Go.IntKind.i64.bits e).toNat:Int)=e),()),()))) (cond (decide (a.1=b)) (some ((decide (Go.IntKind.i64.wrap (↑(BitVec.ofInt Go.IntKind.i64.bits (Go.IntKind.i64.wrap (d.tdiv (64:Int))) &&& BitVec.ofInt Go.IntKind.i64.bits e).toNat:Int)=e),()),())) ((q160 n (a.2.2,c,())).bind fun r0=>cond (r0.1.1) (some ((decide (Go.IntKind.i64.wrap (↑(BitVec.ofInt Go.IntKind.i64.bits ((Go.IntKind.i64.wrap (d.tdiv (8:Int))).tmod (8:Int)) &&& BitVec.ofInt Go.IntKind.i64.bits e).toNat:Int)=e),()),())) (some ((decide (Go.IntKind.i64.wrap (↑(BitVec.ofInt Go.IntKind.i64.bits (d.tmod (8:Int)) &&& BitVec.ofInt Go.IntKind.i64.bits e).toNat:Int)=e),()),()))))
theorem e154_top (n:Nat) (a:Int × Int × List Int) (b:Int) (c:Int) (d:Int) (e:Int):runF TT G154 an154 Try.f154 c154 ps154 rs154 n (a,b,c,d,e,())=st154_top n a b c d e:=by kernel_rfl
noncomputable def p154 (n:Nat) (a:Int × Int × List Int) (b:Int) (c:Int) (d:Int) (e:Int):Option R154:=st154_top n a b c d e
theorem F154_eq (n:Nat) (a:Int × Int × List Int) (b:Int) (c:Int) (d:Int) (e:Int):runF TT G154 an154 Try.f154 c154 ps154 rs154 n (a,b,c,d,e,())=p154 n a b c d e:=by
 rw [e154_top]
 skip
 try rfl
noncomputable def q154 (n:Nat) (x:argsD ps154):Option R154:=p154 n x.1 x.2.1 x.2.2.1 x.2.2.2.1 x.2.2.2.2.1
noncomputable def Sm154:Sm:=⟨ps154,rs154,false,q154⟩
theorem holds154 (hg:GamOK Try.prog G154):Holds Try.prog 154 Sm154:=by
 have:=h0_154 hg
 have e:(runF TT G154 an154 Try.f154 c154 ps154 rs154)=q154:=by
  funext n x
  exact F154_eq n x.1 x.2.1 x.2.2.1 x.2.2.2.1 x.2.2.2.2.1
 rw [e] at this
 exact this
theorem gam154:GamOK Try.prog G154:=by
 intro f s h
 unfold G154 at h
 split at h
 ·injection h with h; subst h; exact ⟨⟨Try.f160,c160,Try.func160,by kernel_rfl,by decide +kernel⟩,hh160⟩
 ·cases h
theorem hh154:Holds Try.prog 154 Sm154:=holds154 gam154
end Go.Proofs.Ytbjgiioppmkpiaa.Rx.S

namespace Go.Proofs.Ytbjgiioppmkpiaa.Rx.S
open Go Go.RowKit Go.Proofs
set_option maxRecDepth 100000
noncomputable def c142:Code:=(Try.f142.body.getD .skip)
def an142:An:=⟨fun _=>⟨[],[]⟩,fun _ _=>none⟩
abbrev ps142:List PK:=[.val tFs true,.val tCr true,.val i64 false,.val i64 false]
abbrev rs142:List RK:=[.val .bool false]
abbrev R142:=retsD rs142 × outsD ps142
noncomputable def G142:Gam:=fun f=>match f with | 154=>some Sm154 | _=>none
theorem h0_142 (hg:GamOK Try.prog G142):Holds Try.prog 142 ⟨ps142,rs142,false,runF TT G142 an142 Try.f142 c142 ps142 rs142⟩:=holds_of tt_ok hg mixed Try.func142 (by kernel_rfl) (by rfl) (by decide +kernel)
noncomputable def st142_top (n:Nat) (a:List NT) (b:Int × Int × List Int) (c:Int) (d:Int):Option R142 :=
 cond (decide ((0:Int)≤c)) (cond (decide (c < (↑a.length:Int))) ((q154 n ((b.1,b.2.1,b.2.2),(a.getD c.toNat ZN).2.2.1,(a.getD c.toNat ZN).2.2.2.1,(a.getD c.toNat ZN).2.1,d,())).bind fun r0=>some ((r0.1.1,()),())) (none)) (none)
theorem e142_top (n:Nat) (a:List NT) (b:Int × Int × List Int) (c:Int) (d:Int):runF TT G142 an142 Try.f142 c142 ps142 rs142 n (a,b,c,d,())=st142_top n a b c d:=by kernel_rfl
noncomputable def p142 (n:Nat) (a:List NT) (b:Int × Int × List Int) (c:Int) (d:Int):Option R142:=st142_top n a b c d
theorem F142_eq (n:Nat) (a:List NT) (b:Int × Int × List Int) (c:Int) (d:Int):runF TT G142 an142 Try.f142 c142 ps142 rs142 n (a,b,c,d,())=p142 n a b c d:=by
 rw [e142_top]
 skip
 try rfl
noncomputable def q142 (n:Nat) (x:argsD ps142):Option R142:=p142 n x.1 x.2.1 x.2.2.1 x.2.2.2.1
noncomputable def Sm142:Sm:=⟨ps142,rs142,false,q142⟩
theorem holds142 (hg:GamOK Try.prog G142):Holds Try.prog 142 Sm142:=by
 have:=h0_142 hg
 have e:(runF TT G142 an142 Try.f142 c142 ps142 rs142)=q142:=by
  funext n x
  exact F142_eq n x.1 x.2.1 x.2.2.1 x.2.2.2.1
 rw [e] at this
 exact this
theorem gam142:GamOK Try.prog G142:=by
 intro f s h
 unfold G142 at h
 split at h
 ·injection h with h; subst h; exact ⟨⟨Try.f154,c154,Try.func154,by kernel_rfl,by decide +kernel⟩,hh154⟩
 ·cases h
theorem hh142:Holds Try.prog 142 Sm142:=holds142 gam142
end Go.Proofs.Ytbjgiioppmkpiaa.Rx.S

namespace Go.Proofs.Ytbjgiioppmkpiaa.Rx.S
open Go Go.RowKit Go.Proofs
set_option maxRecDepth 100000
noncomputable def c125:Code:=(Try.f125.body.getD .skip)
def an125:An:=⟨fun _=>⟨[],[]⟩,fun _ _=>none⟩
abbrev ps125:List PK:=[.val tFs true,.val tCr true,.val i64 false,.val i64 false]
abbrev rs125:List RK:=[.val i64 false]
abbrev R125:=retsD rs125 × outsD ps125
noncomputable def G125:Gam:=fun f=>match f with | 142=>some Sm142 | _=>none
theorem h0_125 (hg:GamOK Try.prog G125):Holds Try.prog 125 ⟨ps125,rs125,false,runF TT G125 an125 Try.f125 c125 ps125 rs125⟩:=holds_of tt_ok hg mixed Try.func125 (by kernel_rfl) (by rfl) (by decide +kernel)
noncomputable def st125_top (n:Nat) (a:List NT) (b:Int × Int × List Int) (c:Int) (d:Int):Option R125 :=
 cond (decide ((0:Int)≤c)) (cond (decide (c < (↑a.length:Int))) (cond (!decide ((a.getD c.toNat ZN).1=(2:Int))) (some (((4:Int),()),())) ((q142 n (a,(b.1,b.2.1,b.2.2),c,d,())).bind fun r0=>cond (!r0.1.1) (some (((5:Int),()),())) (some (((0:Int),()),())))) (none)) (none)
theorem e125_top (n:Nat) (a:List NT) (b:Int × Int × List Int) (c:Int) (d:Int):runF TT G125 an125 Try.f125 c125 ps125 rs125 n (a,b,c,d,())=st125_top n a b c d:=by kernel_rfl
noncomputable def p125 (n:Nat) (a:List NT) (b:Int × Int × List Int) (c:Int) (d:Int):Option R125:=st125_top n a b c d
theorem F125_eq (n:Nat) (a:List NT) (b:Int × Int × List Int) (c:Int) (d:Int):runF TT G125 an125 Try.f125 c125 ps125 rs125 n (a,b,c,d,())=p125 n a b c d:=by
 rw [e125_top]
 skip
 try rfl
noncomputable def q125 (n:Nat) (x:argsD ps125):Option R125:=p125 n x.1 x.2.1 x.2.2.1 x.2.2.2.1
noncomputable def Sm125:Sm:=⟨ps125,rs125,false,q125⟩
theorem holds125 (hg:GamOK Try.prog G125):Holds Try.prog 125 Sm125:=by
 have:=h0_125 hg
 have e:(runF TT G125 an125 Try.f125 c125 ps125 rs125)=q125:=by
  funext n x
  exact F125_eq n x.1 x.2.1 x.2.2.1 x.2.2.2.1
 rw [e] at this
 exact this
theorem gam125:GamOK Try.prog G125:=by
 intro f s h
 unfold G125 at h
 split at h
 ·injection h with h; subst h; exact ⟨⟨Try.f142,c142,Try.func142,by kernel_rfl,by decide +kernel⟩,hh142⟩
 ·cases h
theorem hh125:Holds Try.prog 125 Sm125:=holds125 gam125
end Go.Proofs.Ytbjgiioppmkpiaa.Rx.S

namespace Go.Proofs.Ytbjgiioppmkpiaa.Rx.S
open Go Go.RowKit Go.Proofs
set_option maxRecDepth 100000
noncomputable def c126:Code:=(Try.f126.body.getD .skip)
def an126:An:=⟨fun r=>match r with | 2=>⟨[1,2,5],[]⟩ | _=>⟨[],[]⟩,fun _ _=>none⟩
abbrev ps126:List PK:=[.val (tIn 100) true,.val .str false]
abbrev rs126:List RK:=[.val i64 false]
abbrev R126:=retsD rs126 × outsD ps126
noncomputable def G126:Gam:=fun _=>none
theorem h0_126 (hg:GamOK Try.prog G126):Holds Try.prog 126 ⟨ps126,rs126,false,runF TT G126 an126 Try.f126 c126 ps126 rs126⟩:=holds_of tt_ok hg mixed Try.func126 (by kernel_rfl) (by rfl) (by decide +kernel)
noncomputable def at126:Nat→Pt→List Nat→St→Option R126:=atF TT G126 an126 Try.f126 c126 _ _
def sh126_L2 (x0:ByteArray) (x1:Int) (x2:Int) (x3:Int) (x4:Int) (x5:Int) (x6:Int) (x7:Int) (x8:Bool) (x9:ByteArray) (x10:List (ByteArray × Int)):St:=(St.mk (AV.undef :: ((AV.one (SV.str x0)) :: ((AV.one (SV.bptr 1000000 0)) :: (AV.undef :: (AV.undef :: ((AV.one (SV.int (Go.IntKind.i64) x1)) :: (AV.undef :: (AV.undef :: (AV.undef :: (AV.undef :: (AV.undef :: (AV.undef :: (AV.undef :: (AV.undef :: (AV.undef :: (AV.undef :: (AV.undef :: (AV.undef :: (AV.undef :: (AV.undef :: (AV.undef :: (AV.undef :: [])))))))))))))))))))))) ((1000000,(Ent.box ((SV.int (Go.IntKind.i64) x2) :: ((SV.int (Go.IntKind.i64) x3) :: ((SV.int (Go.IntKind.i64) x4) :: ((SV.int (Go.IntKind.i64) x5) :: ((SV.int (Go.IntKind.i64) x6) :: ((SV.int (Go.IntKind.i64) x7) :: ((SV.bool x8) :: ((SV.str x9) :: ((SV.con (⟨100,Ty.str.pair (Ty.int Go.IntKind.i64),x10⟩:Rw)) :: []))))))))))) :: []))
noncomputable def st126_top (n:Nat) (lL2:ByteArray→Int→Int→Int→Int→Int→Int→Int→Bool→ByteArray→(List (ByteArray × Int))→Option R126) (a:NT) (b:ByteArray):Option R126 :=
 lL2 (b) ((0:Int)) (a.1) (a.2.1) (a.2.2.1) (a.2.2.2.1) (a.2.2.2.2.1) (a.2.2.2.2.2.1) (a.2.2.2.2.2.2.1) (a.2.2.2.2.2.2.2.1) (a.2.2.2.2.2.2.2.2)
noncomputable def st126_L2 (n:Nat) (lL2:ByteArray→Int→Int→Int→Int→Int→Int→Int→Bool→ByteArray→(List (ByteArray × Int))→Option R126) (x0:ByteArray) (x1:Int) (x2:Int) (x3:Int) (x4:Int) (x5:Int) (x6:Int) (x7:Int) (x8:Bool) (x9:ByteArray) (x10:List (ByteArray × Int)):Option R126 :=
 cond (decide (x1 < (↑x10.length:Int))) (cond (decide ((0:Int)≤x1)) (cond (decide (x1 < (↑x10.length:Int))) (cond (ByteArray.toList (x10.getD x1.toNat (ByteArray.empty,(0:Int))).1 == x0.toList) (some ((x1,()),())) (lL2 (x0) (Go.IntKind.i64.wrap (x1 + (1:Int))) (x2) (x3) (x4) (x5) (x6) (x7) (x8) (x9) (x10))) (none)) (none)) (some (((-1:Int),()),()))
theorem e126_top (n:Nat) (a:NT) (b:ByteArray):runF TT G126 an126 Try.f126 c126 ps126 rs126 n (a,b,())=st126_top n (fun x0 x1 x2 x3 x4 x5 x6 x7 x8 x9 x10=>at126 n (.head 2) [n] (sh126_L2 x0 x1 x2 x3 x4 x5 x6 x7 x8 x9 x10)) a b:=by kernel_rfl
theorem e126_L2_0 (n:Nat) (x0:ByteArray) (x1:Int) (x2:Int) (x3:Int) (x4:Int) (x5:Int) (x6:Int) (x7:Int) (x8:Bool) (x9:ByteArray) (x10:List (ByteArray × Int)):at126 n (.head 2) [0] (sh126_L2 x0 x1 x2 x3 x4 x5 x6 x7 x8 x9 x10)=none:=by kernel_rfl
theorem e126_L2 (n:Nat) (m2:Nat) (x0:ByteArray) (x1:Int) (x2:Int) (x3:Int) (x4:Int) (x5:Int) (x6:Int) (x7:Int) (x8:Bool) (x9:ByteArray) (x10:List (ByteArray × Int)):at126 n (.head 2) [m2 + 1] (sh126_L2 x0 x1 x2 x3 x4 x5 x6 x7 x8 x9 x10)=st126_L2 n (fun x0 x1 x2 x3 x4 x5 x6 x7 x8 x9 x10=>at126 n (.head 2) [m2] (sh126_L2 x0 x1 x2 x3 x4 x5 x6 x7 x8 x9 x10)) x0 x1 x2 x3 x4 x5 x6 x7 x8 x9 x10:=by kernel_rfl
noncomputable def p126_L2 (n:Nat):Nat→ByteArray→Int→Int→Int→Int→Int→Int→Int→Bool→ByteArray→(List (ByteArray × Int))→Option R126
 | 0,_,_,_,_,_,_,_,_,_,_,_=>none
 | m + 1,x0,x1,x2,x3,x4,x5,x6,x7,x8,x9,x10=>st126_L2 n (p126_L2 n m) x0 x1 x2 x3 x4 x5 x6 x7 x8 x9 x10
noncomputable def p126 (n:Nat) (a:NT) (b:ByteArray):Option R126:=st126_top n (p126_L2 n n) a b
theorem t126_L2 (n:Nat):∀ (m2:Nat) (x0:ByteArray) (x1:Int) (x2:Int) (x3:Int) (x4:Int) (x5:Int) (x6:Int) (x7:Int) (x8:Bool) (x9:ByteArray) (x10:List (ByteArray × Int)),at126 n (.head 2) [m2] (sh126_L2 x0 x1 x2 x3 x4 x5 x6 x7 x8 x9 x10)=p126_L2 n m2 x0 x1 x2 x3 x4 x5 x6 x7 x8 x9 x10:=by
 intro m
 induction m with
 | zero=>intros; rw [e126_L2_0]; rfl
 | succ m ih =>
  intros
  rw [e126_L2]
  try simp only [ih]
  rfl
theorem F126_eq (n:Nat) (a:NT) (b:ByteArray):runF TT G126 an126 Try.f126 c126 ps126 rs126 n (a,b,())=p126 n a b:=by
 rw [e126_top]
 simp only [t126_L2]
 try rfl
noncomputable def q126 (n:Nat) (x:argsD ps126):Option R126:=p126 n x.1 x.2.1
noncomputable def Sm126:Sm:=⟨ps126,rs126,false,q126⟩
theorem holds126 (hg:GamOK Try.prog G126):Holds Try.prog 126 Sm126:=by
 have:=h0_126 hg
 have e:(runF TT G126 an126 Try.f126 c126 ps126 rs126)=q126:=by
  funext n x
  exact F126_eq n x.1 x.2.1
 rw [e] at this
 exact this
theorem gam126:GamOK Try.prog G126:=fun _ _ h=>by cases h
theorem hh126:Holds Try.prog 126 Sm126:=holds126 gam126
end Go.Proofs.Ytbjgiioppmkpiaa.Rx.S

namespace Go.Proofs.Ytbjgiioppmkpiaa.Rx.S
open Go Go.RowKit Go.Proofs
set_option maxRecDepth 100000
noncomputable def c140:Code:=(Try.f140.body.getD .skip)
def an140:An:=⟨fun r=>match r with | 4=>⟨[1,3,5,6,7,8,9],[]⟩ | _=>⟨[],[]⟩,fun _ _=>none⟩
abbrev ps140:List PK:=[.own tFs true,.val i64 false,.val tEn true]
abbrev rs140:List RK:=[.own tFs true]
abbrev R140:=retsD rs140 × outsD ps140
noncomputable def G140:Gam:=fun _=>none
theorem h0_140 (hg:GamOK Try.prog G140):Holds Try.prog 140 ⟨ps140,rs140,false,runF TT G140 an140 Try.f140 c140 ps140 rs140⟩:=holds_of tt_ok hg mixed Try.func140 (by kernel_rfl) (by rfl) (by decide +kernel)
noncomputable def at140:Nat→Pt→List Nat→St→Option R140:=atF TT G140 an140 Try.f140 c140 _ _
def sh140_L4 (x0:Int) (x1:Bool) (x2:Int) (x3:ByteArray) (x4:Int) (x5:List (ByteArray × Int)) (x6:List NT):St:=(St.mk (AV.undef :: ((AV.one (SV.int (Go.IntKind.i64) x0)) :: (AV.undef :: ((AV.one (SV.bptr 1000000 0)) :: (AV.undef :: ((AV.one (SV.bptr 1000001 0)) :: ((AV.one (SV.bptr 1000002 0)) :: ((AV.one (SV.ref 1000003 0 [] Option.none)) :: ((AV.one (SV.bool x1)) :: ((AV.one (SV.int (Go.IntKind.i64) x2)) :: (AV.undef :: (AV.undef :: (AV.undef :: (AV.undef :: (AV.undef :: (AV.undef :: (AV.undef :: (AV.undef :: (AV.undef :: (AV.undef :: (AV.undef :: (AV.undef :: (AV.undef :: (AV.undef :: (AV.undef :: (AV.undef :: (AV.undef :: (AV.undef :: (AV.undef :: (AV.undef :: (AV.undef :: (AV.undef :: (AV.undef :: (AV.undef :: (AV.undef :: (AV.undef :: (AV.undef :: (AV.undef :: (AV.undef :: (AV.undef :: (AV.undef :: (AV.undef :: (AV.undef :: (AV.undef :: (AV.undef :: (AV.undef :: (AV.undef :: (AV.undef :: (AV.undef :: (AV.undef :: (AV.undef :: (AV.undef :: (AV.undef :: (AV.undef :: (AV.undef :: (AV.undef :: (AV.undef :: (AV.undef :: (AV.undef :: (AV.undef :: (AV.undef :: (AV.undef :: [])))))))))))))))))))))))))))))))))))))))))))))))))))))))))))))) ((1000000,(Ent.box ((SV.ref 1000004 0 [] Option.none) :: []))) :: ((1000001,(Ent.box ((SV.str x3) :: ((SV.int (Go.IntKind.i64) x4) :: [])))) :: ((1000002,(Ent.box (SV.nil :: []))) :: ((1000003,(Ent.row (⟨100,Ty.str.pair (Ty.int Go.IntKind.i64),x5⟩:Rw) 0 Option.none)) :: ((1000004,(Ent.row (⟨37,(Ty.int Go.IntKind.i64).pair ((Ty.int Go.IntKind.i64).pair ((Ty.int Go.IntKind.i64).pair ((Ty.int Go.IntKind.i64).pair ((Ty.int Go.IntKind.i64).pair ((Ty.int Go.IntKind.i64).pair (Ty.bool.pair (Ty.str.pair (Ty.row (nat_lit 100) (Ty.str.pair (Ty.int Go.IntKind.i64)))))))))),x6⟩:Rw) 0 Option.none)) :: []))))))
noncomputable def st140_top (n:Nat) (lL4:Int→Bool→Int→ByteArray→Int→(List (ByteArray × Int))→(List NT)→Option R140) (a:List NT) (b:Int) (c:ByteArray × Int):Option R140 :=
 lL4 (b) (false) ((0:Int)) (c.1) (c.2) ([]) (a)
noncomputable def st140_L4 (n:Nat) (lL4:Int→Bool→Int→ByteArray→Int→(List (ByteArray × Int))→(List NT)→Option R140) (x0:Int) (x1:Bool) (x2:Int) (x3:ByteArray) (x4:Int) (x5:List (ByteArray × Int)) (x6:List NT):Option R140 :=
 cond (decide ((0:Int)≤x0)) (cond (decide (x0 < (↑x6.length:Int))) (cond (decide (x2 < (↑(List.length (x6.getD x0.toNat ZN).2.2.2.2.2.2.2.2):Int))) (cond (decide ((0:Int)≤x0)) (cond (decide (x0 < (↑x6.length:Int))) (cond (decide ((0:Int)≤x2)) (cond (decide (x2 < (↑(List.length (x6.getD x0.toNat ZN).2.2.2.2.2.2.2.2):Int))) (cond (!x1) (cond (!(Go.Op.bytesLess (ByteArray.toList (List.getD (x6.getD x0.toNat ZN).2.2.2.2.2.2.2.2 x2.toNat (ByteArray.empty,(0:Int))).1) x3.toList || ByteArray.toList (List.getD (x6.getD x0.toNat ZN).2.2.2.2.2.2.2.2 x2.toNat (ByteArray.empty,(0:Int))).1 == x3.toList)) (cond (decide ((x5.length + [(x3,x4)].length) * (24:Nat)≤(140737488355328:Nat))) (cond (decide (((x5 ++ [(x3,x4)]).length + [((List.getD (x6.getD x0.toNat ZN).2.2.2.2.2.2.2.2 x2.toNat (ByteArray.empty,(0:Int))).1,(List.getD (x6.getD x0.toNat ZN).2.2.2.2.2.2.2.2 x2.toNat (ByteArray.empty,(0:Int))).2)].length) * (24:Nat)≤(140737488355328:Nat))) (lL4 (x0) (true) (Go.IntKind.i64.wrap (x2 + (1:Int))) (x3) (x4) (x5 ++ [(x3,x4)] ++ [((List.getD (x6.getD x0.toNat ZN).2.2.2.2.2.2.2.2 x2.toNat (ByteArray.empty,(0:Int))).1,(List.getD (x6.getD x0.toNat ZN).2.2.2.2.2.2.2.2 x2.toNat (ByteArray.empty,(0:Int))).2)]) (x6)) (none)) (none)) (cond (decide ((x5.length + [((List.getD (x6.getD x0.toNat ZN).2.2.2.2.2.2.2.2 x2.toNat (ByteArray.empty,(0:Int))).1,(List.getD (x6.getD x0.toNat ZN).2.2.2.2.2.2.2.2 x2.toNat (ByteArray.empty,(0:Int))).2)].length) * (24:Nat)≤(140737488355328:Nat))) (lL4 (x0) (x1) (Go.IntKind.i64.wrap (x2 + (1:Int))) (x3) (x4) (x5 ++ [((List.getD (x6.getD x0.toNat ZN).2.2.2.2.2.2.2.2 x2.toNat (ByteArray.empty,(0:Int))).1,(List.getD (x6.getD x0.toNat ZN).2.2.2.2.2.2.2.2 x2.toNat (ByteArray.empty,(0:Int))).2)]) (x6)) (none))) (cond (decide ((x5.length + [((List.getD (x6.getD x0.toNat ZN).2.2.2.2.2.2.2.2 x2.toNat (ByteArray.empty,(0:Int))).1,(List.getD (x6.getD x0.toNat ZN).2.2.2.2.2.2.2.2 x2.toNat (ByteArray.empty,(0:Int))).2)].length) * (24:Nat)≤(140737488355328:Nat))) (lL4 (x0) (x1) (Go.IntKind.i64.wrap (x2 + (1:Int))) (x3) (x4) (x5 ++ [((List.getD (x6.getD x0.toNat ZN).2.2.2.2.2.2.2.2 x2.toNat (ByteArray.empty,(0:Int))).1,(List.getD (x6.getD x0.toNat ZN).2.2.2.2.2.2.2.2 x2.toNat (ByteArray.empty,(0:Int))).2)]) (x6)) (none))) (none)) (none)) (none)) (none)) (cond (!x1) (cond (decide ((x5.length + [(x3,x4)].length) * (24:Nat)≤(140737488355328:Nat))) (cond (decide ((0:Int)≤x0)) (cond (decide (x0 < (↑x6.length:Int))) (some ((x6.set x0.toNat ((x6.getD x0.toNat ZN).1,(x6.getD x0.toNat ZN).2.1,(x6.getD x0.toNat ZN).2.2.1,(x6.getD x0.toNat ZN).2.2.2.1,(x6.getD x0.toNat ZN).2.2.2.2.1,(x6.getD x0.toNat ZN).2.2.2.2.2.1,(x6.getD x0.toNat ZN).2.2.2.2.2.2.1,(x6.getD x0.toNat ZN).2.2.2.2.2.2.2.1,x5 ++ [(x3,x4)]),()),())) (none)) (none)) (none)) (cond (decide ((0:Int)≤x0)) (cond (decide (x0 < (↑x6.length:Int))) (some ((x6.set x0.toNat ((x6.getD x0.toNat ZN).1,(x6.getD x0.toNat ZN).2.1,(x6.getD x0.toNat ZN).2.2.1,(x6.getD x0.toNat ZN).2.2.2.1,(x6.getD x0.toNat ZN).2.2.2.2.1,(x6.getD x0.toNat ZN).2.2.2.2.2.1,(x6.getD x0.toNat ZN).2.2.2.2.2.2.1,(x6.getD x0.toNat ZN).2.2.2.2.2.2.2.1,x5),()),())) (none)) (none)))) (none)) (none)
theorem e140_top (n:Nat) (a:List NT) (b:Int) (c:ByteArray × Int):runF TT G140 an140 Try.f140 c140 ps140 rs140 n (a,b,c,())=st140_top n (fun x0 x1 x2 x3 x4 x5 x6=>at140 n (.head 4) [n] (sh140_L4 x0 x1 x2 x3 x4 x5 x6)) a b c:=by kernel_rfl
theorem e140_L4_0 (n:Nat) (x0:Int) (x1:Bool) (x2:Int) (x3:ByteArray) (x4:Int) (x5:List (ByteArray × Int)) (x6:List NT):at140 n (.head 4) [0] (sh140_L4 x0 x1 x2 x3 x4 x5 x6)=none:=by kernel_rfl
theorem e140_L4 (n:Nat) (m4:Nat) (x0:Int) (x1:Bool) (x2:Int) (x3:ByteArray) (x4:Int) (x5:List (ByteArray × Int)) (x6:List NT):at140 n (.head 4) [m4 + 1] (sh140_L4 x0 x1 x2 x3 x4 x5 x6)=st140_L4 n (fun x0 x1 x2 x3 x4 x5 x6=>at140 n (.head 4) [m4] (sh140_L4 x0 x1 x2 x3 x4 x5 x6)) x0 x1 x2 x3 x4 x5 x6:=by kernel_rfl
noncomputable def p140_L4 (n:Nat):Nat→Int→Bool→Int→ByteArray→Int→(List (ByteArray × Int))→(List NT)→Option R140
 | 0,_,_,_,_,_,_,_=>none
 | m + 1,x0,x1,x2,x3,x4,x5,x6=>st140_L4 n (p140_L4 n m) x0 x1 x2 x3 x4 x5 x6
noncomputable def p140 (n:Nat) (a:List NT) (b:Int) (c:ByteArray × Int):Option R140:=st140_top n (p140_L4 n n) a b c
theorem t140_L4 (n:Nat):∀ (m4:Nat) (x0:Int) (x1:Bool) (x2:Int) (x3:ByteArray) (x4:Int) (x5:List (ByteArray × Int)) (x6:List NT),at140 n (.head 4) [m4] (sh140_L4 x0 x1 x2 x3 x4 x5 x6)=p140_L4 n m4 x0 x1 x2 x3 x4 x5 x6:=by
 intro m
 induction m with
 | zero=>intros; rw [e140_L4_0]; rfl
 | succ m ih =>
  intros
  rw [e140_L4]
  try simp only [ih]
  rfl
theorem F140_eq (n:Nat) (a:List NT) (b:Int) (c:ByteArray × Int):runF TT G140 an140 Try.f140 c140 ps140 rs140 n (a,b,c,())=p140 n a b c:=by
 rw [e140_top]
 simp only [t140_L4]
 try rfl
noncomputable def q140 (n:Nat) (x:argsD ps140):Option R140:=p140 n x.1 x.2.1 x.2.2.1
noncomputable def Sm140:Sm:=⟨ps140,rs140,false,q140⟩
theorem holds140 (hg:GamOK Try.prog G140):Holds Try.prog 140 Sm140:=by
 have:=h0_140 hg
 have e:(runF TT G140 an140 Try.f140 c140 ps140 rs140)=q140:=by
  funext n x
  exact F140_eq n x.1 x.2.1 x.2.2.1
 rw [e] at this
 exact this
theorem gam140:GamOK Try.prog G140:=fun _ _ h=>by cases h
theorem hh140:Holds Try.prog 140 Sm140:=holds140 gam140
end Go.Proofs.Ytbjgiioppmkpiaa.Rx.S

namespace Go.Proofs.Ytbjgiioppmkpiaa.Rx.S
open Go Go.RowKit Go.Proofs
set_option maxRecDepth 100000
noncomputable def c67:Code:=(Try.f67.body.getD .skip)
def an67:An:=⟨fun r=>match r with | 3=>⟨[1,2,3,4],[]⟩ | _=>⟨[],[]⟩,fun _ _=>none⟩
abbrev ps67:List PK:=[.val tFs true]
abbrev rs67:List RK:=[.own tFs true]
abbrev R67:=retsD rs67 × outsD ps67
noncomputable def G67:Gam:=fun _=>none
theorem h0_67 (hg:GamOK Try.prog G67):Holds Try.prog 67 ⟨ps67,rs67,false,runF TT G67 an67 Try.f67 c67 ps67 rs67⟩:=holds_of tt_ok hg mixed Try.func67 (by kernel_rfl) (by rfl) (by decide +kernel)
noncomputable def at67:Nat→Pt→List Nat→St→Option R67:=atF TT G67 an67 Try.f67 c67 _ _
def sh67_L3 (x0:Int) (x1:List NT) (x2:List NT):St:=(St.mk (AV.undef :: ((AV.one (SV.bptr 1000000 0)) :: ((AV.one (SV.bptr 1000001 0)) :: ((AV.one (SV.bptr 1000002 0)) :: ((AV.one (SV.int (Go.IntKind.i64) x0)) :: (AV.undef :: (AV.undef :: (AV.undef :: (AV.undef :: (AV.undef :: (AV.undef :: (AV.undef :: (AV.undef :: (AV.undef :: (AV.undef :: (AV.undef :: (AV.undef :: (AV.undef :: (AV.undef :: (AV.undef :: (AV.undef :: (AV.undef :: (AV.undef :: (AV.undef :: (AV.undef :: (AV.undef :: (AV.undef :: (AV.undef :: (AV.undef :: (AV.undef :: (AV.undef :: (AV.undef :: [])))))))))))))))))))))))))))))))) ((1000000,(Ent.box ((SV.con (⟨37,(Ty.int Go.IntKind.i64).pair ((Ty.int Go.IntKind.i64).pair ((Ty.int Go.IntKind.i64).pair ((Ty.int Go.IntKind.i64).pair ((Ty.int Go.IntKind.i64).pair ((Ty.int Go.IntKind.i64).pair (Ty.bool.pair (Ty.str.pair (Ty.row (nat_lit 100) (Ty.str.pair (Ty.int Go.IntKind.i64)))))))))),x1⟩:Rw)) :: []))) :: ((1000001,(Ent.box (SV.nil :: []))) :: ((1000002,(Ent.box ((SV.ref 1000003 0 [] Option.none) :: []))) :: ((1000003,(Ent.row (⟨37,(Ty.int Go.IntKind.i64).pair ((Ty.int Go.IntKind.i64).pair ((Ty.int Go.IntKind.i64).pair ((Ty.int Go.IntKind.i64).pair ((Ty.int Go.IntKind.i64).pair ((Ty.int Go.IntKind.i64).pair (Ty.bool.pair (Ty.str.pair (Ty.row (nat_lit 100) (Ty.str.pair (Ty.int Go.IntKind.i64)))))))))),x2⟩:Rw) 0 Option.none)) :: [])))))
noncomputable def st67_top (n:Nat) (lL3:Int→(List NT)→(List NT)→Option R67) (a:List NT):Option R67 :=
 lL3 ((0:Int)) (a) ([])
noncomputable def st67_L3 (n:Nat) (lL3:Int→(List NT)→(List NT)→Option R67) (x0:Int) (x1:List NT) (x2:List NT):Option R67 :=
 cond (decide (x0 < (↑x1.length:Int))) (cond (decide ((0:Int)≤x0)) (cond (decide (x0 < (↑x1.length:Int))) (cond (decide (((0:Nat) + List.length (x1.getD x0.toNat ZN).2.2.2.2.2.2.2.2) * (24:Nat)≤(140737488355328:Nat))) (cond (decide ((x2.length + [((x1.getD x0.toNat ZN).1,(x1.getD x0.toNat ZN).2.1,(x1.getD x0.toNat ZN).2.2.1,(x1.getD x0.toNat ZN).2.2.2.1,(x1.getD x0.toNat ZN).2.2.2.2.1,(x1.getD x0.toNat ZN).2.2.2.2.2.1,(x1.getD x0.toNat ZN).2.2.2.2.2.2.1,(x1.getD x0.toNat ZN).2.2.2.2.2.2.2.1,(x1.getD x0.toNat ZN).2.2.2.2.2.2.2.2)].length) * (96:Nat)≤(140737488355328:Nat))) (lL3 (Go.IntKind.i64.wrap (x0 + (1:Int))) (x1) (x2 ++ [((x1.getD x0.toNat ZN).1,(x1.getD x0.toNat ZN).2.1,(x1.getD x0.toNat ZN).2.2.1,(x1.getD x0.toNat ZN).2.2.2.1,(x1.getD x0.toNat ZN).2.2.2.2.1,(x1.getD x0.toNat ZN).2.2.2.2.2.1,(x1.getD x0.toNat ZN).2.2.2.2.2.2.1,(x1.getD x0.toNat ZN).2.2.2.2.2.2.2.1,(x1.getD x0.toNat ZN).2.2.2.2.2.2.2.2)])) (none)) (none)) (none)) (none)) (some ((x2,()),()))
theorem e67_top (n:Nat) (a:List NT):runF TT G67 an67 Try.f67 c67 ps67 rs67 n (a,())=st67_top n (fun x0 x1 x2=>at67 n (.head 3) [n] (sh67_L3 x0 x1 x2)) a:=by kernel_rfl
theorem e67_L3_0 (n:Nat) (x0:Int) (x1:List NT) (x2:List NT):at67 n (.head 3) [0] (sh67_L3 x0 x1 x2)=none:=by kernel_rfl
theorem e67_L3 (n:Nat) (m3:Nat) (x0:Int) (x1:List NT) (x2:List NT):at67 n (.head 3) [m3 + 1] (sh67_L3 x0 x1 x2)=st67_L3 n (fun x0 x1 x2=>at67 n (.head 3) [m3] (sh67_L3 x0 x1 x2)) x0 x1 x2:=by kernel_rfl
noncomputable def p67_L3 (n:Nat):Nat→Int→(List NT)→(List NT)→Option R67
 | 0,_,_,_=>none
 | m + 1,x0,x1,x2=>st67_L3 n (p67_L3 n m) x0 x1 x2
noncomputable def p67 (n:Nat) (a:List NT):Option R67:=st67_top n (p67_L3 n n) a
theorem t67_L3 (n:Nat):∀ (m3:Nat) (x0:Int) (x1:List NT) (x2:List NT),at67 n (.head 3) [m3] (sh67_L3 x0 x1 x2)=p67_L3 n m3 x0 x1 x2:=by
 intro m
 induction m with
 | zero=>intros; rw [e67_L3_0]; rfl
 | succ m ih =>
  intros
  rw [e67_L3]
  try simp only [ih]
  rfl
theorem F67_eq (n:Nat) (a:List NT):runF TT G67 an67 Try.f67 c67 ps67 rs67 n (a,())=p67 n a:=by
 rw [e67_top]
 simp only [t67_L3]
 try rfl
noncomputable def q67 (n:Nat) (x:argsD ps67):Option R67:=p67 n x.1
noncomputable def Sm67:Sm:=⟨ps67,rs67,false,q67⟩
theorem holds67 (hg:GamOK Try.prog G67):Holds Try.prog 67 Sm67:=by
 have:=h0_67 hg
 have e:(runF TT G67 an67 Try.f67 c67 ps67 rs67)=q67:=by
  funext n x
  exact F67_eq n x.1
 rw [e] at this
 exact this
theorem gam67:GamOK Try.prog G67:=fun _ _ h=>by cases h
theorem hh67:Holds Try.prog 67 Sm67:=holds67 gam67
end Go.Proofs.Ytbjgiioppmkpiaa.Rx.S

namespace Go.Proofs.Ytbjgiioppmkpiaa.Rx.S
open Go Go.RowKit Go.Proofs
set_option maxRecDepth 100000
noncomputable def c111:Code:=(Try.f111.body.getD .skip)
def an111:An:=⟨fun _=>⟨[],[]⟩,fun _ _=>none⟩
abbrev ps111:List PK:=[.own tFs true,.val tCr true,.val i64 false,.val i64 false,.val .str false]
abbrev rs111:List RK:=[.own tFs true,.val i64 false]
abbrev R111:=retsD rs111 × outsD ps111
noncomputable def G111:Gam:=fun f=>match f with | 125=>some Sm125 | 126=>some Sm126 | 140=>some Sm140 | _=>none
theorem h0_111 (hg:GamOK Try.prog G111):Holds Try.prog 111 ⟨ps111,rs111,false,runF TT G111 an111 Try.f111 c111 ps111 rs111⟩:=holds_of tt_ok hg mixed Try.func111 (by kernel_rfl) (by rfl) (by decide +kernel)
noncomputable def st111_top (n:Nat) (a:List NT) (b:Int × Int × List Int) (c:Int) (d:Int) (e:ByteArray):Option R111 :=
 cond (decide ((0:Int)≤c)) (cond (decide (c < (↑a.length:Int))) (cond (!decide ((a.getD c.toNat ZN).1=(1:Int))) (some ((a,((4:Int),())),())) ((q125 n (a,(b.1,b.2.1,b.2.2),d,(3:Int),())).bind fun r0=>cond (!decide (r0.1.1=(0:Int))) (some ((a,(r0.1.1,())),())) (cond (decide ((0:Int)≤d)) (cond (decide (d < (↑a.length:Int))) ((q126 n (((a.getD d.toNat ZN).1,(a.getD d.toNat ZN).2.1,(a.getD d.toNat ZN).2.2.1,(a.getD d.toNat ZN).2.2.2.1,(a.getD d.toNat ZN).2.2.2.2.1,(a.getD d.toNat ZN).2.2.2.2.2.1,(a.getD d.toNat ZN).2.2.2.2.2.2.1,(a.getD d.toNat ZN).2.2.2.2.2.2.2.1,(a.getD d.toNat ZN).2.2.2.2.2.2.2.2),e,())).bind fun r1=>cond (decide ((0:Int)≤r1.1.1)) (some ((a,((3:Int),())),())) (cond (decide ((0:Int)≤d)) (cond (decide (d < (↑a.length:Int))) (cond (decide ((6:Int)≤(↑(List.length (a.getD d.toNat ZN).2.2.2.2.2.2.2.2):Int))) (some ((a,((7:Int),())),())) (cond (decide ((0:Int)≤c)) (cond (decide (c < (↑a.length:Int))) (cond (decide ((99:Int)≤(a.getD c.toNat ZN).2.2.2.2.1)) (some ((a,((7:Int),())),())) (cond (decide ((0:Int)≤c)) (cond (decide (c < (↑a.length:Int))) (cond (decide ((0:Int)≤c)) (cond (decide (c < (↑a.length:Int))) ((q140 n (a.set c.toNat ((a.getD c.toNat ZN).1,(a.getD c.toNat ZN).2.1,(a.getD c.toNat ZN).2.2.1,(a.getD c.toNat ZN).2.2.2.1,Go.IntKind.i64.wrap ((a.getD c.toNat ZN).2.2.2.2.1 + (1:Int)),(a.getD c.toNat ZN).2.2.2.2.2),d,(e,c),())).bind fun r2=>some ((r2.1.1,((0:Int),())),())) (none)) (none)) (none)) (none))) (none)) (none))) (none)) (none))) (none)) (none)))) (none)) (none)
theorem e111_top (n:Nat) (a:List NT) (b:Int × Int × List Int) (c:Int) (d:Int) (e:ByteArray):runF TT G111 an111 Try.f111 c111 ps111 rs111 n (a,b,c,d,e,())=st111_top n a b c d e:=by kernel_rfl
noncomputable def p111 (n:Nat) (a:List NT) (b:Int × Int × List Int) (c:Int) (d:Int) (e:ByteArray):Option R111:=st111_top n a b c d e
theorem F111_eq (n:Nat) (a:List NT) (b:Int × Int × List Int) (c:Int) (d:Int) (e:ByteArray):runF TT G111 an111 Try.f111 c111 ps111 rs111 n (a,b,c,d,e,())=p111 n a b c d e:=by
 rw [e111_top]
 skip
 try rfl
noncomputable def q111 (n:Nat) (x:argsD ps111):Option R111:=p111 n x.1 x.2.1 x.2.2.1 x.2.2.2.1 x.2.2.2.2.1
noncomputable def Sm111:Sm:=⟨ps111,rs111,false,q111⟩
theorem holds111 (hg:GamOK Try.prog G111):Holds Try.prog 111 Sm111:=by
 have:=h0_111 hg
 have e:(runF TT G111 an111 Try.f111 c111 ps111 rs111)=q111:=by
  funext n x
  exact F111_eq n x.1 x.2.1 x.2.2.1 x.2.2.2.1 x.2.2.2.2.1
 rw [e] at this
 exact this
theorem gam111:GamOK Try.prog G111:=by
 intro f s h
 unfold G111 at h
 split at h
 ·injection h with h; subst h; exact ⟨⟨Try.f125,c125,Try.func125,by kernel_rfl,by decide +kernel⟩,hh125⟩
 ·injection h with h; subst h; exact ⟨⟨Try.f126,c126,Try.func126,by kernel_rfl,by decide +kernel⟩,hh126⟩
 ·injection h with h; subst h; exact ⟨⟨Try.f140,c140,Try.func140,by kernel_rfl,by decide +kernel⟩,hh140⟩
 ·cases h
theorem hh111:Holds Try.prog 111 Sm111:=holds111 gam111
end Go.Proofs.Ytbjgiioppmkpiaa.Rx.S

namespace Go.Proofs.Ytbjgiioppmkpiaa.Rx.S
open Go Go.Proofs.Ytbjgiioppmkpiaa.Rx Go.RowKit Go.Proofs
set_option linter.unusedVariables false
noncomputable def c148:Code:=(Try.f148.body.getD .skip)
abbrev ps148:List PK:=[.val .str false,.val .str false]
abbrev rs148:List RK:=[.val i64 false]
abbrev R148:=retsD rs148 × outsD ps148
def cmpB (a b:ByteArray):Int:=Lib.compareBytes a.data.toList b.data.toList
def p148 (n:Nat) (a b:ByteArray):Option R148:=some ((cmpB a b,()),())
def q148 (n:Nat) (x:argsD ps148):Option R148:=p148 n x.1 x.2.1
def Sm148:Sm:=⟨ps148,rs148,false,q148⟩
set_option maxHeartbeats 1000000 in
set_option maxRecDepth 100000 in
theorem walk148 (a b:ByteArray) (w:World):Calls Try.prog 148 #[.string a,.string b] w fun e w'=>e = .returned (.int .i64 (cmpB a b))∧w'=w:=by
 have mixed:Try.prog.follows .mixedOrders=true:=by kernel_rfl
 go_enter Try.func148,Try.ntmps148
 go_wp2
 rw [run_callFunc_extern Try.func155 (by kernel_rfl) (by kernel_rfl) (by kernel_rfl) (e:=Extern.BytealgCompare.compare) (by kernel_rfl),Lib.run_compareString]
 simp only [Result.andThen]
 rw [Oper.upon_value]
 go_wp2
 go_ret
 exact ⟨rfl,rfl⟩
theorem hh148:Holds Try.prog 148 Sm148:=by
 rintro n w Z vs ⟨a,b,_⟩ Fs y hZ hlt hnd ha hF
 have ha:ArgsR w Z [.val .str false,.val .str false] (a,b,()) vs Fs:=ha
 rcases vs with _ | ⟨v0,_ | ⟨v1,_ | ⟨v2,vs⟩⟩⟩ <;> rcases Fs with _ | ⟨F0,_ | ⟨F1,_ | ⟨F2,Fs⟩⟩⟩ <;> simp only [ArgsR,and_false] at ha
 obtain ⟨⟨rfl,_,hv0⟩,⟨rfl,_,hv1⟩,_⟩:=ha
 have hv0:[v0]=[.string a]:=hv0
 have hv1:[v1]=[.string b]:=hv1
 injection hv0 with hv0 _
 injection hv1 with hv1 _
 subst hv0; subst hv1
 have hF:some ((cmpB a b,()),())=some y:=hF
 injection hF with hF
 subst hF
 refine (walk148 a b w).mono ?_
 rintro e w' ⟨rfl,rfl⟩
 exact ⟨[.int .i64 (cmpB a b)],[[]],[[],[]],rfl,⟨⟨rfl,rfl,rfl⟩,trivial⟩,⟨rfl,rfl,trivial⟩,by simp,by simp,Kp.refl _ _⟩
end Go.Proofs.Ytbjgiioppmkpiaa.Rx.S

namespace Go.Proofs.Ytbjgiioppmkpiaa.Rx.S
open Go Go.RowKit Go.Proofs
set_option maxRecDepth 100000
noncomputable def c123:Code:=(Try.f123.body.getD .skip)
def an123:An:=⟨fun _=>⟨[],[]⟩,fun _ _=>none⟩
abbrev ps123:List PK:=[.val .str false,.val .str false]
abbrev rs123:List RK:=[.val i64 false]
abbrev R123:=retsD rs123 × outsD ps123
noncomputable def G123:Gam:=fun f=>match f with | 148=>some Sm148 | _=>none
theorem h0_123 (hg:GamOK Try.prog G123):Holds Try.prog 123 ⟨ps123,rs123,false,runF TT G123 an123 Try.f123 c123 ps123 rs123⟩:=holds_of tt_ok hg mixed Try.func123 (by kernel_rfl) (by rfl) (by decide +kernel)
noncomputable def st123_top (n:Nat) (a:ByteArray) (b:ByteArray):Option R123 :=
 (q148 n (a,b,())).bind fun r0=>some ((r0.1.1,()),())
theorem e123_top (n:Nat) (a:ByteArray) (b:ByteArray):runF TT G123 an123 Try.f123 c123 ps123 rs123 n (a,b,())=st123_top n a b:=by kernel_rfl
noncomputable def p123 (n:Nat) (a:ByteArray) (b:ByteArray):Option R123:=st123_top n a b
theorem F123_eq (n:Nat) (a:ByteArray) (b:ByteArray):runF TT G123 an123 Try.f123 c123 ps123 rs123 n (a,b,())=p123 n a b:=by
 rw [e123_top]
 skip
 try rfl
noncomputable def q123 (n:Nat) (x:argsD ps123):Option R123:=p123 n x.1 x.2.1
noncomputable def Sm123:Sm:=⟨ps123,rs123,false,q123⟩
theorem holds123 (hg:GamOK Try.prog G123):Holds Try.prog 123 Sm123:=by
 have:=h0_123 hg
 have e:(runF TT G123 an123 Try.f123 c123 ps123 rs123)=q123:=by
  funext n x
  exact F123_eq n x.1 x.2.1
 rw [e] at this
 exact this
theorem gam123:GamOK Try.prog G123:=by
 intro f s h
 unfold G123 at h
 split at h
 ·injection h with h; subst h; exact ⟨⟨Try.f148,c148,Try.func148,by kernel_rfl,by decide +kernel⟩,hh148⟩
 ·cases h
theorem hh123:Holds Try.prog 123 Sm123:=holds123 gam123
end Go.Proofs.Ytbjgiioppmkpiaa.Rx.S

namespace Go.Proofs.Ytbjgiioppmkpiaa.Rx.S
open Go Go.RowKit Go.Proofs
set_option maxRecDepth 100000
noncomputable def c122:Code:=(Try.f122.body.getD .skip)
def an122:An:=⟨fun _=>⟨[],[]⟩,fun _ _=>none⟩
abbrev ps122:List PK:=[.val tEn true,.val .str false]
abbrev rs122:List RK:=[.val i64 false]
abbrev R122:=retsD rs122 × outsD ps122
noncomputable def G122:Gam:=fun f=>match f with | 123=>some Sm123 | _=>none
theorem h0_122 (hg:GamOK Try.prog G122):Holds Try.prog 122 ⟨ps122,rs122,false,runF TT G122 an122 Try.f122 c122 ps122 rs122⟩:=holds_of tt_ok hg mixed Try.func122 (by kernel_rfl) (by rfl) (by decide +kernel)
noncomputable def st122_top (n:Nat) (a:ByteArray × Int) (b:ByteArray):Option R122 :=
 (q123 n (a.1,b,())).bind fun r0=>some ((r0.1.1,()),())
theorem e122_top (n:Nat) (a:ByteArray × Int) (b:ByteArray):runF TT G122 an122 Try.f122 c122 ps122 rs122 n (a,b,())=st122_top n a b:=by kernel_rfl
noncomputable def p122 (n:Nat) (a:ByteArray × Int) (b:ByteArray):Option R122:=st122_top n a b
theorem F122_eq (n:Nat) (a:ByteArray × Int) (b:ByteArray):runF TT G122 an122 Try.f122 c122 ps122 rs122 n (a,b,())=p122 n a b:=by
 rw [e122_top]
 skip
 try rfl
noncomputable def q122 (n:Nat) (x:argsD ps122):Option R122:=p122 n x.1 x.2.1
noncomputable def Sm122:Sm:=⟨ps122,rs122,false,q122⟩
theorem holds122 (hg:GamOK Try.prog G122):Holds Try.prog 122 Sm122:=by
 have:=h0_122 hg
 have e:(runF TT G122 an122 Try.f122 c122 ps122 rs122)=q122:=by
  funext n x
  exact F122_eq n x.1 x.2.1
 rw [e] at this
 exact this
theorem gam122:GamOK Try.prog G122:=by
 intro f s h
 unfold G122 at h
 split at h
 ·injection h with h; subst h; exact ⟨⟨Try.f123,c123,Try.func123,by kernel_rfl,by decide +kernel⟩,hh123⟩
 ·cases h
theorem hh122:Holds Try.prog 122 Sm122:=holds122 gam122
end Go.Proofs.Ytbjgiioppmkpiaa.Rx.S

namespace Go.Proofs.Ytbjgiioppmkpiaa.Rx.S
open Go Go.RowKit Go.Proofs
set_option maxRecDepth 100000
noncomputable def c121:Code:=(Try.f121.body.getD .skip)
def an121:An:=⟨fun r=>match r with | 3=>⟨[0,1,2,8,9,10],[]⟩ | _=>⟨[],[]⟩,fun _ _=>none⟩
abbrev ps121:List PK:=[.val (.row 100 tEn) false,.val .str false,.fn 122 []]
abbrev rs121:List RK:=[.val i64 false,.val .bool false]
abbrev R121:=retsD rs121 × outsD ps121
noncomputable def G121:Gam:=fun f=>match f with | 122=>some Sm122 | _=>none
theorem h0_121 (hg:GamOK Try.prog G121):Holds Try.prog 121 ⟨ps121,rs121,false,runF TT G121 an121 Try.f121 c121 ps121 rs121⟩:=holds_of tt_ok hg mixed Try.func121 (by kernel_rfl) (by rfl) (by decide +kernel)
noncomputable def at121:Nat→Pt→List Nat→St→Option R121:=atF TT G121 an121 Try.f121 c121 _ _
def sh121_L3 (x0:List (ByteArray × Int)) (x1:ByteArray) (x2:Int) (x3:Int) (x4:Int):St:=(St.mk ((AV.one (SV.con (⟨100,Ty.str.pair (Ty.int Go.IntKind.i64),x0⟩:Rw))) :: ((AV.one (SV.str x1)) :: ((AV.fn 122 []) :: (AV.undef :: (AV.undef :: (AV.undef :: (AV.undef :: (AV.undef :: ((AV.one (SV.int (Go.IntKind.i64) x2)) :: ((AV.one (SV.int (Go.IntKind.i64) x3)) :: ((AV.one (SV.int (Go.IntKind.i64) x4)) :: (AV.undef :: (AV.undef :: (AV.undef :: (AV.undef :: (AV.undef :: (AV.undef :: (AV.undef :: (AV.undef :: (AV.undef :: (AV.undef :: (AV.undef :: (AV.undef :: (AV.undef :: (AV.undef :: (AV.undef :: (AV.undef :: (AV.undef :: (AV.undef :: (AV.undef :: (AV.undef :: (AV.undef :: (AV.undef :: (AV.undef :: (AV.undef :: (AV.undef :: (AV.undef :: (AV.undef :: (AV.undef :: (AV.undef :: (AV.undef :: (AV.undef :: (AV.undef :: (AV.undef :: (AV.undef :: (AV.undef :: (AV.undef :: (AV.undef :: (AV.undef :: []))))))))))))))))))))))))))))))))))))))))))))))))) [])
noncomputable def st121_top (n:Nat) (lL3:(List (ByteArray × Int))→ByteArray→Int→Int→Int→Option R121) (a:List (ByteArray × Int)) (b:ByteArray) (c:Unit):Option R121 :=
 lL3 (a) (b) ((↑a.length:Int)) ((0:Int)) ((↑a.length:Int))
noncomputable def st121_L3 (n:Nat) (lL3:(List (ByteArray × Int))→ByteArray→Int→Int→Int→Option R121) (x0:List (ByteArray × Int)) (x1:ByteArray) (x2:Int) (x3:Int) (x4:Int):Option R121 :=
 cond (decide (x3 < x4)) (cond (decide ((0:Int)≤Go.IntKind.i64.wrap ((Go.IntKind.u64.wrap (Go.IntKind.i64.wrap (x3 + x4))).fdiv ((2:Int) ^ min (Int.toNat (1:Int)) Go.IntKind.u64.bits)))) (cond (decide (Go.IntKind.i64.wrap ((Go.IntKind.u64.wrap (Go.IntKind.i64.wrap (x3 + x4))).fdiv ((2:Int) ^ min (Int.toNat (1:Int)) Go.IntKind.u64.bits)) < (↑x0.length:Int))) ((q122 n (((x0.getD (Go.IntKind.i64.wrap ((Go.IntKind.u64.wrap (Go.IntKind.i64.wrap (x3 + x4))).fdiv ((2:Int) ^ min (Int.toNat (1:Int)) Go.IntKind.u64.bits))).toNat (ByteArray.empty,(0:Int))).1,(x0.getD (Go.IntKind.i64.wrap ((Go.IntKind.u64.wrap (Go.IntKind.i64.wrap (x3 + x4))).fdiv ((2:Int) ^ min (Int.toNat (1:Int)) Go.IntKind.u64.bits))).toNat (ByteArray.empty,(0:Int))).2),x1,())).bind fun r1=>cond (decide (r1.1.1 < (0:Int))) (lL3 (x0) (x1) (x2) (Go.IntKind.i64.wrap (Go.IntKind.i64.wrap ((Go.IntKind.u64.wrap (Go.IntKind.i64.wrap (x3 + x4))).fdiv ((2:Int) ^ min (Int.toNat (1:Int)) Go.IntKind.u64.bits)) + (1:Int))) (x4)) (lL3 (x0) (x1) (x2) (x3) (Go.IntKind.i64.wrap ((Go.IntKind.u64.wrap (Go.IntKind.i64.wrap (x3 + x4))).fdiv ((2:Int) ^ min (Int.toNat (1:Int)) Go.IntKind.u64.bits))))) (none)) (none)) (cond (decide (x3 < x2)) (cond (decide ((0:Int)≤x3)) (cond (decide (x3 < (↑x0.length:Int))) ((q122 n (((x0.getD x3.toNat (ByteArray.empty,(0:Int))).1,(x0.getD x3.toNat (ByteArray.empty,(0:Int))).2),x1,())).bind fun r2=>some ((x3,(decide (r2.1.1=(0:Int)),())),())) (none)) (none)) (some ((x3,(false,())),())))
theorem e121_top (n:Nat) (a:List (ByteArray × Int)) (b:ByteArray) (c:Unit):runF TT G121 an121 Try.f121 c121 ps121 rs121 n (a,b,c,())=st121_top n (fun x0 x1 x2 x3 x4=>at121 n (.head 3) [n] (sh121_L3 x0 x1 x2 x3 x4)) a b c:=by kernel_rfl
theorem e121_L3_0 (n:Nat) (x0:List (ByteArray × Int)) (x1:ByteArray) (x2:Int) (x3:Int) (x4:Int):at121 n (.head 3) [0] (sh121_L3 x0 x1 x2 x3 x4)=none:=by kernel_rfl
theorem e121_L3 (n:Nat) (m3:Nat) (x0:List (ByteArray × Int)) (x1:ByteArray) (x2:Int) (x3:Int) (x4:Int):at121 n (.head 3) [m3 + 1] (sh121_L3 x0 x1 x2 x3 x4)=st121_L3 n (fun x0 x1 x2 x3 x4=>at121 n (.head 3) [m3] (sh121_L3 x0 x1 x2 x3 x4)) x0 x1 x2 x3 x4:=by kernel_rfl
noncomputable def p121_L3 (n:Nat):Nat→(List (ByteArray × Int))→ByteArray→Int→Int→Int→Option R121
 | 0,_,_,_,_,_=>none
 | m + 1,x0,x1,x2,x3,x4=>st121_L3 n (p121_L3 n m) x0 x1 x2 x3 x4
noncomputable def p121 (n:Nat) (a:List (ByteArray × Int)) (b:ByteArray) (c:Unit):Option R121:=st121_top n (p121_L3 n n) a b c
theorem t121_L3 (n:Nat):∀ (m3:Nat) (x0:List (ByteArray × Int)) (x1:ByteArray) (x2:Int) (x3:Int) (x4:Int),at121 n (.head 3) [m3] (sh121_L3 x0 x1 x2 x3 x4)=p121_L3 n m3 x0 x1 x2 x3 x4:=by
 intro m
 induction m with
 | zero=>intros; rw [e121_L3_0]; rfl
 | succ m ih =>
  intros
  rw [e121_L3]
  try simp only [ih]
  rfl
theorem F121_eq (n:Nat) (a:List (ByteArray × Int)) (b:ByteArray) (c:Unit):runF TT G121 an121 Try.f121 c121 ps121 rs121 n (a,b,c,())=p121 n a b c:=by
 rw [e121_top]
 simp only [t121_L3]
 try rfl
noncomputable def q121 (n:Nat) (x:argsD ps121):Option R121:=p121 n x.1 x.2.1 x.2.2.1
noncomputable def Sm121:Sm:=⟨ps121,rs121,false,q121⟩
theorem holds121 (hg:GamOK Try.prog G121):Holds Try.prog 121 Sm121:=by
 have:=h0_121 hg
 have e:(runF TT G121 an121 Try.f121 c121 ps121 rs121)=q121:=by
  funext n x
  exact F121_eq n x.1 x.2.1 x.2.2.1
 rw [e] at this
 exact this
theorem gam121:GamOK Try.prog G121:=by
 intro f s h
 unfold G121 at h
 split at h
 ·injection h with h; subst h; exact ⟨⟨Try.f122,c122,Try.func122,by kernel_rfl,by decide +kernel⟩,hh122⟩
 ·cases h
theorem hh121:Holds Try.prog 121 Sm121:=holds121 gam121
end Go.Proofs.Ytbjgiioppmkpiaa.Rx.S

namespace Go.Proofs.Ytbjgiioppmkpiaa.Rx.S
open Go Go.RowKit Go.Proofs
set_option maxRecDepth 100000
noncomputable def c73:Code:=(Try.f73.body.getD .skip)
def an73:An:=⟨fun _=>⟨[],[]⟩,fun _ _=>none⟩
abbrev ps73:List PK:=[.val (tIn 100) true,.val .str false]
abbrev rs73:List RK:=[.val i64 false,.val .bool false]
abbrev R73:=retsD rs73 × outsD ps73
noncomputable def G73:Gam:=fun f=>match f with | 121=>some Sm121 | _=>none
theorem h0_73 (hg:GamOK Try.prog G73):Holds Try.prog 73 ⟨ps73,rs73,false,runF TT G73 an73 Try.f73 c73 ps73 rs73⟩:=holds_of tt_ok hg mixed Try.func73 (by kernel_rfl) (by rfl) (by decide +kernel)
noncomputable def st73_top (n:Nat) (a:NT) (b:ByteArray):Option R73 :=
 (q121 n (a.2.2.2.2.2.2.2.2,b,(),())).bind fun r0=>some ((r0.1.1,(r0.1.2.1,())),())
theorem e73_top (n:Nat) (a:NT) (b:ByteArray):runF TT G73 an73 Try.f73 c73 ps73 rs73 n (a,b,())=st73_top n a b:=by kernel_rfl
noncomputable def p73 (n:Nat) (a:NT) (b:ByteArray):Option R73:=st73_top n a b
theorem F73_eq (n:Nat) (a:NT) (b:ByteArray):runF TT G73 an73 Try.f73 c73 ps73 rs73 n (a,b,())=p73 n a b:=by
 rw [e73_top]
 skip
 try rfl
noncomputable def q73 (n:Nat) (x:argsD ps73):Option R73:=p73 n x.1 x.2.1
noncomputable def Sm73:Sm:=⟨ps73,rs73,false,q73⟩
theorem holds73 (hg:GamOK Try.prog G73):Holds Try.prog 73 Sm73:=by
 have:=h0_73 hg
 have e:(runF TT G73 an73 Try.f73 c73 ps73 rs73)=q73:=by
  funext n x
  exact F73_eq n x.1 x.2.1
 rw [e] at this
 exact this
theorem gam73:GamOK Try.prog G73:=by
 intro f s h
 unfold G73 at h
 split at h
 ·injection h with h; subst h; exact ⟨⟨Try.f121,c121,Try.func121,by kernel_rfl,by decide +kernel⟩,hh121⟩
 ·cases h
theorem hh73:Holds Try.prog 73 Sm73:=holds73 gam73
end Go.Proofs.Ytbjgiioppmkpiaa.Rx.S

namespace Go.Proofs.Ytbjgiioppmkpiaa.Rx.S
open Go Go.Proofs.Ytbjgiioppmkpiaa.Rx Go.RowKit Go.Lib Go.Proofs
set_option linter.unusedVariables false
set_option linter.unusedSimpArgs false
theorem wp_copy_runR (w:World) {o:Oper} {a:Act} {K:Act→World→Prop} {Q:Exit→Act→World→Prop} (d s:Operand) (t t':TypeId)
  (ho:o.op = .call { callee:=.builtin .copy,args:=#[d,s],argTypes:=#[t,t'] }) (v u:Value) (hd:a.eval d=v) (hs:a.eval s=u) {v':Value} {w':World}
  (hr:(Builtin.copy_ #[t,t'] o.type #[v,u]).run Try.prog w = .ok v' w') (h:K (a.put o.dst v') w'):o.wp Try.prog a w K Q:=by
 unfold Oper.wp execOp
 simp only [ho,resolve,invoke,builtin,Sem.run_bind,Sem.run_pure,Result.andThen_ok,List.map_toArray,List.map_cons,List.map_nil,hd,hs,hr]
 exact h
theorem wpList_copy_runR (w:World) {ops:Array Oper} {rest:List Oper} {o:Oper} {a:Act} {Q:Exit→Act→World→Prop} (hgd:o.guard=none) (d s:Operand) (t t':TypeId)
  (ho:o.op = .call { callee:=.builtin .copy,args:=#[d,s],argTypes:=#[t,t'] }) (v u:Value) (hd:a.eval d=v) (hs:a.eval s=u) {v':Value} {w':World}
  (hr:(Builtin.copy_ #[t,t'] o.type #[v,u]).run Try.prog w = .ok v' w') (h:wpList Try.prog ops Q rest (a.put o.dst v') w'):wpList Try.prog ops Q (o :: rest) a w :=
 wpList_plain hgd fun _ hK=>wp_copy_runR w d s t t' ho v u hd hs hr (hK _ _ h)
theorem step_copy_runR {ops:Array Oper} {o:Oper} {a:Act} {w:World} {K:Act→World→Prop} {Q:Exit→Act→World→Prop} {E:Prop}
  (hg:o.guard=none) (d x:Operand) (dT sT:TypeId) (hop:o.op=Op.call { callee:=Callee.builtin Builtin.copy,args:=#[d,x],argTypes:=#[dT,sT] })
  (v u:Value) (hd:a.eval d=v) (hx:a.eval x=u) {v':Value} {w':World} (hr:(Builtin.copy_ #[dT,sT] o.type #[v,u]).run Try.prog w = .ok v' w') (hK:K (a.put o.dst v') w') :
  if Region.wanted o (yielded ops a.tmps)=true then Oper.wp Try.prog o a w K Q else E:=by
 have hw:Region.wanted o (yielded ops a.tmps)=true:=by simp [Region.wanted,hg]
 rw [if_pos hw]
 unfold Oper.wp
 simp [execOp,hop,resolve,invoke,builtin,hd,hx,hr,Result.andThen]
 exact hK
theorem i95:(Try.prog.info? 100).map (fun i=>(i.zero,i.size,i.bytes))=some (some (.agg #[.string ⟨#[]⟩,.int .i64 0]),2,24):=by kernel_rfl
set_option maxHeartbeats 4000000 in
set_option maxRecDepth 100000 in
theorem ins_shift (b off n c i vb voff m vc:Nat) (cs vs:List Value) (w:World) (hi:i < n) (hm:0 < m) (hroom:n + m≤c) (hc63:c≤9223372036854775807) (hvb:vb ≠ b)
  (hcl:cs.length=n * 2) (hvl:vs.length=m * 2)
  (hcs:∀ j v,cs[j]? = some v→w.cell? ⟨b,off + j,none⟩=some v) (hsp:∀ j,j < (n + m) * 2→(w.cell? ⟨b,off + j,none⟩).isSome=true) (hfz:∀ j,j < (n + m) * 2→w.frozen? ⟨b,off + j,none⟩=false)
  (hvs:∀ j v,vs[j]? = some v→w.cell? ⟨vb,voff + j,none⟩=some v) (h1c:∀ v ∈ cs,v.oneCell'=true) (h1v:∀ v ∈ vs,v.oneCell'=true)
  (tA tB:TypeId) (kA kB:Nat) (hsa:w.shape? vb=some (tA,kA)) (hsb:w.shape? b=some (tB,kB)) (hkB:kB ≠ 0) (hfa:w.frozen? ⟨vb,voff,none⟩=false) (hfe:w.frozen? ⟨vb,kA,none⟩=false) :
  Calls Try.prog 139 #[.slice (some ⟨b,off,none⟩) n c,.int .i64 i,.slice (some ⟨vb,voff,none⟩) m vc] w fun e w' =>
   e = .returned (.slice (some ⟨b,off,none⟩) (n + m) c)∧w'=(w.drew.setCells b (off + (i + m) * 2) (cs.drop (i * 2))).setCells b (off + i * 2) vs:=by
 have t37:Try.prog.underlying 35=some (.slice 100):=by kernel_rfl
 have mixed:Try.prog.follows .mixedOrders=true:=by kernel_rfl
 have hz1:¬ ((m:Int)=0):=by omega
 have hz2:¬ ((i:Int)=(n:Int)):=by omega
 have hsz:(Try.prog.info? 100).map (·.size)=some 2:=by kernel_rfl
 have z95:∀ w,(Go.sizeOf 100).run Try.prog w = .ok 2 w:=fun w=>by
  obtain ⟨i0,h0,h1⟩:=Option.map_eq_some_iff.1 hsz
  simp [Go.sizeOf,typeInfo,h0,h1]
 have hov:∀ lb cb,(callFunc 152 #[.slice (some ⟨vb,voff,none⟩) m vc,.slice (some ⟨b,off + (i + m) * 2,none⟩) lb cb]).run Try.prog w = .ok (.value (.bool false)) w:=fun lb cb=>by
  rw [run_callFunc_extern Try.func152 (by kernel_rfl) (by kernel_rfl) (by kernel_rfl) (e:=Extern.SlicesOverlaps.overlaps #[35,35] #[4]) (by kernel_rfl),
   Lib.run_overlaps_apart w 35 4 100 t37 2 z95 ⟨vb,voff,none⟩ ⟨b,off + (i + m) * 2,none⟩ m vc lb cb hvb tA tB kA kB hsa hsb hkB hfa hfe]
  rfl
 have hdl:(cs.drop (i * 2)).length=(n - i) * 2:=by rw [List.length_drop,hcl]; omega
 have hw1:IntKind.i64.wrap ((i:Int) + (m:Int))=(i:Int) + (m:Int):=by rw [IntKind.wrap_i64]; omega
 have hb1:(0:Int)≤(i:Int) + (m:Int):=by omega
 have hin:i≤n:=by omega
 have htn:((i:Int) + (m:Int)).toNat=i + m:=by omega
 have hb2:¬ (c=i + m):=by omega
 have hb3:(i:Int)≤(n:Int) + (m:Int):=by omega
 have hb4:¬ (c=i):=by omega
 have hcp1:∀ ty dc sc,(Builtin.copy_ #[35,35] ty #[.slice (some ⟨b,off + (i + m) * 2,none⟩) (n + m - (i + m)) dc,.slice (some ⟨b,off + i * 2,none⟩) (n + m - i) sc]).run Try.prog w.drew = .ok (goInt (Nat.min (n + m - i) (n + m - (i + m)))) (w.drew.setCells b (off + (i + m) * 2) (cs.drop (i * 2))):=fun ty dc sc =>
  run_copy_n w.drew _ _ ty 100 2 b (off + (i + m) * 2) (n + m - (i + m)) dc ⟨b,off + i * 2,none⟩ (n + m - i) sc (cs.drop (i * 2)) t37 hsz (by rw [hdl]; simp only [Nat.min_def]; split <;> omega)
   (fun j v hj=>by rw [Addr.add_lit,Nat.add_assoc]; exact hcs (i * 2 + j) v (by rwa [List.getElem?_drop] at hj))
   (fun j hj=>by rw [Nat.add_assoc]; exact hsp _ (by omega)) (fun j hj=>by rw [Nat.add_assoc]; exact hfz _ (by omega)) (fun v hv=>h1c v (List.mem_of_mem_drop hv))
 obtain ⟨W1,hW1⟩:∃ W1,W1=w.drew.setCells b (off + (i + m) * 2) (cs.drop (i * 2)):=⟨_,rfl⟩
 have hsp1:∀ k,k < (n + m) * 2→(W1.cell? ⟨b,off + k,none⟩).isSome=true:=fun k hk=>by
  rw [hW1]
  exact isSome_setCellsR b _ _ _ (fun j hj=>by rw [Nat.add_assoc]; exact hsp _ (by omega)) _ (hsp k hk)
 have hcp2:∀ (W:World),(∀ x,W.cell? x=W1.cell? x)→(∀ x,W.frozen? x=W1.frozen? x)→∀ ty dc,(Builtin.copy_ #[35,35] ty #[.slice (some ⟨b,off + i * 2,none⟩) (n + m - i) dc,.slice (some ⟨vb,voff,none⟩) m vc]).run Try.prog W = .ok (goInt (Nat.min m (n + m - i))) (W.setCells b (off + i * 2) vs):=fun W hWc hWf ty dc =>
  run_copy_n W _ _ ty 100 2 b (off + i * 2) (n + m - i) dc ⟨vb,voff,none⟩ m vc vs t37 hsz (by rw [hvl]; simp only [Nat.min_def]; split <;> omega)
   (fun j v hj=>by
    rw [Addr.add_lit,hWc,hW1,World.cell?_setCells_out b _ _ _ _ (fun h _=>absurd h hvb)]
    exact hvs j v hj)
   (fun j hj=>by rw [hWc,Nat.add_assoc]; exact hsp1 _ (by omega)) (fun j hj=>by rw [hWf,hW1,World.frozen?_setCells,Nat.add_assoc]; exact hfz _ (by omega)) h1v
 rw [← hW1] at hcp1
 rw [← hW1]
 clear hcl hvl hcs hsp hfz hvs hsp1 hdl hsa hsb hfa hfe
 go_enter Try.func139,Try.ntmps139
 go_wp2_with (simp only [hov])
 go_region_law (refine step_copy_runR rfl _ _ 35 35 rfl _ _ (by simp [Act.eval,Act.put]) (by simp [Act.eval,Act.put]) (hcp1 _ _ _) ?_)
 go_wp2_with (at_builtin; refine wpList_copy_runR _ rfl _ _ 35 35 rfl _ _ rfl rfl (hcp2 _ (fun _=>rfl) (fun _=>rfl) _ _) ?_)
 go_ret
 first | exact ⟨rfl,rfl⟩ | exact ⟨rfl,by rw [hW1]⟩
set_option maxHeartbeats 4000000 in
set_option maxRecDepth 100000 in
theorem ins_end (base:Option Addr) (n c m vc:Nat) (X:Option Addr) (w:World) (hm:0 < m) (hnc:n≤c) (hc63:c≤9223372036854775807) (hnil:base=none→n=0∧c=0) {v':Value} {w1:World}
  (hrun:∀ ty,(Builtin.append_ #[35,35] ty #[.slice base n c,.slice X m vc]).run Try.prog w = .ok v' w1) :
  Calls Try.prog 139 #[.slice base n c,.int .i64 n,.slice X m vc] w fun e w'=>e = .returned v'∧w'=w1:=by
 have t37:Try.prog.underlying 35=some (.slice 100):=by kernel_rfl
 have mixed:Try.prog.follows .mixedOrders=true:=by kernel_rfl
 have hz1:¬ ((m:Int)=0):=by omega
 go_enter Try.func139,Try.ntmps139
 cases base with
 | none =>
  obtain ⟨h0,h1⟩:=hnil rfl
  subst h0; subst h1
  go_wp2_with (at_builtin; refine Lib.wpList_append_run _ rfl _ _ _ _ rfl _ _ rfl rfl _ _ (hrun _) ?_)
  go_ret
  exact ⟨rfl,rfl⟩
 | some a =>
  obtain ⟨ab,ao,asp⟩:=a
  clear hnil
  go_wp2_with (at_builtin; refine Lib.wpList_append_run _ rfl _ _ _ _ rfl _ _ rfl rfl _ _ (hrun _) ?_)
  all_goals (go_ret; exact ⟨rfl,rfl⟩)
end Go.Proofs.Ytbjgiioppmkpiaa.Rx.S

namespace Go.Proofs.Ytbjgiioppmkpiaa.Rx.S
open Go Go.Proofs.Ytbjgiioppmkpiaa.Rx Go.RowKit Go.Lib Go.Proofs
set_option linter.unusedVariables false
set_option linter.unusedSimpArgs false
set_option maxHeartbeats 4000000 in
set_option maxRecDepth 100000 in
theorem ins_grow (b off n c i vb voff m vc:Nat) (cs vs:List Value) (w:World) (hi:i < n) (hm:0 < m) (hnc:n≤c) (hroom:c < n + m) (hbig:(n + m) * 24≤140737488355328)
  (hcl:cs.length=n * 2) (hvl:vs.length=m * 2)
  (hcs:∀ j v,cs[j]? = some v→w.cell? ⟨b,off + j,none⟩=some v)
  (hvs:∀ j v,vs[j]? = some v→w.cell? ⟨vb,voff + j,none⟩=some v) (h1c:∀ v ∈ cs,v.oneCell'=true) (h1v:∀ v ∈ vs,v.oneCell'=true) :
  Calls Try.prog 139 #[.slice (some ⟨b,off,none⟩) n c,.int .i64 i,.slice (some ⟨vb,voff,none⟩) m vc] w fun e w' =>
   e = .returned (.slice (some ⟨w.heap.size,0,none⟩) (n + m) (grownCap w (n + m) c 100)) ∧
   w'=(((w.alloc (.cells ((cs.take (i * 2)).toArray ++ Builtin.zeroCells (Value.agg #[.string ⟨#[]⟩,.int .i64 0]).cells (n + m - i) ++ Builtin.zeroCells (Value.agg #[.string ⟨#[]⟩,.int .i64 0]).cells (grownCap w (n + m) c 100 - (n + m))) 100)).drew.setCells w.heap.size (i * 2) vs).drew).setCells w.heap.size ((i + m) * 2) (cs.drop (i * 2)):=by
 have t37:Try.prog.underlying 35=some (.slice 100):=by kernel_rfl
 have t3:Try.prog.underlying 3=some (.int .i64):=by kernel_rfl
 have mixed:Try.prog.follows .mixedOrders=true:=by kernel_rfl
 obtain ⟨i0,hi0,hz0,hzs,hzb⟩:∃ i0,Try.prog.info? 100=some i0∧i0.zero=some (.agg #[.string ⟨#[]⟩,.int .i64 0])∧i0.size=2∧i0.bytes=24:=by
  obtain ⟨i0,h1,h2⟩:=Option.map_eq_some_iff.1 i95
  simp only [Prod.mk.injEq] at h2
  exact ⟨i0,h1,h2.1,h2.2.1,h2.2.2⟩
 have hz1:¬ ((m:Int)=0):=by omega
 have hz2:¬ ((i:Int)=(n:Int)):=by omega
 have hz3:(c:Int) < (n:Int) + (m:Int):=by omega
 have hsz:(Try.prog.info? 100).map (·.size)=some 2:=by kernel_rfl
 have hbw:b < w.heap.size:=block_lt_of_cell (hcs 0 _ (List.getElem?_eq_getElem (by omega)))
 have hvw:vb < w.heap.size:=block_lt_of_cell (hvs 0 _ (List.getElem?_eq_getElem (by omega)))
 have hkk:(n:Int) + (m:Int) - (i:Int)=((n + m - i:Nat):Int):=by omega
 have hik:i + (n + m - i)=n + m:=by omega
 have hold:(Builtin.firstCells i0.size i (.slice (some ⟨b,off,none⟩) i c)).run Try.prog w.drew = .ok (cs.take (i * 2)).toArray w.drew:=by
  rw [hzs]
  exact run_firstCells_some w.drew 2 i ⟨b,off,none⟩ i c (cs.take (i * 2)) (by rw [List.length_take]; omega) (fun j v hj=>by
   rw [Addr.add_lit]
   rw [List.getElem?_take] at hj
   split at hj
   ·exact hcs j v hj
   ·cases hj)
 have hrz:∀ ty,(Builtin.append_ #[35,3] ty #[.slice (some ⟨b,off,none⟩) i c,.int .i64 ((n:Int) + (m:Int) - (i:Int))]).run Try.prog w =
   .ok (.slice (some ⟨w.heap.size,0,none⟩) (n + m) (grownCap w (n + m) c 100)) (w.drew.alloc (.cells ((cs.take (i * 2)).toArray ++ Builtin.zeroCells (Value.agg #[.string ⟨#[]⟩,.int .i64 0]).cells (n + m - i) ++ Builtin.zeroCells (Value.agg #[.string ⟨#[]⟩,.int .i64 0]).cells (grownCap w (n + m) c 100 - (n + m))) 100)):=fun ty=>by
  have h:=Lib.run_append_grow_zeros w 35 3 ty 100 i0 _ .i64 .i64 t37 t3 hi0 hz0 (some ⟨b,off,none⟩) i c (cs.take (i * 2)) hold (n + m - i) (by omega) (by omega) (by omega) (by omega) (by rw [hzb]; omega) (by rw [hzb,hik]; exact growslice_fits hroom hbig)
  rw [hik] at h
  rw [hkk]
  exact h
 obtain ⟨G,hG⟩:∃ G,G=grownCap w (n + m) c 100:=⟨_,rfl⟩
 obtain ⟨ROW,hROW⟩:∃ ROW:Array Value,ROW=(cs.take (i * 2)).toArray ++ Builtin.zeroCells (Value.agg #[.string ⟨#[]⟩,.int .i64 0]).cells (n + m - i) ++ Builtin.zeroCells (Value.agg #[.string ⟨#[]⟩,.int .i64 0]).cells (G - (n + m)):=⟨_,rfl⟩
 rw [← hG] at hrz ⊢
 rw [← hROW] at hrz ⊢
 have hRl:(n + m) * 2≤ROW.size:=by
  rw [hROW]
  simp [Builtin.zeroCells,Value.cells]
  omega
 obtain ⟨W1,hW1⟩:∃ W1,W1=w.drew.alloc (.cells ROW 100):=⟨_,rfl⟩
 rw [← hW1] at hrz
 have hN:∀ j,j < (n + m) * 2→(W1.cell? ⟨w.heap.size,j,none⟩).isSome=true:=fun j hj=>by
  rw [hW1,World.cell?_alloc_at (w:=w.drew) ROW _ w.heap.size j rfl,Array.getElem?_eq_getElem (by omega)]; rfl
 have hNf:∀ j,W1.frozen? ⟨w.heap.size,j,none⟩=false:=fun j=>by rw [hW1]; exact World.frozen?_alloc_at (w:=w.drew) ROW _ w.heap.size j rfl
 have hOb:∀ j v,w.cell? ⟨b,j,none⟩=some v→W1.cell? ⟨b,j,none⟩=some v:=fun j v h=>by rw [hW1,World.cell?_alloc_past (w:=w.drew) _ b j hbw]; exact h
 have hOv:∀ j v,w.cell? ⟨vb,j,none⟩=some v→W1.cell? ⟨vb,j,none⟩=some v:=fun j v h=>by rw [hW1,World.cell?_alloc_past (w:=w.drew) _ vb j hvw]; exact h
 have hcpA:∀ (W:World),(∀ x,W.cell? x=W1.cell? x)→(∀ x,W.frozen? x=W1.frozen? x)→∀ ty dc,(Builtin.copy_ #[35,35] ty #[.slice (some ⟨w.heap.size,i * 2,none⟩) (n + m - i) dc,.slice (some ⟨vb,voff,none⟩) m vc]).run Try.prog W = .ok (goInt (Nat.min m (n + m - i))) (W.setCells w.heap.size (i * 2) vs):=fun W hWc hWf ty dc =>
  run_copy_n W _ _ ty 100 2 w.heap.size (i * 2) (n + m - i) dc ⟨vb,voff,none⟩ m vc vs t37 hsz (by rw [hvl]; simp only [Nat.min_def]; split <;> omega)
   (fun j v hj=>by rw [Addr.add_lit,hWc]; exact hOv _ v (hvs j v hj))
   (fun j hj=>by rw [hWc]; exact hN _ (by omega)) (fun j hj=>by rw [hWf]; exact hNf _) h1v
 have hGn:n + m≤G:=by rw [hG]; exact grownCap_ge w _ _ _
 have hG63:G≤9223372036854775807:=by
  have:=grownCap_le_maxLen w (n + m) c 100 (by unfold maxLen; omega)
  rw [← hG] at this
  unfold maxLen at this
  omega
 have hGi:¬ (G=i):=by omega
 have hGim:¬ (G=i + m):=by omega
 have hci:¬ (c=i):=by omega
 have hbN:b ≠ w.heap.size:=by omega
 have hdl:(cs.drop (i * 2)).length=(n - i) * 2:=by rw [List.length_drop,hcl]; omega
 have hcpB:∀ (W:World),(∀ x,W.cell? x=(W1.setCells w.heap.size (i * 2) vs).cell? x)→(∀ x,W.frozen? x=(W1.setCells w.heap.size (i * 2) vs).frozen? x)→∀ ty dc sc,(Builtin.copy_ #[35,35] ty #[.slice (some ⟨w.heap.size,(i + m) * 2,none⟩) (n + m - (i + m)) dc,.slice (some ⟨b,off + i * 2,none⟩) (n - i) sc]).run Try.prog W = .ok (goInt (Nat.min (n - i) (n + m - (i + m)))) (W.setCells w.heap.size ((i + m) * 2) (cs.drop (i * 2))):=fun W hWc hWf ty dc sc =>
  run_copy_n W _ _ ty 100 2 w.heap.size ((i + m) * 2) (n + m - (i + m)) dc ⟨b,off + i * 2,none⟩ (n - i) sc (cs.drop (i * 2)) t37 hsz (by rw [hdl]; simp only [Nat.min_def]; split <;> omega)
   (fun j v hj=>by
    rw [Addr.add_lit,hWc,World.cell?_setCells_out _ _ _ _ _ (fun h _=>absurd h hbN),Nat.add_assoc]
    exact hOb _ v (hcs (i * 2 + j) v (by rwa [List.getElem?_drop] at hj)))
   (fun j hj=>by rw [hWc]; exact isSome_setCellsR _ _ _ _ (fun t ht=>hN _ (by omega)) _ (hN _ (by omega)))
   (fun j hj=>by rw [hWf,World.frozen?_setCells]; exact hNf _) (fun v hv=>h1c v (List.mem_of_mem_drop hv))
 subst hW1
 have hE1:∀ x,((w.alloc (.cells ROW 100)).drew).cell? x=(w.drew.alloc (.cells ROW 100)).cell? x:=fun x=>rfl
 have hE2:∀ x,((w.alloc (.cells ROW 100)).drew).frozen? x=(w.drew.alloc (.cells ROW 100)).frozen? x:=fun x=>rfl
 have hF1:∀ x,(((w.alloc (.cells ROW 100)).drew.setCells w.heap.size (i * 2) vs).drew).cell? x=((w.drew.alloc (.cells ROW 100)).setCells w.heap.size (i * 2) vs).cell? x:=fun x=>rfl
 have hF2:∀ x,(((w.alloc (.cells ROW 100)).drew.setCells w.heap.size (i * 2) vs).drew).frozen? x=((w.drew.alloc (.cells ROW 100)).setCells w.heap.size (i * 2) vs).frozen? x:=fun x=>rfl
 have hw1:IntKind.i64.wrap ((i:Int) + (m:Int))=(i:Int) + (m:Int):=by rw [IntKind.wrap_i64]; omega
 have hb1:(0:Int)≤(i:Int) + (m:Int):=by omega
 have hin:i≤n:=by omega
 have htn:((i:Int) + (m:Int)).toNat=i + m:=by omega
 have hb3:(i:Int)≤(n:Int):=by omega
 clear hkk hik hold hROW hG hRl hN hNf hOb hOv hcs hvs hcl hvl hdl
 go_enter Try.func139,Try.ntmps139
 go_wp2_with (first
  | (at_builtin; refine Lib.wpList_append_run _ rfl _ _ _ _ rfl _ _ rfl rfl _ _ (hrz _) ?_)
  | (at_builtin; refine wpList_copy_runR _ rfl _ _ 35 35 rfl _ _ rfl rfl (hcpA _ hE1 hE2 _ _) ?_)
  | (at_builtin; refine wpList_copy_runR _ rfl _ _ 35 35 rfl _ _ rfl rfl (hcpB _ (fun _=>rfl) (fun _=>rfl) _ _ _) ?_))
 go_region_law (refine step_copy_runR rfl _ _ 35 35 rfl (.slice (some ⟨w.heap.size,(i + m) * 2,none⟩) (n + m - (i + m)) (G - (i + m))) (.slice (some ⟨b,off + i * 2,none⟩) (n - i) (c - i)) (by simp [Act.eval,Act.put]) (by simp [Act.eval,Act.put]) (hcpB _ hF1 hF2 3 (G - (i + m)) (c - i)) ?_)
 go_wp2
 go_ret
 exact ⟨rfl,rfl⟩
end Go.Proofs.Ytbjgiioppmkpiaa.Rx.S

namespace Go.Proofs.Ytbjgiioppmkpiaa.Rx.S
open Go Go.Proofs.Ytbjgiioppmkpiaa.Rx Go.RowKit Go.Proofs
noncomputable def c139:Code:=(Try.f139.body.getD .skip)
abbrev ps139:List PK:=[.own (.row 100 tEn) false,.val i64 false,.own (.row 100 tEn) false]
abbrev rs139:List RK:=[.own (.row 100 tEn) false]
abbrev R139:=retsD rs139 × outsD ps139
def p139 (n:Nat) (a:List (ByteArray × Int)) (b:Int) (c:List (ByteArray × Int)):Option R139 :=
 cond (decide (0≤b)) (cond (decide (b≤a.length)) (cond (decide (1≤c.length)) (cond (decide ((a.length + c.length) * 24≤140737488355328)) (some ((a.take b.toNat ++ c ++ a.drop b.toNat,()),())) none) none) none) none
noncomputable def q139 (n:Nat) (x:argsD ps139):Option R139:=p139 n x.1 x.2.1 x.2.2.1
noncomputable def Sm139:Sm:=⟨ps139,rs139,false,q139⟩
theorem hh139:Holds Try.prog 139 Sm139:=by
 have h:TT 100=some ⟨.struct [(0,1),(1,1)],2,24,[.str,.int .i64],some tEn,true⟩:=by rfl
 obtain ⟨hti⟩:=tt_ok.get h
 exact holds_ins (t:=35) (T:=tEn) rfl (by decide) hti rfl (by kernel_rfl) (by decide) rfl ins_shift ins_end ins_grow
end Go.Proofs.Ytbjgiioppmkpiaa.Rx.S

namespace Go.Proofs.Ytbjgiioppmkpiaa.Rx.S
open Go Go.RowKit Go.Proofs
set_option maxRecDepth 100000
noncomputable def c105:Code:=(Try.f105.body.getD .skip)
def an105:An:=⟨fun _=>⟨[],[]⟩,fun _ _=>none⟩
abbrev ps105:List PK:=[.bo tFs,.val i64 false,.val .str false,.val i64 false]
abbrev rs105:List RK:=[]
abbrev R105:=retsD rs105 × outsD ps105
noncomputable def G105:Gam:=fun f=>match f with | 73=>some Sm73 | 139=>some Sm139 | _=>none
theorem h0_105 (hg:GamOK Try.prog G105):Holds Try.prog 105 ⟨ps105,rs105,false,runF TT G105 an105 Try.f105 c105 ps105 rs105⟩:=holds_of tt_ok hg mixed Try.func105 (by kernel_rfl) (by rfl) (by decide +kernel)
noncomputable def st105_top (n:Nat) (a:List NT) (b:Int) (c:ByteArray) (d:Int):Option R105 :=
 cond (decide ((0:Int)≤b)) (cond (decide (b < (↑a.length:Int))) ((q73 n (((a.getD b.toNat ZN).1,(a.getD b.toNat ZN).2.1,(a.getD b.toNat ZN).2.2.1,(a.getD b.toNat ZN).2.2.2.1,(a.getD b.toNat ZN).2.2.2.2.1,(a.getD b.toNat ZN).2.2.2.2.2.1,(a.getD b.toNat ZN).2.2.2.2.2.2.1,(a.getD b.toNat ZN).2.2.2.2.2.2.2.1,(a.getD b.toNat ZN).2.2.2.2.2.2.2.2),c,())).bind fun r0=>(q139 n ((a.getD b.toNat ZN).2.2.2.2.2.2.2.2,r0.1.1,[(c,d)],())).bind fun r1=>cond (decide ((↑b.toNat:Int)=(↑b.toNat:Int))) (cond (decide ((0:Int)≤d)) (cond (decide (d < (↑(a.set b.toNat ((a.getD b.toNat ZN).1,(a.getD b.toNat ZN).2.1,(a.getD b.toNat ZN).2.2.1,(a.getD b.toNat ZN).2.2.2.1,(a.getD b.toNat ZN).2.2.2.2.1,(a.getD b.toNat ZN).2.2.2.2.2.1,(a.getD b.toNat ZN).2.2.2.2.2.2.1,(a.getD b.toNat ZN).2.2.2.2.2.2.2.1,r1.1.1)).length:Int))) (cond (decide ((0:Int)≤d)) (cond (decide (d < (↑(a.set b.toNat ((a.getD b.toNat ZN).1,(a.getD b.toNat ZN).2.1,(a.getD b.toNat ZN).2.2.1,(a.getD b.toNat ZN).2.2.2.1,(a.getD b.toNat ZN).2.2.2.2.1,(a.getD b.toNat ZN).2.2.2.2.2.1,(a.getD b.toNat ZN).2.2.2.2.2.2.1,(a.getD b.toNat ZN).2.2.2.2.2.2.2.1,r1.1.1)).length:Int))) (some ((),((a.set b.toNat ((a.getD b.toNat ZN).1,(a.getD b.toNat ZN).2.1,(a.getD b.toNat ZN).2.2.1,(a.getD b.toNat ZN).2.2.2.1,(a.getD b.toNat ZN).2.2.2.2.1,(a.getD b.toNat ZN).2.2.2.2.2.1,(a.getD b.toNat ZN).2.2.2.2.2.2.1,(a.getD b.toNat ZN).2.2.2.2.2.2.2.1,r1.1.1)).set d.toNat (((a.set b.toNat ((a.getD b.toNat ZN).1,(a.getD b.toNat ZN).2.1,(a.getD b.toNat ZN).2.2.1,(a.getD b.toNat ZN).2.2.2.1,(a.getD b.toNat ZN).2.2.2.2.1,(a.getD b.toNat ZN).2.2.2.2.2.1,(a.getD b.toNat ZN).2.2.2.2.2.2.1,(a.getD b.toNat ZN).2.2.2.2.2.2.2.1,r1.1.1)).getD d.toNat ZN).1,((a.set b.toNat ((a.getD b.toNat ZN).1,(a.getD b.toNat ZN).2.1,(a.getD b.toNat ZN).2.2.1,(a.getD b.toNat ZN).2.2.2.1,(a.getD b.toNat ZN).2.2.2.2.1,(a.getD b.toNat ZN).2.2.2.2.2.1,(a.getD b.toNat ZN).2.2.2.2.2.2.1,(a.getD b.toNat ZN).2.2.2.2.2.2.2.1,r1.1.1)).getD d.toNat ZN).2.1,((a.set b.toNat ((a.getD b.toNat ZN).1,(a.getD b.toNat ZN).2.1,(a.getD b.toNat ZN).2.2.1,(a.getD b.toNat ZN).2.2.2.1,(a.getD b.toNat ZN).2.2.2.2.1,(a.getD b.toNat ZN).2.2.2.2.2.1,(a.getD b.toNat ZN).2.2.2.2.2.2.1,(a.getD b.toNat ZN).2.2.2.2.2.2.2.1,r1.1.1)).getD d.toNat ZN).2.2.1,((a.set b.toNat ((a.getD b.toNat ZN).1,(a.getD b.toNat ZN).2.1,(a.getD b.toNat ZN).2.2.1,(a.getD b.toNat ZN).2.2.2.1,(a.getD b.toNat ZN).2.2.2.2.1,(a.getD b.toNat ZN).2.2.2.2.2.1,(a.getD b.toNat ZN).2.2.2.2.2.2.1,(a.getD b.toNat ZN).2.2.2.2.2.2.2.1,r1.1.1)).getD d.toNat ZN).2.2.2.1,Go.IntKind.i64.wrap (((a.set b.toNat ((a.getD b.toNat ZN).1,(a.getD b.toNat ZN).2.1,(a.getD b.toNat ZN).2.2.1,(a.getD b.toNat ZN).2.2.2.1,(a.getD b.toNat ZN).2.2.2.2.1,(a.getD b.toNat ZN).2.2.2.2.2.1,(a.getD b.toNat ZN).2.2.2.2.2.2.1,(a.getD b.toNat ZN).2.2.2.2.2.2.2.1,r1.1.1)).getD d.toNat ZN).2.2.2.2.1 + (1:Int)),((a.set b.toNat ((a.getD b.toNat ZN).1,(a.getD b.toNat ZN).2.1,(a.getD b.toNat ZN).2.2.1,(a.getD b.toNat ZN).2.2.2.1,(a.getD b.toNat ZN).2.2.2.2.1,(a.getD b.toNat ZN).2.2.2.2.2.1,(a.getD b.toNat ZN).2.2.2.2.2.2.1,(a.getD b.toNat ZN).2.2.2.2.2.2.2.1,r1.1.1)).getD d.toNat ZN).2.2.2.2.2),()))) (none)) (none)) (none)) (none)) (none)) (none)) (none)
theorem e105_top (n:Nat) (a:List NT) (b:Int) (c:ByteArray) (d:Int):runF TT G105 an105 Try.f105 c105 ps105 rs105 n (a,b,c,d,())=st105_top n a b c d:=by kernel_rfl
noncomputable def p105 (n:Nat) (a:List NT) (b:Int) (c:ByteArray) (d:Int):Option R105:=st105_top n a b c d
theorem F105_eq (n:Nat) (a:List NT) (b:Int) (c:ByteArray) (d:Int):runF TT G105 an105 Try.f105 c105 ps105 rs105 n (a,b,c,d,())=p105 n a b c d:=by
 rw [e105_top]
 skip
 try rfl
noncomputable def q105 (n:Nat) (x:argsD ps105):Option R105:=p105 n x.1 x.2.1 x.2.2.1 x.2.2.2.1
noncomputable def Sm105:Sm:=⟨ps105,rs105,false,q105⟩
theorem holds105 (hg:GamOK Try.prog G105):Holds Try.prog 105 Sm105:=by
 have:=h0_105 hg
 have e:(runF TT G105 an105 Try.f105 c105 ps105 rs105)=q105:=by
  funext n x
  exact F105_eq n x.1 x.2.1 x.2.2.1 x.2.2.2.1
 rw [e] at this
 exact this
theorem gam105:GamOK Try.prog G105:=by
 intro f s h
 unfold G105 at h
 split at h
 ·injection h with h; subst h; exact ⟨⟨Try.f73,c73,Try.func73,by kernel_rfl,by decide +kernel⟩,hh73⟩
 ·injection h with h; subst h; exact ⟨⟨Try.f139,c139,Try.func139,by kernel_rfl,by decide +kernel⟩,hh139⟩
 ·cases h
theorem hh105:Holds Try.prog 105 Sm105:=holds105 gam105
end Go.Proofs.Ytbjgiioppmkpiaa.Rx.S

namespace Go.Proofs.Ytbjgiioppmkpiaa.Rx.S
open Go Go.RowKit Go.Proofs
set_option maxRecDepth 100000
noncomputable def c61:Code:=(Try.f61.body.getD .skip)
def an61:An:=⟨fun _=>⟨[],[]⟩,fun _ _=>none⟩
abbrev ps61:List PK:=[.val i64 false,.val i64 false,.val i64 false]
abbrev rs61:List RK:=[.val .bool false]
abbrev R61:=retsD rs61 × outsD ps61
noncomputable def G61:Gam:=fun _=>none
theorem h0_61 (hg:GamOK Try.prog G61):Holds Try.prog 61 ⟨ps61,rs61,false,runF TT G61 an61 Try.f61 c61 ps61 rs61⟩:=holds_of tt_ok hg mixed Try.func61 (by kernel_rfl) (by rfl) (by decide +kernel)
noncomputable def st61_top (n:Nat) (a:Int) (b:Int) (c:Int):Option R61 :=
 cond (decide (b≤a)) (some ((decide (a≤c),()),())) (some ((false,()),()))
theorem e61_top (n:Nat) (a:Int) (b:Int) (c:Int):runF TT G61 an61 Try.f61 c61 ps61 rs61 n (a,b,c,())=st61_top n a b c:=by kernel_rfl
noncomputable def p61 (n:Nat) (a:Int) (b:Int) (c:Int):Option R61:=st61_top n a b c
theorem F61_eq (n:Nat) (a:Int) (b:Int) (c:Int):runF TT G61 an61 Try.f61 c61 ps61 rs61 n (a,b,c,())=p61 n a b c:=by
 rw [e61_top]
 skip
 try rfl
noncomputable def q61 (n:Nat) (x:argsD ps61):Option R61:=p61 n x.1 x.2.1 x.2.2.1
noncomputable def Sm61:Sm:=⟨ps61,rs61,false,q61⟩
theorem holds61 (hg:GamOK Try.prog G61):Holds Try.prog 61 Sm61:=by
 have:=h0_61 hg
 have e:(runF TT G61 an61 Try.f61 c61 ps61 rs61)=q61:=by
  funext n x
  exact F61_eq n x.1 x.2.1 x.2.2.1
 rw [e] at this
 exact this
theorem gam61:GamOK Try.prog G61:=fun _ _ h=>by cases h
theorem hh61:Holds Try.prog 61 Sm61:=holds61 gam61
end Go.Proofs.Ytbjgiioppmkpiaa.Rx.S

namespace Go.Proofs.Ytbjgiioppmkpiaa.Rx.S
open Go Go.RowKit Go.Proofs
set_option maxRecDepth 100000
noncomputable def c120:Code:=(Try.f120.body.getD .skip)
def an120:An:=⟨fun _=>⟨[],[]⟩,fun _ _=>none⟩
abbrev ps120:List PK:=[.val (.int .i32) false]
abbrev rs120:List RK:=[.val .bool false]
abbrev R120:=retsD rs120 × outsD ps120
noncomputable def G120:Gam:=fun _=>none
theorem h0_120 (hg:GamOK Try.prog G120):Holds Try.prog 120 ⟨ps120,rs120,false,runF TT G120 an120 Try.f120 c120 ps120 rs120⟩:=holds_of tt_ok hg mixed Try.func120 (by kernel_rfl) (by rfl) (by decide +kernel)
noncomputable def st120_top (n:Nat) (a:Int):Option R120 :=
 cond (decide (a < (97:Int))) (some ((true,()),())) (some ((decide ((122:Int) < a),()),()))
theorem e120_top (n:Nat) (a:Int):runF TT G120 an120 Try.f120 c120 ps120 rs120 n (a,())=st120_top n a:=by kernel_rfl
noncomputable def p120 (n:Nat) (a:Int):Option R120:=st120_top n a
theorem F120_eq (n:Nat) (a:Int):runF TT G120 an120 Try.f120 c120 ps120 rs120 n (a,())=p120 n a:=by
 rw [e120_top]
 skip
 try rfl
noncomputable def q120 (n:Nat) (x:argsD ps120):Option R120:=p120 n x.1
noncomputable def Sm120:Sm:=⟨ps120,rs120,false,q120⟩
theorem holds120 (hg:GamOK Try.prog G120):Holds Try.prog 120 Sm120:=by
 have:=h0_120 hg
 have e:(runF TT G120 an120 Try.f120 c120 ps120 rs120)=q120:=by
  funext n x
  exact F120_eq n x.1
 rw [e] at this
 exact this
theorem gam120:GamOK Try.prog G120:=fun _ _ h=>by cases h
theorem hh120:Holds Try.prog 120 Sm120:=holds120 gam120
end Go.Proofs.Ytbjgiioppmkpiaa.Rx.S

namespace Go.Proofs.Ytbjgiioppmkpiaa.Rx.S
open Go Go.RowKit Go.Proofs
set_option maxRecDepth 100000
noncomputable def c147:Code:=(Try.f147.body.getD .skip)
def an147:An:=⟨fun r=>match r with | 2=>⟨[1,2,10],[]⟩ | _=>⟨[],[]⟩,fun _ _=>none⟩
abbrev ps147:List PK:=[.val .str false,.fn 120 [],.val .bool false]
abbrev rs147:List RK:=[.val i64 false]
abbrev R147:=retsD rs147 × outsD ps147
noncomputable def G147:Gam:=fun f=>match f with | 120=>some Sm120 | _=>none
theorem h0_147 (hg:GamOK Try.prog G147):Holds Try.prog 147 ⟨ps147,rs147,false,runF TT G147 an147 Try.f147 c147 ps147 rs147⟩:=holds_of tt_ok hg mixed Try.func147 (by kernel_rfl) (by rfl) (by decide +kernel)
noncomputable def at147:Nat→Pt→List Nat→St→Option R147:=atF TT G147 an147 Try.f147 c147 _ _
def sh147_L2 (x0:Bool) (x1:ByteArray) (x2:Int):St:=(St.mk (AV.undef :: ((AV.fn 120 []) :: ((AV.one (SV.bool x0)) :: (AV.undef :: (AV.undef :: (AV.undef :: (AV.undef :: (AV.undef :: (AV.undef :: (AV.undef :: ((AV.one (SV.bptr 1000000 0)) :: (AV.undef :: (AV.undef :: (AV.undef :: (AV.undef :: (AV.undef :: (AV.undef :: (AV.undef :: (AV.undef :: (AV.undef :: (AV.undef :: []))))))))))))))))))))) ((1000000,(Ent.iter x1 x2)) :: []))
noncomputable def st147_top (n:Nat) (lL2:Bool→ByteArray→Int→Option R147) (a:ByteArray) (b:Unit) (c:Bool):Option R147 :=
 lL2 (c) (a) ((0:Int))
noncomputable def st147_L2 (n:Nat) (lL2:Bool→ByteArray→Int→Option R147) (x0:Bool) (x1:ByteArray) (x2:Int):Option R147 :=
 cond (decide (x2.toNat < x1.size)) ((q120 n ((↑(Go.Utf8.decode x1 x2.toNat).1:Int),())).bind fun r1=>cond (r1.1.1 == x0) (some (((↑x2.toNat:Int),()),())) (lL2 (x0) (x1) ((↑(x2.toNat + (Go.Utf8.decode x1 x2.toNat).2):Int)))) (some (((-1:Int),()),()))
theorem e147_top (n:Nat) (a:ByteArray) (b:Unit) (c:Bool):runF TT G147 an147 Try.f147 c147 ps147 rs147 n (a,b,c,())=st147_top n (fun x0 x1 x2=>at147 n (.head 2) [n] (sh147_L2 x0 x1 x2)) a b c:=by kernel_rfl
theorem e147_L2_0 (n:Nat) (x0:Bool) (x1:ByteArray) (x2:Int):at147 n (.head 2) [0] (sh147_L2 x0 x1 x2)=none:=by kernel_rfl
theorem e147_L2 (n:Nat) (m2:Nat) (x0:Bool) (x1:ByteArray) (x2:Int):at147 n (.head 2) [m2 + 1] (sh147_L2 x0 x1 x2)=st147_L2 n (fun x0 x1 x2=>at147 n (.head 2) [m2] (sh147_L2 x0 x1 x2)) x0 x1 x2:=by kernel_rfl
noncomputable def p147_L2 (n:Nat):Nat→Bool→ByteArray→Int→Option R147
 | 0,_,_,_=>none
 | m + 1,x0,x1,x2=>st147_L2 n (p147_L2 n m) x0 x1 x2
noncomputable def p147 (n:Nat) (a:ByteArray) (b:Unit) (c:Bool):Option R147:=st147_top n (p147_L2 n n) a b c
theorem t147_L2 (n:Nat):∀ (m2:Nat) (x0:Bool) (x1:ByteArray) (x2:Int),at147 n (.head 2) [m2] (sh147_L2 x0 x1 x2)=p147_L2 n m2 x0 x1 x2:=by
 intro m
 induction m with
 | zero=>intros; rw [e147_L2_0]; rfl
 | succ m ih =>
  intros
  rw [e147_L2]
  try simp only [ih]
  rfl
theorem F147_eq (n:Nat) (a:ByteArray) (b:Unit) (c:Bool):runF TT G147 an147 Try.f147 c147 ps147 rs147 n (a,b,c,())=p147 n a b c:=by
 rw [e147_top]
 simp only [t147_L2]
 try rfl
noncomputable def q147 (n:Nat) (x:argsD ps147):Option R147:=p147 n x.1 x.2.1 x.2.2.1
noncomputable def Sm147:Sm:=⟨ps147,rs147,false,q147⟩
theorem holds147 (hg:GamOK Try.prog G147):Holds Try.prog 147 Sm147:=by
 have:=h0_147 hg
 have e:(runF TT G147 an147 Try.f147 c147 ps147 rs147)=q147:=by
  funext n x
  exact F147_eq n x.1 x.2.1 x.2.2.1
 rw [e] at this
 exact this
theorem gam147:GamOK Try.prog G147:=by
 intro f s h
 unfold G147 at h
 split at h
 ·injection h with h; subst h; exact ⟨⟨Try.f120,c120,Try.func120,by kernel_rfl,by decide +kernel⟩,hh120⟩
 ·cases h
theorem hh147:Holds Try.prog 147 Sm147:=holds147 gam147
end Go.Proofs.Ytbjgiioppmkpiaa.Rx.S

namespace Go.Proofs.Ytbjgiioppmkpiaa.Rx.S
open Go Go.RowKit Go.Proofs
set_option maxRecDepth 100000
noncomputable def c119:Code:=(Try.f119.body.getD .skip)
def an119:An:=⟨fun _=>⟨[],[]⟩,fun _ _=>none⟩
abbrev ps119:List PK:=[.val .str false,.fn 120 []]
abbrev rs119:List RK:=[.val i64 false]
abbrev R119:=retsD rs119 × outsD ps119
noncomputable def G119:Gam:=fun f=>match f with | 147=>some Sm147 | _=>none
theorem h0_119 (hg:GamOK Try.prog G119):Holds Try.prog 119 ⟨ps119,rs119,false,runF TT G119 an119 Try.f119 c119 ps119 rs119⟩:=holds_of tt_ok hg mixed Try.func119 (by kernel_rfl) (by rfl) (by decide +kernel)
noncomputable def st119_top (n:Nat) (a:ByteArray) (b:Unit):Option R119 :=
 (q147 n (a,(),true,())).bind fun r0=>some ((r0.1.1,()),())
theorem e119_top (n:Nat) (a:ByteArray) (b:Unit):runF TT G119 an119 Try.f119 c119 ps119 rs119 n (a,b,())=st119_top n a b:=by kernel_rfl
noncomputable def p119 (n:Nat) (a:ByteArray) (b:Unit):Option R119:=st119_top n a b
theorem F119_eq (n:Nat) (a:ByteArray) (b:Unit):runF TT G119 an119 Try.f119 c119 ps119 rs119 n (a,b,())=p119 n a b:=by
 rw [e119_top]
 skip
 try rfl
noncomputable def q119 (n:Nat) (x:argsD ps119):Option R119:=p119 n x.1 x.2.1
noncomputable def Sm119:Sm:=⟨ps119,rs119,false,q119⟩
theorem holds119 (hg:GamOK Try.prog G119):Holds Try.prog 119 Sm119:=by
 have:=h0_119 hg
 have e:(runF TT G119 an119 Try.f119 c119 ps119 rs119)=q119:=by
  funext n x
  exact F119_eq n x.1 x.2.1
 rw [e] at this
 exact this
theorem gam119:GamOK Try.prog G119:=by
 intro f s h
 unfold G119 at h
 split at h
 ·injection h with h; subst h; exact ⟨⟨Try.f147,c147,Try.func147,by kernel_rfl,by decide +kernel⟩,hh147⟩
 ·cases h
theorem hh119:Holds Try.prog 119 Sm119:=holds119 gam119
end Go.Proofs.Ytbjgiioppmkpiaa.Rx.S

namespace Go.Proofs.Ytbjgiioppmkpiaa.Rx.S
open Go Go.RowKit Go.Proofs
set_option maxRecDepth 100000
noncomputable def c70:Code:=(Try.f70.body.getD .skip)
def an70:An:=⟨fun _=>⟨[],[]⟩,fun _ _=>none⟩
abbrev ps70:List PK:=[.val .str false]
abbrev rs70:List RK:=[.val .bool false]
abbrev R70:=retsD rs70 × outsD ps70
noncomputable def G70:Gam:=fun f=>match f with | 61=>some Sm61 | 119=>some Sm119 | _=>none
theorem h0_70 (hg:GamOK Try.prog G70):Holds Try.prog 70 ⟨ps70,rs70,false,runF TT G70 an70 Try.f70 c70 ps70 rs70⟩:=holds_of tt_ok hg mixed Try.func70 (by kernel_rfl) (by rfl) (by decide +kernel)
noncomputable def st70_top (n:Nat) (a:ByteArray):Option R70 :=
 (q61 n ((↑a.size:Int),(1:Int),(3:Int),())).bind fun r0=>cond (r0.1.1) ((q119 n (a,(),())).bind fun r1=>some ((decide (r1.1.1 < (0:Int)),()),())) (some ((false,()),()))
theorem e70_top (n:Nat) (a:ByteArray):runF TT G70 an70 Try.f70 c70 ps70 rs70 n (a,())=st70_top n a:=by kernel_rfl
noncomputable def p70 (n:Nat) (a:ByteArray):Option R70:=st70_top n a
theorem F70_eq (n:Nat) (a:ByteArray):runF TT G70 an70 Try.f70 c70 ps70 rs70 n (a,())=p70 n a:=by
 rw [e70_top]
 skip
 try rfl
noncomputable def q70 (n:Nat) (x:argsD ps70):Option R70:=p70 n x.1
noncomputable def Sm70:Sm:=⟨ps70,rs70,false,q70⟩
theorem holds70 (hg:GamOK Try.prog G70):Holds Try.prog 70 Sm70:=by
 have:=h0_70 hg
 have e:(runF TT G70 an70 Try.f70 c70 ps70 rs70)=q70:=by
  funext n x
  exact F70_eq n x.1
 rw [e] at this
 exact this
theorem gam70:GamOK Try.prog G70:=by
 intro f s h
 unfold G70 at h
 split at h
 ·injection h with h; subst h; exact ⟨⟨Try.f61,c61,Try.func61,by kernel_rfl,by decide +kernel⟩,hh61⟩
 ·injection h with h; subst h; exact ⟨⟨Try.f119,c119,Try.func119,by kernel_rfl,by decide +kernel⟩,hh119⟩
 ·cases h
theorem hh70:Holds Try.prog 70 Sm70:=holds70 gam70
end Go.Proofs.Ytbjgiioppmkpiaa.Rx.S

namespace Go.Proofs.Ytbjgiioppmkpiaa.Rx.S
open Go Go.RowKit Go.Proofs
set_option maxRecDepth 100000
noncomputable def c69:Code:=(Try.f69.body.getD .skip)
def an69:An:=⟨fun _=>⟨[],[]⟩,fun _ _=>none⟩
abbrev ps69:List PK:=[.val (tIn 100) true]
abbrev rs69:List RK:=[.val .bool false]
abbrev R69:=retsD rs69 × outsD ps69
noncomputable def G69:Gam:=fun _=>none
theorem h0_69 (hg:GamOK Try.prog G69):Holds Try.prog 69 ⟨ps69,rs69,false,runF TT G69 an69 Try.f69 c69 ps69 rs69⟩:=holds_of tt_ok hg mixed Try.func69 (by kernel_rfl) (by rfl) (by decide +kernel)
noncomputable def st69_top (n:Nat) (a:NT):Option R69 :=
 cond (decide (a.1=(0:Int))) (cond (decide (a.2.1=(0:Int))) (cond (decide (a.2.2.1=(0:Int))) (cond (decide (a.2.2.2.1=(0:Int))) (cond (decide (a.2.2.2.2.1=(0:Int))) (cond (decide (a.2.2.2.2.2.1=(0:Int))) (cond (!a.2.2.2.2.2.2.1) (cond (ByteArray.toList a.2.2.2.2.2.2.2.1 == (ByteArray.mk #[]).toList) (some ((decide ((↑(List.length a.2.2.2.2.2.2.2.2):Int)=(0:Int)),()),())) (some ((false,()),()))) (some ((false,()),()))) (some ((false,()),()))) (some ((false,()),()))) (some ((false,()),()))) (some ((false,()),()))) (some ((false,()),()))) (some ((false,()),()))
theorem e69_top (n:Nat) (a:NT):runF TT G69 an69 Try.f69 c69 ps69 rs69 n (a,())=st69_top n a:=by kernel_rfl
noncomputable def p69 (n:Nat) (a:NT):Option R69:=st69_top n a
theorem F69_eq (n:Nat) (a:NT):runF TT G69 an69 Try.f69 c69 ps69 rs69 n (a,())=p69 n a:=by
 rw [e69_top]
 skip
 try rfl
noncomputable def q69 (n:Nat) (x:argsD ps69):Option R69:=p69 n x.1
noncomputable def Sm69:Sm:=⟨ps69,rs69,false,q69⟩
theorem holds69 (hg:GamOK Try.prog G69):Holds Try.prog 69 Sm69:=by
 have:=h0_69 hg
 have e:(runF TT G69 an69 Try.f69 c69 ps69 rs69)=q69:=by
  funext n x
  exact F69_eq n x.1
 rw [e] at this
 exact this
theorem gam69:GamOK Try.prog G69:=fun _ _ h=>by cases h
theorem hh69:Holds Try.prog 69 Sm69:=holds69 gam69
end Go.Proofs.Ytbjgiioppmkpiaa.Rx.S

namespace Go.Proofs.Ytbjgiioppmkpiaa.Rx.S
open Go Go.RowKit Go.Proofs
set_option maxRecDepth 100000
noncomputable def c19:Code:=(Try.f19.body.getD .skip)
def an19:An:=⟨fun r=>match r with | 6=>⟨[1,3,4,28,29,30],[]⟩ | 16=>⟨[1,3,4,5,6,28,29,30,105,106,107],[]⟩ | 25=>⟨[3,4,163,164,165],[]⟩ | 36=>⟨[3,4,11,12,163,164,165],[]⟩ | _=>⟨[],[]⟩,fun _ _=>none⟩
abbrev ps19:List PK:=[.val tFs true]
abbrev rs19:List RK:=[.val .bool false]
abbrev R19:=retsD rs19 × outsD ps19
noncomputable def G19:Gam:=fun f=>match f with | 70=>some Sm70 | 61=>some Sm61 | 69=>some Sm69 | _=>none
theorem h0_19 (hg:GamOK Try.prog G19):Holds Try.prog 19 ⟨ps19,rs19,false,runF TT G19 an19 Try.f19 c19 ps19 rs19⟩:=holds_of tt_ok hg mixed Try.func19 (by kernel_rfl) (by rfl) (by decide +kernel)
noncomputable def at19:Nat→Pt→List Nat→St→Option R19:=atF TT G19 an19 Try.f19 c19 _ _
def sh19_L16 (x0:Int) (x1:List NT) (x2:Int) (x3:Int) (x4:List (ByteArray × Int)) (x5:Int) (x6:Int) (x7:List NT) (x8:List Int) (x9:List Int) (x10:Int) (x11:Int) (x12:Int) (x13:Int) (x14:Int) (x15:Int) (x16:Bool) (x17:ByteArray) (x18:List (ByteArray × Int)):St:=(St.mk (AV.undef :: ((AV.one (SV.bptr 1000000 0)) :: (AV.undef :: ((AV.one (SV.ref 1000001 0 [] Option.none)) :: ((AV.one (SV.ref 1000002 0 [] Option.none)) :: ((AV.one (SV.int (Go.IntKind.i64) x0)) :: ((AV.one (SV.bptr 1000003 0)) :: (AV.undef :: (AV.undef :: (AV.undef :: (AV.undef :: (AV.undef :: (AV.undef :: (AV.undef :: (AV.undef :: (AV.undef :: (AV.undef :: (AV.undef :: (AV.undef :: (AV.undef :: (AV.undef :: (AV.undef :: (AV.undef :: (AV.undef :: (AV.undef :: (AV.undef :: (AV.undef :: (AV.undef :: ((AV.one (SV.con (⟨37,(Ty.int Go.IntKind.i64).pair ((Ty.int Go.IntKind.i64).pair ((Ty.int Go.IntKind.i64).pair ((Ty.int Go.IntKind.i64).pair ((Ty.int Go.IntKind.i64).pair ((Ty.int Go.IntKind.i64).pair (Ty.bool.pair (Ty.str.pair (Ty.row (nat_lit 100) (Ty.str.pair (Ty.int Go.IntKind.i64)))))))))),x1⟩:Rw))) :: ((AV.one (SV.int (Go.IntKind.i64) x2)) :: ((AV.one (SV.int (Go.IntKind.i64) x3)) :: (AV.undef :: (AV.undef :: (AV.undef :: (AV.undef :: (AV.undef :: (AV.undef :: (AV.undef :: (AV.undef :: (AV.undef :: (AV.undef :: (AV.undef :: (AV.undef :: (AV.undef :: (AV.undef :: (AV.undef :: (AV.undef :: (AV.undef :: (AV.undef :: (AV.undef :: (AV.undef :: (AV.undef :: (AV.undef :: (AV.undef :: (AV.undef :: (AV.undef :: (AV.undef :: (AV.undef :: (AV.undef :: (AV.undef :: (AV.undef :: (AV.undef :: (AV.undef :: (AV.undef :: (AV.undef :: (AV.undef :: (AV.undef :: (AV.undef :: (AV.undef :: (AV.undef :: (AV.undef :: (AV.undef :: (AV.undef :: (AV.undef :: (AV.undef :: (AV.undef :: (AV.undef :: (AV.undef :: (AV.undef :: (AV.undef :: (AV.undef :: (AV.undef :: (AV.undef :: (AV.undef :: (AV.undef :: (AV.undef :: (AV.undef :: (AV.undef :: (AV.undef :: (AV.undef :: (AV.undef :: (AV.undef :: (AV.undef :: (AV.undef :: (AV.undef :: (AV.undef :: (AV.undef :: (AV.undef :: (AV.undef :: (AV.undef :: (AV.undef :: (AV.undef :: (AV.undef :: (AV.undef :: (AV.undef :: ((AV.one (SV.con (⟨100,Ty.str.pair (Ty.int Go.IntKind.i64),x4⟩:Rw))) :: ((AV.one (SV.int (Go.IntKind.i64) x5)) :: ((AV.one (SV.int (Go.IntKind.i64) x6)) :: (AV.undef :: (AV.undef :: (AV.undef :: (AV.undef :: (AV.undef :: (AV.undef :: (AV.undef :: (AV.undef :: (AV.undef :: (AV.undef :: (AV.undef :: (AV.undef :: (AV.undef :: (AV.undef :: (AV.undef :: (AV.undef :: (AV.undef :: (AV.undef :: (AV.undef :: (AV.undef :: (AV.undef :: (AV.undef :: (AV.undef :: (AV.undef :: (AV.undef :: (AV.undef :: (AV.undef :: (AV.undef :: (AV.undef :: (AV.undef :: (AV.undef :: (AV.undef :: (AV.undef :: (AV.undef :: (AV.undef :: (AV.undef :: (AV.undef :: (AV.undef :: (AV.undef :: (AV.undef :: (AV.undef :: (AV.undef :: (AV.undef :: (AV.undef :: (AV.undef :: (AV.undef :: (AV.undef :: (AV.undef :: (AV.undef :: (AV.undef :: (AV.undef :: (AV.undef :: (AV.undef :: (AV.undef :: (AV.undef :: (AV.undef :: (AV.undef :: (AV.undef :: (AV.undef :: (AV.undef :: (AV.undef :: (AV.undef :: (AV.undef :: (AV.undef :: (AV.undef :: (AV.undef :: (AV.undef :: (AV.undef :: (AV.undef :: (AV.undef :: (AV.undef :: (AV.undef :: (AV.undef :: (AV.undef :: (AV.undef :: (AV.undef :: (AV.undef :: (AV.undef :: (AV.undef :: (AV.undef :: (AV.undef :: (AV.undef :: (AV.undef :: (AV.undef :: (AV.undef :: (AV.undef :: (AV.undef :: (AV.undef :: (AV.undef :: (AV.undef :: (AV.undef :: (AV.undef :: (AV.undef :: (AV.undef :: (AV.undef :: (AV.undef :: (AV.undef :: (AV.undef :: (AV.undef :: (AV.undef :: (AV.undef :: (AV.undef :: (AV.undef :: (AV.undef :: (AV.undef :: (AV.undef :: (AV.undef :: (AV.undef :: (AV.undef :: (AV.undef :: (AV.undef :: (AV.undef :: (AV.undef :: (AV.undef :: (AV.undef :: (AV.undef :: (AV.undef :: (AV.undef :: (AV.undef :: (AV.undef :: (AV.undef :: (AV.undef :: [])))))))))))))))))))))))))))))))))))))))))))))))))))))))))))))))))))))))))))))))))))))))))))))))))))))))))))))))))))))))))))))))))))))))))))))))))))))))))))))))))))))))))))))))))))))))))))))))))))))))))))))))))))))))))))))))))))))) ((1000000,(Ent.box ((SV.con (⟨37,(Ty.int Go.IntKind.i64).pair ((Ty.int Go.IntKind.i64).pair ((Ty.int Go.IntKind.i64).pair ((Ty.int Go.IntKind.i64).pair ((Ty.int Go.IntKind.i64).pair ((Ty.int Go.IntKind.i64).pair (Ty.bool.pair (Ty.str.pair (Ty.row (nat_lit 100) (Ty.str.pair (Ty.int Go.IntKind.i64)))))))))),x7⟩:Rw)) :: []))) :: ((1000001,(Ent.row (⟨3,Ty.int Go.IntKind.i64,x8⟩:Rw) 0 Option.none)) :: ((1000002,(Ent.row (⟨3,Ty.int Go.IntKind.i64,x9⟩:Rw) 0 Option.none)) :: ((1000003,(Ent.box ((SV.int (Go.IntKind.i64) x10) :: ((SV.int (Go.IntKind.i64) x11) :: ((SV.int (Go.IntKind.i64) x12) :: ((SV.int (Go.IntKind.i64) x13) :: ((SV.int (Go.IntKind.i64) x14) :: ((SV.int (Go.IntKind.i64) x15) :: ((SV.bool x16) :: ((SV.str x17) :: ((SV.con (⟨100,Ty.str.pair (Ty.int Go.IntKind.i64),x18⟩:Rw)) :: []))))))))))) :: [])))))
def sh19_L36 (x0:Int) (x1:Int) (x2:List NT) (x3:Int) (x4:Int) (x5:List Int) (x6:List Int):St:=(St.mk (AV.undef :: (AV.undef :: (AV.undef :: ((AV.one (SV.ref 1000000 0 [] Option.none)) :: ((AV.one (SV.ref 1000001 0 [] Option.none)) :: (AV.undef :: (AV.undef :: (AV.undef :: (AV.undef :: (AV.undef :: (AV.undef :: ((AV.one (SV.int (Go.IntKind.i64) x0)) :: ((AV.one (SV.int (Go.IntKind.i64) x1)) :: (AV.undef :: (AV.undef :: (AV.undef :: (AV.undef :: (AV.undef :: (AV.undef :: (AV.undef :: (AV.undef :: (AV.undef :: (AV.undef :: (AV.undef :: (AV.undef :: (AV.undef :: (AV.undef :: (AV.undef :: (AV.undef :: (AV.undef :: (AV.undef :: (AV.undef :: (AV.undef :: (AV.undef :: (AV.undef :: (AV.undef :: (AV.undef :: (AV.undef :: (AV.undef :: (AV.undef :: (AV.undef :: (AV.undef :: (AV.undef :: (AV.undef :: (AV.undef :: (AV.undef :: (AV.undef :: (AV.undef :: (AV.undef :: (AV.undef :: (AV.undef :: (AV.undef :: (AV.undef :: (AV.undef :: (AV.undef :: (AV.undef :: (AV.undef :: (AV.undef :: (AV.undef :: (AV.undef :: (AV.undef :: (AV.undef :: (AV.undef :: (AV.undef :: (AV.undef :: (AV.undef :: (AV.undef :: (AV.undef :: (AV.undef :: (AV.undef :: (AV.undef :: (AV.undef :: (AV.undef :: (AV.undef :: (AV.undef :: (AV.undef :: (AV.undef :: (AV.undef :: (AV.undef :: (AV.undef :: (AV.undef :: (AV.undef :: (AV.undef :: (AV.undef :: (AV.undef :: (AV.undef :: (AV.undef :: (AV.undef :: (AV.undef :: (AV.undef :: (AV.undef :: (AV.undef :: (AV.undef :: (AV.undef :: (AV.undef :: (AV.undef :: (AV.undef :: (AV.undef :: (AV.undef :: (AV.undef :: (AV.undef :: (AV.undef :: (AV.undef :: (AV.undef :: (AV.undef :: (AV.undef :: (AV.undef :: (AV.undef :: (AV.undef :: (AV.undef :: (AV.undef :: (AV.undef :: (AV.undef :: (AV.undef :: (AV.undef :: (AV.undef :: (AV.undef :: (AV.undef :: (AV.undef :: (AV.undef :: (AV.undef :: (AV.undef :: (AV.undef :: (AV.undef :: (AV.undef :: (AV.undef :: (AV.undef :: (AV.undef :: (AV.undef :: (AV.undef :: (AV.undef :: (AV.undef :: (AV.undef :: (AV.undef :: (AV.undef :: (AV.undef :: (AV.undef :: (AV.undef :: (AV.undef :: (AV.undef :: (AV.undef :: (AV.undef :: (AV.undef :: (AV.undef :: (AV.undef :: (AV.undef :: (AV.undef :: (AV.undef :: (AV.undef :: (AV.undef :: (AV.undef :: (AV.undef :: (AV.undef :: (AV.undef :: (AV.undef :: (AV.undef :: (AV.undef :: (AV.undef :: (AV.undef :: (AV.undef :: (AV.undef :: (AV.undef :: (AV.undef :: ((AV.one (SV.con (⟨37,(Ty.int Go.IntKind.i64).pair ((Ty.int Go.IntKind.i64).pair ((Ty.int Go.IntKind.i64).pair ((Ty.int Go.IntKind.i64).pair ((Ty.int Go.IntKind.i64).pair ((Ty.int Go.IntKind.i64).pair (Ty.bool.pair (Ty.str.pair (Ty.row (nat_lit 100) (Ty.str.pair (Ty.int Go.IntKind.i64)))))))))),x2⟩:Rw))) :: ((AV.one (SV.int (Go.IntKind.i64) x3)) :: ((AV.one (SV.int (Go.IntKind.i64) x4)) :: (AV.undef :: (AV.undef :: (AV.undef :: (AV.undef :: (AV.undef :: (AV.undef :: (AV.undef :: (AV.undef :: (AV.undef :: (AV.undef :: (AV.undef :: (AV.undef :: (AV.undef :: (AV.undef :: (AV.undef :: (AV.undef :: (AV.undef :: (AV.undef :: (AV.undef :: (AV.undef :: (AV.undef :: (AV.undef :: (AV.undef :: (AV.undef :: (AV.undef :: (AV.undef :: (AV.undef :: (AV.undef :: (AV.undef :: (AV.undef :: (AV.undef :: (AV.undef :: (AV.undef :: (AV.undef :: (AV.undef :: (AV.undef :: (AV.undef :: (AV.undef :: (AV.undef :: (AV.undef :: (AV.undef :: (AV.undef :: (AV.undef :: (AV.undef :: (AV.undef :: (AV.undef :: (AV.undef :: (AV.undef :: (AV.undef :: (AV.undef :: (AV.undef :: (AV.undef :: (AV.undef :: (AV.undef :: (AV.undef :: (AV.undef :: (AV.undef :: (AV.undef :: (AV.undef :: (AV.undef :: (AV.undef :: (AV.undef :: (AV.undef :: (AV.undef :: [])))))))))))))))))))))))))))))))))))))))))))))))))))))))))))))))))))))))))))))))))))))))))))))))))))))))))))))))))))))))))))))))))))))))))))))))))))))))))))))))))))))))))))))))))))))))))))))))))))))))))))))))))))))))))))))))))))))) ((1000000,(Ent.row (⟨3,Ty.int Go.IntKind.i64,x5⟩:Rw) 0 Option.none)) :: ((1000001,(Ent.row (⟨3,Ty.int Go.IntKind.i64,x6⟩:Rw) 0 Option.none)) :: [])))
def sh19_L25 (x0:List NT) (x1:Int) (x2:Int) (x3:List Int) (x4:List Int):St:=(St.mk (AV.undef :: (AV.undef :: (AV.undef :: ((AV.one (SV.ref 1000000 0 [] Option.none)) :: ((AV.one (SV.ref 1000001 0 [] Option.none)) :: (AV.undef :: (AV.undef :: (AV.undef :: (AV.undef :: (AV.undef :: (AV.undef :: (AV.undef :: (AV.undef :: (AV.undef :: (AV.undef :: (AV.undef :: (AV.undef :: (AV.undef :: (AV.undef :: (AV.undef :: (AV.undef :: (AV.undef :: (AV.undef :: (AV.undef :: (AV.undef :: (AV.undef :: (AV.undef :: (AV.undef :: (AV.undef :: (AV.undef :: (AV.undef :: (AV.undef :: (AV.undef :: (AV.undef :: (AV.undef :: (AV.undef :: (AV.undef :: (AV.undef :: (AV.undef :: (AV.undef :: (AV.undef :: (AV.undef :: (AV.undef :: (AV.undef :: (AV.undef :: (AV.undef :: (AV.undef :: (AV.undef :: (AV.undef :: (AV.undef :: (AV.undef :: (AV.undef :: (AV.undef :: (AV.undef :: (AV.undef :: (AV.undef :: (AV.undef :: (AV.undef :: (AV.undef :: (AV.undef :: (AV.undef :: (AV.undef :: (AV.undef :: (AV.undef :: (AV.undef :: (AV.undef :: (AV.undef :: (AV.undef :: (AV.undef :: (AV.undef :: (AV.undef :: (AV.undef :: (AV.undef :: (AV.undef :: (AV.undef :: (AV.undef :: (AV.undef :: (AV.undef :: (AV.undef :: (AV.undef :: (AV.undef :: (AV.undef :: (AV.undef :: (AV.undef :: (AV.undef :: (AV.undef :: (AV.undef :: (AV.undef :: (AV.undef :: (AV.undef :: (AV.undef :: (AV.undef :: (AV.undef :: (AV.undef :: (AV.undef :: (AV.undef :: (AV.undef :: (AV.undef :: (AV.undef :: (AV.undef :: (AV.undef :: (AV.undef :: (AV.undef :: (AV.undef :: (AV.undef :: (AV.undef :: (AV.undef :: (AV.undef :: (AV.undef :: (AV.undef :: (AV.undef :: (AV.undef :: (AV.undef :: (AV.undef :: (AV.undef :: (AV.undef :: (AV.undef :: (AV.undef :: (AV.undef :: (AV.undef :: (AV.undef :: (AV.undef :: (AV.undef :: (AV.undef :: (AV.undef :: (AV.undef :: (AV.undef :: (AV.undef :: (AV.undef :: (AV.undef :: (AV.undef :: (AV.undef :: (AV.undef :: (AV.undef :: (AV.undef :: (AV.undef :: (AV.undef :: (AV.undef :: (AV.undef :: (AV.undef :: (AV.undef :: (AV.undef :: (AV.undef :: (AV.undef :: (AV.undef :: (AV.undef :: (AV.undef :: (AV.undef :: (AV.undef :: (AV.undef :: (AV.undef :: (AV.undef :: (AV.undef :: (AV.undef :: (AV.undef :: (AV.undef :: (AV.undef :: (AV.undef :: (AV.undef :: (AV.undef :: (AV.undef :: (AV.undef :: (AV.undef :: ((AV.one (SV.con (⟨37,(Ty.int Go.IntKind.i64).pair ((Ty.int Go.IntKind.i64).pair ((Ty.int Go.IntKind.i64).pair ((Ty.int Go.IntKind.i64).pair ((Ty.int Go.IntKind.i64).pair ((Ty.int Go.IntKind.i64).pair (Ty.bool.pair (Ty.str.pair (Ty.row (nat_lit 100) (Ty.str.pair (Ty.int Go.IntKind.i64)))))))))),x0⟩:Rw))) :: ((AV.one (SV.int (Go.IntKind.i64) x1)) :: ((AV.one (SV.int (Go.IntKind.i64) x2)) :: (AV.undef :: (AV.undef :: (AV.undef :: (AV.undef :: (AV.undef :: (AV.undef :: (AV.undef :: (AV.undef :: (AV.undef :: (AV.undef :: (AV.undef :: (AV.undef :: (AV.undef :: (AV.undef :: (AV.undef :: (AV.undef :: (AV.undef :: (AV.undef :: (AV.undef :: (AV.undef :: (AV.undef :: (AV.undef :: (AV.undef :: (AV.undef :: (AV.undef :: (AV.undef :: (AV.undef :: (AV.undef :: (AV.undef :: (AV.undef :: (AV.undef :: (AV.undef :: (AV.undef :: (AV.undef :: (AV.undef :: (AV.undef :: (AV.undef :: (AV.undef :: (AV.undef :: (AV.undef :: (AV.undef :: (AV.undef :: (AV.undef :: (AV.undef :: (AV.undef :: (AV.undef :: (AV.undef :: (AV.undef :: (AV.undef :: (AV.undef :: (AV.undef :: (AV.undef :: (AV.undef :: (AV.undef :: (AV.undef :: (AV.undef :: (AV.undef :: (AV.undef :: (AV.undef :: (AV.undef :: (AV.undef :: (AV.undef :: (AV.undef :: (AV.undef :: [])))))))))))))))))))))))))))))))))))))))))))))))))))))))))))))))))))))))))))))))))))))))))))))))))))))))))))))))))))))))))))))))))))))))))))))))))))))))))))))))))))))))))))))))))))))))))))))))))))))))))))))))))))))))))))))))))))))) ((1000000,(Ent.row (⟨3,Ty.int Go.IntKind.i64,x3⟩:Rw) 0 Option.none)) :: ((1000001,(Ent.row (⟨3,Ty.int Go.IntKind.i64,x4⟩:Rw) 0 Option.none)) :: [])))
def sh19_L6 (x0:List NT) (x1:Int) (x2:Int) (x3:List NT) (x4:List Int) (x5:List Int):St:=(St.mk (AV.undef :: ((AV.one (SV.bptr 1000000 0)) :: (AV.undef :: ((AV.one (SV.ref 1000001 0 [] Option.none)) :: ((AV.one (SV.ref 1000002 0 [] Option.none)) :: (AV.undef :: (AV.undef :: (AV.undef :: (AV.undef :: (AV.undef :: (AV.undef :: (AV.undef :: (AV.undef :: (AV.undef :: (AV.undef :: (AV.undef :: (AV.undef :: (AV.undef :: (AV.undef :: (AV.undef :: (AV.undef :: (AV.undef :: (AV.undef :: (AV.undef :: (AV.undef :: (AV.undef :: (AV.undef :: (AV.undef :: ((AV.one (SV.con (⟨37,(Ty.int Go.IntKind.i64).pair ((Ty.int Go.IntKind.i64).pair ((Ty.int Go.IntKind.i64).pair ((Ty.int Go.IntKind.i64).pair ((Ty.int Go.IntKind.i64).pair ((Ty.int Go.IntKind.i64).pair (Ty.bool.pair (Ty.str.pair (Ty.row (nat_lit 100) (Ty.str.pair (Ty.int Go.IntKind.i64)))))))))),x0⟩:Rw))) :: ((AV.one (SV.int (Go.IntKind.i64) x1)) :: ((AV.one (SV.int (Go.IntKind.i64) x2)) :: (AV.undef :: (AV.undef :: (AV.undef :: (AV.undef :: (AV.undef :: (AV.undef :: (AV.undef :: (AV.undef :: (AV.undef :: (AV.undef :: (AV.undef :: (AV.undef :: (AV.undef :: (AV.undef :: (AV.undef :: (AV.undef :: (AV.undef :: (AV.undef :: (AV.undef :: (AV.undef :: (AV.undef :: (AV.undef :: (AV.undef :: (AV.undef :: (AV.undef :: (AV.undef :: (AV.undef :: (AV.undef :: (AV.undef :: (AV.undef :: (AV.undef :: (AV.undef :: (AV.undef :: (AV.undef :: (AV.undef :: (AV.undef :: (AV.undef :: (AV.undef :: (AV.undef :: (AV.undef :: (AV.undef :: (AV.undef :: (AV.undef :: (AV.undef :: (AV.undef :: (AV.undef :: (AV.undef :: (AV.undef :: (AV.undef :: (AV.undef :: (AV.undef :: (AV.undef :: (AV.undef :: (AV.undef :: (AV.undef :: (AV.undef :: (AV.undef :: (AV.undef :: (AV.undef :: (AV.undef :: (AV.undef :: (AV.undef :: (AV.undef :: (AV.undef :: (AV.undef :: (AV.undef :: (AV.undef :: (AV.undef :: (AV.undef :: (AV.undef :: (AV.undef :: (AV.undef :: (AV.undef :: (AV.undef :: (AV.undef :: (AV.undef :: (AV.undef :: (AV.undef :: (AV.undef :: (AV.undef :: (AV.undef :: (AV.undef :: (AV.undef :: (AV.undef :: (AV.undef :: (AV.undef :: (AV.undef :: (AV.undef :: (AV.undef :: (AV.undef :: (AV.undef :: (AV.undef :: (AV.undef :: (AV.undef :: (AV.undef :: (AV.undef :: (AV.undef :: (AV.undef :: (AV.undef :: (AV.undef :: (AV.undef :: (AV.undef :: (AV.undef :: (AV.undef :: (AV.undef :: (AV.undef :: (AV.undef :: (AV.undef :: (AV.undef :: (AV.undef :: (AV.undef :: (AV.undef :: (AV.undef :: (AV.undef :: (AV.undef :: (AV.undef :: (AV.undef :: (AV.undef :: (AV.undef :: (AV.undef :: (AV.undef :: (AV.undef :: (AV.undef :: (AV.undef :: (AV.undef :: (AV.undef :: (AV.undef :: (AV.undef :: (AV.undef :: (AV.undef :: (AV.undef :: (AV.undef :: (AV.undef :: (AV.undef :: (AV.undef :: (AV.undef :: (AV.undef :: (AV.undef :: (AV.undef :: (AV.undef :: (AV.undef :: (AV.undef :: (AV.undef :: (AV.undef :: (AV.undef :: (AV.undef :: (AV.undef :: (AV.undef :: (AV.undef :: (AV.undef :: (AV.undef :: (AV.undef :: (AV.undef :: (AV.undef :: (AV.undef :: (AV.undef :: (AV.undef :: (AV.undef :: (AV.undef :: (AV.undef :: (AV.undef :: (AV.undef :: (AV.undef :: (AV.undef :: (AV.undef :: (AV.undef :: (AV.undef :: (AV.undef :: (AV.undef :: (AV.undef :: (AV.undef :: (AV.undef :: (AV.undef :: (AV.undef :: (AV.undef :: (AV.undef :: (AV.undef :: (AV.undef :: (AV.undef :: (AV.undef :: (AV.undef :: (AV.undef :: (AV.undef :: (AV.undef :: (AV.undef :: (AV.undef :: (AV.undef :: (AV.undef :: (AV.undef :: (AV.undef :: (AV.undef :: (AV.undef :: (AV.undef :: (AV.undef :: (AV.undef :: (AV.undef :: (AV.undef :: (AV.undef :: (AV.undef :: [])))))))))))))))))))))))))))))))))))))))))))))))))))))))))))))))))))))))))))))))))))))))))))))))))))))))))))))))))))))))))))))))))))))))))))))))))))))))))))))))))))))))))))))))))))))))))))))))))))))))))))))))))))))))))))))))))))))) ((1000000,(Ent.box ((SV.con (⟨37,(Ty.int Go.IntKind.i64).pair ((Ty.int Go.IntKind.i64).pair ((Ty.int Go.IntKind.i64).pair ((Ty.int Go.IntKind.i64).pair ((Ty.int Go.IntKind.i64).pair ((Ty.int Go.IntKind.i64).pair (Ty.bool.pair (Ty.str.pair (Ty.row (nat_lit 100) (Ty.str.pair (Ty.int Go.IntKind.i64)))))))))),x3⟩:Rw)) :: []))) :: ((1000001,(Ent.row (⟨3,Ty.int Go.IntKind.i64,x4⟩:Rw) 0 Option.none)) :: ((1000002,(Ent.row (⟨3,Ty.int Go.IntKind.i64,x5⟩:Rw) 0 Option.none)) :: []))))
noncomputable def st19_top (n:Nat) (lL6:(List NT)→Int→Int→(List NT)→(List Int)→(List Int)→Option R19) (a:List NT):Option R19 :=
 cond (!decide ((↑a.length:Int)=(10:Int))) (some ((false,()),())) (cond (decide ((0:Int) < (↑a.length:Int))) (cond (!decide ((a.getD (Int.toNat (0:Int)) ZN).1=(2:Int))) (some ((false,()),())) (lL6 (a) ((↑a.length:Int)) ((0:Int)) (a) (List.replicate (Int.toNat (10:Int)) (0:Int)) (List.replicate (Int.toNat (10:Int)) (0:Int)))) (none))
noncomputable def st19_L16 (n:Nat) (lL16:Int→(List NT)→Int→Int→(List (ByteArray × Int))→Int→Int→(List NT)→(List Int)→(List Int)→Int→Int→Int→Int→Int→Int→Bool→ByteArray→(List (ByteArray × Int))→Option R19) (lL6:(List NT)→Int→Int→(List NT)→(List Int)→(List Int)→Option R19) (x0:Int) (x1:List NT) (x2:Int) (x3:Int) (x4:List (ByteArray × Int)) (x5:Int) (x6:Int) (x7:List NT) (x8:List Int) (x9:List Int) (x10:Int) (x11:Int) (x12:Int) (x13:Int) (x14:Int) (x15:Int) (x16:Bool) (x17:ByteArray) (x18:List (ByteArray × Int)):Option R19 :=
 cond (decide (x6 < x5)) (cond (decide ((0:Int)≤x6)) (cond (decide (x6 < (↑x4.length:Int))) ((q70 n ((x4.getD x6.toNat (ByteArray.empty,(0:Int))).1,())).bind fun r8=>cond (!r8.1.1) (some ((false,()),())) ((q61 n ((x4.getD x6.toNat (ByteArray.empty,(0:Int))).2,(0:Int),(9:Int),())).bind fun r9=>cond (!r9.1.1) (some ((false,()),())) (cond (decide ((0:Int)≤(x4.getD x6.toNat (ByteArray.empty,(0:Int))).2)) (cond (decide ((x4.getD x6.toNat (ByteArray.empty,(0:Int))).2 < (↑x7.length:Int))) (cond (decide ((x7.getD (Int.toNat (x4.getD x6.toNat (ByteArray.empty,(0:Int))).2) ZN).1=(0:Int))) (some ((false,()),())) (cond (decide ((0:Int) < x6)) (cond (decide ((0:Int)≤Go.IntKind.i64.wrap (x6 - (1:Int)))) (cond (decide (Go.IntKind.i64.wrap (x6 - (1:Int)) < (↑x18.length:Int))) (cond (!Go.Op.bytesLess (ByteArray.toList (x18.getD (Go.IntKind.i64.wrap (x6 - (1:Int))).toNat (ByteArray.empty,(0:Int))).1) (ByteArray.toList (x4.getD x6.toNat (ByteArray.empty,(0:Int))).1)) (some ((false,()),())) (cond (decide ((0:Int)≤(x4.getD x6.toNat (ByteArray.empty,(0:Int))).2)) (cond (decide ((x4.getD x6.toNat (ByteArray.empty,(0:Int))).2 < (↑x8.length:Int))) (cond (decide ((0:Int)≤(x4.getD x6.toNat (ByteArray.empty,(0:Int))).2)) (cond (decide ((x4.getD x6.toNat (ByteArray.empty,(0:Int))).2 < (↑x8.length:Int))) (cond (decide ((0:Int)≤(x4.getD x6.toNat (ByteArray.empty,(0:Int))).2)) (cond (decide ((x4.getD x6.toNat (ByteArray.empty,(0:Int))).2 < (↑x9.length:Int))) (lL16 (x0) (x1) (x2) (x3) (x4) (x5) (Go.IntKind.i64.wrap (x6 + (1:Int))) (x7) (x8.set (Int.toNat (x4.getD x6.toNat (ByteArray.empty,(0:Int))).2) (Go.IntKind.i64.wrap (x8.getD (Int.toNat (x4.getD x6.toNat (ByteArray.empty,(0:Int))).2) (0:Int) + (1:Int)))) (x9.set (Int.toNat (x4.getD x6.toNat (ByteArray.empty,(0:Int))).2) x0) (x10) (x11) (x12) (x13) (x14) (x15) (x16) (x17) (x18)) (none)) (none)) (none)) (none)) (none)) (none))) (none)) (none)) (cond (decide ((0:Int)≤(x4.getD x6.toNat (ByteArray.empty,(0:Int))).2)) (cond (decide ((x4.getD x6.toNat (ByteArray.empty,(0:Int))).2 < (↑x8.length:Int))) (cond (decide ((0:Int)≤(x4.getD x6.toNat (ByteArray.empty,(0:Int))).2)) (cond (decide ((x4.getD x6.toNat (ByteArray.empty,(0:Int))).2 < (↑x8.length:Int))) (cond (decide ((0:Int)≤(x4.getD x6.toNat (ByteArray.empty,(0:Int))).2)) (cond (decide ((x4.getD x6.toNat (ByteArray.empty,(0:Int))).2 < (↑x9.length:Int))) (lL16 (x0) (x1) (x2) (x3) (x4) (x5) (Go.IntKind.i64.wrap (x6 + (1:Int))) (x7) (x8.set (Int.toNat (x4.getD x6.toNat (ByteArray.empty,(0:Int))).2) (Go.IntKind.i64.wrap (x8.getD (Int.toNat (x4.getD x6.toNat (ByteArray.empty,(0:Int))).2) (0:Int) + (1:Int)))) (x9.set (Int.toNat (x4.getD x6.toNat (ByteArray.empty,(0:Int))).2) x0) (x10) (x11) (x12) (x13) (x14) (x15) (x16) (x17) (x18)) (none)) (none)) (none)) (none)) (none)) (none)))) (none)) (none)))) (none)) (none)) (lL6 (x1) (x2) (Go.IntKind.i64.wrap (x3 + (1:Int))) (x7) (x8) (x9))
noncomputable def st19_L36 (n:Nat) (lL36:Int→Int→(List NT)→Int→Int→(List Int)→(List Int)→Option R19) (lL25:(List NT)→Int→Int→(List Int)→(List Int)→Option R19) (x0:Int) (x1:Int) (x2:List NT) (x3:Int) (x4:Int) (x5:List Int) (x6:List Int):Option R19 :=
 cond (!decide (x0=(0:Int))) (cond (decide ((10:Int) < x1)) (some ((false,()),())) (cond (decide ((0:Int)≤x0)) (cond (decide (x0 < (↑x6.length:Int))) (lL36 (x6.getD x0.toNat (0:Int)) (Go.IntKind.i64.wrap (x1 + (1:Int))) (x2) (x3) (x4) (x5) (x6)) (none)) (none))) (lL25 (x2) (x3) (Go.IntKind.i64.wrap (x4 + (1:Int))) (x5) (x6))
noncomputable def st19_L25 (n:Nat) (lL25:(List NT)→Int→Int→(List Int)→(List Int)→Option R19) (lL36:Int→Int→(List NT)→Int→Int→(List Int)→(List Int)→Option R19) (x0:List NT) (x1:Int) (x2:Int) (x3:List Int) (x4:List Int):Option R19 :=
 cond (decide (x2 < x1)) (cond (decide ((0:Int)≤x2)) (cond (decide (x2 < (↑x0.length:Int))) (cond (decide ((x0.getD x2.toNat ZN).1=(0:Int))) (lL25 (x0) (x1) (Go.IntKind.i64.wrap (x2 + (1:Int))) (x3) (x4)) (cond (decide ((0:Int)≤x2)) (cond (decide (x2 < (↑x3.length:Int))) (cond (!decide ((x0.getD x2.toNat ZN).2.2.2.2.1=x3.getD x2.toNat (0:Int))) (some ((false,()),())) (cond (decide ((x0.getD x2.toNat ZN).1=(1:Int))) (cond (decide ((x0.getD x2.toNat ZN).2.2.2.2.1=(0:Int))) (cond (decide ((x0.getD x2.toNat ZN).2.2.2.2.2.1=(0:Int))) (some ((false,()),())) (cond (decide ((x0.getD x2.toNat ZN).1=(2:Int))) (cond (decide ((0:Int) < x2)) (cond (!decide ((x0.getD x2.toNat ZN).2.2.2.2.1=(1:Int))) (some ((false,()),())) (cond (decide (x2=(0:Int))) (cond (!decide ((x0.getD x2.toNat ZN).2.2.2.2.1=(0:Int))) (some ((false,()),())) (cond (decide ((x0.getD x2.toNat ZN).1=(2:Int))) (lL36 (x2) ((0:Int)) (x0) (x1) (x2) (x3) (x4)) (lL25 (x0) (x1) (Go.IntKind.i64.wrap (x2 + (1:Int))) (x3) (x4)))) (cond (decide ((x0.getD x2.toNat ZN).1=(2:Int))) (lL36 (x2) ((0:Int)) (x0) (x1) (x2) (x3) (x4)) (lL25 (x0) (x1) (Go.IntKind.i64.wrap (x2 + (1:Int))) (x3) (x4))))) (cond (decide (x2=(0:Int))) (cond (!decide ((x0.getD x2.toNat ZN).2.2.2.2.1=(0:Int))) (some ((false,()),())) (cond (decide ((x0.getD x2.toNat ZN).1=(2:Int))) (lL36 (x2) ((0:Int)) (x0) (x1) (x2) (x3) (x4)) (lL25 (x0) (x1) (Go.IntKind.i64.wrap (x2 + (1:Int))) (x3) (x4)))) (cond (decide ((x0.getD x2.toNat ZN).1=(2:Int))) (lL36 (x2) ((0:Int)) (x0) (x1) (x2) (x3) (x4)) (lL25 (x0) (x1) (Go.IntKind.i64.wrap (x2 + (1:Int))) (x3) (x4))))) (cond (decide (x2=(0:Int))) (cond (!decide ((x0.getD x2.toNat ZN).2.2.2.2.1=(0:Int))) (some ((false,()),())) (cond (decide ((x0.getD x2.toNat ZN).1=(2:Int))) (lL36 (x2) ((0:Int)) (x0) (x1) (x2) (x3) (x4)) (lL25 (x0) (x1) (Go.IntKind.i64.wrap (x2 + (1:Int))) (x3) (x4)))) (cond (decide ((x0.getD x2.toNat ZN).1=(2:Int))) (lL36 (x2) ((0:Int)) (x0) (x1) (x2) (x3) (x4)) (lL25 (x0) (x1) (Go.IntKind.i64.wrap (x2 + (1:Int))) (x3) (x4)))))) (cond (decide ((x0.getD x2.toNat ZN).1=(2:Int))) (cond (decide ((0:Int) < x2)) (cond (!decide ((x0.getD x2.toNat ZN).2.2.2.2.1=(1:Int))) (some ((false,()),())) (cond (decide (x2=(0:Int))) (cond (!decide ((x0.getD x2.toNat ZN).2.2.2.2.1=(0:Int))) (some ((false,()),())) (cond (decide ((x0.getD x2.toNat ZN).1=(2:Int))) (lL36 (x2) ((0:Int)) (x0) (x1) (x2) (x3) (x4)) (lL25 (x0) (x1) (Go.IntKind.i64.wrap (x2 + (1:Int))) (x3) (x4)))) (cond (decide ((x0.getD x2.toNat ZN).1=(2:Int))) (lL36 (x2) ((0:Int)) (x0) (x1) (x2) (x3) (x4)) (lL25 (x0) (x1) (Go.IntKind.i64.wrap (x2 + (1:Int))) (x3) (x4))))) (cond (decide (x2=(0:Int))) (cond (!decide ((x0.getD x2.toNat ZN).2.2.2.2.1=(0:Int))) (some ((false,()),())) (cond (decide ((x0.getD x2.toNat ZN).1=(2:Int))) (lL36 (x2) ((0:Int)) (x0) (x1) (x2) (x3) (x4)) (lL25 (x0) (x1) (Go.IntKind.i64.wrap (x2 + (1:Int))) (x3) (x4)))) (cond (decide ((x0.getD x2.toNat ZN).1=(2:Int))) (lL36 (x2) ((0:Int)) (x0) (x1) (x2) (x3) (x4)) (lL25 (x0) (x1) (Go.IntKind.i64.wrap (x2 + (1:Int))) (x3) (x4))))) (cond (decide (x2=(0:Int))) (cond (!decide ((x0.getD x2.toNat ZN).2.2.2.2.1=(0:Int))) (some ((false,()),())) (cond (decide ((x0.getD x2.toNat ZN).1=(2:Int))) (lL36 (x2) ((0:Int)) (x0) (x1) (x2) (x3) (x4)) (lL25 (x0) (x1) (Go.IntKind.i64.wrap (x2 + (1:Int))) (x3) (x4)))) (cond (decide ((x0.getD x2.toNat ZN).1=(2:Int))) (lL36 (x2) ((0:Int)) (x0) (x1) (x2) (x3) (x4)) (lL25 (x0) (x1) (Go.IntKind.i64.wrap (x2 + (1:Int))) (x3) (x4)))))) (cond (decide ((x0.getD x2.toNat ZN).1=(2:Int))) (cond (decide ((0:Int) < x2)) (cond (!decide ((x0.getD x2.toNat ZN).2.2.2.2.1=(1:Int))) (some ((false,()),())) (cond (decide (x2=(0:Int))) (cond (!decide ((x0.getD x2.toNat ZN).2.2.2.2.1=(0:Int))) (some ((false,()),())) (cond (decide ((x0.getD x2.toNat ZN).1=(2:Int))) (lL36 (x2) ((0:Int)) (x0) (x1) (x2) (x3) (x4)) (lL25 (x0) (x1) (Go.IntKind.i64.wrap (x2 + (1:Int))) (x3) (x4)))) (cond (decide ((x0.getD x2.toNat ZN).1=(2:Int))) (lL36 (x2) ((0:Int)) (x0) (x1) (x2) (x3) (x4)) (lL25 (x0) (x1) (Go.IntKind.i64.wrap (x2 + (1:Int))) (x3) (x4))))) (cond (decide (x2=(0:Int))) (cond (!decide ((x0.getD x2.toNat ZN).2.2.2.2.1=(0:Int))) (some ((false,()),())) (cond (decide ((x0.getD x2.toNat ZN).1=(2:Int))) (lL36 (x2) ((0:Int)) (x0) (x1) (x2) (x3) (x4)) (lL25 (x0) (x1) (Go.IntKind.i64.wrap (x2 + (1:Int))) (x3) (x4)))) (cond (decide ((x0.getD x2.toNat ZN).1=(2:Int))) (lL36 (x2) ((0:Int)) (x0) (x1) (x2) (x3) (x4)) (lL25 (x0) (x1) (Go.IntKind.i64.wrap (x2 + (1:Int))) (x3) (x4))))) (cond (decide (x2=(0:Int))) (cond (!decide ((x0.getD x2.toNat ZN).2.2.2.2.1=(0:Int))) (some ((false,()),())) (cond (decide ((x0.getD x2.toNat ZN).1=(2:Int))) (lL36 (x2) ((0:Int)) (x0) (x1) (x2) (x3) (x4)) (lL25 (x0) (x1) (Go.IntKind.i64.wrap (x2 + (1:Int))) (x3) (x4)))) (cond (decide ((x0.getD x2.toNat ZN).1=(2:Int))) (lL36 (x2) ((0:Int)) (x0) (x1) (x2) (x3) (x4)) (lL25 (x0) (x1) (Go.IntKind.i64.wrap (x2 + (1:Int))) (x3) (x4))))))) (none)) (none))) (none)) (none)) (some ((true,()),()))
noncomputable def st19_L6 (n:Nat) (lL6:(List NT)→Int→Int→(List NT)→(List Int)→(List Int)→Option R19) (lL16:Int→(List NT)→Int→Int→(List (ByteArray × Int))→Int→Int→(List NT)→(List Int)→(List Int)→Int→Int→Int→Int→Int→Int→Bool→ByteArray→(List (ByteArray × Int))→Option R19) (lL25:(List NT)→Int→Int→(List Int)→(List Int)→Option R19) (x0:List NT) (x1:Int) (x2:Int) (x3:List NT) (x4:List Int) (x5:List Int):Option R19 :=
 cond (decide (x2 < x1)) (cond (decide ((0:Int)≤x2)) (cond (decide (x2 < (↑x0.length:Int))) (cond (decide ((x0.getD x2.toNat ZN).1=(0:Int))) ((q69 n (((x0.getD x2.toNat ZN).1,(x0.getD x2.toNat ZN).2.1,(x0.getD x2.toNat ZN).2.2.1,(x0.getD x2.toNat ZN).2.2.2.1,(x0.getD x2.toNat ZN).2.2.2.2.1,(x0.getD x2.toNat ZN).2.2.2.2.2.1,(x0.getD x2.toNat ZN).2.2.2.2.2.2.1,(x0.getD x2.toNat ZN).2.2.2.2.2.2.2.1,(x0.getD x2.toNat ZN).2.2.2.2.2.2.2.2),())).bind fun r1=>cond (!r1.1.1) (some ((false,()),())) (lL6 (x0) (x1) (Go.IntKind.i64.wrap (x2 + (1:Int))) (x3) (x4) (x5))) ((q61 n ((x0.getD x2.toNat ZN).1,(1:Int),(2:Int),())).bind fun r2=>cond (!r2.1.1) (some ((false,()),())) ((q61 n ((x0.getD x2.toNat ZN).2.1,(0:Int),(511:Int),())).bind fun r3=>cond (!r3.1.1) (some ((false,()),())) ((q61 n ((x0.getD x2.toNat ZN).2.2.1,(0:Int),(9:Int),())).bind fun r4=>cond (!r4.1.1) (some ((false,()),())) ((q61 n ((x0.getD x2.toNat ZN).2.2.2.1,(0:Int),(9:Int),())).bind fun r5=>cond (!r5.1.1) (some ((false,()),())) ((q61 n ((x0.getD x2.toNat ZN).2.2.2.2.2.1,(0:Int),(99:Int),())).bind fun r6=>cond (!r6.1.1) (some ((false,()),())) (cond (decide ((x0.getD x2.toNat ZN).1=(1:Int))) (cond (decide ((40:Int) < (↑(ByteArray.size (x0.getD x2.toNat ZN).2.2.2.2.2.2.2.1):Int))) (some ((false,()),())) (cond (decide ((0:Int) < (↑(List.length (x0.getD x2.toNat ZN).2.2.2.2.2.2.2.2):Int))) (some ((false,()),())) (cond (decide ((x0.getD x2.toNat ZN).1=(2:Int))) (cond (!ByteArray.toList (x0.getD x2.toNat ZN).2.2.2.2.2.2.2.1 == (ByteArray.mk #[]).toList) (some ((false,()),())) (cond ((x0.getD x2.toNat ZN).2.2.2.2.2.2.1) (some ((false,()),())) (cond (decide ((6:Int) < (↑(List.length (x0.getD x2.toNat ZN).2.2.2.2.2.2.2.2):Int))) (some ((false,()),())) (lL16 (x2) (x0) (x1) (x2) ((x0.getD x2.toNat ZN).2.2.2.2.2.2.2.2) ((↑(List.length (x0.getD x2.toNat ZN).2.2.2.2.2.2.2.2):Int)) ((0:Int)) (x3) (x4) (x5) ((x0.getD x2.toNat ZN).1) ((x0.getD x2.toNat ZN).2.1) ((x0.getD x2.toNat ZN).2.2.1) ((x0.getD x2.toNat ZN).2.2.2.1) ((x0.getD x2.toNat ZN).2.2.2.2.1) ((x0.getD x2.toNat ZN).2.2.2.2.2.1) ((x0.getD x2.toNat ZN).2.2.2.2.2.2.1) ((x0.getD x2.toNat ZN).2.2.2.2.2.2.2.1) ((x0.getD x2.toNat ZN).2.2.2.2.2.2.2.2))))) (lL16 (x2) (x0) (x1) (x2) ((x0.getD x2.toNat ZN).2.2.2.2.2.2.2.2) ((↑(List.length (x0.getD x2.toNat ZN).2.2.2.2.2.2.2.2):Int)) ((0:Int)) (x3) (x4) (x5) ((x0.getD x2.toNat ZN).1) ((x0.getD x2.toNat ZN).2.1) ((x0.getD x2.toNat ZN).2.2.1) ((x0.getD x2.toNat ZN).2.2.2.1) ((x0.getD x2.toNat ZN).2.2.2.2.1) ((x0.getD x2.toNat ZN).2.2.2.2.2.1) ((x0.getD x2.toNat ZN).2.2.2.2.2.2.1) ((x0.getD x2.toNat ZN).2.2.2.2.2.2.2.1) ((x0.getD x2.toNat ZN).2.2.2.2.2.2.2.2))))) (cond (decide ((x0.getD x2.toNat ZN).1=(2:Int))) (cond (!ByteArray.toList (x0.getD x2.toNat ZN).2.2.2.2.2.2.2.1 == (ByteArray.mk #[]).toList) (some ((false,()),())) (cond ((x0.getD x2.toNat ZN).2.2.2.2.2.2.1) (some ((false,()),())) (cond (decide ((6:Int) < (↑(List.length (x0.getD x2.toNat ZN).2.2.2.2.2.2.2.2):Int))) (some ((false,()),())) (lL16 (x2) (x0) (x1) (x2) ((x0.getD x2.toNat ZN).2.2.2.2.2.2.2.2) ((↑(List.length (x0.getD x2.toNat ZN).2.2.2.2.2.2.2.2):Int)) ((0:Int)) (x3) (x4) (x5) ((x0.getD x2.toNat ZN).1) ((x0.getD x2.toNat ZN).2.1) ((x0.getD x2.toNat ZN).2.2.1) ((x0.getD x2.toNat ZN).2.2.2.1) ((x0.getD x2.toNat ZN).2.2.2.2.1) ((x0.getD x2.toNat ZN).2.2.2.2.2.1) ((x0.getD x2.toNat ZN).2.2.2.2.2.2.1) ((x0.getD x2.toNat ZN).2.2.2.2.2.2.2.1) ((x0.getD x2.toNat ZN).2.2.2.2.2.2.2.2))))) (lL16 (x2) (x0) (x1) (x2) ((x0.getD x2.toNat ZN).2.2.2.2.2.2.2.2) ((↑(List.length (x0.getD x2.toNat ZN).2.2.2.2.2.2.2.2):Int)) ((0:Int)) (x3) (x4) (x5) ((x0.getD x2.toNat ZN).1) ((x0.getD x2.toNat ZN).2.1) ((x0.getD x2.toNat ZN).2.2.1) ((x0.getD x2.toNat ZN).2.2.2.1) ((x0.getD x2.toNat ZN).2.2.2.2.1) ((x0.getD x2.toNat ZN).2.2.2.2.2.1) ((x0.getD x2.toNat ZN).2.2.2.2.2.2.1) ((x0.getD x2.toNat ZN).2.2.2.2.2.2.2.1) ((x0.getD x2.toNat ZN).2.2.2.2.2.2.2.2)))))))))) (none)) (none)) (lL25 (x3) ((↑x3.length:Int)) ((0:Int)) (x4) (x5))
theorem e19_top (n:Nat) (a:List NT):runF TT G19 an19 Try.f19 c19 ps19 rs19 n (a,())=st19_top n (fun x0 x1 x2 x3 x4 x5=>at19 n (.head 6) [n] (sh19_L6 x0 x1 x2 x3 x4 x5)) a:=by kernel_rfl
theorem e19_L16_0 (n:Nat) (m6:Nat) (x0:Int) (x1:List NT) (x2:Int) (x3:Int) (x4:List (ByteArray × Int)) (x5:Int) (x6:Int) (x7:List NT) (x8:List Int) (x9:List Int) (x10:Int) (x11:Int) (x12:Int) (x13:Int) (x14:Int) (x15:Int) (x16:Bool) (x17:ByteArray) (x18:List (ByteArray × Int)):at19 n (.head 16) [m6,0] (sh19_L16 x0 x1 x2 x3 x4 x5 x6 x7 x8 x9 x10 x11 x12 x13 x14 x15 x16 x17 x18)=none:=by kernel_rfl
theorem e19_L16 (n:Nat) (m6:Nat) (m16:Nat) (x0:Int) (x1:List NT) (x2:Int) (x3:Int) (x4:List (ByteArray × Int)) (x5:Int) (x6:Int) (x7:List NT) (x8:List Int) (x9:List Int) (x10:Int) (x11:Int) (x12:Int) (x13:Int) (x14:Int) (x15:Int) (x16:Bool) (x17:ByteArray) (x18:List (ByteArray × Int)):at19 n (.head 16) [m6,m16 + 1] (sh19_L16 x0 x1 x2 x3 x4 x5 x6 x7 x8 x9 x10 x11 x12 x13 x14 x15 x16 x17 x18)=st19_L16 n (fun x0 x1 x2 x3 x4 x5 x6 x7 x8 x9 x10 x11 x12 x13 x14 x15 x16 x17 x18=>at19 n (.head 16) [m6,m16] (sh19_L16 x0 x1 x2 x3 x4 x5 x6 x7 x8 x9 x10 x11 x12 x13 x14 x15 x16 x17 x18)) (fun x0 x1 x2 x3 x4 x5=>at19 n (.head 6) [m6] (sh19_L6 x0 x1 x2 x3 x4 x5)) x0 x1 x2 x3 x4 x5 x6 x7 x8 x9 x10 x11 x12 x13 x14 x15 x16 x17 x18:=by kernel_rfl
theorem e19_L36_0 (n:Nat) (m25:Nat) (x0:Int) (x1:Int) (x2:List NT) (x3:Int) (x4:Int) (x5:List Int) (x6:List Int):at19 n (.head 36) [m25,0] (sh19_L36 x0 x1 x2 x3 x4 x5 x6)=none:=by kernel_rfl
theorem e19_L36 (n:Nat) (m25:Nat) (m36:Nat) (x0:Int) (x1:Int) (x2:List NT) (x3:Int) (x4:Int) (x5:List Int) (x6:List Int):at19 n (.head 36) [m25,m36 + 1] (sh19_L36 x0 x1 x2 x3 x4 x5 x6)=st19_L36 n (fun x0 x1 x2 x3 x4 x5 x6=>at19 n (.head 36) [m25,m36] (sh19_L36 x0 x1 x2 x3 x4 x5 x6)) (fun x0 x1 x2 x3 x4=>at19 n (.head 25) [m25] (sh19_L25 x0 x1 x2 x3 x4)) x0 x1 x2 x3 x4 x5 x6:=by kernel_rfl
theorem e19_L25_0 (n:Nat) (x0:List NT) (x1:Int) (x2:Int) (x3:List Int) (x4:List Int):at19 n (.head 25) [0] (sh19_L25 x0 x1 x2 x3 x4)=none:=by kernel_rfl
theorem e19_L25 (n:Nat) (m25:Nat) (x0:List NT) (x1:Int) (x2:Int) (x3:List Int) (x4:List Int):at19 n (.head 25) [m25 + 1] (sh19_L25 x0 x1 x2 x3 x4)=st19_L25 n (fun x0 x1 x2 x3 x4=>at19 n (.head 25) [m25] (sh19_L25 x0 x1 x2 x3 x4)) (fun x0 x1 x2 x3 x4 x5 x6=>at19 n (.head 36) [m25,n] (sh19_L36 x0 x1 x2 x3 x4 x5 x6)) x0 x1 x2 x3 x4:=by kernel_rfl
theorem e19_L6_0 (n:Nat) (x0:List NT) (x1:Int) (x2:Int) (x3:List NT) (x4:List Int) (x5:List Int):at19 n (.head 6) [0] (sh19_L6 x0 x1 x2 x3 x4 x5)=none:=by kernel_rfl
theorem e19_L6 (n:Nat) (m6:Nat) (x0:List NT) (x1:Int) (x2:Int) (x3:List NT) (x4:List Int) (x5:List Int):at19 n (.head 6) [m6 + 1] (sh19_L6 x0 x1 x2 x3 x4 x5)=st19_L6 n (fun x0 x1 x2 x3 x4 x5=>at19 n (.head 6) [m6] (sh19_L6 x0 x1 x2 x3 x4 x5)) (fun x0 x1 x2 x3 x4 x5 x6 x7 x8 x9 x10 x11 x12 x13 x14 x15 x16 x17 x18=>at19 n (.head 16) [m6,n] (sh19_L16 x0 x1 x2 x3 x4 x5 x6 x7 x8 x9 x10 x11 x12 x13 x14 x15 x16 x17 x18)) (fun x0 x1 x2 x3 x4=>at19 n (.head 25) [n] (sh19_L25 x0 x1 x2 x3 x4)) x0 x1 x2 x3 x4 x5:=by kernel_rfl
noncomputable def p19_L16 (g6:(List NT)→Int→Int→(List NT)→(List Int)→(List Int)→Option R19) (n:Nat):Nat→Int→(List NT)→Int→Int→(List (ByteArray × Int))→Int→Int→(List NT)→(List Int)→(List Int)→Int→Int→Int→Int→Int→Int→Bool→ByteArray→(List (ByteArray × Int))→Option R19
 | 0,_,_,_,_,_,_,_,_,_,_,_,_,_,_,_,_,_,_,_=>none
 | m + 1,x0,x1,x2,x3,x4,x5,x6,x7,x8,x9,x10,x11,x12,x13,x14,x15,x16,x17,x18=>st19_L16 n (p19_L16 g6 n m) g6 x0 x1 x2 x3 x4 x5 x6 x7 x8 x9 x10 x11 x12 x13 x14 x15 x16 x17 x18
noncomputable def p19_L36 (g25:(List NT)→Int→Int→(List Int)→(List Int)→Option R19) (n:Nat):Nat→Int→Int→(List NT)→Int→Int→(List Int)→(List Int)→Option R19
 | 0,_,_,_,_,_,_,_=>none
 | m + 1,x0,x1,x2,x3,x4,x5,x6=>st19_L36 n (p19_L36 g25 n m) g25 x0 x1 x2 x3 x4 x5 x6
noncomputable def p19_L25 (n:Nat):Nat→(List NT)→Int→Int→(List Int)→(List Int)→Option R19
 | 0,_,_,_,_,_=>none
 | m + 1,x0,x1,x2,x3,x4=>st19_L25 n (p19_L25 n m) (p19_L36 (p19_L25 n m) n n) x0 x1 x2 x3 x4
noncomputable def p19_L6 (n:Nat):Nat→(List NT)→Int→Int→(List NT)→(List Int)→(List Int)→Option R19
 | 0,_,_,_,_,_,_=>none
 | m + 1,x0,x1,x2,x3,x4,x5=>st19_L6 n (p19_L6 n m) (p19_L16 (p19_L6 n m) n n) (p19_L25 n n) x0 x1 x2 x3 x4 x5
noncomputable def p19 (n:Nat) (a:List NT):Option R19:=st19_top n (p19_L6 n n) a
theorem t19_L16 (n:Nat) (m6:Nat):∀ (m16:Nat) (x0:Int) (x1:List NT) (x2:Int) (x3:Int) (x4:List (ByteArray × Int)) (x5:Int) (x6:Int) (x7:List NT) (x8:List Int) (x9:List Int) (x10:Int) (x11:Int) (x12:Int) (x13:Int) (x14:Int) (x15:Int) (x16:Bool) (x17:ByteArray) (x18:List (ByteArray × Int)),at19 n (.head 16) [m6,m16] (sh19_L16 x0 x1 x2 x3 x4 x5 x6 x7 x8 x9 x10 x11 x12 x13 x14 x15 x16 x17 x18)=p19_L16 (fun x0 x1 x2 x3 x4 x5=>at19 n (.head 6) [m6] (sh19_L6 x0 x1 x2 x3 x4 x5)) n m16 x0 x1 x2 x3 x4 x5 x6 x7 x8 x9 x10 x11 x12 x13 x14 x15 x16 x17 x18:=by
 intro m
 induction m with
 | zero=>intros; rw [e19_L16_0]; rfl
 | succ m ih =>
  intros
  rw [e19_L16]
  try simp only [ih]
  rfl
theorem t19_L36 (n:Nat) (m25:Nat):∀ (m36:Nat) (x0:Int) (x1:Int) (x2:List NT) (x3:Int) (x4:Int) (x5:List Int) (x6:List Int),at19 n (.head 36) [m25,m36] (sh19_L36 x0 x1 x2 x3 x4 x5 x6)=p19_L36 (fun x0 x1 x2 x3 x4=>at19 n (.head 25) [m25] (sh19_L25 x0 x1 x2 x3 x4)) n m36 x0 x1 x2 x3 x4 x5 x6:=by
 intro m
 induction m with
 | zero=>intros; rw [e19_L36_0]; rfl
 | succ m ih =>
  intros
  rw [e19_L36]
  try simp only [ih]
  rfl
theorem t19_L25 (n:Nat):∀ (m25:Nat) (x0:List NT) (x1:Int) (x2:Int) (x3:List Int) (x4:List Int),at19 n (.head 25) [m25] (sh19_L25 x0 x1 x2 x3 x4)=p19_L25 n m25 x0 x1 x2 x3 x4:=by
 intro m
 induction m with
 | zero=>intros; rw [e19_L25_0]; rfl
 | succ m ih =>
  intros
  rw [e19_L25]
  try simp only [t19_L36,ih]
  rfl
theorem t19_L6 (n:Nat):∀ (m6:Nat) (x0:List NT) (x1:Int) (x2:Int) (x3:List NT) (x4:List Int) (x5:List Int),at19 n (.head 6) [m6] (sh19_L6 x0 x1 x2 x3 x4 x5)=p19_L6 n m6 x0 x1 x2 x3 x4 x5:=by
 intro m
 induction m with
 | zero=>intros; rw [e19_L6_0]; rfl
 | succ m ih =>
  intros
  rw [e19_L6]
  try simp only [t19_L16,t19_L25,ih]
  rfl
theorem F19_eq (n:Nat) (a:List NT):runF TT G19 an19 Try.f19 c19 ps19 rs19 n (a,())=p19 n a:=by
 rw [e19_top]
 simp only [t19_L6]
 try rfl
noncomputable def q19 (n:Nat) (x:argsD ps19):Option R19:=p19 n x.1
noncomputable def Sm19:Sm:=⟨ps19,rs19,false,q19⟩
theorem holds19 (hg:GamOK Try.prog G19):Holds Try.prog 19 Sm19:=by
 have:=h0_19 hg
 have e:(runF TT G19 an19 Try.f19 c19 ps19 rs19)=q19:=by
  funext n x
  exact F19_eq n x.1
 rw [e] at this
 exact this
theorem gam19:GamOK Try.prog G19:=by
 intro f s h
 unfold G19 at h
 split at h
 ·injection h with h; subst h; exact ⟨⟨Try.f70,c70,Try.func70,by kernel_rfl,by decide +kernel⟩,hh70⟩
 ·injection h with h; subst h; exact ⟨⟨Try.f61,c61,Try.func61,by kernel_rfl,by decide +kernel⟩,hh61⟩
 ·injection h with h; subst h; exact ⟨⟨Try.f69,c69,Try.func69,by kernel_rfl,by decide +kernel⟩,hh69⟩
 ·cases h
theorem hh19:Holds Try.prog 19 Sm19:=holds19 gam19
end Go.Proofs.Ytbjgiioppmkpiaa.Rx.S

namespace Go.Proofs.Ytbjgiioppmkpiaa.Rx.S
open Go Go.RowKit Go.Proofs
set_option maxRecDepth 100000
noncomputable def c86:Code:=(Try.f86.body.getD .skip)
def an86:An:=⟨fun _=>⟨[],[]⟩,fun _ _=>none⟩
abbrev ps86:List PK:=[.val tFs true,.val i64 false]
abbrev rs86:List RK:=[.val .bool false]
abbrev R86:=retsD rs86 × outsD ps86
noncomputable def G86:Gam:=fun f=>match f with | 61=>some Sm61 | _=>none
theorem h0_86 (hg:GamOK Try.prog G86):Holds Try.prog 86 ⟨ps86,rs86,false,runF TT G86 an86 Try.f86 c86 ps86 rs86⟩:=holds_of tt_ok hg mixed Try.func86 (by kernel_rfl) (by rfl) (by decide +kernel)
noncomputable def st86_top (n:Nat) (a:List NT) (b:Int):Option R86 :=
 (q61 n (b,(0:Int),Go.IntKind.i64.wrap ((↑a.length:Int) - (1:Int)),())).bind fun r0=>cond (r0.1.1) (cond (decide ((0:Int)≤b)) (cond (decide (b < (↑a.length:Int))) (some ((!decide ((a.getD b.toNat ZN).1=(0:Int)),()),())) (none)) (none)) (some ((false,()),()))
theorem e86_top (n:Nat) (a:List NT) (b:Int):runF TT G86 an86 Try.f86 c86 ps86 rs86 n (a,b,())=st86_top n a b:=by kernel_rfl
noncomputable def p86 (n:Nat) (a:List NT) (b:Int):Option R86:=st86_top n a b
theorem F86_eq (n:Nat) (a:List NT) (b:Int):runF TT G86 an86 Try.f86 c86 ps86 rs86 n (a,b,())=p86 n a b:=by
 rw [e86_top]
 skip
 try rfl
noncomputable def q86 (n:Nat) (x:argsD ps86):Option R86:=p86 n x.1 x.2.1
noncomputable def Sm86:Sm:=⟨ps86,rs86,false,q86⟩
theorem holds86 (hg:GamOK Try.prog G86):Holds Try.prog 86 Sm86:=by
 have:=h0_86 hg
 have e:(runF TT G86 an86 Try.f86 c86 ps86 rs86)=q86:=by
  funext n x
  exact F86_eq n x.1 x.2.1
 rw [e] at this
 exact this
theorem gam86:GamOK Try.prog G86:=by
 intro f s h
 unfold G86 at h
 split at h
 ·injection h with h; subst h; exact ⟨⟨Try.f61,c61,Try.func61,by kernel_rfl,by decide +kernel⟩,hh61⟩
 ·cases h
theorem hh86:Holds Try.prog 86 Sm86:=holds86 gam86
end Go.Proofs.Ytbjgiioppmkpiaa.Rx.S

namespace Go.Proofs.Ytbjgiioppmkpiaa.Rx.S
open Go Go.RowKit Go.Proofs
set_option maxRecDepth 100000
noncomputable def c79:Code:=(Try.f79.body.getD .skip)
def an79:An:=⟨fun r=>match r with | 2=>⟨[1,6,7,8],[]⟩ | _=>⟨[],[]⟩,fun _ _=>none⟩
abbrev ps79:List PK:=[.val tCr true]
abbrev rs79:List RK:=[.val .bool false]
abbrev R79:=retsD rs79 × outsD ps79
noncomputable def G79:Gam:=fun f=>match f with | 61=>some Sm61 | _=>none
theorem h0_79 (hg:GamOK Try.prog G79):Holds Try.prog 79 ⟨ps79,rs79,false,runF TT G79 an79 Try.f79 c79 ps79 rs79⟩:=holds_of tt_ok hg mixed Try.func79 (by kernel_rfl) (by rfl) (by decide +kernel)
noncomputable def at79:Nat→Pt→List Nat→St→Option R79:=atF TT G79 an79 Try.f79 c79 _ _
def sh79_L2 (x0:List Int) (x1:Int) (x2:Int) (x3:Int) (x4:Int) (x5:List Int):St:=(St.mk (AV.undef :: ((AV.one (SV.bptr 1000000 0)) :: (AV.undef :: (AV.undef :: (AV.undef :: (AV.undef :: ((AV.one (SV.con (⟨3,Ty.int Go.IntKind.i64,x0⟩:Rw))) :: ((AV.one (SV.int (Go.IntKind.i64) x1)) :: ((AV.one (SV.int (Go.IntKind.i64) x2)) :: (AV.undef :: (AV.undef :: (AV.undef :: (AV.undef :: (AV.undef :: (AV.undef :: (AV.undef :: (AV.undef :: (AV.undef :: (AV.undef :: (AV.undef :: (AV.undef :: (AV.undef :: (AV.undef :: (AV.undef :: (AV.undef :: (AV.undef :: (AV.undef :: (AV.undef :: (AV.undef :: (AV.undef :: (AV.undef :: (AV.undef :: (AV.undef :: (AV.undef :: (AV.undef :: (AV.undef :: (AV.undef :: (AV.undef :: (AV.undef :: (AV.undef :: (AV.undef :: (AV.undef :: (AV.undef :: (AV.undef :: (AV.undef :: []))))))))))))))))))))))))))))))))))))))))))))) ((1000000,(Ent.box ((SV.int (Go.IntKind.i64) x3) :: ((SV.int (Go.IntKind.i64) x4) :: ((SV.con (⟨3,Ty.int Go.IntKind.i64,x5⟩:Rw)) :: []))))) :: []))
noncomputable def st79_top (n:Nat) (lL2:(List Int)→Int→Int→Int→Int→(List Int)→Option R79) (a:Int × Int × List Int):Option R79 :=
 lL2 (a.2.2) ((↑(List.length a.2.2):Int)) ((0:Int)) (a.1) (a.2.1) (a.2.2)
noncomputable def st79_L2 (n:Nat) (lL2:(List Int)→Int→Int→Int→Int→(List Int)→Option R79) (x0:List Int) (x1:Int) (x2:Int) (x3:Int) (x4:Int) (x5:List Int):Option R79 :=
 cond (decide (x2 < x1)) (cond (decide ((0:Int)≤x2)) (cond (decide (x2 < (↑x0.length:Int))) ((q61 n (x0.getD x2.toNat (0:Int),(0:Int),(9:Int),())).bind fun r1=>cond (!r1.1.1) (some ((false,()),())) (cond (decide ((0:Int) < x2)) (cond (decide ((0:Int)≤Go.IntKind.i64.wrap (x2 - (1:Int)))) (cond (decide (Go.IntKind.i64.wrap (x2 - (1:Int)) < (↑x5.length:Int))) (cond (decide (x0.getD x2.toNat (0:Int)≤x5.getD (Go.IntKind.i64.wrap (x2 - (1:Int))).toNat (0:Int))) (some ((false,()),())) (lL2 (x0) (x1) (Go.IntKind.i64.wrap (x2 + (1:Int))) (x3) (x4) (x5))) (none)) (none)) (lL2 (x0) (x1) (Go.IntKind.i64.wrap (x2 + (1:Int))) (x3) (x4) (x5)))) (none)) (none)) ((q61 n (x3,(0:Int),(9:Int),())).bind fun r2=>cond (r2.1.1) ((q61 n (x4,(0:Int),(9:Int),())).bind fun r3=>cond (r3.1.1) (some ((decide ((↑x5.length:Int)≤(3:Int)),()),())) (some ((false,()),()))) (some ((false,()),())))
theorem e79_top (n:Nat) (a:Int × Int × List Int):runF TT G79 an79 Try.f79 c79 ps79 rs79 n (a,())=st79_top n (fun x0 x1 x2 x3 x4 x5=>at79 n (.head 2) [n] (sh79_L2 x0 x1 x2 x3 x4 x5)) a:=by kernel_rfl
theorem e79_L2_0 (n:Nat) (x0:List Int) (x1:Int) (x2:Int) (x3:Int) (x4:Int) (x5:List Int):at79 n (.head 2) [0] (sh79_L2 x0 x1 x2 x3 x4 x5)=none:=by kernel_rfl
theorem e79_L2 (n:Nat) (m2:Nat) (x0:List Int) (x1:Int) (x2:Int) (x3:Int) (x4:Int) (x5:List Int):at79 n (.head 2) [m2 + 1] (sh79_L2 x0 x1 x2 x3 x4 x5)=st79_L2 n (fun x0 x1 x2 x3 x4 x5=>at79 n (.head 2) [m2] (sh79_L2 x0 x1 x2 x3 x4 x5)) x0 x1 x2 x3 x4 x5:=by kernel_rfl
noncomputable def p79_L2 (n:Nat):Nat→(List Int)→Int→Int→Int→Int→(List Int)→Option R79
 | 0,_,_,_,_,_,_=>none
 | m + 1,x0,x1,x2,x3,x4,x5=>st79_L2 n (p79_L2 n m) x0 x1 x2 x3 x4 x5
noncomputable def p79 (n:Nat) (a:Int × Int × List Int):Option R79:=st79_top n (p79_L2 n n) a
theorem t79_L2 (n:Nat):∀ (m2:Nat) (x0:List Int) (x1:Int) (x2:Int) (x3:Int) (x4:Int) (x5:List Int),at79 n (.head 2) [m2] (sh79_L2 x0 x1 x2 x3 x4 x5)=p79_L2 n m2 x0 x1 x2 x3 x4 x5:=by
 intro m
 induction m with
 | zero=>intros; rw [e79_L2_0]; rfl
 | succ m ih =>
  intros
  rw [e79_L2]
  try simp only [ih]
  rfl
theorem F79_eq (n:Nat) (a:Int × Int × List Int):runF TT G79 an79 Try.f79 c79 ps79 rs79 n (a,())=p79 n a:=by
 rw [e79_top]
 simp only [t79_L2]
 try rfl
noncomputable def q79 (n:Nat) (x:argsD ps79):Option R79:=p79 n x.1
noncomputable def Sm79:Sm:=⟨ps79,rs79,false,q79⟩
theorem holds79 (hg:GamOK Try.prog G79):Holds Try.prog 79 Sm79:=by
 have:=h0_79 hg
 have e:(runF TT G79 an79 Try.f79 c79 ps79 rs79)=q79:=by
  funext n x
  exact F79_eq n x.1
 rw [e] at this
 exact this
theorem gam79:GamOK Try.prog G79:=by
 intro f s h
 unfold G79 at h
 split at h
 ·injection h with h; subst h; exact ⟨⟨Try.f61,c61,Try.func61,by kernel_rfl,by decide +kernel⟩,hh61⟩
 ·cases h
theorem hh79:Holds Try.prog 79 Sm79:=holds79 gam79
end Go.Proofs.Ytbjgiioppmkpiaa.Rx.S

namespace Go.Proofs.Ytbjgiioppmkpiaa.Rx.S
open Go Go.RowKit Go.Proofs
set_option maxRecDepth 100000
noncomputable def c60:Code:=(Try.f60.body.getD .skip)
def an60:An:=⟨fun r=>match r with | 4=>⟨[3,17,18,19],[]⟩ | _=>⟨[],[]⟩,fun _ _=>none⟩
abbrev ps60:List PK:=[.val tFs true,.val tCr true,.val (.row 3 i64) false]
abbrev rs60:List RK:=[.val .bool false]
abbrev R60:=retsD rs60 × outsD ps60
noncomputable def G60:Gam:=fun f=>match f with | 19=>some Sm19 | 86=>some Sm86 | 79=>some Sm79 | _=>none
theorem h0_60 (hg:GamOK Try.prog G60):Holds Try.prog 60 ⟨ps60,rs60,false,runF TT G60 an60 Try.f60 c60 ps60 rs60⟩:=holds_of tt_ok hg mixed Try.func60 (by kernel_rfl) (by rfl) (by decide +kernel)
noncomputable def at60:Nat→Pt→List Nat→St→Option R60:=atF TT G60 an60 Try.f60 c60 _ _
def sh60_L4 (x0:List Int) (x1:Int) (x2:Int) (x3:List NT):St:=(St.mk (AV.undef :: (AV.undef :: (AV.undef :: ((AV.one (SV.bptr 1000000 0)) :: (AV.undef :: (AV.undef :: (AV.undef :: (AV.undef :: (AV.undef :: (AV.undef :: (AV.undef :: (AV.undef :: (AV.undef :: (AV.undef :: (AV.undef :: (AV.undef :: (AV.undef :: ((AV.one (SV.con (⟨3,Ty.int Go.IntKind.i64,x0⟩:Rw))) :: ((AV.one (SV.int (Go.IntKind.i64) x1)) :: ((AV.one (SV.int (Go.IntKind.i64) x2)) :: (AV.undef :: (AV.undef :: (AV.undef :: (AV.undef :: (AV.undef :: (AV.undef :: (AV.undef :: (AV.undef :: [])))))))))))))))))))))))))))) ((1000000,(Ent.box ((SV.con (⟨37,(Ty.int Go.IntKind.i64).pair ((Ty.int Go.IntKind.i64).pair ((Ty.int Go.IntKind.i64).pair ((Ty.int Go.IntKind.i64).pair ((Ty.int Go.IntKind.i64).pair ((Ty.int Go.IntKind.i64).pair (Ty.bool.pair (Ty.str.pair (Ty.row (nat_lit 100) (Ty.str.pair (Ty.int Go.IntKind.i64)))))))))),x3⟩:Rw)) :: []))) :: []))
noncomputable def st60_top (n:Nat) (lL4:(List Int)→Int→Int→(List NT)→Option R60) (a:List NT) (b:Int × Int × List Int) (c:List Int):Option R60 :=
 (q19 n (a,())).bind fun r0=>cond (!r0.1.1) (some ((false,()),())) ((q79 n ((b.1,b.2.1,b.2.2),())).bind fun r1=>cond (!r1.1.1) (some ((false,()),())) (lL4 (c) ((↑c.length:Int)) ((0:Int)) (a)))
noncomputable def st60_L4 (n:Nat) (lL4:(List Int)→Int→Int→(List NT)→Option R60) (x0:List Int) (x1:Int) (x2:Int) (x3:List NT):Option R60 :=
 cond (decide (x2 < x1)) (cond (decide ((0:Int)≤x2)) (cond (decide (x2 < (↑x0.length:Int))) ((q86 n (x3,x0.getD x2.toNat (0:Int),())).bind fun r3=>cond (!r3.1.1) (some ((false,()),())) (lL4 (x0) (x1) (Go.IntKind.i64.wrap (x2 + (1:Int))) (x3))) (none)) (none)) (some ((true,()),()))
theorem e60_top (n:Nat) (a:List NT) (b:Int × Int × List Int) (c:List Int):runF TT G60 an60 Try.f60 c60 ps60 rs60 n (a,b,c,())=st60_top n (fun x0 x1 x2 x3=>at60 n (.head 4) [n] (sh60_L4 x0 x1 x2 x3)) a b c:=by kernel_rfl
theorem e60_L4_0 (n:Nat) (x0:List Int) (x1:Int) (x2:Int) (x3:List NT):at60 n (.head 4) [0] (sh60_L4 x0 x1 x2 x3)=none:=by kernel_rfl
theorem e60_L4 (n:Nat) (m4:Nat) (x0:List Int) (x1:Int) (x2:Int) (x3:List NT):at60 n (.head 4) [m4 + 1] (sh60_L4 x0 x1 x2 x3)=st60_L4 n (fun x0 x1 x2 x3=>at60 n (.head 4) [m4] (sh60_L4 x0 x1 x2 x3)) x0 x1 x2 x3:=by kernel_rfl
noncomputable def p60_L4 (n:Nat):Nat→(List Int)→Int→Int→(List NT)→Option R60
 | 0,_,_,_,_=>none
 | m + 1,x0,x1,x2,x3=>st60_L4 n (p60_L4 n m) x0 x1 x2 x3
noncomputable def p60 (n:Nat) (a:List NT) (b:Int × Int × List Int) (c:List Int):Option R60:=st60_top n (p60_L4 n n) a b c
theorem t60_L4 (n:Nat):∀ (m4:Nat) (x0:List Int) (x1:Int) (x2:Int) (x3:List NT),at60 n (.head 4) [m4] (sh60_L4 x0 x1 x2 x3)=p60_L4 n m4 x0 x1 x2 x3:=by
 intro m
 induction m with
 | zero=>intros; rw [e60_L4_0]; rfl
 | succ m ih =>
  intros
  rw [e60_L4]
  try simp only [ih]
  rfl
theorem F60_eq (n:Nat) (a:List NT) (b:Int × Int × List Int) (c:List Int):runF TT G60 an60 Try.f60 c60 ps60 rs60 n (a,b,c,())=p60 n a b c:=by
 rw [e60_top]
 simp only [t60_L4]
 try rfl
noncomputable def q60 (n:Nat) (x:argsD ps60):Option R60:=p60 n x.1 x.2.1 x.2.2.1
noncomputable def Sm60:Sm:=⟨ps60,rs60,false,q60⟩
theorem holds60 (hg:GamOK Try.prog G60):Holds Try.prog 60 Sm60:=by
 have:=h0_60 hg
 have e:(runF TT G60 an60 Try.f60 c60 ps60 rs60)=q60:=by
  funext n x
  exact F60_eq n x.1 x.2.1 x.2.2.1
 rw [e] at this
 exact this
theorem gam60:GamOK Try.prog G60:=by
 intro f s h
 unfold G60 at h
 split at h
 ·injection h with h; subst h; exact ⟨⟨Try.f19,c19,Try.func19,by kernel_rfl,by decide +kernel⟩,hh19⟩
 ·injection h with h; subst h; exact ⟨⟨Try.f86,c86,Try.func86,by kernel_rfl,by decide +kernel⟩,hh86⟩
 ·injection h with h; subst h; exact ⟨⟨Try.f79,c79,Try.func79,by kernel_rfl,by decide +kernel⟩,hh79⟩
 ·cases h
theorem hh60:Holds Try.prog 60 Sm60:=holds60 gam60
end Go.Proofs.Ytbjgiioppmkpiaa.Rx.S

namespace Go.Proofs.Ytbjgiioppmkpiaa.Rx.S
open Go Go.RowKit Go.Proofs
set_option maxRecDepth 100000
noncomputable def c114:Code:=(Try.f114.body.getD .skip)
abbrev ps114:List PK:=[.val (.row 37 (tIn 100)) false]
abbrev rs114:List RK:=[.half 37 (tIn 100) 8]
abbrev R114:=retsD rs114 × outsD ps114
noncomputable def p114 (n:Nat) (a:List NT):Option R114:=cond (decide (a.length * (96:Nat)≤(140737488355328:Nat))) (some ((a,()),())) none
noncomputable def q114 (n:Nat) (x:argsD ps114):Option R114:=p114 n x.1
noncomputable def Sm114:Sm:=⟨ps114,rs114,true,q114⟩
noncomputable def S0_93 (n:Nat) (xs:List NT):St:=(initS Try.f114.ntmps ps114 (xs,())).put (some 2) (.one .nil)
noncomputable def S1_93 (n:Nat) (xs:List NT):St:=(S0_93 n xs).put (some 3) (.one (.con ⟨37,(tIn 100),xs⟩))
theorem gam0_93:GamOK Try.prog (fun _=>none):=fun f s h=>by cases h
theorem hh114:Holds Try.prog 114 Sm114:=by
 refine holds_nilq tt_ok gam0_93 mixed (an:=⟨fun _=>⟨[],[]⟩,fun _ _=>none⟩) Try.func114 (by rfl) rfl (by first | exact Try.underlying23 | kernel_rfl) (by decide +kernel) S0_93 (fun n xs=>by kernel_rfl) S1_93 (fun n xs=>by kernel_rfl) (fun n xs=>rfl) (fun n xs b=>by kernel_rfl) (fun n y h=>?_) (fun n xs y h=>?_)
 ·have h':some (([],()),())=some y:=h
  refine Eq.trans ?_ h'
  kernel_rfl
 ·have h':cond (decide (xs.length * (96:Nat)≤(140737488355328:Nat))) (some ((xs,()),())) none=some y:=h
  refine Eq.trans ?_ h'
  kernel_rfl
end Go.Proofs.Ytbjgiioppmkpiaa.Rx.S

namespace Go.Proofs.Ytbjgiioppmkpiaa.Rx.S
open Go Go.RowKit Go.Proofs
set_option maxRecDepth 100000
noncomputable def c115:Code:=(Try.f115.body.getD .skip)
abbrev ps115:List PK:=[.val (.row 100 tEn) false]
abbrev rs115:List RK:=[.own (.row 100 tEn) false]
abbrev R115:=retsD rs115 × outsD ps115
noncomputable def p115 (n:Nat) (a:List (ByteArray × Int)):Option R115:=cond (decide ((0 + a.length) * (24:Nat)≤(140737488355328:Nat))) (some ((a,()),())) none
noncomputable def q115 (n:Nat) (x:argsD ps115):Option R115:=p115 n x.1
noncomputable def Sm115:Sm:=⟨ps115,rs115,false,q115⟩
noncomputable def S0_94 (n:Nat) (xs:List (ByteArray × Int)):St:=(initS Try.f115.ntmps ps115 (xs,())).put (some 2) (.one .nil)
noncomputable def S1_94 (n:Nat) (xs:List (ByteArray × Int)):St:=(S0_94 n xs).put (some 3) (.one (.con ⟨100,tEn,xs⟩))
theorem gam0_94:GamOK Try.prog (fun _=>none):=fun f s h=>by cases h
theorem hh115:Holds Try.prog 115 Sm115:=by
 refine holds_nilq tt_ok gam0_94 mixed (an:=⟨fun _=>⟨[],[]⟩,fun _ _=>none⟩) Try.func115 (by rfl) rfl (by first | exact Try.underlying37 | kernel_rfl) (by decide +kernel) S0_94 (fun n xs=>by kernel_rfl) S1_94 (fun n xs=>by kernel_rfl) (fun n xs=>rfl) (fun n xs b=>by kernel_rfl) (fun n y h=>?_) (fun n xs y h=>?_)
 ·have h':some (([],()),())=some y:=h
  refine Eq.trans ?_ h'
  kernel_rfl
 ·have h':cond (decide ((0 + xs.length) * (24:Nat)≤(140737488355328:Nat))) (some ((xs,()),())) none=some y:=h
  refine Eq.trans ?_ h'
  kernel_rfl
end Go.Proofs.Ytbjgiioppmkpiaa.Rx.S

namespace Go.Proofs.Ytbjgiioppmkpiaa.Rx.S
open Go Go.RowKit Go.Proofs
set_option maxRecDepth 100000
noncomputable def c62:Code:=(Try.f62.body.getD .skip)
def an62:An:=⟨fun r=>match r with | 3=>⟨[2,3,11,12],[]⟩ | _=>⟨[],[]⟩,fun _ _=>none⟩
abbrev ps62:List PK:=[.val tFs true]
abbrev rs62:List RK:=[.own tFs true]
abbrev R62:=retsD rs62 × outsD ps62
noncomputable def G62:Gam:=fun f=>match f with | 114=>some Sm114 | 115=>some Sm115 | _=>none
theorem h0_62 (hg:GamOK Try.prog G62):Holds Try.prog 62 ⟨ps62,rs62,false,runF TT G62 an62 Try.f62 c62 ps62 rs62⟩:=holds_of tt_ok hg mixed Try.func62 (by kernel_rfl) (by rfl) (by decide +kernel)
noncomputable def at62:Nat→Pt→List Nat→St→Option R62:=atF TT G62 an62 Try.f62 c62 _ _
def sh62_L3 (x0:Int) (x1:Int) (x2:List NT) (x3:Int):St:=(St.mk (AV.undef :: (AV.undef :: ((AV.one (SV.bptr 1000000 0)) :: ((AV.one (SV.bptr 1000001 0)) :: (AV.undef :: (AV.undef :: (AV.undef :: (AV.undef :: (AV.undef :: (AV.undef :: (AV.undef :: ((AV.one (SV.int (Go.IntKind.i64) x0)) :: ((AV.one (SV.int (Go.IntKind.i64) x1)) :: (AV.undef :: (AV.undef :: (AV.undef :: (AV.undef :: (AV.undef :: (AV.undef :: (AV.undef :: (AV.undef :: (AV.undef :: (AV.undef :: (AV.undef :: (AV.undef :: (AV.undef :: (AV.undef :: (AV.undef :: (AV.undef :: []))))))))))))))))))))))))))))) ((1000000,(Ent.box (SV.nil :: []))) :: ((1000001,(Ent.box ((SV.ref 1000002 0 [] Option.none) :: []))) :: ((1000002,(Ent.half (⟨37,(Ty.int Go.IntKind.i64).pair ((Ty.int Go.IntKind.i64).pair ((Ty.int Go.IntKind.i64).pair ((Ty.int Go.IntKind.i64).pair ((Ty.int Go.IntKind.i64).pair ((Ty.int Go.IntKind.i64).pair (Ty.bool.pair (Ty.str.pair (Ty.row (nat_lit 100) (Ty.str.pair (Ty.int Go.IntKind.i64)))))))))),x2⟩:Rw) x3 8)) :: []))))
noncomputable def st62_top (n:Nat) (lL3:Int→Int→(List NT)→Int→Option R62) (a:List NT):Option R62 :=
 (q114 n (a,())).bind fun r0=>lL3 ((↑(List.length r0.1.1):Int)) ((0:Int)) (r0.1.1) ((0:Int))
noncomputable def st62_L3 (n:Nat) (lL3:Int→Int→(List NT)→Int→Option R62) (x0:Int) (x1:Int) (x2:List NT) (x3:Int):Option R62 :=
 cond (decide (x1 < x0)) (cond (decide ((0:Int)≤x1)) (cond (decide (x1 < (↑x2.length:Int))) (cond (decide (x3≤(↑x1.toNat:Int))) ((q115 n ((x2.getD x1.toNat ZN).2.2.2.2.2.2.2.2,())).bind fun r2=>cond (decide ((0:Int)≤x1)) (cond (decide (x1 < (↑x2.length:Int))) (cond (decide (x3=(↑x1.toNat:Int))) (lL3 (x0) (Go.IntKind.i64.wrap (x1 + (1:Int))) (x2.set x1.toNat ((x2.getD x1.toNat ZN).1,(x2.getD x1.toNat ZN).2.1,(x2.getD x1.toNat ZN).2.2.1,(x2.getD x1.toNat ZN).2.2.2.1,(x2.getD x1.toNat ZN).2.2.2.2.1,(x2.getD x1.toNat ZN).2.2.2.2.2.1,(x2.getD x1.toNat ZN).2.2.2.2.2.2.1,(x2.getD x1.toNat ZN).2.2.2.2.2.2.2.1,r2.1.1)) (x3 + (1:Int))) (none)) (none)) (none)) (none)) (none)) (none)) (cond (decide ((↑x2.length:Int)≤x3)) (some ((x2,()),())) (none))
theorem e62_top (n:Nat) (a:List NT):runF TT G62 an62 Try.f62 c62 ps62 rs62 n (a,())=st62_top n (fun x0 x1 x2 x3=>at62 n (.head 3) [n] (sh62_L3 x0 x1 x2 x3)) a:=by kernel_rfl
theorem e62_L3_0 (n:Nat) (x0:Int) (x1:Int) (x2:List NT) (x3:Int):at62 n (.head 3) [0] (sh62_L3 x0 x1 x2 x3)=none:=by kernel_rfl
theorem e62_L3 (n:Nat) (m3:Nat) (x0:Int) (x1:Int) (x2:List NT) (x3:Int):at62 n (.head 3) [m3 + 1] (sh62_L3 x0 x1 x2 x3)=st62_L3 n (fun x0 x1 x2 x3=>at62 n (.head 3) [m3] (sh62_L3 x0 x1 x2 x3)) x0 x1 x2 x3:=by kernel_rfl
noncomputable def p62_L3 (n:Nat):Nat→Int→Int→(List NT)→Int→Option R62
 | 0,_,_,_,_=>none
 | m + 1,x0,x1,x2,x3=>st62_L3 n (p62_L3 n m) x0 x1 x2 x3
noncomputable def p62 (n:Nat) (a:List NT):Option R62:=st62_top n (p62_L3 n n) a
theorem t62_L3 (n:Nat):∀ (m3:Nat) (x0:Int) (x1:Int) (x2:List NT) (x3:Int),at62 n (.head 3) [m3] (sh62_L3 x0 x1 x2 x3)=p62_L3 n m3 x0 x1 x2 x3:=by
 intro m
 induction m with
 | zero=>intros; rw [e62_L3_0]; rfl
 | succ m ih =>
  intros
  rw [e62_L3]
  try simp only [ih]
  rfl
theorem F62_eq (n:Nat) (a:List NT):runF TT G62 an62 Try.f62 c62 ps62 rs62 n (a,())=p62 n a:=by
 rw [e62_top]
 simp only [t62_L3]
 try rfl
noncomputable def q62 (n:Nat) (x:argsD ps62):Option R62:=p62 n x.1
noncomputable def Sm62:Sm:=⟨ps62,rs62,false,q62⟩
theorem holds62 (hg:GamOK Try.prog G62):Holds Try.prog 62 Sm62:=by
 have:=h0_62 hg
 have e:(runF TT G62 an62 Try.f62 c62 ps62 rs62)=q62:=by
  funext n x
  exact F62_eq n x.1
 rw [e] at this
 exact this
theorem gam62:GamOK Try.prog G62:=by
 intro f s h
 unfold G62 at h
 split at h
 ·injection h with h; subst h; exact ⟨⟨Try.f114,c114,Try.func114,by kernel_rfl,by decide +kernel⟩,hh114⟩
 ·injection h with h; subst h; exact ⟨⟨Try.f115,c115,Try.func115,by kernel_rfl,by decide +kernel⟩,hh115⟩
 ·cases h
theorem hh62:Holds Try.prog 62 Sm62:=holds62 gam62
end Go.Proofs.Ytbjgiioppmkpiaa.Rx.S

namespace Go.Proofs.Ytbjgiioppmkpiaa.Rx.S
open Go Go.RowKit Go.Proofs
set_option maxRecDepth 100000
noncomputable def c107:Code:=(Try.f107.body.getD .skip)
def an107:An:=⟨fun _=>⟨[],[]⟩,fun _ _=>none⟩
abbrev ps107:List PK:=[.val i64 false,.val i64 false]
abbrev rs107:List RK:=[.val i64 false]
abbrev R107:=retsD rs107 × outsD ps107
noncomputable def G107:Gam:=fun _=>none
theorem h0_107 (hg:GamOK Try.prog G107):Holds Try.prog 107 ⟨ps107,rs107,false,runF TT G107 an107 Try.f107 c107 ps107 rs107⟩:=holds_of tt_ok hg mixed Try.func107 (by kernel_rfl) (by rfl) (by decide +kernel)
noncomputable def st107_top (n:Nat) (a:Int) (b:Int):Option R107 :=
 cond (decide ((0:Int)≤Go.IntKind.i64.wrap ((3:Int) * Go.IntKind.i64.wrap ((2:Int) - b)))) (some ((Go.IntKind.i64.wrap (↑(BitVec.ofInt Go.IntKind.i64.bits (a.fdiv ((2:Int) ^ min (Go.IntKind.i64.wrap ((3:Int) * Go.IntKind.i64.wrap ((2:Int) - b))).toNat Go.IntKind.i64.bits)) &&& BitVec.ofInt Go.IntKind.i64.bits (7:Int)).toNat:Int),()),())) (none)
theorem e107_top (n:Nat) (a:Int) (b:Int):runF TT G107 an107 Try.f107 c107 ps107 rs107 n (a,b,())=st107_top n a b:=by kernel_rfl
noncomputable def p107 (n:Nat) (a:Int) (b:Int):Option R107:=st107_top n a b
theorem F107_eq (n:Nat) (a:Int) (b:Int):runF TT G107 an107 Try.f107 c107 ps107 rs107 n (a,b,())=p107 n a b:=by
 rw [e107_top]
 skip
 try rfl
noncomputable def q107 (n:Nat) (x:argsD ps107):Option R107:=p107 n x.1 x.2.1
noncomputable def Sm107:Sm:=⟨ps107,rs107,false,q107⟩
theorem holds107 (hg:GamOK Try.prog G107):Holds Try.prog 107 Sm107:=by
 have:=h0_107 hg
 have e:(runF TT G107 an107 Try.f107 c107 ps107 rs107)=q107:=by
  funext n x
  exact F107_eq n x.1 x.2.1
 rw [e] at this
 exact this
theorem gam107:GamOK Try.prog G107:=fun _ _ h=>by cases h
theorem hh107:Holds Try.prog 107 Sm107:=holds107 gam107
end Go.Proofs.Ytbjgiioppmkpiaa.Rx.S

namespace Go.Proofs.Ytbjgiioppmkpiaa.Rx.S
open Go Go.RowKit Go.Proofs
set_option maxRecDepth 100000
noncomputable def c141:Code:=(Try.f141.body.getD .skip)
def an141:An:=⟨fun r=>match r with | 2=>⟨[0,1,7,8],[]⟩ | _=>⟨[],[]⟩,fun _ _=>none⟩
abbrev ps141:List PK:=[.val (.row 3 i64) false,.val i64 false]
abbrev rs141:List RK:=[.val i64 false]
abbrev R141:=retsD rs141 × outsD ps141
noncomputable def G141:Gam:=fun _=>none
theorem h0_141 (hg:GamOK Try.prog G141):Holds Try.prog 141 ⟨ps141,rs141,false,runF TT G141 an141 Try.f141 c141 ps141 rs141⟩:=holds_of tt_ok hg mixed Try.func141 (by kernel_rfl) (by rfl) (by decide +kernel)
noncomputable def at141:Nat→Pt→List Nat→St→Option R141:=atF TT G141 an141 Try.f141 c141 _ _
def sh141_L2 (x0:List Int) (x1:Int) (x2:Int) (x3:Int):St:=(St.mk ((AV.one (SV.con (⟨3,Ty.int Go.IntKind.i64,x0⟩:Rw))) :: ((AV.one (SV.int (Go.IntKind.i64) x1)) :: (AV.undef :: (AV.undef :: (AV.undef :: (AV.undef :: (AV.undef :: ((AV.one (SV.int (Go.IntKind.i64) x2)) :: ((AV.one (SV.int (Go.IntKind.i64) x3)) :: (AV.undef :: (AV.undef :: (AV.undef :: (AV.undef :: (AV.undef :: (AV.undef :: (AV.undef :: (AV.undef :: (AV.undef :: (AV.undef :: []))))))))))))))))))) [])
noncomputable def st141_top (n:Nat) (lL2:(List Int)→Int→Int→Int→Option R141) (a:List Int) (b:Int):Option R141 :=
 lL2 (a) (b) ((↑a.length:Int)) ((0:Int))
noncomputable def st141_L2 (n:Nat) (lL2:(List Int)→Int→Int→Int→Option R141) (x0:List Int) (x1:Int) (x2:Int) (x3:Int):Option R141 :=
 cond (decide (x3 < x2)) (cond (decide ((0:Int)≤x3)) (cond (decide (x3 < (↑x0.length:Int))) (cond (decide (x1=x0.getD x3.toNat (0:Int))) (some ((x3,()),())) (lL2 (x0) (x1) (x2) (Go.IntKind.i64.wrap (x3 + (1:Int))))) (none)) (none)) (some (((-1:Int),()),()))
theorem e141_top (n:Nat) (a:List Int) (b:Int):runF TT G141 an141 Try.f141 c141 ps141 rs141 n (a,b,())=st141_top n (fun x0 x1 x2 x3=>at141 n (.head 2) [n] (sh141_L2 x0 x1 x2 x3)) a b:=by kernel_rfl
theorem e141_L2_0 (n:Nat) (x0:List Int) (x1:Int) (x2:Int) (x3:Int):at141 n (.head 2) [0] (sh141_L2 x0 x1 x2 x3)=none:=by kernel_rfl
theorem e141_L2 (n:Nat) (m2:Nat) (x0:List Int) (x1:Int) (x2:Int) (x3:Int):at141 n (.head 2) [m2 + 1] (sh141_L2 x0 x1 x2 x3)=st141_L2 n (fun x0 x1 x2 x3=>at141 n (.head 2) [m2] (sh141_L2 x0 x1 x2 x3)) x0 x1 x2 x3:=by kernel_rfl
noncomputable def p141_L2 (n:Nat):Nat→(List Int)→Int→Int→Int→Option R141
 | 0,_,_,_,_=>none
 | m + 1,x0,x1,x2,x3=>st141_L2 n (p141_L2 n m) x0 x1 x2 x3
noncomputable def p141 (n:Nat) (a:List Int) (b:Int):Option R141:=st141_top n (p141_L2 n n) a b
theorem t141_L2 (n:Nat):∀ (m2:Nat) (x0:List Int) (x1:Int) (x2:Int) (x3:Int),at141 n (.head 2) [m2] (sh141_L2 x0 x1 x2 x3)=p141_L2 n m2 x0 x1 x2 x3:=by
 intro m
 induction m with
 | zero=>intros; rw [e141_L2_0]; rfl
 | succ m ih =>
  intros
  rw [e141_L2]
  try simp only [ih]
  rfl
theorem F141_eq (n:Nat) (a:List Int) (b:Int):runF TT G141 an141 Try.f141 c141 ps141 rs141 n (a,b,())=p141 n a b:=by
 rw [e141_top]
 simp only [t141_L2]
 try rfl
noncomputable def q141 (n:Nat) (x:argsD ps141):Option R141:=p141 n x.1 x.2.1
noncomputable def Sm141:Sm:=⟨ps141,rs141,false,q141⟩
theorem holds141 (hg:GamOK Try.prog G141):Holds Try.prog 141 Sm141:=by
 have:=h0_141 hg
 have e:(runF TT G141 an141 Try.f141 c141 ps141 rs141)=q141:=by
  funext n x
  exact F141_eq n x.1 x.2.1
 rw [e] at this
 exact this
theorem gam141:GamOK Try.prog G141:=fun _ _ h=>by cases h
theorem hh141:Holds Try.prog 141 Sm141:=holds141 gam141
end Go.Proofs.Ytbjgiioppmkpiaa.Rx.S

namespace Go.Proofs.Ytbjgiioppmkpiaa.Rx.S
open Go Go.RowKit Go.Proofs
set_option maxRecDepth 100000
noncomputable def c108:Code:=(Try.f108.body.getD .skip)
def an108:An:=⟨fun _=>⟨[],[]⟩,fun _ _=>none⟩
abbrev ps108:List PK:=[.val (.row 3 i64) false,.val i64 false]
abbrev rs108:List RK:=[.val .bool false]
abbrev R108:=retsD rs108 × outsD ps108
noncomputable def G108:Gam:=fun f=>match f with | 141=>some Sm141 | _=>none
theorem h0_108 (hg:GamOK Try.prog G108):Holds Try.prog 108 ⟨ps108,rs108,false,runF TT G108 an108 Try.f108 c108 ps108 rs108⟩:=holds_of tt_ok hg mixed Try.func108 (by kernel_rfl) (by rfl) (by decide +kernel)
noncomputable def st108_top (n:Nat) (a:List Int) (b:Int):Option R108 :=
 (q141 n (a,b,())).bind fun r0=>some ((decide ((0:Int)≤r0.1.1),()),())
theorem e108_top (n:Nat) (a:List Int) (b:Int):runF TT G108 an108 Try.f108 c108 ps108 rs108 n (a,b,())=st108_top n a b:=by kernel_rfl
noncomputable def p108 (n:Nat) (a:List Int) (b:Int):Option R108:=st108_top n a b
theorem F108_eq (n:Nat) (a:List Int) (b:Int):runF TT G108 an108 Try.f108 c108 ps108 rs108 n (a,b,())=p108 n a b:=by
 rw [e108_top]
 skip
 try rfl
noncomputable def q108 (n:Nat) (x:argsD ps108):Option R108:=p108 n x.1 x.2.1
noncomputable def Sm108:Sm:=⟨ps108,rs108,false,q108⟩
theorem holds108 (hg:GamOK Try.prog G108):Holds Try.prog 108 Sm108:=by
 have:=h0_108 hg
 have e:(runF TT G108 an108 Try.f108 c108 ps108 rs108)=q108:=by
  funext n x
  exact F108_eq n x.1 x.2.1
 rw [e] at this
 exact this
theorem gam108:GamOK Try.prog G108:=by
 intro f s h
 unfold G108 at h
 split at h
 ·injection h with h; subst h; exact ⟨⟨Try.f141,c141,Try.func141,by kernel_rfl,by decide +kernel⟩,hh141⟩
 ·cases h
theorem hh108:Holds Try.prog 108 Sm108:=holds108 gam108
end Go.Proofs.Ytbjgiioppmkpiaa.Rx.S

namespace Go.Proofs.Ytbjgiioppmkpiaa.Rx.S
open Go Go.RowKit Go.Proofs
set_option maxRecDepth 100000
noncomputable def c48:Code:=(Try.f48.body.getD .skip)
def an48:An:=⟨fun _=>⟨[],[]⟩,fun _ _=>none⟩
abbrev ps48:List PK:=[.val tCr true,.val i64 false,.val i64 false,.val i64 false,.val i64 false]
abbrev rs48:List RK:=[.val .bool false]
abbrev R48:=retsD rs48 × outsD ps48
noncomputable def G48:Gam:=fun f=>match f with | 61=>some Sm61 | 79=>some Sm79 | 107=>some Sm107 | 108=>some Sm108 | _=>none
theorem h0_48 (hg:GamOK Try.prog G48):Holds Try.prog 48 ⟨ps48,rs48,false,runF TT G48 an48 Try.f48 c48 ps48 rs48⟩:=holds_of tt_ok hg mixed Try.func48 (by kernel_rfl) (by rfl) (by decide +kernel)
noncomputable def st48_top (n:Nat) (a:Int × Int × List Int) (b:Int) (c:Int) (d:Int) (e:Int):Option R48 :=
 (q79 n ((a.1,a.2.1,a.2.2),())).bind fun r0=>cond (!r0.1.1) (some ((false,()),())) ((q61 n (b,(0:Int),(9:Int),())).bind fun r1=>cond (!r1.1.1) (some ((false,()),())) ((q61 n (c,(0:Int),(9:Int),())).bind fun r2=>cond (!r2.1.1) (some ((false,()),())) ((q61 n (d,(0:Int),(511:Int),())).bind fun r3=>cond (!r3.1.1) (some ((false,()),())) ((q61 n (e,(1:Int),(7:Int),())).bind fun r4=>cond (!r4.1.1) (some ((false,()),())) (cond (decide (a.1=(0:Int))) (cond (decide (Go.IntKind.i64.wrap (↑(BitVec.ofInt Go.IntKind.i64.bits e &&& BitVec.ofInt Go.IntKind.i64.bits (1:Int)).toNat:Int)=(0:Int))) (some ((true,()),())) ((q107 n (d,(0:Int),())).bind fun r5=>(q107 n (d,(1:Int),())).bind fun r6=>(q107 n (d,(2:Int),())).bind fun r7=>some ((decide (Go.IntKind.i64.wrap (↑(BitVec.ofInt Go.IntKind.i64.bits (Go.IntKind.i64.wrap (↑(BitVec.ofInt Go.IntKind.i64.bits (Go.IntKind.i64.wrap (↑(BitVec.ofInt Go.IntKind.i64.bits r5.1.1|||BitVec.ofInt Go.IntKind.i64.bits r6.1.1).toNat:Int))|||BitVec.ofInt Go.IntKind.i64.bits r7.1.1).toNat:Int)) &&& BitVec.ofInt Go.IntKind.i64.bits (1:Int)).toNat:Int)=(1:Int)),()),()))) (cond (decide (a.1=b)) ((q107 n (d,(0:Int),())).bind fun r8=>some ((decide (Go.IntKind.i64.wrap (↑(BitVec.ofInt Go.IntKind.i64.bits r8.1.1 &&& BitVec.ofInt Go.IntKind.i64.bits e).toNat:Int)=e),()),())) ((q108 n (a.2.2,c,())).bind fun r9=>cond (r9.1.1) ((q107 n (d,(1:Int),())).bind fun r10=>some ((decide (Go.IntKind.i64.wrap (↑(BitVec.ofInt Go.IntKind.i64.bits r10.1.1 &&& BitVec.ofInt Go.IntKind.i64.bits e).toNat:Int)=e),()),())) ((q107 n (d,(2:Int),())).bind fun r11=>some ((decide (Go.IntKind.i64.wrap (↑(BitVec.ofInt Go.IntKind.i64.bits r11.1.1 &&& BitVec.ofInt Go.IntKind.i64.bits e).toNat:Int)=e),()),())))))))))
theorem e48_top (n:Nat) (a:Int × Int × List Int) (b:Int) (c:Int) (d:Int) (e:Int):runF TT G48 an48 Try.f48 c48 ps48 rs48 n (a,b,c,d,e,())=st48_top n a b c d e:=by kernel_rfl
noncomputable def p48 (n:Nat) (a:Int × Int × List Int) (b:Int) (c:Int) (d:Int) (e:Int):Option R48:=st48_top n a b c d e
theorem F48_eq (n:Nat) (a:Int × Int × List Int) (b:Int) (c:Int) (d:Int) (e:Int):runF TT G48 an48 Try.f48 c48 ps48 rs48 n (a,b,c,d,e,())=p48 n a b c d e:=by
 rw [e48_top]
 skip
 try rfl
noncomputable def q48 (n:Nat) (x:argsD ps48):Option R48:=p48 n x.1 x.2.1 x.2.2.1 x.2.2.2.1 x.2.2.2.2.1
noncomputable def Sm48:Sm:=⟨ps48,rs48,false,q48⟩
theorem holds48 (hg:GamOK Try.prog G48):Holds Try.prog 48 Sm48:=by
 have:=h0_48 hg
 have e:(runF TT G48 an48 Try.f48 c48 ps48 rs48)=q48:=by
  funext n x
  exact F48_eq n x.1 x.2.1 x.2.2.1 x.2.2.2.1 x.2.2.2.2.1
 rw [e] at this
 exact this
theorem gam48:GamOK Try.prog G48:=by
 intro f s h
 unfold G48 at h
 split at h
 ·injection h with h; subst h; exact ⟨⟨Try.f61,c61,Try.func61,by kernel_rfl,by decide +kernel⟩,hh61⟩
 ·injection h with h; subst h; exact ⟨⟨Try.f79,c79,Try.func79,by kernel_rfl,by decide +kernel⟩,hh79⟩
 ·injection h with h; subst h; exact ⟨⟨Try.f107,c107,Try.func107,by kernel_rfl,by decide +kernel⟩,hh107⟩
 ·injection h with h; subst h; exact ⟨⟨Try.f108,c108,Try.func108,by kernel_rfl,by decide +kernel⟩,hh108⟩
 ·cases h
theorem hh48:Holds Try.prog 48 Sm48:=holds48 gam48
end Go.Proofs.Ytbjgiioppmkpiaa.Rx.S

namespace Go.Proofs.Ytbjgiioppmkpiaa.Rx.S
open Go Go.RowKit Go.Proofs
set_option maxRecDepth 100000
noncomputable def c72:Code:=(Try.f72.body.getD .skip)
def an72:An:=⟨fun _=>⟨[],[]⟩,fun _ _=>none⟩
abbrev ps72:List PK:=[.val (tIn 100) true,.val tCr true,.val i64 false]
abbrev rs72:List RK:=[.val .bool false]
abbrev R72:=retsD rs72 × outsD ps72
noncomputable def G72:Gam:=fun f=>match f with | 48=>some Sm48 | _=>none
theorem h0_72 (hg:GamOK Try.prog G72):Holds Try.prog 72 ⟨ps72,rs72,false,runF TT G72 an72 Try.f72 c72 ps72 rs72⟩:=holds_of tt_ok hg mixed Try.func72 (by kernel_rfl) (by rfl) (by decide +kernel)
noncomputable def st72_top (n:Nat) (a:NT) (b:Int × Int × List Int) (c:Int):Option R72 :=
 (q48 n ((b.1,b.2.1,b.2.2),a.2.2.1,a.2.2.2.1,a.2.1,c,())).bind fun r0=>some ((r0.1.1,()),())
theorem e72_top (n:Nat) (a:NT) (b:Int × Int × List Int) (c:Int):runF TT G72 an72 Try.f72 c72 ps72 rs72 n (a,b,c,())=st72_top n a b c:=by kernel_rfl
noncomputable def p72 (n:Nat) (a:NT) (b:Int × Int × List Int) (c:Int):Option R72:=st72_top n a b c
theorem F72_eq (n:Nat) (a:NT) (b:Int × Int × List Int) (c:Int):runF TT G72 an72 Try.f72 c72 ps72 rs72 n (a,b,c,())=p72 n a b c:=by
 rw [e72_top]
 skip
 try rfl
noncomputable def q72 (n:Nat) (x:argsD ps72):Option R72:=p72 n x.1 x.2.1 x.2.2.1
noncomputable def Sm72:Sm:=⟨ps72,rs72,false,q72⟩
theorem holds72 (hg:GamOK Try.prog G72):Holds Try.prog 72 Sm72:=by
 have:=h0_72 hg
 have e:(runF TT G72 an72 Try.f72 c72 ps72 rs72)=q72:=by
  funext n x
  exact F72_eq n x.1 x.2.1 x.2.2.1
 rw [e] at this
 exact this
theorem gam72:GamOK Try.prog G72:=by
 intro f s h
 unfold G72 at h
 split at h
 ·injection h with h; subst h; exact ⟨⟨Try.f48,c48,Try.func48,by kernel_rfl,by decide +kernel⟩,hh48⟩
 ·cases h
theorem hh72:Holds Try.prog 72 Sm72:=holds72 gam72
end Go.Proofs.Ytbjgiioppmkpiaa.Rx.S

namespace Go.Proofs.Ytbjgiioppmkpiaa.Rx.S
open Go Go.RowKit Go.Proofs
set_option maxRecDepth 100000
noncomputable def c53:Code:=(Try.f53.body.getD .skip)
def an53:An:=⟨fun _=>⟨[],[]⟩,fun _ _=>none⟩
abbrev ps53:List PK:=[.val tFs true,.val tCr true,.val i64 false,.val i64 false,.val .str false]
abbrev rs53:List RK:=[.own tFs true,.val i64 false]
abbrev R53:=retsD rs53 × outsD ps53
noncomputable def G53:Gam:=fun f=>match f with | 60=>some Sm60 | 70=>some Sm70 | 62=>some Sm62 | 73=>some Sm73 | 72=>some Sm72 | 105=>some Sm105 | _=>none
theorem h0_53 (hg:GamOK Try.prog G53):Holds Try.prog 53 ⟨ps53,rs53,false,runF TT G53 an53 Try.f53 c53 ps53 rs53⟩:=holds_of tt_ok hg mixed Try.func53 (by kernel_rfl) (by rfl) (by decide +kernel)
noncomputable def st53_top (n:Nat) (a:List NT) (b:Int × Int × List Int) (c:Int) (d:Int) (e:ByteArray):Option R53 :=
 (q60 n (a,(b.1,b.2.1,b.2.2),[c,d],())).bind fun r0=>cond (!r0.1.1) (some (([],((1:Int),())),())) ((q70 n (e,())).bind fun r1=>cond (!r1.1.1) (some (([],((1:Int),())),())) ((q62 n (a,())).bind fun r2=>cond (decide ((0:Int)≤d)) (cond (decide (d < (↑a.length:Int))) ((q73 n (((a.getD d.toNat ZN).1,(a.getD d.toNat ZN).2.1,(a.getD d.toNat ZN).2.2.1,(a.getD d.toNat ZN).2.2.2.1,(a.getD d.toNat ZN).2.2.2.2.1,(a.getD d.toNat ZN).2.2.2.2.2.1,(a.getD d.toNat ZN).2.2.2.2.2.2.1,(a.getD d.toNat ZN).2.2.2.2.2.2.2.1,(a.getD d.toNat ZN).2.2.2.2.2.2.2.2),e,())).bind fun r3=>cond (decide ((0:Int)≤c)) (cond (decide (c < (↑a.length:Int))) (cond (!decide ((a.getD c.toNat ZN).1=(1:Int))) (some ((r2.1.1,((4:Int),())),())) (cond (!decide ((a.getD d.toNat ZN).1=(2:Int))) (some ((r2.1.1,((4:Int),())),())) ((q72 n (((a.getD d.toNat ZN).1,(a.getD d.toNat ZN).2.1,(a.getD d.toNat ZN).2.2.1,(a.getD d.toNat ZN).2.2.2.1,(a.getD d.toNat ZN).2.2.2.2.1,(a.getD d.toNat ZN).2.2.2.2.2.1,(a.getD d.toNat ZN).2.2.2.2.2.2.1,(a.getD d.toNat ZN).2.2.2.2.2.2.2.1,(a.getD d.toNat ZN).2.2.2.2.2.2.2.2),(b.1,b.2.1,b.2.2),(3:Int),())).bind fun r4=>cond (!r4.1.1) (some ((r2.1.1,((5:Int),())),())) (cond (r3.1.2.1) (some ((r2.1.1,((3:Int),())),())) (cond (decide ((↑(List.length (a.getD d.toNat ZN).2.2.2.2.2.2.2.2):Int)=(6:Int))) (some ((r2.1.1,((7:Int),())),())) (cond (decide ((0:Int)≤c)) (cond (decide (c < (↑a.length:Int))) (cond (decide ((a.getD c.toNat ZN).2.2.2.2.1=(99:Int))) (some ((r2.1.1,((7:Int),())),())) ((q105 n (r2.1.1,d,e,c,())).bind fun r5=>some ((r5.2.1,((0:Int),())),()))) (none)) (none))))))) (none)) (none)) (none)) (none)))
theorem e53_top (n:Nat) (a:List NT) (b:Int × Int × List Int) (c:Int) (d:Int) (e:ByteArray):runF TT G53 an53 Try.f53 c53 ps53 rs53 n (a,b,c,d,e,())=st53_top n a b c d e:=by kernel_rfl
noncomputable def p53 (n:Nat) (a:List NT) (b:Int × Int × List Int) (c:Int) (d:Int) (e:ByteArray):Option R53:=st53_top n a b c d e
theorem F53_eq (n:Nat) (a:List NT) (b:Int × Int × List Int) (c:Int) (d:Int) (e:ByteArray):runF TT G53 an53 Try.f53 c53 ps53 rs53 n (a,b,c,d,e,())=p53 n a b c d e:=by
 rw [e53_top]
 skip
 try rfl
noncomputable def q53 (n:Nat) (x:argsD ps53):Option R53:=p53 n x.1 x.2.1 x.2.2.1 x.2.2.2.1 x.2.2.2.2.1
noncomputable def Sm53:Sm:=⟨ps53,rs53,false,q53⟩
theorem holds53 (hg:GamOK Try.prog G53):Holds Try.prog 53 Sm53:=by
 have:=h0_53 hg
 have e:(runF TT G53 an53 Try.f53 c53 ps53 rs53)=q53:=by
  funext n x
  exact F53_eq n x.1 x.2.1 x.2.2.1 x.2.2.2.1 x.2.2.2.2.1
 rw [e] at this
 exact this
theorem gam53:GamOK Try.prog G53:=by
 intro f s h
 unfold G53 at h
 split at h
 ·injection h with h; subst h; exact ⟨⟨Try.f60,c60,Try.func60,by kernel_rfl,by decide +kernel⟩,hh60⟩
 ·injection h with h; subst h; exact ⟨⟨Try.f70,c70,Try.func70,by kernel_rfl,by decide +kernel⟩,hh70⟩
 ·injection h with h; subst h; exact ⟨⟨Try.f62,c62,Try.func62,by kernel_rfl,by decide +kernel⟩,hh62⟩
 ·injection h with h; subst h; exact ⟨⟨Try.f73,c73,Try.func73,by kernel_rfl,by decide +kernel⟩,hh73⟩
 ·injection h with h; subst h; exact ⟨⟨Try.f72,c72,Try.func72,by kernel_rfl,by decide +kernel⟩,hh72⟩
 ·injection h with h; subst h; exact ⟨⟨Try.f105,c105,Try.func105,by kernel_rfl,by decide +kernel⟩,hh105⟩
 ·cases h
theorem hh53:Holds Try.prog 53 Sm53:=holds53 gam53
end Go.Proofs.Ytbjgiioppmkpiaa.Rx.S

namespace Go.Proofs.Ytbjgiioppmkpiaa.Rx.S
open Go Go.RowKit Go.Proofs
set_option maxRecDepth 100000
noncomputable def c76:Code:=(Try.f76.body.getD .skip)
def an76:An:=⟨fun r=>match r with | 2=>⟨[0,3],[]⟩ | _=>⟨[],[]⟩,fun _ _=>none⟩
abbrev ps76:List PK:=[.val .str false]
abbrev rs76:List RK:=[.val .bool false]
abbrev R76:=retsD rs76 × outsD ps76
noncomputable def G76:Gam:=fun f=>match f with | 66=>some Sm66 | _=>none
theorem h0_76 (hg:GamOK Try.prog G76):Holds Try.prog 76 ⟨ps76,rs76,false,runF TT G76 an76 Try.f76 c76 ps76 rs76⟩:=holds_of tt_ok hg mixed Try.func76 (by kernel_rfl) (by rfl) (by decide +kernel)
noncomputable def at76:Nat→Pt→List Nat→St→Option R76:=atF TT G76 an76 Try.f76 c76 _ _
def sh76_L2 (x0:ByteArray) (x1:Int):St:=(St.mk ((AV.one (SV.str x0)) :: (AV.undef :: (AV.undef :: ((AV.one (SV.int (Go.IntKind.i64) x1)) :: (AV.undef :: (AV.undef :: (AV.undef :: (AV.undef :: (AV.undef :: (AV.undef :: (AV.undef :: (AV.undef :: (AV.undef :: (AV.undef :: (AV.undef :: (AV.undef :: (AV.undef :: (AV.undef :: (AV.undef :: (AV.undef :: (AV.undef :: (AV.undef :: (AV.undef :: []))))))))))))))))))))))) [])
noncomputable def st76_top (n:Nat) (lL2:ByteArray→Int→Option R76) (a:ByteArray):Option R76 :=
 lL2 (a) ((0:Int))
noncomputable def st76_L2 (n:Nat) (lL2:ByteArray→Int→Option R76) (x0:ByteArray) (x1:Int):Option R76 :=
 cond (decide (x1 < (↑x0.size:Int))) (cond (decide ((0:Int)≤x1)) (cond (decide (x1 < (↑x0.size:Int))) (cond (decide ((↑(x0.data.toList.getD x1.toNat (0:UInt8)).toNat:Int) < (97:Int))) (some ((false,()),())) (cond (decide ((0:Int)≤x1)) (cond (decide (x1 < (↑x0.size:Int))) (cond (decide ((122:Int) < (↑(x0.data.toList.getD x1.toNat (0:UInt8)).toNat:Int))) (some ((false,()),())) (lL2 (x0) (Go.IntKind.i64.wrap (x1 + (1:Int))))) (none)) (none))) (none)) (none)) ((q66 n ((↑x0.size:Int),(1:Int),(3:Int),())).bind fun r1=>some ((r1.1.1,()),()))
theorem e76_top (n:Nat) (a:ByteArray):runF TT G76 an76 Try.f76 c76 ps76 rs76 n (a,())=st76_top n (fun x0 x1=>at76 n (.head 2) [n] (sh76_L2 x0 x1)) a:=by kernel_rfl
theorem e76_L2_0 (n:Nat) (x0:ByteArray) (x1:Int):at76 n (.head 2) [0] (sh76_L2 x0 x1)=none:=by kernel_rfl
theorem e76_L2 (n:Nat) (m2:Nat) (x0:ByteArray) (x1:Int):at76 n (.head 2) [m2 + 1] (sh76_L2 x0 x1)=st76_L2 n (fun x0 x1=>at76 n (.head 2) [m2] (sh76_L2 x0 x1)) x0 x1:=by kernel_rfl
noncomputable def p76_L2 (n:Nat):Nat→ByteArray→Int→Option R76
 | 0,_,_=>none
 | m + 1,x0,x1=>st76_L2 n (p76_L2 n m) x0 x1
noncomputable def p76 (n:Nat) (a:ByteArray):Option R76:=st76_top n (p76_L2 n n) a
theorem t76_L2 (n:Nat):∀ (m2:Nat) (x0:ByteArray) (x1:Int),at76 n (.head 2) [m2] (sh76_L2 x0 x1)=p76_L2 n m2 x0 x1:=by
 intro m
 induction m with
 | zero=>intros; rw [e76_L2_0]; rfl
 | succ m ih =>
  intros
  rw [e76_L2]
  try simp only [ih]
  rfl
theorem F76_eq (n:Nat) (a:ByteArray):runF TT G76 an76 Try.f76 c76 ps76 rs76 n (a,())=p76 n a:=by
 rw [e76_top]
 simp only [t76_L2]
 try rfl
noncomputable def q76 (n:Nat) (x:argsD ps76):Option R76:=p76 n x.1
noncomputable def Sm76:Sm:=⟨ps76,rs76,false,q76⟩
theorem holds76 (hg:GamOK Try.prog G76):Holds Try.prog 76 Sm76:=by
 have:=h0_76 hg
 have e:(runF TT G76 an76 Try.f76 c76 ps76 rs76)=q76:=by
  funext n x
  exact F76_eq n x.1
 rw [e] at this
 exact this
theorem gam76:GamOK Try.prog G76:=by
 intro f s h
 unfold G76 at h
 split at h
 ·injection h with h; subst h; exact ⟨⟨Try.f66,c66,Try.func66,by kernel_rfl,by decide +kernel⟩,hh66⟩
 ·cases h
theorem hh76:Holds Try.prog 76 Sm76:=holds76 gam76
end Go.Proofs.Ytbjgiioppmkpiaa.Rx.S

namespace Go.Proofs.Ytbjgiioppmkpiaa.Rx.S
open Go Go.RowKit Go.Proofs
set_option maxRecDepth 100000
noncomputable def c146:Code:=(Try.f146.body.getD .skip)
def an146:An:=⟨fun _=>⟨[],[]⟩,fun _ _=>none⟩
abbrev ps146:List PK:=[.val (tIn 100) true]
abbrev rs146:List RK:=[.val .bool false]
abbrev R146:=retsD rs146 × outsD ps146
noncomputable def G146:Gam:=fun _=>none
theorem h0_146 (hg:GamOK Try.prog G146):Holds Try.prog 146 ⟨ps146,rs146,false,runF TT G146 an146 Try.f146 c146 ps146 rs146⟩:=holds_of tt_ok hg mixed Try.func146 (by kernel_rfl) (by rfl) (by decide +kernel)
noncomputable def st146_top (n:Nat) (a:NT):Option R146 :=
 cond (decide (a.1=(0:Int))) (cond (decide (a.2.1=(0:Int))) (cond (decide (a.2.2.1=(0:Int))) (cond (decide (a.2.2.2.1=(0:Int))) (cond (decide (a.2.2.2.2.1=(0:Int))) (cond (decide (a.2.2.2.2.2.1=(0:Int))) (cond (!a.2.2.2.2.2.2.1) (cond (ByteArray.toList a.2.2.2.2.2.2.2.1 == (ByteArray.mk #[]).toList) (some ((decide ((↑(List.length a.2.2.2.2.2.2.2.2):Int)=(0:Int)),()),())) (some ((false,()),()))) (some ((false,()),()))) (some ((false,()),()))) (some ((false,()),()))) (some ((false,()),()))) (some ((false,()),()))) (some ((false,()),()))) (some ((false,()),()))
theorem e146_top (n:Nat) (a:NT):runF TT G146 an146 Try.f146 c146 ps146 rs146 n (a,())=st146_top n a:=by kernel_rfl
noncomputable def p146 (n:Nat) (a:NT):Option R146:=st146_top n a
theorem F146_eq (n:Nat) (a:NT):runF TT G146 an146 Try.f146 c146 ps146 rs146 n (a,())=p146 n a:=by
 rw [e146_top]
 skip
 try rfl
noncomputable def q146 (n:Nat) (x:argsD ps146):Option R146:=p146 n x.1
noncomputable def Sm146:Sm:=⟨ps146,rs146,false,q146⟩
theorem holds146 (hg:GamOK Try.prog G146):Holds Try.prog 146 Sm146:=by
 have:=h0_146 hg
 have e:(runF TT G146 an146 Try.f146 c146 ps146 rs146)=q146:=by
  funext n x
  exact F146_eq n x.1
 rw [e] at this
 exact this
theorem gam146:GamOK Try.prog G146:=fun _ _ h=>by cases h
theorem hh146:Holds Try.prog 146 Sm146:=holds146 gam146
end Go.Proofs.Ytbjgiioppmkpiaa.Rx.S

namespace Go.Proofs.Ytbjgiioppmkpiaa.Rx.S
open Go Go.RowKit Go.Proofs
set_option maxRecDepth 100000
noncomputable def c116:Code:=(Try.f116.body.getD .skip)
def an116:An:=⟨fun r=>match r with | 8=>⟨[1,3],[]⟩ | _=>⟨[],[]⟩,fun _ _=>none⟩
abbrev ps116:List PK:=[.val (tIn 100) true]
abbrev rs116:List RK:=[.val .bool false]
abbrev R116:=retsD rs116 × outsD ps116
noncomputable def G116:Gam:=fun f=>match f with | 76=>some Sm76 | 66=>some Sm66 | 118=>some Sm118 | 146=>some Sm146 | _=>none
theorem h0_116 (hg:GamOK Try.prog G116):Holds Try.prog 116 ⟨ps116,rs116,false,runF TT G116 an116 Try.f116 c116 ps116 rs116⟩:=holds_of tt_ok hg mixed Try.func116 (by kernel_rfl) (by rfl) (by decide +kernel)
noncomputable def at116:Nat→Pt→List Nat→St→Option R116:=atF TT G116 an116 Try.f116 c116 _ _
def sh116_L8 (x0:Int) (x1:Int) (x2:Int) (x3:Int) (x4:Int) (x5:Int) (x6:Int) (x7:Bool) (x8:ByteArray) (x9:List (ByteArray × Int)):St:=(St.mk (AV.undef :: ((AV.one (SV.bptr 1000000 0)) :: (AV.undef :: ((AV.one (SV.int (Go.IntKind.i64) x0)) :: (AV.undef :: (AV.undef :: (AV.undef :: (AV.undef :: (AV.undef :: (AV.undef :: (AV.undef :: (AV.undef :: (AV.undef :: (AV.undef :: (AV.undef :: (AV.undef :: (AV.undef :: (AV.undef :: (AV.undef :: (AV.undef :: (AV.undef :: (AV.undef :: (AV.undef :: (AV.undef :: (AV.undef :: (AV.undef :: (AV.undef :: (AV.undef :: (AV.undef :: (AV.undef :: (AV.undef :: (AV.undef :: (AV.undef :: (AV.undef :: (AV.undef :: (AV.undef :: (AV.undef :: (AV.undef :: (AV.undef :: (AV.undef :: (AV.undef :: (AV.undef :: (AV.undef :: (AV.undef :: (AV.undef :: (AV.undef :: (AV.undef :: (AV.undef :: (AV.undef :: (AV.undef :: (AV.undef :: (AV.undef :: (AV.undef :: (AV.undef :: (AV.undef :: (AV.undef :: (AV.undef :: (AV.undef :: (AV.undef :: (AV.undef :: (AV.undef :: (AV.undef :: (AV.undef :: (AV.undef :: (AV.undef :: (AV.undef :: (AV.undef :: (AV.undef :: (AV.undef :: (AV.undef :: (AV.undef :: (AV.undef :: (AV.undef :: (AV.undef :: (AV.undef :: (AV.undef :: (AV.undef :: (AV.undef :: (AV.undef :: (AV.undef :: (AV.undef :: (AV.undef :: (AV.undef :: (AV.undef :: (AV.undef :: (AV.undef :: (AV.undef :: (AV.undef :: (AV.undef :: (AV.undef :: (AV.undef :: (AV.undef :: (AV.undef :: (AV.undef :: (AV.undef :: (AV.undef :: (AV.undef :: (AV.undef :: (AV.undef :: (AV.undef :: (AV.undef :: (AV.undef :: (AV.undef :: (AV.undef :: (AV.undef :: (AV.undef :: (AV.undef :: (AV.undef :: (AV.undef :: (AV.undef :: (AV.undef :: (AV.undef :: (AV.undef :: (AV.undef :: (AV.undef :: (AV.undef :: (AV.undef :: []))))))))))))))))))))))))))))))))))))))))))))))))))))))))))))))))))))))))))))))))))))))))))))))))))))))))))))))))))))) ((1000000,(Ent.box ((SV.int (Go.IntKind.i64) x1) :: ((SV.int (Go.IntKind.i64) x2) :: ((SV.int (Go.IntKind.i64) x3) :: ((SV.int (Go.IntKind.i64) x4) :: ((SV.int (Go.IntKind.i64) x5) :: ((SV.int (Go.IntKind.i64) x6) :: ((SV.bool x7) :: ((SV.str x8) :: ((SV.con (⟨100,Ty.str.pair (Ty.int Go.IntKind.i64),x9⟩:Rw)) :: []))))))))))) :: []))
noncomputable def st116_top (n:Nat) (lL8:Int→Int→Int→Int→Int→Int→Int→Bool→ByteArray→(List (ByteArray × Int))→Option R116) (a:NT):Option R116 :=
 cond (decide (a.1=(0:Int))) ((q146 n ((a.1,a.2.1,a.2.2.1,a.2.2.2.1,a.2.2.2.2.1,a.2.2.2.2.2.1,a.2.2.2.2.2.2.1,a.2.2.2.2.2.2.2.1,a.2.2.2.2.2.2.2.2),())).bind fun r0=>some ((r0.1.1,()),())) ((q66 n (a.1,(1:Int),(2:Int),())).bind fun r1=>cond (!r1.1.1) (some ((false,()),())) ((q66 n (a.2.1,(0:Int),(511:Int),())).bind fun r2=>cond (!r2.1.1) (some ((false,()),())) ((q118 n (a.2.2.1,())).bind fun r3=>cond (!r3.1.1) (some ((false,()),())) ((q118 n (a.2.2.2.1,())).bind fun r4=>cond (!r4.1.1) (some ((false,()),())) ((q66 n (a.2.2.2.2.2.1,(0:Int),(99:Int),())).bind fun r5=>cond (!r5.1.1) (some ((false,()),())) ((q66 n (a.2.2.2.2.1,(0:Int),(99:Int),())).bind fun r6=>cond (!r6.1.1) (some ((false,()),())) (cond (decide ((40:Int) < (↑(ByteArray.size a.2.2.2.2.2.2.2.1):Int))) (some ((false,()),())) (cond (decide ((6:Int) < (↑(List.length a.2.2.2.2.2.2.2.2):Int))) (some ((false,()),())) (cond (decide (a.1=(2:Int))) (cond (!ByteArray.toList a.2.2.2.2.2.2.2.1 == (ByteArray.mk #[]).toList) (some ((false,()),())) (cond (a.2.2.2.2.2.2.1) (some ((false,()),())) (cond (decide (a.1=(1:Int))) (cond (decide ((0:Int) < (↑(List.length a.2.2.2.2.2.2.2.2):Int))) (some ((false,()),())) (lL8 ((0:Int)) (a.1) (a.2.1) (a.2.2.1) (a.2.2.2.1) (a.2.2.2.2.1) (a.2.2.2.2.2.1) (a.2.2.2.2.2.2.1) (a.2.2.2.2.2.2.2.1) (a.2.2.2.2.2.2.2.2))) (lL8 ((0:Int)) (a.1) (a.2.1) (a.2.2.1) (a.2.2.2.1) (a.2.2.2.2.1) (a.2.2.2.2.2.1) (a.2.2.2.2.2.2.1) (a.2.2.2.2.2.2.2.1) (a.2.2.2.2.2.2.2.2))))) (cond (decide (a.1=(1:Int))) (cond (decide ((0:Int) < (↑(List.length a.2.2.2.2.2.2.2.2):Int))) (some ((false,()),())) (lL8 ((0:Int)) (a.1) (a.2.1) (a.2.2.1) (a.2.2.2.1) (a.2.2.2.2.1) (a.2.2.2.2.2.1) (a.2.2.2.2.2.2.1) (a.2.2.2.2.2.2.2.1) (a.2.2.2.2.2.2.2.2))) (lL8 ((0:Int)) (a.1) (a.2.1) (a.2.2.1) (a.2.2.2.1) (a.2.2.2.2.1) (a.2.2.2.2.2.1) (a.2.2.2.2.2.2.1) (a.2.2.2.2.2.2.2.1) (a.2.2.2.2.2.2.2.2))))))))))))
noncomputable def st116_L8 (n:Nat) (lL8:Int→Int→Int→Int→Int→Int→Int→Bool→ByteArray→(List (ByteArray × Int))→Option R116) (x0:Int) (x1:Int) (x2:Int) (x3:Int) (x4:Int) (x5:Int) (x6:Int) (x7:Bool) (x8:ByteArray) (x9:List (ByteArray × Int)):Option R116 :=
 cond (decide (x0 < (↑x9.length:Int))) (cond (decide ((0:Int)≤x0)) (cond (decide (x0 < (↑x9.length:Int))) ((q76 n ((x9.getD x0.toNat (ByteArray.empty,(0:Int))).1,())).bind fun r8=>cond (!r8.1.1) (some ((false,()),())) ((q66 n ((x9.getD x0.toNat (ByteArray.empty,(0:Int))).2,(1:Int),(9:Int),())).bind fun r9=>cond (!r9.1.1) (some ((false,()),())) (cond (decide ((0:Int) < x0)) (cond (decide ((0:Int)≤Go.IntKind.i64.wrap (x0 - (1:Int)))) (cond (decide (Go.IntKind.i64.wrap (x0 - (1:Int)) < (↑x9.length:Int))) (cond (!Go.Op.bytesLess (ByteArray.toList (x9.getD (Go.IntKind.i64.wrap (x0 - (1:Int))).toNat (ByteArray.empty,(0:Int))).1) (ByteArray.toList (x9.getD x0.toNat (ByteArray.empty,(0:Int))).1)) (some ((false,()),())) (lL8 (Go.IntKind.i64.wrap (x0 + (1:Int))) (x1) (x2) (x3) (x4) (x5) (x6) (x7) (x8) (x9))) (none)) (none)) (lL8 (Go.IntKind.i64.wrap (x0 + (1:Int))) (x1) (x2) (x3) (x4) (x5) (x6) (x7) (x8) (x9))))) (none)) (none)) (some ((true,()),()))
theorem e116_top (n:Nat) (a:NT):runF TT G116 an116 Try.f116 c116 ps116 rs116 n (a,())=st116_top n (fun x0 x1 x2 x3 x4 x5 x6 x7 x8 x9=>at116 n (.head 8) [n] (sh116_L8 x0 x1 x2 x3 x4 x5 x6 x7 x8 x9)) a:=by kernel_rfl
theorem e116_L8_0 (n:Nat) (x0:Int) (x1:Int) (x2:Int) (x3:Int) (x4:Int) (x5:Int) (x6:Int) (x7:Bool) (x8:ByteArray) (x9:List (ByteArray × Int)):at116 n (.head 8) [0] (sh116_L8 x0 x1 x2 x3 x4 x5 x6 x7 x8 x9)=none:=by kernel_rfl
theorem e116_L8 (n:Nat) (m8:Nat) (x0:Int) (x1:Int) (x2:Int) (x3:Int) (x4:Int) (x5:Int) (x6:Int) (x7:Bool) (x8:ByteArray) (x9:List (ByteArray × Int)):at116 n (.head 8) [m8 + 1] (sh116_L8 x0 x1 x2 x3 x4 x5 x6 x7 x8 x9)=st116_L8 n (fun x0 x1 x2 x3 x4 x5 x6 x7 x8 x9=>at116 n (.head 8) [m8] (sh116_L8 x0 x1 x2 x3 x4 x5 x6 x7 x8 x9)) x0 x1 x2 x3 x4 x5 x6 x7 x8 x9:=by kernel_rfl
noncomputable def p116_L8 (n:Nat):Nat→Int→Int→Int→Int→Int→Int→Int→Bool→ByteArray→(List (ByteArray × Int))→Option R116
 | 0,_,_,_,_,_,_,_,_,_,_=>none
 | m + 1,x0,x1,x2,x3,x4,x5,x6,x7,x8,x9=>st116_L8 n (p116_L8 n m) x0 x1 x2 x3 x4 x5 x6 x7 x8 x9
noncomputable def p116 (n:Nat) (a:NT):Option R116:=st116_top n (p116_L8 n n) a
theorem t116_L8 (n:Nat):∀ (m8:Nat) (x0:Int) (x1:Int) (x2:Int) (x3:Int) (x4:Int) (x5:Int) (x6:Int) (x7:Bool) (x8:ByteArray) (x9:List (ByteArray × Int)),at116 n (.head 8) [m8] (sh116_L8 x0 x1 x2 x3 x4 x5 x6 x7 x8 x9)=p116_L8 n m8 x0 x1 x2 x3 x4 x5 x6 x7 x8 x9:=by
 intro m
 induction m with
 | zero=>intros; rw [e116_L8_0]; rfl
 | succ m ih =>
  intros
  rw [e116_L8]
  try simp only [ih]
  rfl
theorem F116_eq (n:Nat) (a:NT):runF TT G116 an116 Try.f116 c116 ps116 rs116 n (a,())=p116 n a:=by
 rw [e116_top]
 simp only [t116_L8]
 try rfl
noncomputable def q116 (n:Nat) (x:argsD ps116):Option R116:=p116 n x.1
noncomputable def Sm116:Sm:=⟨ps116,rs116,false,q116⟩
theorem holds116 (hg:GamOK Try.prog G116):Holds Try.prog 116 Sm116:=by
 have:=h0_116 hg
 have e:(runF TT G116 an116 Try.f116 c116 ps116 rs116)=q116:=by
  funext n x
  exact F116_eq n x.1
 rw [e] at this
 exact this
theorem gam116:GamOK Try.prog G116:=by
 intro f s h
 unfold G116 at h
 split at h
 ·injection h with h; subst h; exact ⟨⟨Try.f76,c76,Try.func76,by kernel_rfl,by decide +kernel⟩,hh76⟩
 ·injection h with h; subst h; exact ⟨⟨Try.f66,c66,Try.func66,by kernel_rfl,by decide +kernel⟩,hh66⟩
 ·injection h with h; subst h; exact ⟨⟨Try.f118,c118,Try.func118,by kernel_rfl,by decide +kernel⟩,hh118⟩
 ·injection h with h; subst h; exact ⟨⟨Try.f146,c146,Try.func146,by kernel_rfl,by decide +kernel⟩,hh146⟩
 ·cases h
theorem hh116:Holds Try.prog 116 Sm116:=holds116 gam116
end Go.Proofs.Ytbjgiioppmkpiaa.Rx.S

namespace Go.Proofs.Ytbjgiioppmkpiaa.Rx.S
open Go Go.RowKit Go.Proofs
set_option maxRecDepth 100000
noncomputable def c117:Code:=(Try.f117.body.getD .skip)
def an117:An:=⟨fun r=>match r with | 3=>⟨[1,4,5],[]⟩ | 10=>⟨[1,4,5,6,7],[]⟩ | _=>⟨[],[]⟩,fun _ _=>none⟩
abbrev ps117:List PK:=[.val tFs true]
abbrev rs117:List RK:=[.own (.row 4 .bool) false,.val .bool false]
abbrev R117:=retsD rs117 × outsD ps117
noncomputable def G117:Gam:=fun _=>none
theorem h0_117 (hg:GamOK Try.prog G117):Holds Try.prog 117 ⟨ps117,rs117,false,runF TT G117 an117 Try.f117 c117 ps117 rs117⟩:=holds_of tt_ok hg mixed Try.func117 (by kernel_rfl) (by rfl) (by decide +kernel)
noncomputable def at117:Nat→Pt→List Nat→St→Option R117:=atF TT G117 an117 Try.f117 c117 _ _
def sh117_L10 (x0:Int) (x1:Int) (x2:List NT) (x3:List Bool) (x4:List Int):St:=(St.mk (AV.undef :: ((AV.one (SV.bptr 1000000 0)) :: (AV.undef :: (AV.undef :: ((AV.one (SV.ref 1000001 0 [] Option.none)) :: ((AV.one (SV.ref 1000002 0 [] Option.none)) :: ((AV.one (SV.int (Go.IntKind.i64) x0)) :: ((AV.one (SV.int (Go.IntKind.i64) x1)) :: (AV.undef :: (AV.undef :: (AV.undef :: (AV.undef :: (AV.undef :: (AV.undef :: (AV.undef :: (AV.undef :: (AV.undef :: (AV.undef :: (AV.undef :: (AV.undef :: (AV.undef :: (AV.undef :: (AV.undef :: (AV.undef :: (AV.undef :: (AV.undef :: (AV.undef :: (AV.undef :: (AV.undef :: (AV.undef :: (AV.undef :: (AV.undef :: (AV.undef :: (AV.undef :: (AV.undef :: (AV.undef :: (AV.undef :: (AV.undef :: (AV.undef :: (AV.undef :: (AV.undef :: (AV.undef :: (AV.undef :: (AV.undef :: (AV.undef :: (AV.undef :: (AV.undef :: (AV.undef :: (AV.undef :: (AV.undef :: (AV.undef :: (AV.undef :: (AV.undef :: (AV.undef :: (AV.undef :: (AV.undef :: (AV.undef :: (AV.undef :: (AV.undef :: (AV.undef :: (AV.undef :: (AV.undef :: (AV.undef :: (AV.undef :: (AV.undef :: []))))))))))))))))))))))))))))))))))))))))))))))))))))))))))))))))) ((1000000,(Ent.box ((SV.con (⟨37,(Ty.int Go.IntKind.i64).pair ((Ty.int Go.IntKind.i64).pair ((Ty.int Go.IntKind.i64).pair ((Ty.int Go.IntKind.i64).pair ((Ty.int Go.IntKind.i64).pair ((Ty.int Go.IntKind.i64).pair (Ty.bool.pair (Ty.str.pair (Ty.row (nat_lit 100) (Ty.str.pair (Ty.int Go.IntKind.i64)))))))))),x2⟩:Rw)) :: []))) :: ((1000001,(Ent.row (⟨4,Ty.bool,x3⟩:Rw) 0 Option.none)) :: ((1000002,(Ent.row (⟨3,Ty.int Go.IntKind.i64,x4⟩:Rw) 0 Option.none)) :: []))))
def sh117_L3 (x0:List NT) (x1:List Bool) (x2:List Int):St:=(St.mk (AV.undef :: ((AV.one (SV.bptr 1000000 0)) :: (AV.undef :: (AV.undef :: ((AV.one (SV.ref 1000001 0 [] Option.none)) :: ((AV.one (SV.ref 1000002 0 [] Option.none)) :: (AV.undef :: (AV.undef :: (AV.undef :: (AV.undef :: (AV.undef :: (AV.undef :: (AV.undef :: (AV.undef :: (AV.undef :: (AV.undef :: (AV.undef :: (AV.undef :: (AV.undef :: (AV.undef :: (AV.undef :: (AV.undef :: (AV.undef :: (AV.undef :: (AV.undef :: (AV.undef :: (AV.undef :: (AV.undef :: (AV.undef :: (AV.undef :: (AV.undef :: (AV.undef :: (AV.undef :: (AV.undef :: (AV.undef :: (AV.undef :: (AV.undef :: (AV.undef :: (AV.undef :: (AV.undef :: (AV.undef :: (AV.undef :: (AV.undef :: (AV.undef :: (AV.undef :: (AV.undef :: (AV.undef :: (AV.undef :: (AV.undef :: (AV.undef :: (AV.undef :: (AV.undef :: (AV.undef :: (AV.undef :: (AV.undef :: (AV.undef :: (AV.undef :: (AV.undef :: (AV.undef :: (AV.undef :: (AV.undef :: (AV.undef :: (AV.undef :: (AV.undef :: (AV.undef :: []))))))))))))))))))))))))))))))))))))))))))))))))))))))))))))))))) ((1000000,(Ent.box ((SV.con (⟨37,(Ty.int Go.IntKind.i64).pair ((Ty.int Go.IntKind.i64).pair ((Ty.int Go.IntKind.i64).pair ((Ty.int Go.IntKind.i64).pair ((Ty.int Go.IntKind.i64).pair ((Ty.int Go.IntKind.i64).pair (Ty.bool.pair (Ty.str.pair (Ty.row (nat_lit 100) (Ty.str.pair (Ty.int Go.IntKind.i64)))))))))),x0⟩:Rw)) :: []))) :: ((1000001,(Ent.row (⟨4,Ty.bool,x1⟩:Rw) 0 Option.none)) :: ((1000002,(Ent.row (⟨3,Ty.int Go.IntKind.i64,x2⟩:Rw) 0 Option.none)) :: []))))
noncomputable def st117_top (n:Nat) (lL3:(List NT)→(List Bool)→(List Int)→Option R117) (a:List NT):Option R117 :=
 cond (decide ((↑a.length:Int) * (↑(1:Nat):Int)≤(140737488355328:Int))) (lL3 (a) (List.replicate (↑a.length:Int).toNat false) ([(0:Int)])) (none)
noncomputable def st117_L10 (n:Nat) (lL10:Int→Int→(List NT)→(List Bool)→(List Int)→Option R117) (lL3:(List NT)→(List Bool)→(List Int)→Option R117) (x0:Int) (x1:Int) (x2:List NT) (x3:List Bool) (x4:List Int):Option R117 :=
 cond (decide ((0:Int)≤x0)) (cond (decide (x0 < (↑x2.length:Int))) (cond (decide (x1 < (↑(List.length (x2.getD x0.toNat ZN).2.2.2.2.2.2.2.2):Int))) (cond (decide ((0:Int)≤x0)) (cond (decide (x0 < (↑x2.length:Int))) (cond (decide ((0:Int)≤x1)) (cond (decide (x1 < (↑(List.length (x2.getD x0.toNat ZN).2.2.2.2.2.2.2.2):Int))) (cond (decide ((0:Int)≤(List.getD (x2.getD x0.toNat ZN).2.2.2.2.2.2.2.2 x1.toNat (ByteArray.empty,(0:Int))).2)) (cond (decide ((List.getD (x2.getD x0.toNat ZN).2.2.2.2.2.2.2.2 x1.toNat (ByteArray.empty,(0:Int))).2 < (↑x2.length:Int))) (cond (decide ((x2.getD (Int.toNat (List.getD (x2.getD x0.toNat ZN).2.2.2.2.2.2.2.2 x1.toNat (ByteArray.empty,(0:Int))).2) ZN).1=(2:Int))) (cond (decide ((x4.length + [(List.getD (x2.getD x0.toNat ZN).2.2.2.2.2.2.2.2 x1.toNat (ByteArray.empty,(0:Int))).2].length) * (8:Nat)≤(140737488355328:Nat))) (lL10 (x0) (Go.IntKind.i64.wrap (x1 + (1:Int))) (x2) (x3) (x4 ++ [(List.getD (x2.getD x0.toNat ZN).2.2.2.2.2.2.2.2 x1.toNat (ByteArray.empty,(0:Int))).2])) (none)) (lL10 (x0) (Go.IntKind.i64.wrap (x1 + (1:Int))) (x2) (x3) (x4))) (none)) (none)) (none)) (none)) (none)) (none)) (lL3 (x2) (x3) (x4))) (none)) (none)
noncomputable def st117_L3 (n:Nat) (lL10:Int→Int→(List NT)→(List Bool)→(List Int)→Option R117) (x0:List NT) (x1:List Bool) (x2:List Int):Option R117 :=
 cond (decide ((0:Int) < (↑x2.length:Int))) (cond (decide ((0:Int) < (↑x2.length:Int))) (cond (decide ((1:Int)≤(↑x2.length:Int))) (cond (decide (((0:Nat) + (List.take ((↑x2.length:Int) - (1:Int)).toNat (List.drop ((0:Nat) + Int.toNat (1:Int)) x2)).length) * (8:Nat)≤(140737488355328:Nat))) (cond (decide ((0:Int)≤x2.getD (Int.toNat (0:Int)) (0:Int))) (cond (decide (x2.getD (Int.toNat (0:Int)) (0:Int) < (↑x1.length:Int))) (cond (x1.getD (Int.toNat (x2.getD (Int.toNat (0:Int)) (0:Int))) false) (some ((x1,(false,())),())) (cond (decide ((0:Int)≤x2.getD (Int.toNat (0:Int)) (0:Int))) (cond (decide (x2.getD (Int.toNat (0:Int)) (0:Int) < (↑x1.length:Int))) (lL10 (x2.getD (Int.toNat (0:Int)) (0:Int)) ((0:Int)) (x0) (x1.set (Int.toNat (x2.getD (Int.toNat (0:Int)) (0:Int))) true) (List.take ((↑x2.length:Int) - (1:Int)).toNat (List.drop ((0:Nat) + Int.toNat (1:Int)) x2))) (none)) (none))) (none)) (none)) (none)) (none)) (none)) (some ((x1,(true,())),()))
theorem e117_top (n:Nat) (a:List NT):runF TT G117 an117 Try.f117 c117 ps117 rs117 n (a,())=st117_top n (fun x0 x1 x2=>at117 n (.head 3) [n] (sh117_L3 x0 x1 x2)) a:=by kernel_rfl
theorem e117_L10_0 (n:Nat) (m3:Nat) (x0:Int) (x1:Int) (x2:List NT) (x3:List Bool) (x4:List Int):at117 n (.head 10) [m3,0] (sh117_L10 x0 x1 x2 x3 x4)=none:=by kernel_rfl
theorem e117_L10 (n:Nat) (m3:Nat) (m10:Nat) (x0:Int) (x1:Int) (x2:List NT) (x3:List Bool) (x4:List Int):at117 n (.head 10) [m3,m10 + 1] (sh117_L10 x0 x1 x2 x3 x4)=st117_L10 n (fun x0 x1 x2 x3 x4=>at117 n (.head 10) [m3,m10] (sh117_L10 x0 x1 x2 x3 x4)) (fun x0 x1 x2=>at117 n (.head 3) [m3] (sh117_L3 x0 x1 x2)) x0 x1 x2 x3 x4:=by kernel_rfl
theorem e117_L3_0 (n:Nat) (x0:List NT) (x1:List Bool) (x2:List Int):at117 n (.head 3) [0] (sh117_L3 x0 x1 x2)=none:=by kernel_rfl
theorem e117_L3 (n:Nat) (m3:Nat) (x0:List NT) (x1:List Bool) (x2:List Int):at117 n (.head 3) [m3 + 1] (sh117_L3 x0 x1 x2)=st117_L3 n (fun x0 x1 x2 x3 x4=>at117 n (.head 10) [m3,n] (sh117_L10 x0 x1 x2 x3 x4)) x0 x1 x2:=by kernel_rfl
noncomputable def p117_L10 (g3:(List NT)→(List Bool)→(List Int)→Option R117) (n:Nat):Nat→Int→Int→(List NT)→(List Bool)→(List Int)→Option R117
 | 0,_,_,_,_,_=>none
 | m + 1,x0,x1,x2,x3,x4=>st117_L10 n (p117_L10 g3 n m) g3 x0 x1 x2 x3 x4
noncomputable def p117_L3 (n:Nat):Nat→(List NT)→(List Bool)→(List Int)→Option R117
 | 0,_,_,_=>none
 | m + 1,x0,x1,x2=>st117_L3 n (p117_L10 (p117_L3 n m) n n) x0 x1 x2
noncomputable def p117 (n:Nat) (a:List NT):Option R117:=st117_top n (p117_L3 n n) a
theorem t117_L10 (n:Nat) (m3:Nat):∀ (m10:Nat) (x0:Int) (x1:Int) (x2:List NT) (x3:List Bool) (x4:List Int),at117 n (.head 10) [m3,m10] (sh117_L10 x0 x1 x2 x3 x4)=p117_L10 (fun x0 x1 x2=>at117 n (.head 3) [m3] (sh117_L3 x0 x1 x2)) n m10 x0 x1 x2 x3 x4:=by
 intro m
 induction m with
 | zero=>intros; rw [e117_L10_0]; rfl
 | succ m ih =>
  intros
  rw [e117_L10]
  try simp only [ih]
  rfl
theorem t117_L3 (n:Nat):∀ (m3:Nat) (x0:List NT) (x1:List Bool) (x2:List Int),at117 n (.head 3) [m3] (sh117_L3 x0 x1 x2)=p117_L3 n m3 x0 x1 x2:=by
 intro m
 induction m with
 | zero=>intros; rw [e117_L3_0]; rfl
 | succ m ih =>
  intros
  rw [e117_L3]
  try simp only [t117_L10,ih]
  rfl
theorem F117_eq (n:Nat) (a:List NT):runF TT G117 an117 Try.f117 c117 ps117 rs117 n (a,())=p117 n a:=by
 rw [e117_top]
 simp only [t117_L3]
 try rfl
noncomputable def q117 (n:Nat) (x:argsD ps117):Option R117:=p117 n x.1
noncomputable def Sm117:Sm:=⟨ps117,rs117,false,q117⟩
theorem holds117 (hg:GamOK Try.prog G117):Holds Try.prog 117 Sm117:=by
 have:=h0_117 hg
 have e:(runF TT G117 an117 Try.f117 c117 ps117 rs117)=q117:=by
  funext n x
  exact F117_eq n x.1
 rw [e] at this
 exact this
theorem gam117:GamOK Try.prog G117:=fun _ _ h=>by cases h
theorem hh117:Holds Try.prog 117 Sm117:=holds117 gam117
end Go.Proofs.Ytbjgiioppmkpiaa.Rx.S

