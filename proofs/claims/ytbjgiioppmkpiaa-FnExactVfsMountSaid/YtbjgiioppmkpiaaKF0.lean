/- What the functions of this seat compute, each as a plain function on lists and numbers, with the proof that a call answers so. No condition. -/
import Derived.Test.YtbjgiioppmkpiaaProg
import Derived.KernelRfl
import Derived.Test.YtbjgiioppmkpiaaRxK3
set_option linter.unusedVariables false
set_option linter.unusedSimpArgs false
namespace Go.Proofs.Ytbjgiioppmkpiaa.Rx
abbrev NT:Type:=Int × Int × Int × Int × Int × Int × Bool × ByteArray × List (ByteArray × Int)
abbrev ZN:NT:=((0:Int),(0:Int),(0:Int),(0:Int),(0:Int),(0:Int),false,ByteArray.empty,[])
end Go.Proofs.Ytbjgiioppmkpiaa.Rx
namespace Go.Proofs.Ytbjgiioppmkpiaa.Rx.S
open Go Go.RowKit Go.Proofs
def tbl:List (TypeId × TI):=[
(2,⟨.int .i64,1,8,[.int .i64],some (.int .i64),false⟩),
(3,⟨.int .i64,1,8,[.int .i64],some (.int .i64),false⟩),
(4,⟨.bool,1,1,[.bool],some .bool,false⟩),
(5,⟨.int .u8,1,1,[.int .u8],some (.int .u8),false⟩),
(6,⟨.int .u8,1,1,[.int .u8],some (.int .u8),false⟩),
(7,⟨.struct [(0,1),(1,1),(2,1),(3,1)],4,24,[.int .i64,.int .i64,.bool,.int .u8],some (.pair (.int .i64) (.pair (.int .i64) (.pair .bool (.int .u8)))),true⟩),
(8,⟨.struct [(0,1),(1,1),(2,1),(3,1)],4,24,[.int .i64,.int .i64,.bool,.int .u8],some (.pair (.int .i64) (.pair (.int .i64) (.pair .bool (.int .u8)))),true⟩),
(9,⟨.str,1,16,[.str],some .str,false⟩),
(10,⟨.str,1,16,[.str],some .str,false⟩),
(11,⟨.str,1,16,[.str],some .str,false⟩),
(12,⟨.int .u64,1,8,[.int .u64],some (.int .u64),false⟩),
(13,⟨.struct [(0,1),(1,1)],2,24,[.str,.int .u64],some (.pair .str (.int .u64)),false⟩),
(14,⟨.struct [(0,1),(1,1)],2,24,[.str,.int .u64],some (.pair .str (.int .u64)),false⟩),
(15,⟨.ptr,1,8,[.ptr],none,false⟩),
(16,⟨.ptr,1,8,[.ptr],none,false⟩),
(17,⟨.ptr,1,8,[.ptr],none,false⟩),
(18,⟨.struct [(0,1)],1,8,[.ptr],none,false⟩),
(19,⟨.struct [(0,1)],1,8,[.ptr],none,false⟩),
(21,⟨.int .i32,1,4,[.int .i32],some (.int .i32),false⟩),
(22,⟨.slice 5,1,24,[.slice],some (.row 5 (.int .u8)),false⟩),
(23,⟨.slice 37,1,24,[.slice],some (.row 37 (.pair (.int .i64) (.pair (.int .i64) (.pair (.int .i64) (.pair (.int .i64) (.pair (.int .i64) (.pair (.int .i64) (.pair .bool (.pair .str (.row 100 (.pair .str (.int .i64)))))))))))),false⟩),
(24,⟨.struct [(0,1)],1,24,[.slice],some (.row 37 (.pair (.int .i64) (.pair (.int .i64) (.pair (.int .i64) (.pair (.int .i64) (.pair (.int .i64) (.pair (.int .i64) (.pair .bool (.pair .str (.row 100 (.pair .str (.int .i64)))))))))))),false⟩),
(25,⟨.struct [(0,1)],1,24,[.slice],some (.row 37 (.pair (.int .i64) (.pair (.int .i64) (.pair (.int .i64) (.pair (.int .i64) (.pair (.int .i64) (.pair (.int .i64) (.pair .bool (.pair .str (.row 100 (.pair .str (.int .i64)))))))))))),false⟩),
(26,⟨.slice 3,1,24,[.slice],some (.row 3 (.int .i64)),false⟩),
(27,⟨.struct [(0,1),(1,1),(2,1)],3,40,[.int .i64,.int .i64,.slice],some (.pair (.int .i64) (.pair (.int .i64) (.row 3 (.int .i64)))),false⟩),
(28,⟨.struct [(0,1),(1,1),(2,1)],3,40,[.int .i64,.int .i64,.slice],some (.pair (.int .i64) (.pair (.int .i64) (.row 3 (.int .i64)))),false⟩),
(35,⟨.slice 100,1,24,[.slice],some (.row 100 (.pair .str (.int .i64))),false⟩),
(36,⟨.struct [(0,1),(1,1),(2,1),(3,1),(4,1),(5,1),(6,1),(7,1),(8,1)],9,96,[.int .i64,.int .i64,.int .i64,.int .i64,.int .i64,.int .i64,.bool,.str,.slice],some (.pair (.int .i64) (.pair (.int .i64) (.pair (.int .i64) (.pair (.int .i64) (.pair (.int .i64) (.pair (.int .i64) (.pair .bool (.pair .str (.row 100 (.pair .str (.int .i64))))))))))),false⟩),
(37,⟨.struct [(0,1),(1,1),(2,1),(3,1),(4,1),(5,1),(6,1),(7,1),(8,1)],9,96,[.int .i64,.int .i64,.int .i64,.int .i64,.int .i64,.int .i64,.bool,.str,.slice],some (.pair (.int .i64) (.pair (.int .i64) (.pair (.int .i64) (.pair (.int .i64) (.pair (.int .i64) (.pair (.int .i64) (.pair .bool (.pair .str (.row 100 (.pair .str (.int .i64))))))))))),false⟩),
(44,⟨.slice 25,1,24,[.slice],some (.row 25 (.row 37 (.pair (.int .i64) (.pair (.int .i64) (.pair (.int .i64) (.pair (.int .i64) (.pair (.int .i64) (.pair (.int .i64) (.pair .bool (.pair .str (.row 100 (.pair .str (.int .i64))))))))))))),false⟩),
(45,⟨.struct [(0,1),(1,1)],2,32,[.slice,.int .i64],some (.pair (.row 25 (.row 37 (.pair (.int .i64) (.pair (.int .i64) (.pair (.int .i64) (.pair (.int .i64) (.pair (.int .i64) (.pair (.int .i64) (.pair .bool (.pair .str (.row 100 (.pair .str (.int .i64))))))))))))) (.int .i64)),false⟩),
(46,⟨.struct [(0,1),(1,1)],2,32,[.slice,.int .i64],some (.pair (.row 25 (.row 37 (.pair (.int .i64) (.pair (.int .i64) (.pair (.int .i64) (.pair (.int .i64) (.pair (.int .i64) (.pair (.int .i64) (.pair .bool (.pair .str (.row 100 (.pair .str (.int .i64))))))))))))) (.int .i64)),false⟩),
(54,⟨.slice 68,1,24,[.slice],some (.row 68 (.row 161 (.pair (.int .i64) (.pair (.int .i64) (.pair (.int .i64) (.pair (.int .i64) (.pair (.int .i64) (.pair (.int .i64) (.pair .bool (.pair .str (.row 178 (.pair .str (.int .i64))))))))))))),false⟩),
(55,⟨.struct [(0,1),(1,1)],2,32,[.slice,.int .i64],some (.pair (.row 68 (.row 161 (.pair (.int .i64) (.pair (.int .i64) (.pair (.int .i64) (.pair (.int .i64) (.pair (.int .i64) (.pair (.int .i64) (.pair .bool (.pair .str (.row 178 (.pair .str (.int .i64))))))))))))) (.int .i64)),false⟩),
(56,⟨.struct [(0,1),(1,1)],2,32,[.slice,.int .i64],some (.pair (.row 68 (.row 161 (.pair (.int .i64) (.pair (.int .i64) (.pair (.int .i64) (.pair (.int .i64) (.pair (.int .i64) (.pair (.int .i64) (.pair .bool (.pair .str (.row 178 (.pair .str (.int .i64))))))))))))) (.int .i64)),false⟩),
(57,⟨.struct [(0,1),(1,1),(2,1)],3,40,[.int .i64,.int .i64,.slice],some (.pair (.int .i64) (.pair (.int .i64) (.row 3 (.int .i64)))),false⟩),
(66,⟨.slice 161,1,24,[.slice],some (.row 161 (.pair (.int .i64) (.pair (.int .i64) (.pair (.int .i64) (.pair (.int .i64) (.pair (.int .i64) (.pair (.int .i64) (.pair .bool (.pair .str (.row 178 (.pair .str (.int .i64)))))))))))),false⟩),
(67,⟨.struct [(0,1)],1,24,[.slice],some (.row 161 (.pair (.int .i64) (.pair (.int .i64) (.pair (.int .i64) (.pair (.int .i64) (.pair (.int .i64) (.pair (.int .i64) (.pair .bool (.pair .str (.row 178 (.pair .str (.int .i64)))))))))))),false⟩),
(68,⟨.struct [(0,1)],1,24,[.slice],some (.row 161 (.pair (.int .i64) (.pair (.int .i64) (.pair (.int .i64) (.pair (.int .i64) (.pair (.int .i64) (.pair (.int .i64) (.pair .bool (.pair .str (.row 178 (.pair .str (.int .i64)))))))))))),false⟩),
(86,⟨.ptr,1,8,[.ptr],none,false⟩),
(99,⟨.struct [(0,1),(1,1)],2,24,[.str,.int .i64],some (.pair .str (.int .i64)),true⟩),
(100,⟨.struct [(0,1),(1,1)],2,24,[.str,.int .i64],some (.pair .str (.int .i64)),true⟩),
(128,⟨.int .i64,1,8,[.int .i64],some (.int .i64),false⟩),
(132,⟨.struct [(0,1),(1,1)],2,32,[.slice,.int .i64],some (.pair (.row 5 (.int .u8)) (.int .i64)),false⟩),
(133,⟨.struct [(0,1),(1,1)],2,32,[.slice,.int .i64],some (.pair (.row 5 (.int .u8)) (.int .i64)),false⟩),
(139,⟨.slice 4,1,24,[.slice],some (.row 4 .bool),false⟩),
(144,⟨.slice 9,1,24,[.slice],some (.row 9 .str),false⟩),
(148,⟨.ptr,1,8,[.ptr],none,false⟩),
(149,⟨.ptr,1,8,[.ptr],none,false⟩),
(159,⟨.slice 178,1,24,[.slice],some (.row 178 (.pair .str (.int .i64))),false⟩),
(160,⟨.struct [(0,1),(1,1),(2,1),(3,1),(4,1),(5,1),(6,1),(7,1),(8,1)],9,96,[.int .i64,.int .i64,.int .i64,.int .i64,.int .i64,.int .i64,.bool,.str,.slice],some (.pair (.int .i64) (.pair (.int .i64) (.pair (.int .i64) (.pair (.int .i64) (.pair (.int .i64) (.pair (.int .i64) (.pair .bool (.pair .str (.row 178 (.pair .str (.int .i64))))))))))),false⟩),
(161,⟨.struct [(0,1),(1,1),(2,1),(3,1),(4,1),(5,1),(6,1),(7,1),(8,1)],9,96,[.int .i64,.int .i64,.int .i64,.int .i64,.int .i64,.int .i64,.bool,.str,.slice],some (.pair (.int .i64) (.pair (.int .i64) (.pair (.int .i64) (.pair (.int .i64) (.pair (.int .i64) (.pair (.int .i64) (.pair .bool (.pair .str (.row 178 (.pair .str (.int .i64))))))))))),false⟩),
(172,⟨.int .u64,1,8,[.int .u64],some (.int .u64),false⟩),
(178,⟨.struct [(0,1),(1,1)],2,24,[.str,.int .i64],some (.pair .str (.int .i64)),true⟩),
(183,⟨.struct [(0,1),(1,1),(2,1),(3,1)],4,40,[.ptr,.ptr,.ptr,.str],none,false⟩),
(184,⟨.struct [(0,1),(1,1),(2,1),(3,1)],4,40,[.ptr,.ptr,.ptr,.str],none,false⟩),
(186,⟨.struct [(0,0)],0,0,[],none,false⟩),
(187,⟨.struct [(0,0)],0,0,[],none,false⟩),
(189,⟨.int .u32,1,4,[.int .u32],some (.int .u32),false⟩),
(190,⟨.int .u8,1,1,[.int .u8],some (.int .u8),false⟩),
(191,⟨.int .u8,1,1,[.int .u8],some (.int .u8),false⟩),
(193,⟨.ptr,1,8,[.ptr],none,false⟩),
(194,⟨.int .i32,1,4,[.int .i32],some (.int .i32),false⟩),
(195,⟨.int .i32,1,4,[.int .i32],some (.int .i32),false⟩),
(199,⟨.other,1,8,[.ptr],none,false⟩)]
def TT:TB:=tbOf tbl
theorem tt_ok:TBok Try.prog TT:=tbOk (by decide +kernel)
abbrev i64:Ty:=.int .i64
abbrev tEn:Ty:=.pair .str i64
abbrev tIn (a:TypeId):Ty:=.pair i64 (.pair i64 (.pair i64 (.pair i64 (.pair i64 (.pair i64 (.pair .bool (.pair .str (.row a tEn))))))))
abbrev tFs:Ty:=.row 37 (tIn 100)
abbrev tLf:Ty:=.row 161 (tIn 178)
abbrev tCr:Ty:=.pair i64 (.pair i64 (.row 3 i64))
theorem mixed:Try.prog.follows .mixedOrders=true:=by kernel_rfl
end Go.Proofs.Ytbjgiioppmkpiaa.Rx.S

namespace Go.Proofs.Ytbjgiioppmkpiaa.Rx.S
open Go Go.RowKit Go.Proofs
set_option maxRecDepth 100000
noncomputable def c66:Code:=(Try.f66.body.getD .skip)
def an66:An:=⟨fun _=>⟨[],[]⟩,fun _ _=>none⟩
abbrev ps66:List PK:=[.val i64 false,.val i64 false,.val i64 false]
abbrev rs66:List RK:=[.val .bool false]
abbrev R66:=retsD rs66 × outsD ps66
noncomputable def G66:Gam:=fun _=>none
theorem h0_66 (hg:GamOK Try.prog G66):Holds Try.prog 66 ⟨ps66,rs66,false,runF TT G66 an66 Try.f66 c66 ps66 rs66⟩:=holds_of tt_ok hg mixed Try.func66 (by kernel_rfl) (by rfl) (by decide +kernel)
noncomputable def st66_top (n:Nat) (a:Int) (b:Int) (c:Int):Option R66 :=
 cond (decide (b≤a)) (some ((decide (a≤c),()),())) (some ((false,()),()))
theorem e66_top (n:Nat) (a:Int) (b:Int) (c:Int):runF TT G66 an66 Try.f66 c66 ps66 rs66 n (a,b,c,())=st66_top n a b c:=by kernel_rfl
noncomputable def p66 (n:Nat) (a:Int) (b:Int) (c:Int):Option R66:=st66_top n a b c
theorem F66_eq (n:Nat) (a:Int) (b:Int) (c:Int):runF TT G66 an66 Try.f66 c66 ps66 rs66 n (a,b,c,())=p66 n a b c:=by
 rw [e66_top]
 skip
 try rfl
noncomputable def q66 (n:Nat) (x:argsD ps66):Option R66:=p66 n x.1 x.2.1 x.2.2.1
noncomputable def Sm66:Sm:=⟨ps66,rs66,false,q66⟩
theorem holds66 (hg:GamOK Try.prog G66):Holds Try.prog 66 Sm66:=by
 have:=h0_66 hg
 have e:(runF TT G66 an66 Try.f66 c66 ps66 rs66)=q66:=by
  funext n x
  exact F66_eq n x.1 x.2.1 x.2.2.1
 rw [e] at this
 exact this
theorem gam66:GamOK Try.prog G66:=fun _ _ h=>by cases h
theorem hh66:Holds Try.prog 66 Sm66:=holds66 gam66
end Go.Proofs.Ytbjgiioppmkpiaa.Rx.S

namespace Go.Proofs.Ytbjgiioppmkpiaa.Rx.S
open Go Go.RowKit Go.Proofs
set_option maxRecDepth 100000
noncomputable def c118:Code:=(Try.f118.body.getD .skip)
def an118:An:=⟨fun _=>⟨[],[]⟩,fun _ _=>none⟩
abbrev ps118:List PK:=[.val i64 false]
abbrev rs118:List RK:=[.val .bool false]
abbrev R118:=retsD rs118 × outsD ps118
noncomputable def G118:Gam:=fun f=>match f with | 66=>some Sm66 | _=>none
theorem h0_118 (hg:GamOK Try.prog G118):Holds Try.prog 118 ⟨ps118,rs118,false,runF TT G118 an118 Try.f118 c118 ps118 rs118⟩:=holds_of tt_ok hg mixed Try.func118 (by kernel_rfl) (by rfl) (by decide +kernel)
noncomputable def st118_top (n:Nat) (a:Int):Option R118 :=
 (q66 n (a,(0:Int),(9:Int),())).bind fun r0=>some ((r0.1.1,()),())
theorem e118_top (n:Nat) (a:Int):runF TT G118 an118 Try.f118 c118 ps118 rs118 n (a,())=st118_top n a:=by kernel_rfl
noncomputable def p118 (n:Nat) (a:Int):Option R118:=st118_top n a
theorem F118_eq (n:Nat) (a:Int):runF TT G118 an118 Try.f118 c118 ps118 rs118 n (a,())=p118 n a:=by
 rw [e118_top]
 skip
 try rfl
noncomputable def q118 (n:Nat) (x:argsD ps118):Option R118:=p118 n x.1
noncomputable def Sm118:Sm:=⟨ps118,rs118,false,q118⟩
theorem holds118 (hg:GamOK Try.prog G118):Holds Try.prog 118 Sm118:=by
 have:=h0_118 hg
 have e:(runF TT G118 an118 Try.f118 c118 ps118 rs118)=q118:=by
  funext n x
  exact F118_eq n x.1
 rw [e] at this
 exact this
theorem gam118:GamOK Try.prog G118:=by
 intro f s h
 unfold G118 at h
 split at h
 ·injection h with h; subst h; exact ⟨⟨Try.f66,c66,Try.func66,by kernel_rfl,by decide +kernel⟩,hh66⟩
 ·cases h
theorem hh118:Holds Try.prog 118 Sm118:=holds118 gam118
end Go.Proofs.Ytbjgiioppmkpiaa.Rx.S

namespace Go.Proofs.Ytbjgiioppmkpiaa.Rx.S
open Go Go.RowKit Go.Proofs
set_option maxRecDepth 100000
noncomputable def c65:Code:=(Try.f65.body.getD .skip)
def an65:An:=⟨fun _=>⟨[],[]⟩,fun _ _=>none⟩
abbrev ps65:List PK:=[.val tFs true,.val i64 false]
abbrev rs65:List RK:=[.val .bool false]
abbrev R65:=retsD rs65 × outsD ps65
noncomputable def G65:Gam:=fun f=>match f with | 66=>some Sm66 | _=>none
theorem h0_65 (hg:GamOK Try.prog G65):Holds Try.prog 65 ⟨ps65,rs65,false,runF TT G65 an65 Try.f65 c65 ps65 rs65⟩:=holds_of tt_ok hg mixed Try.func65 (by kernel_rfl) (by rfl) (by decide +kernel)
noncomputable def st65_top (n:Nat) (a:List NT) (b:Int):Option R65 :=
 (q66 n (b,(0:Int),Go.IntKind.i64.wrap ((↑a.length:Int) - (1:Int)),())).bind fun r0=>cond (r0.1.1) (cond (decide ((0:Int)≤b)) (cond (decide (b < (↑a.length:Int))) (some ((!decide ((a.getD b.toNat ZN).1=(0:Int)),()),())) (none)) (none)) (some ((false,()),()))
theorem e65_top (n:Nat) (a:List NT) (b:Int):runF TT G65 an65 Try.f65 c65 ps65 rs65 n (a,b,())=st65_top n a b:=by kernel_rfl
noncomputable def p65 (n:Nat) (a:List NT) (b:Int):Option R65:=st65_top n a b
theorem F65_eq (n:Nat) (a:List NT) (b:Int):runF TT G65 an65 Try.f65 c65 ps65 rs65 n (a,b,())=p65 n a b:=by
 rw [e65_top]
 skip
 try rfl
noncomputable def q65 (n:Nat) (x:argsD ps65):Option R65:=p65 n x.1 x.2.1
noncomputable def Sm65:Sm:=⟨ps65,rs65,false,q65⟩
theorem holds65 (hg:GamOK Try.prog G65):Holds Try.prog 65 Sm65:=by
 have:=h0_65 hg
 have e:(runF TT G65 an65 Try.f65 c65 ps65 rs65)=q65:=by
  funext n x
  exact F65_eq n x.1 x.2.1
 rw [e] at this
 exact this
theorem gam65:GamOK Try.prog G65:=by
 intro f s h
 unfold G65 at h
 split at h
 ·injection h with h; subst h; exact ⟨⟨Try.f66,c66,Try.func66,by kernel_rfl,by decide +kernel⟩,hh66⟩
 ·cases h
theorem hh65:Holds Try.prog 65 Sm65:=holds65 gam65
end Go.Proofs.Ytbjgiioppmkpiaa.Rx.S

namespace Go.Proofs.Ytbjgiioppmkpiaa.Rx.S
open Go Go.RowKit Go.Proofs
set_option maxRecDepth 100000
noncomputable def c67:Code:=(Try.f67.body.getD .skip)
def an67:An:=⟨fun r=>match r with | 3=>⟨[1,2,3,4],[]⟩ | _=>⟨[],[]⟩,fun _ _=>none⟩
abbrev ps67:List PK:=[.val tFs true]
abbrev rs67:List RK:=[.own tFs true]
abbrev R67:=retsD rs67 × outsD ps67
noncomputable def G67:Gam:=fun _=>none
theorem h0_67 (hg:GamOK Try.prog G67):Holds Try.prog 67 ⟨ps67,rs67,false,runF TT G67 an67 Try.f67 c67 ps67 rs67⟩:=holds_of tt_ok hg mixed Try.func67 (by kernel_rfl) (by rfl) (by decide +kernel)
noncomputable def at67:Nat→Pt→List Nat→St→Option R67:=atF TT G67 an67 Try.f67 c67 _ _
def sh67_L3 (x0:Int) (x1:List NT) (x2:List NT):St:=(St.mk (AV.undef :: ((AV.one (SV.bptr 1000000 0)) :: ((AV.one (SV.bptr 1000001 0)) :: ((AV.one (SV.bptr 1000002 0)) :: ((AV.one (SV.int (Go.IntKind.i64) x0)) :: (AV.undef :: (AV.undef :: (AV.undef :: (AV.undef :: (AV.undef :: (AV.undef :: (AV.undef :: (AV.undef :: (AV.undef :: (AV.undef :: (AV.undef :: (AV.undef :: (AV.undef :: (AV.undef :: (AV.undef :: (AV.undef :: (AV.undef :: (AV.undef :: (AV.undef :: (AV.undef :: (AV.undef :: (AV.undef :: (AV.undef :: (AV.undef :: (AV.undef :: (AV.undef :: (AV.undef :: [])))))))))))))))))))))))))))))))) ((1000000,(Ent.box ((SV.con (⟨37,(Ty.int Go.IntKind.i64).pair ((Ty.int Go.IntKind.i64).pair ((Ty.int Go.IntKind.i64).pair ((Ty.int Go.IntKind.i64).pair ((Ty.int Go.IntKind.i64).pair ((Ty.int Go.IntKind.i64).pair (Ty.bool.pair (Ty.str.pair (Ty.row (nat_lit 100) (Ty.str.pair (Ty.int Go.IntKind.i64)))))))))),x1⟩:Rw)) :: []))) :: ((1000001,(Ent.box (SV.nil :: []))) :: ((1000002,(Ent.box ((SV.ref 1000003 0 [] Option.none) :: []))) :: ((1000003,(Ent.row (⟨37,(Ty.int Go.IntKind.i64).pair ((Ty.int Go.IntKind.i64).pair ((Ty.int Go.IntKind.i64).pair ((Ty.int Go.IntKind.i64).pair ((Ty.int Go.IntKind.i64).pair ((Ty.int Go.IntKind.i64).pair (Ty.bool.pair (Ty.str.pair (Ty.row (nat_lit 100) (Ty.str.pair (Ty.int Go.IntKind.i64)))))))))),x2⟩:Rw) 0 Option.none)) :: [])))))
noncomputable def st67_top (n:Nat) (lL3:Int→(List NT)→(List NT)→Option R67) (a:List NT):Option R67 :=
 lL3 ((0:Int)) (a) ([])
noncomputable def st67_L3 (n:Nat) (lL3:Int→(List NT)→(List NT)→Option R67) (x0:Int) (x1:List NT) (x2:List NT):Option R67 :=
 cond (decide (x0 < (↑x1.length:Int))) (cond (decide ((0:Int)≤x0)) (cond (decide (x0 < (↑x1.length:Int))) (cond (decide (((0:Nat) + List.length (x1.getD x0.toNat ZN).2.2.2.2.2.2.2.2) * (24:Nat)≤(140737488355328:Nat))) (cond (decide ((x2.length + [((x1.getD x0.toNat ZN).1,(x1.getD x0.toNat ZN).2.1,(x1.getD x0.toNat ZN).2.2.1,(x1.getD x0.toNat ZN).2.2.2.1,(x1.getD x0.toNat ZN).2.2.2.2.1,(x1.getD x0.toNat ZN).2.2.2.2.2.1,(x1.getD x0.toNat ZN).2.2.2.2.2.2.1,(x1.getD x0.toNat ZN).2.2.2.2.2.2.2.1,(x1.getD x0.toNat ZN).2.2.2.2.2.2.2.2)].length) * (96:Nat)≤(140737488355328:Nat))) (lL3 (Go.IntKind.i64.wrap (x0 + (1:Int))) (x1) (x2 ++ [((x1.getD x0.toNat ZN).1,(x1.getD x0.toNat ZN).2.1,(x1.getD x0.toNat ZN).2.2.1,(x1.getD x0.toNat ZN).2.2.2.1,(x1.getD x0.toNat ZN).2.2.2.2.1,(x1.getD x0.toNat ZN).2.2.2.2.2.1,(x1.getD x0.toNat ZN).2.2.2.2.2.2.1,(x1.getD x0.toNat ZN).2.2.2.2.2.2.2.1,(x1.getD x0.toNat ZN).2.2.2.2.2.2.2.2)])) (none)) (none)) (none)) (none)) (some ((x2,()),()))
theorem e67_top (n:Nat) (a:List NT):runF TT G67 an67 Try.f67 c67 ps67 rs67 n (a,())=st67_top n (fun x0 x1 x2=>at67 n (.head 3) [n] (sh67_L3 x0 x1 x2)) a:=by kernel_rfl
theorem e67_L3_0 (n:Nat) (x0:Int) (x1:List NT) (x2:List NT):at67 n (.head 3) [0] (sh67_L3 x0 x1 x2)=none:=by kernel_rfl
theorem e67_L3 (n:Nat) (m3:Nat) (x0:Int) (x1:List NT) (x2:List NT):at67 n (.head 3) [m3 + 1] (sh67_L3 x0 x1 x2)=st67_L3 n (fun x0 x1 x2=>at67 n (.head 3) [m3] (sh67_L3 x0 x1 x2)) x0 x1 x2:=by kernel_rfl
noncomputable def p67_L3 (n:Nat):Nat→Int→(List NT)→(List NT)→Option R67
 | 0,_,_,_=>none
 | m + 1,x0,x1,x2=>st67_L3 n (p67_L3 n m) x0 x1 x2
noncomputable def p67 (n:Nat) (a:List NT):Option R67:=st67_top n (p67_L3 n n) a
theorem t67_L3 (n:Nat):∀ (m3:Nat) (x0:Int) (x1:List NT) (x2:List NT),at67 n (.head 3) [m3] (sh67_L3 x0 x1 x2)=p67_L3 n m3 x0 x1 x2:=by
 intro m
 induction m with
 | zero=>intros; rw [e67_L3_0]; rfl
 | succ m ih =>
  intros
  rw [e67_L3]
  try simp only [ih]
  rfl
theorem F67_eq (n:Nat) (a:List NT):runF TT G67 an67 Try.f67 c67 ps67 rs67 n (a,())=p67 n a:=by
 rw [e67_top]
 simp only [t67_L3]
 try rfl
noncomputable def q67 (n:Nat) (x:argsD ps67):Option R67:=p67 n x.1
noncomputable def Sm67:Sm:=⟨ps67,rs67,false,q67⟩
theorem holds67 (hg:GamOK Try.prog G67):Holds Try.prog 67 Sm67:=by
 have:=h0_67 hg
 have e:(runF TT G67 an67 Try.f67 c67 ps67 rs67)=q67:=by
  funext n x
  exact F67_eq n x.1
 rw [e] at this
 exact this
theorem gam67:GamOK Try.prog G67:=fun _ _ h=>by cases h
theorem hh67:Holds Try.prog 67 Sm67:=holds67 gam67
end Go.Proofs.Ytbjgiioppmkpiaa.Rx.S

namespace Go.Proofs.Ytbjgiioppmkpiaa.Rx.S
open Go Go.RowKit Go.Proofs
set_option maxRecDepth 100000
noncomputable def c61:Code:=(Try.f61.body.getD .skip)
def an61:An:=⟨fun _=>⟨[],[]⟩,fun _ _=>none⟩
abbrev ps61:List PK:=[.val i64 false,.val i64 false,.val i64 false]
abbrev rs61:List RK:=[.val .bool false]
abbrev R61:=retsD rs61 × outsD ps61
noncomputable def G61:Gam:=fun _=>none
theorem h0_61 (hg:GamOK Try.prog G61):Holds Try.prog 61 ⟨ps61,rs61,false,runF TT G61 an61 Try.f61 c61 ps61 rs61⟩:=holds_of tt_ok hg mixed Try.func61 (by kernel_rfl) (by rfl) (by decide +kernel)
noncomputable def st61_top (n:Nat) (a:Int) (b:Int) (c:Int):Option R61 :=
 cond (decide (b≤a)) (some ((decide (a≤c),()),())) (some ((false,()),()))
theorem e61_top (n:Nat) (a:Int) (b:Int) (c:Int):runF TT G61 an61 Try.f61 c61 ps61 rs61 n (a,b,c,())=st61_top n a b c:=by kernel_rfl
noncomputable def p61 (n:Nat) (a:Int) (b:Int) (c:Int):Option R61:=st61_top n a b c
theorem F61_eq (n:Nat) (a:Int) (b:Int) (c:Int):runF TT G61 an61 Try.f61 c61 ps61 rs61 n (a,b,c,())=p61 n a b c:=by
 rw [e61_top]
 skip
 try rfl
noncomputable def q61 (n:Nat) (x:argsD ps61):Option R61:=p61 n x.1 x.2.1 x.2.2.1
noncomputable def Sm61:Sm:=⟨ps61,rs61,false,q61⟩
theorem holds61 (hg:GamOK Try.prog G61):Holds Try.prog 61 Sm61:=by
 have:=h0_61 hg
 have e:(runF TT G61 an61 Try.f61 c61 ps61 rs61)=q61:=by
  funext n x
  exact F61_eq n x.1 x.2.1 x.2.2.1
 rw [e] at this
 exact this
theorem gam61:GamOK Try.prog G61:=fun _ _ h=>by cases h
theorem hh61:Holds Try.prog 61 Sm61:=holds61 gam61
end Go.Proofs.Ytbjgiioppmkpiaa.Rx.S

namespace Go.Proofs.Ytbjgiioppmkpiaa.Rx.S
open Go Go.RowKit Go.Proofs
set_option maxRecDepth 100000
noncomputable def c120:Code:=(Try.f120.body.getD .skip)
def an120:An:=⟨fun _=>⟨[],[]⟩,fun _ _=>none⟩
abbrev ps120:List PK:=[.val (.int .i32) false]
abbrev rs120:List RK:=[.val .bool false]
abbrev R120:=retsD rs120 × outsD ps120
noncomputable def G120:Gam:=fun _=>none
theorem h0_120 (hg:GamOK Try.prog G120):Holds Try.prog 120 ⟨ps120,rs120,false,runF TT G120 an120 Try.f120 c120 ps120 rs120⟩:=holds_of tt_ok hg mixed Try.func120 (by kernel_rfl) (by rfl) (by decide +kernel)
noncomputable def st120_top (n:Nat) (a:Int):Option R120 :=
 cond (decide (a < (97:Int))) (some ((true,()),())) (some ((decide ((122:Int) < a),()),()))
theorem e120_top (n:Nat) (a:Int):runF TT G120 an120 Try.f120 c120 ps120 rs120 n (a,())=st120_top n a:=by kernel_rfl
noncomputable def p120 (n:Nat) (a:Int):Option R120:=st120_top n a
theorem F120_eq (n:Nat) (a:Int):runF TT G120 an120 Try.f120 c120 ps120 rs120 n (a,())=p120 n a:=by
 rw [e120_top]
 skip
 try rfl
noncomputable def q120 (n:Nat) (x:argsD ps120):Option R120:=p120 n x.1
noncomputable def Sm120:Sm:=⟨ps120,rs120,false,q120⟩
theorem holds120 (hg:GamOK Try.prog G120):Holds Try.prog 120 Sm120:=by
 have:=h0_120 hg
 have e:(runF TT G120 an120 Try.f120 c120 ps120 rs120)=q120:=by
  funext n x
  exact F120_eq n x.1
 rw [e] at this
 exact this
theorem gam120:GamOK Try.prog G120:=fun _ _ h=>by cases h
theorem hh120:Holds Try.prog 120 Sm120:=holds120 gam120
end Go.Proofs.Ytbjgiioppmkpiaa.Rx.S

namespace Go.Proofs.Ytbjgiioppmkpiaa.Rx.S
open Go Go.RowKit Go.Proofs
set_option maxRecDepth 100000
noncomputable def c147:Code:=(Try.f147.body.getD .skip)
def an147:An:=⟨fun r=>match r with | 2=>⟨[1,2,10],[]⟩ | _=>⟨[],[]⟩,fun _ _=>none⟩
abbrev ps147:List PK:=[.val .str false,.fn 120 [],.val .bool false]
abbrev rs147:List RK:=[.val i64 false]
abbrev R147:=retsD rs147 × outsD ps147
noncomputable def G147:Gam:=fun f=>match f with | 120=>some Sm120 | _=>none
theorem h0_147 (hg:GamOK Try.prog G147):Holds Try.prog 147 ⟨ps147,rs147,false,runF TT G147 an147 Try.f147 c147 ps147 rs147⟩:=holds_of tt_ok hg mixed Try.func147 (by kernel_rfl) (by rfl) (by decide +kernel)
noncomputable def at147:Nat→Pt→List Nat→St→Option R147:=atF TT G147 an147 Try.f147 c147 _ _
def sh147_L2 (x0:Bool) (x1:ByteArray) (x2:Int):St:=(St.mk (AV.undef :: ((AV.fn 120 []) :: ((AV.one (SV.bool x0)) :: (AV.undef :: (AV.undef :: (AV.undef :: (AV.undef :: (AV.undef :: (AV.undef :: (AV.undef :: ((AV.one (SV.bptr 1000000 0)) :: (AV.undef :: (AV.undef :: (AV.undef :: (AV.undef :: (AV.undef :: (AV.undef :: (AV.undef :: (AV.undef :: (AV.undef :: (AV.undef :: []))))))))))))))))))))) ((1000000,(Ent.iter x1 x2)) :: []))
noncomputable def st147_top (n:Nat) (lL2:Bool→ByteArray→Int→Option R147) (a:ByteArray) (b:Unit) (c:Bool):Option R147 :=
 lL2 (c) (a) ((0:Int))
noncomputable def st147_L2 (n:Nat) (lL2:Bool→ByteArray→Int→Option R147) (x0:Bool) (x1:ByteArray) (x2:Int):Option R147 :=
 cond (decide (x2.toNat < x1.size)) ((q120 n ((↑(Go.Utf8.decode x1 x2.toNat).1:Int),())).bind fun r1=>cond (r1.1.1 == x0) (some (((↑x2.toNat:Int),()),())) (lL2 (x0) (x1) ((↑(x2.toNat + (Go.Utf8.decode x1 x2.toNat).2):Int)))) (some (((-1:Int),()),()))
theorem e147_top (n:Nat) (a:ByteArray) (b:Unit) (c:Bool):runF TT G147 an147 Try.f147 c147 ps147 rs147 n (a,b,c,())=st147_top n (fun x0 x1 x2=>at147 n (.head 2) [n] (sh147_L2 x0 x1 x2)) a b c:=by kernel_rfl
theorem e147_L2_0 (n:Nat) (x0:Bool) (x1:ByteArray) (x2:Int):at147 n (.head 2) [0] (sh147_L2 x0 x1 x2)=none:=by kernel_rfl
theorem e147_L2 (n:Nat) (m2:Nat) (x0:Bool) (x1:ByteArray) (x2:Int):at147 n (.head 2) [m2 + 1] (sh147_L2 x0 x1 x2)=st147_L2 n (fun x0 x1 x2=>at147 n (.head 2) [m2] (sh147_L2 x0 x1 x2)) x0 x1 x2:=by kernel_rfl
noncomputable def p147_L2 (n:Nat):Nat→Bool→ByteArray→Int→Option R147
 | 0,_,_,_=>none
 | m + 1,x0,x1,x2=>st147_L2 n (p147_L2 n m) x0 x1 x2
noncomputable def p147 (n:Nat) (a:ByteArray) (b:Unit) (c:Bool):Option R147:=st147_top n (p147_L2 n n) a b c
theorem t147_L2 (n:Nat):∀ (m2:Nat) (x0:Bool) (x1:ByteArray) (x2:Int),at147 n (.head 2) [m2] (sh147_L2 x0 x1 x2)=p147_L2 n m2 x0 x1 x2:=by
 intro m
 induction m with
 | zero=>intros; rw [e147_L2_0]; rfl
 | succ m ih =>
  intros
  rw [e147_L2]
  try simp only [ih]
  rfl
theorem F147_eq (n:Nat) (a:ByteArray) (b:Unit) (c:Bool):runF TT G147 an147 Try.f147 c147 ps147 rs147 n (a,b,c,())=p147 n a b c:=by
 rw [e147_top]
 simp only [t147_L2]
 try rfl
noncomputable def q147 (n:Nat) (x:argsD ps147):Option R147:=p147 n x.1 x.2.1 x.2.2.1
noncomputable def Sm147:Sm:=⟨ps147,rs147,false,q147⟩
theorem holds147 (hg:GamOK Try.prog G147):Holds Try.prog 147 Sm147:=by
 have:=h0_147 hg
 have e:(runF TT G147 an147 Try.f147 c147 ps147 rs147)=q147:=by
  funext n x
  exact F147_eq n x.1 x.2.1 x.2.2.1
 rw [e] at this
 exact this
theorem gam147:GamOK Try.prog G147:=by
 intro f s h
 unfold G147 at h
 split at h
 ·injection h with h; subst h; exact ⟨⟨Try.f120,c120,Try.func120,by kernel_rfl,by decide +kernel⟩,hh120⟩
 ·cases h
theorem hh147:Holds Try.prog 147 Sm147:=holds147 gam147
end Go.Proofs.Ytbjgiioppmkpiaa.Rx.S

namespace Go.Proofs.Ytbjgiioppmkpiaa.Rx.S
open Go Go.RowKit Go.Proofs
set_option maxRecDepth 100000
noncomputable def c119:Code:=(Try.f119.body.getD .skip)
def an119:An:=⟨fun _=>⟨[],[]⟩,fun _ _=>none⟩
abbrev ps119:List PK:=[.val .str false,.fn 120 []]
abbrev rs119:List RK:=[.val i64 false]
abbrev R119:=retsD rs119 × outsD ps119
noncomputable def G119:Gam:=fun f=>match f with | 147=>some Sm147 | _=>none
theorem h0_119 (hg:GamOK Try.prog G119):Holds Try.prog 119 ⟨ps119,rs119,false,runF TT G119 an119 Try.f119 c119 ps119 rs119⟩:=holds_of tt_ok hg mixed Try.func119 (by kernel_rfl) (by rfl) (by decide +kernel)
noncomputable def st119_top (n:Nat) (a:ByteArray) (b:Unit):Option R119 :=
 (q147 n (a,(),true,())).bind fun r0=>some ((r0.1.1,()),())
theorem e119_top (n:Nat) (a:ByteArray) (b:Unit):runF TT G119 an119 Try.f119 c119 ps119 rs119 n (a,b,())=st119_top n a b:=by kernel_rfl
noncomputable def p119 (n:Nat) (a:ByteArray) (b:Unit):Option R119:=st119_top n a b
theorem F119_eq (n:Nat) (a:ByteArray) (b:Unit):runF TT G119 an119 Try.f119 c119 ps119 rs119 n (a,b,())=p119 n a b:=by
 rw [e119_top]
 skip
 try rfl
noncomputable def q119 (n:Nat) (x:argsD ps119):Option R119:=p119 n x.1 x.2.1
noncomputable def Sm119:Sm:=⟨ps119,rs119,false,q119⟩
theorem holds119 (hg:GamOK Try.prog G119):Holds Try.prog 119 Sm119:=by
 have:=h0_119 hg
 have e:(runF TT G119 an119 Try.f119 c119 ps119 rs119)=q119:=by
  funext n x
  exact F119_eq n x.1 x.2.1
 rw [e] at this
 exact this
theorem gam119:GamOK Try.prog G119:=by
 intro f s h
 unfold G119 at h
 split at h
 ·injection h with h; subst h; exact ⟨⟨Try.f147,c147,Try.func147,by kernel_rfl,by decide +kernel⟩,hh147⟩
 ·cases h
theorem hh119:Holds Try.prog 119 Sm119:=holds119 gam119
end Go.Proofs.Ytbjgiioppmkpiaa.Rx.S

namespace Go.Proofs.Ytbjgiioppmkpiaa.Rx.S
open Go Go.RowKit Go.Proofs
set_option maxRecDepth 100000
noncomputable def c70:Code:=(Try.f70.body.getD .skip)
def an70:An:=⟨fun _=>⟨[],[]⟩,fun _ _=>none⟩
abbrev ps70:List PK:=[.val .str false]
abbrev rs70:List RK:=[.val .bool false]
abbrev R70:=retsD rs70 × outsD ps70
noncomputable def G70:Gam:=fun f=>match f with | 61=>some Sm61 | 119=>some Sm119 | _=>none
theorem h0_70 (hg:GamOK Try.prog G70):Holds Try.prog 70 ⟨ps70,rs70,false,runF TT G70 an70 Try.f70 c70 ps70 rs70⟩:=holds_of tt_ok hg mixed Try.func70 (by kernel_rfl) (by rfl) (by decide +kernel)
noncomputable def st70_top (n:Nat) (a:ByteArray):Option R70 :=
 (q61 n ((↑a.size:Int),(1:Int),(3:Int),())).bind fun r0=>cond (r0.1.1) ((q119 n (a,(),())).bind fun r1=>some ((decide (r1.1.1 < (0:Int)),()),())) (some ((false,()),()))
theorem e70_top (n:Nat) (a:ByteArray):runF TT G70 an70 Try.f70 c70 ps70 rs70 n (a,())=st70_top n a:=by kernel_rfl
noncomputable def p70 (n:Nat) (a:ByteArray):Option R70:=st70_top n a
theorem F70_eq (n:Nat) (a:ByteArray):runF TT G70 an70 Try.f70 c70 ps70 rs70 n (a,())=p70 n a:=by
 rw [e70_top]
 skip
 try rfl
noncomputable def q70 (n:Nat) (x:argsD ps70):Option R70:=p70 n x.1
noncomputable def Sm70:Sm:=⟨ps70,rs70,false,q70⟩
theorem holds70 (hg:GamOK Try.prog G70):Holds Try.prog 70 Sm70:=by
 have:=h0_70 hg
 have e:(runF TT G70 an70 Try.f70 c70 ps70 rs70)=q70:=by
  funext n x
  exact F70_eq n x.1
 rw [e] at this
 exact this
theorem gam70:GamOK Try.prog G70:=by
 intro f s h
 unfold G70 at h
 split at h
 ·injection h with h; subst h; exact ⟨⟨Try.f61,c61,Try.func61,by kernel_rfl,by decide +kernel⟩,hh61⟩
 ·injection h with h; subst h; exact ⟨⟨Try.f119,c119,Try.func119,by kernel_rfl,by decide +kernel⟩,hh119⟩
 ·cases h
theorem hh70:Holds Try.prog 70 Sm70:=holds70 gam70
end Go.Proofs.Ytbjgiioppmkpiaa.Rx.S

namespace Go.Proofs.Ytbjgiioppmkpiaa.Rx.S
open Go Go.RowKit Go.Proofs
set_option maxRecDepth 100000
noncomputable def c69:Code:=(Try.f69.body.getD .skip)
def an69:An:=⟨fun _=>⟨[],[]⟩,fun _ _=>none⟩
abbrev ps69:List PK:=[.val (tIn 100) true]
abbrev rs69:List RK:=[.val .bool false]
abbrev R69:=retsD rs69 × outsD ps69
noncomputable def G69:Gam:=fun _=>none
theorem h0_69 (hg:GamOK Try.prog G69):Holds Try.prog 69 ⟨ps69,rs69,false,runF TT G69 an69 Try.f69 c69 ps69 rs69⟩:=holds_of tt_ok hg mixed Try.func69 (by kernel_rfl) (by rfl) (by decide +kernel)
noncomputable def st69_top (n:Nat) (a:NT):Option R69 :=
 cond (decide (a.1=(0:Int))) (cond (decide (a.2.1=(0:Int))) (cond (decide (a.2.2.1=(0:Int))) (cond (decide (a.2.2.2.1=(0:Int))) (cond (decide (a.2.2.2.2.1=(0:Int))) (cond (decide (a.2.2.2.2.2.1=(0:Int))) (cond (!a.2.2.2.2.2.2.1) (cond (ByteArray.toList a.2.2.2.2.2.2.2.1 == (ByteArray.mk #[]).toList) (some ((decide ((↑(List.length a.2.2.2.2.2.2.2.2):Int)=(0:Int)),()),())) (some ((false,()),()))) (some ((false,()),()))) (some ((false,()),()))) (some ((false,()),()))) (some ((false,()),()))) (some ((false,()),()))) (some ((false,()),()))) (some ((false,()),()))
theorem e69_top (n:Nat) (a:NT):runF TT G69 an69 Try.f69 c69 ps69 rs69 n (a,())=st69_top n a:=by kernel_rfl
noncomputable def p69 (n:Nat) (a:NT):Option R69:=st69_top n a
theorem F69_eq (n:Nat) (a:NT):runF TT G69 an69 Try.f69 c69 ps69 rs69 n (a,())=p69 n a:=by
 rw [e69_top]
 skip
 try rfl
noncomputable def q69 (n:Nat) (x:argsD ps69):Option R69:=p69 n x.1
noncomputable def Sm69:Sm:=⟨ps69,rs69,false,q69⟩
theorem holds69 (hg:GamOK Try.prog G69):Holds Try.prog 69 Sm69:=by
 have:=h0_69 hg
 have e:(runF TT G69 an69 Try.f69 c69 ps69 rs69)=q69:=by
  funext n x
  exact F69_eq n x.1
 rw [e] at this
 exact this
theorem gam69:GamOK Try.prog G69:=fun _ _ h=>by cases h
theorem hh69:Holds Try.prog 69 Sm69:=holds69 gam69
end Go.Proofs.Ytbjgiioppmkpiaa.Rx.S

namespace Go.Proofs.Ytbjgiioppmkpiaa.Rx.S
open Go Go.RowKit Go.Proofs
set_option maxRecDepth 100000
noncomputable def c19:Code:=(Try.f19.body.getD .skip)
def an19:An:=⟨fun r=>match r with | 6=>⟨[1,3,4,28,29,30],[]⟩ | 16=>⟨[1,3,4,5,6,28,29,30,105,106,107],[]⟩ | 25=>⟨[3,4,163,164,165],[]⟩ | 36=>⟨[3,4,11,12,163,164,165],[]⟩ | _=>⟨[],[]⟩,fun _ _=>none⟩
abbrev ps19:List PK:=[.val tFs true]
abbrev rs19:List RK:=[.val .bool false]
abbrev R19:=retsD rs19 × outsD ps19
noncomputable def G19:Gam:=fun f=>match f with | 70=>some Sm70 | 61=>some Sm61 | 69=>some Sm69 | _=>none
theorem h0_19 (hg:GamOK Try.prog G19):Holds Try.prog 19 ⟨ps19,rs19,false,runF TT G19 an19 Try.f19 c19 ps19 rs19⟩:=holds_of tt_ok hg mixed Try.func19 (by kernel_rfl) (by rfl) (by decide +kernel)
noncomputable def at19:Nat→Pt→List Nat→St→Option R19:=atF TT G19 an19 Try.f19 c19 _ _
def sh19_L16 (x0:Int) (x1:List NT) (x2:Int) (x3:Int) (x4:List (ByteArray × Int)) (x5:Int) (x6:Int) (x7:List NT) (x8:List Int) (x9:List Int) (x10:Int) (x11:Int) (x12:Int) (x13:Int) (x14:Int) (x15:Int) (x16:Bool) (x17:ByteArray) (x18:List (ByteArray × Int)):St:=(St.mk (AV.undef :: ((AV.one (SV.bptr 1000000 0)) :: (AV.undef :: ((AV.one (SV.ref 1000001 0 [] Option.none)) :: ((AV.one (SV.ref 1000002 0 [] Option.none)) :: ((AV.one (SV.int (Go.IntKind.i64) x0)) :: ((AV.one (SV.bptr 1000003 0)) :: (AV.undef :: (AV.undef :: (AV.undef :: (AV.undef :: (AV.undef :: (AV.undef :: (AV.undef :: (AV.undef :: (AV.undef :: (AV.undef :: (AV.undef :: (AV.undef :: (AV.undef :: (AV.undef :: (AV.undef :: (AV.undef :: (AV.undef :: (AV.undef :: (AV.undef :: (AV.undef :: (AV.undef :: ((AV.one (SV.con (⟨37,(Ty.int Go.IntKind.i64).pair ((Ty.int Go.IntKind.i64).pair ((Ty.int Go.IntKind.i64).pair ((Ty.int Go.IntKind.i64).pair ((Ty.int Go.IntKind.i64).pair ((Ty.int Go.IntKind.i64).pair (Ty.bool.pair (Ty.str.pair (Ty.row (nat_lit 100) (Ty.str.pair (Ty.int Go.IntKind.i64)))))))))),x1⟩:Rw))) :: ((AV.one (SV.int (Go.IntKind.i64) x2)) :: ((AV.one (SV.int (Go.IntKind.i64) x3)) :: (AV.undef :: (AV.undef :: (AV.undef :: (AV.undef :: (AV.undef :: (AV.undef :: (AV.undef :: (AV.undef :: (AV.undef :: (AV.undef :: (AV.undef :: (AV.undef :: (AV.undef :: (AV.undef :: (AV.undef :: (AV.undef :: (AV.undef :: (AV.undef :: (AV.undef :: (AV.undef :: (AV.undef :: (AV.undef :: (AV.undef :: (AV.undef :: (AV.undef :: (AV.undef :: (AV.undef :: (AV.undef :: (AV.undef :: (AV.undef :: (AV.undef :: (AV.undef :: (AV.undef :: (AV.undef :: (AV.undef :: (AV.undef :: (AV.undef :: (AV.undef :: (AV.undef :: (AV.undef :: (AV.undef :: (AV.undef :: (AV.undef :: (AV.undef :: (AV.undef :: (AV.undef :: (AV.undef :: (AV.undef :: (AV.undef :: (AV.undef :: (AV.undef :: (AV.undef :: (AV.undef :: (AV.undef :: (AV.undef :: (AV.undef :: (AV.undef :: (AV.undef :: (AV.undef :: (AV.undef :: (AV.undef :: (AV.undef :: (AV.undef :: (AV.undef :: (AV.undef :: (AV.undef :: (AV.undef :: (AV.undef :: (AV.undef :: (AV.undef :: (AV.undef :: (AV.undef :: (AV.undef :: (AV.undef :: ((AV.one (SV.con (⟨100,Ty.str.pair (Ty.int Go.IntKind.i64),x4⟩:Rw))) :: ((AV.one (SV.int (Go.IntKind.i64) x5)) :: ((AV.one (SV.int (Go.IntKind.i64) x6)) :: (AV.undef :: (AV.undef :: (AV.undef :: (AV.undef :: (AV.undef :: (AV.undef :: (AV.undef :: (AV.undef :: (AV.undef :: (AV.undef :: (AV.undef :: (AV.undef :: (AV.undef :: (AV.undef :: (AV.undef :: (AV.undef :: (AV.undef :: (AV.undef :: (AV.undef :: (AV.undef :: (AV.undef :: (AV.undef :: (AV.undef :: (AV.undef :: (AV.undef :: (AV.undef :: (AV.undef :: (AV.undef :: (AV.undef :: (AV.undef :: (AV.undef :: (AV.undef :: (AV.undef :: (AV.undef :: (AV.undef :: (AV.undef :: (AV.undef :: (AV.undef :: (AV.undef :: (AV.undef :: (AV.undef :: (AV.undef :: (AV.undef :: (AV.undef :: (AV.undef :: (AV.undef :: (AV.undef :: (AV.undef :: (AV.undef :: (AV.undef :: (AV.undef :: (AV.undef :: (AV.undef :: (AV.undef :: (AV.undef :: (AV.undef :: (AV.undef :: (AV.undef :: (AV.undef :: (AV.undef :: (AV.undef :: (AV.undef :: (AV.undef :: (AV.undef :: (AV.undef :: (AV.undef :: (AV.undef :: (AV.undef :: (AV.undef :: (AV.undef :: (AV.undef :: (AV.undef :: (AV.undef :: (AV.undef :: (AV.undef :: (AV.undef :: (AV.undef :: (AV.undef :: (AV.undef :: (AV.undef :: (AV.undef :: (AV.undef :: (AV.undef :: (AV.undef :: (AV.undef :: (AV.undef :: (AV.undef :: (AV.undef :: (AV.undef :: (AV.undef :: (AV.undef :: (AV.undef :: (AV.undef :: (AV.undef :: (AV.undef :: (AV.undef :: (AV.undef :: (AV.undef :: (AV.undef :: (AV.undef :: (AV.undef :: (AV.undef :: (AV.undef :: (AV.undef :: (AV.undef :: (AV.undef :: (AV.undef :: (AV.undef :: (AV.undef :: (AV.undef :: (AV.undef :: (AV.undef :: (AV.undef :: (AV.undef :: (AV.undef :: (AV.undef :: (AV.undef :: (AV.undef :: (AV.undef :: (AV.undef :: (AV.undef :: (AV.undef :: [])))))))))))))))))))))))))))))))))))))))))))))))))))))))))))))))))))))))))))))))))))))))))))))))))))))))))))))))))))))))))))))))))))))))))))))))))))))))))))))))))))))))))))))))))))))))))))))))))))))))))))))))))))))))))))))))))))))) ((1000000,(Ent.box ((SV.con (⟨37,(Ty.int Go.IntKind.i64).pair ((Ty.int Go.IntKind.i64).pair ((Ty.int Go.IntKind.i64).pair ((Ty.int Go.IntKind.i64).pair ((Ty.int Go.IntKind.i64).pair ((Ty.int Go.IntKind.i64).pair (Ty.bool.pair (Ty.str.pair (Ty.row (nat_lit 100) (Ty.str.pair (Ty.int Go.IntKind.i64)))))))))),x7⟩:Rw)) :: []))) :: ((1000001,(Ent.row (⟨3,Ty.int Go.IntKind.i64,x8⟩:Rw) 0 Option.none)) :: ((1000002,(Ent.row (⟨3,Ty.int Go.IntKind.i64,x9⟩:Rw) 0 Option.none)) :: ((1000003,(Ent.box ((SV.int (Go.IntKind.i64) x10) :: ((SV.int (Go.IntKind.i64) x11) :: ((SV.int (Go.IntKind.i64) x12) :: ((SV.int (Go.IntKind.i64) x13) :: ((SV.int (Go.IntKind.i64) x14) :: ((SV.int (Go.IntKind.i64) x15) :: ((SV.bool x16) :: ((SV.str x17) :: ((SV.con (⟨100,Ty.str.pair (Ty.int Go.IntKind.i64),x18⟩:Rw)) :: []))))))))))) :: [])))))
def sh19_L36 (x0:Int) (x1:Int) (x2:List NT) (x3:Int) (x4:Int) (x5:List Int) (x6:List Int):St:=(St.mk (AV.undef :: (AV.undef :: (AV.undef :: ((AV.one (SV.ref 1000000 0 [] Option.none)) :: ((AV.one (SV.ref 1000001 0 [] Option.none)) :: (AV.undef :: (AV.undef :: (AV.undef :: (AV.undef :: (AV.undef :: (AV.undef :: ((AV.one (SV.int (Go.IntKind.i64) x0)) :: ((AV.one (SV.int (Go.IntKind.i64) x1)) :: (AV.undef :: (AV.undef :: (AV.undef :: (AV.undef :: (AV.undef :: (AV.undef :: (AV.undef :: (AV.undef :: (AV.undef :: (AV.undef :: (AV.undef :: (AV.undef :: (AV.undef :: (AV.undef :: (AV.undef :: (AV.undef :: (AV.undef :: (AV.undef :: (AV.undef :: (AV.undef :: (AV.undef :: (AV.undef :: (AV.undef :: (AV.undef :: (AV.undef :: (AV.undef :: (AV.undef :: (AV.undef :: (AV.undef :: (AV.undef :: (AV.undef :: (AV.undef :: (AV.undef :: (AV.undef :: (AV.undef :: (AV.undef :: (AV.undef :: (AV.undef :: (AV.undef :: (AV.undef :: (AV.undef :: (AV.undef :: (AV.undef :: (AV.undef :: (AV.undef :: (AV.undef :: (AV.undef :: (AV.undef :: (AV.undef :: (AV.undef :: (AV.undef :: (AV.undef :: (AV.undef :: (AV.undef :: (AV.undef :: (AV.undef :: (AV.undef :: (AV.undef :: (AV.undef :: (AV.undef :: (AV.undef :: (AV.undef :: (AV.undef :: (AV.undef :: (AV.undef :: (AV.undef :: (AV.undef :: (AV.undef :: (AV.undef :: (AV.undef :: (AV.undef :: (AV.undef :: (AV.undef :: (AV.undef :: (AV.undef :: (AV.undef :: (AV.undef :: (AV.undef :: (AV.undef :: (AV.undef :: (AV.undef :: (AV.undef :: (AV.undef :: (AV.undef :: (AV.undef :: (AV.undef :: (AV.undef :: (AV.undef :: (AV.undef :: (AV.undef :: (AV.undef :: (AV.undef :: (AV.undef :: (AV.undef :: (AV.undef :: (AV.undef :: (AV.undef :: (AV.undef :: (AV.undef :: (AV.undef :: (AV.undef :: (AV.undef :: (AV.undef :: (AV.undef :: (AV.undef :: (AV.undef :: (AV.undef :: (AV.undef :: (AV.undef :: (AV.undef :: (AV.undef :: (AV.undef :: (AV.undef :: (AV.undef :: (AV.undef :: (AV.undef :: (AV.undef :: (AV.undef :: (AV.undef :: (AV.undef :: (AV.undef :: (AV.undef :: (AV.undef :: (AV.undef :: (AV.undef :: (AV.undef :: (AV.undef :: (AV.undef :: (AV.undef :: (AV.undef :: (AV.undef :: (AV.undef :: (AV.undef :: (AV.undef :: (AV.undef :: (AV.undef :: (AV.undef :: (AV.undef :: (AV.undef :: (AV.undef :: (AV.undef :: (AV.undef :: (AV.undef :: (AV.undef :: (AV.undef :: (AV.undef :: (AV.undef :: (AV.undef :: (AV.undef :: (AV.undef :: ((AV.one (SV.con (⟨37,(Ty.int Go.IntKind.i64).pair ((Ty.int Go.IntKind.i64).pair ((Ty.int Go.IntKind.i64).pair ((Ty.int Go.IntKind.i64).pair ((Ty.int Go.IntKind.i64).pair ((Ty.int Go.IntKind.i64).pair (Ty.bool.pair (Ty.str.pair (Ty.row (nat_lit 100) (Ty.str.pair (Ty.int Go.IntKind.i64)))))))))),x2⟩:Rw))) :: ((AV.one (SV.int (Go.IntKind.i64) x3)) :: ((AV.one (SV.int (Go.IntKind.i64) x4)) :: (AV.undef :: (AV.undef :: (AV.undef :: (AV.undef :: (AV.undef :: (AV.undef :: (AV.undef :: (AV.undef :: (AV.undef :: (AV.undef :: (AV.undef :: (AV.undef :: (AV.undef :: (AV.undef :: (AV.undef :: (AV.undef :: (AV.undef :: (AV.undef :: (AV.undef :: (AV.undef :: (AV.undef :: (AV.undef :: (AV.undef :: (AV.undef :: (AV.undef :: (AV.undef :: (AV.undef :: (AV.undef :: (AV.undef :: (AV.undef :: (AV.undef :: (AV.undef :: (AV.undef :: (AV.undef :: (AV.undef :: (AV.undef :: (AV.undef :: (AV.undef :: (AV.undef :: (AV.undef :: (AV.undef :: (AV.undef :: (AV.undef :: (AV.undef :: (AV.undef :: (AV.undef :: (AV.undef :: (AV.undef :: (AV.undef :: (AV.undef :: (AV.undef :: (AV.undef :: (AV.undef :: (AV.undef :: (AV.undef :: (AV.undef :: (AV.undef :: (AV.undef :: (AV.undef :: (AV.undef :: (AV.undef :: (AV.undef :: (AV.undef :: (AV.undef :: [])))))))))))))))))))))))))))))))))))))))))))))))))))))))))))))))))))))))))))))))))))))))))))))))))))))))))))))))))))))))))))))))))))))))))))))))))))))))))))))))))))))))))))))))))))))))))))))))))))))))))))))))))))))))))))))))))))))) ((1000000,(Ent.row (⟨3,Ty.int Go.IntKind.i64,x5⟩:Rw) 0 Option.none)) :: ((1000001,(Ent.row (⟨3,Ty.int Go.IntKind.i64,x6⟩:Rw) 0 Option.none)) :: [])))
def sh19_L25 (x0:List NT) (x1:Int) (x2:Int) (x3:List Int) (x4:List Int):St:=(St.mk (AV.undef :: (AV.undef :: (AV.undef :: ((AV.one (SV.ref 1000000 0 [] Option.none)) :: ((AV.one (SV.ref 1000001 0 [] Option.none)) :: (AV.undef :: (AV.undef :: (AV.undef :: (AV.undef :: (AV.undef :: (AV.undef :: (AV.undef :: (AV.undef :: (AV.undef :: (AV.undef :: (AV.undef :: (AV.undef :: (AV.undef :: (AV.undef :: (AV.undef :: (AV.undef :: (AV.undef :: (AV.undef :: (AV.undef :: (AV.undef :: (AV.undef :: (AV.undef :: (AV.undef :: (AV.undef :: (AV.undef :: (AV.undef :: (AV.undef :: (AV.undef :: (AV.undef :: (AV.undef :: (AV.undef :: (AV.undef :: (AV.undef :: (AV.undef :: (AV.undef :: (AV.undef :: (AV.undef :: (AV.undef :: (AV.undef :: (AV.undef :: (AV.undef :: (AV.undef :: (AV.undef :: (AV.undef :: (AV.undef :: (AV.undef :: (AV.undef :: (AV.undef :: (AV.undef :: (AV.undef :: (AV.undef :: (AV.undef :: (AV.undef :: (AV.undef :: (AV.undef :: (AV.undef :: (AV.undef :: (AV.undef :: (AV.undef :: (AV.undef :: (AV.undef :: (AV.undef :: (AV.undef :: (AV.undef :: (AV.undef :: (AV.undef :: (AV.undef :: (AV.undef :: (AV.undef :: (AV.undef :: (AV.undef :: (AV.undef :: (AV.undef :: (AV.undef :: (AV.undef :: (AV.undef :: (AV.undef :: (AV.undef :: (AV.undef :: (AV.undef :: (AV.undef :: (AV.undef :: (AV.undef :: (AV.undef :: (AV.undef :: (AV.undef :: (AV.undef :: (AV.undef :: (AV.undef :: (AV.undef :: (AV.undef :: (AV.undef :: (AV.undef :: (AV.undef :: (AV.undef :: (AV.undef :: (AV.undef :: (AV.undef :: (AV.undef :: (AV.undef :: (AV.undef :: (AV.undef :: (AV.undef :: (AV.undef :: (AV.undef :: (AV.undef :: (AV.undef :: (AV.undef :: (AV.undef :: (AV.undef :: (AV.undef :: (AV.undef :: (AV.undef :: (AV.undef :: (AV.undef :: (AV.undef :: (AV.undef :: (AV.undef :: (AV.undef :: (AV.undef :: (AV.undef :: (AV.undef :: (AV.undef :: (AV.undef :: (AV.undef :: (AV.undef :: (AV.undef :: (AV.undef :: (AV.undef :: (AV.undef :: (AV.undef :: (AV.undef :: (AV.undef :: (AV.undef :: (AV.undef :: (AV.undef :: (AV.undef :: (AV.undef :: (AV.undef :: (AV.undef :: (AV.undef :: (AV.undef :: (AV.undef :: (AV.undef :: (AV.undef :: (AV.undef :: (AV.undef :: (AV.undef :: (AV.undef :: (AV.undef :: (AV.undef :: (AV.undef :: (AV.undef :: (AV.undef :: (AV.undef :: (AV.undef :: (AV.undef :: (AV.undef :: ((AV.one (SV.con (⟨37,(Ty.int Go.IntKind.i64).pair ((Ty.int Go.IntKind.i64).pair ((Ty.int Go.IntKind.i64).pair ((Ty.int Go.IntKind.i64).pair ((Ty.int Go.IntKind.i64).pair ((Ty.int Go.IntKind.i64).pair (Ty.bool.pair (Ty.str.pair (Ty.row (nat_lit 100) (Ty.str.pair (Ty.int Go.IntKind.i64)))))))))),x0⟩:Rw))) :: ((AV.one (SV.int (Go.IntKind.i64) x1)) :: ((AV.one (SV.int (Go.IntKind.i64) x2)) :: (AV.undef :: (AV.undef :: (AV.undef :: (AV.undef :: (AV.undef :: (AV.undef :: (AV.undef :: (AV.undef :: (AV.undef :: (AV.undef :: (AV.undef :: (AV.undef :: (AV.undef :: (AV.undef :: (AV.undef :: (AV.undef :: (AV.undef :: (AV.undef :: (AV.undef :: (AV.undef :: (AV.undef :: (AV.undef :: (AV.undef :: (AV.undef :: (AV.undef :: (AV.undef :: (AV.undef :: (AV.undef :: (AV.undef :: (AV.undef :: (AV.undef :: (AV.undef :: (AV.undef :: (AV.undef :: (AV.undef :: (AV.undef :: (AV.undef :: (AV.undef :: (AV.undef :: (AV.undef :: (AV.undef :: (AV.undef :: (AV.undef :: (AV.undef :: (AV.undef :: (AV.undef :: (AV.undef :: (AV.undef :: (AV.undef :: (AV.undef :: (AV.undef :: (AV.undef :: (AV.undef :: (AV.undef :: (AV.undef :: (AV.undef :: (AV.undef :: (AV.undef :: (AV.undef :: (AV.undef :: (AV.undef :: (AV.undef :: (AV.undef :: (AV.undef :: [])))))))))))))))))))))))))))))))))))))))))))))))))))))))))))))))))))))))))))))))))))))))))))))))))))))))))))))))))))))))))))))))))))))))))))))))))))))))))))))))))))))))))))))))))))))))))))))))))))))))))))))))))))))))))))))))))))))) ((1000000,(Ent.row (⟨3,Ty.int Go.IntKind.i64,x3⟩:Rw) 0 Option.none)) :: ((1000001,(Ent.row (⟨3,Ty.int Go.IntKind.i64,x4⟩:Rw) 0 Option.none)) :: [])))
def sh19_L6 (x0:List NT) (x1:Int) (x2:Int) (x3:List NT) (x4:List Int) (x5:List Int):St:=(St.mk (AV.undef :: ((AV.one (SV.bptr 1000000 0)) :: (AV.undef :: ((AV.one (SV.ref 1000001 0 [] Option.none)) :: ((AV.one (SV.ref 1000002 0 [] Option.none)) :: (AV.undef :: (AV.undef :: (AV.undef :: (AV.undef :: (AV.undef :: (AV.undef :: (AV.undef :: (AV.undef :: (AV.undef :: (AV.undef :: (AV.undef :: (AV.undef :: (AV.undef :: (AV.undef :: (AV.undef :: (AV.undef :: (AV.undef :: (AV.undef :: (AV.undef :: (AV.undef :: (AV.undef :: (AV.undef :: (AV.undef :: ((AV.one (SV.con (⟨37,(Ty.int Go.IntKind.i64).pair ((Ty.int Go.IntKind.i64).pair ((Ty.int Go.IntKind.i64).pair ((Ty.int Go.IntKind.i64).pair ((Ty.int Go.IntKind.i64).pair ((Ty.int Go.IntKind.i64).pair (Ty.bool.pair (Ty.str.pair (Ty.row (nat_lit 100) (Ty.str.pair (Ty.int Go.IntKind.i64)))))))))),x0⟩:Rw))) :: ((AV.one (SV.int (Go.IntKind.i64) x1)) :: ((AV.one (SV.int (Go.IntKind.i64) x2)) :: (AV.undef :: (AV.undef :: (AV.undef :: (AV.undef :: (AV.undef :: (AV.undef :: (AV.undef :: (AV.undef :: (AV.undef :: (AV.undef :: (AV.undef :: (AV.undef :: (AV.undef :: (AV.undef :: (AV.undef :: (AV.undef :: (AV.undef :: (AV.undef :: (AV.undef :: (AV.undef :: (AV.undef :: (AV.undef :: (AV.undef :: (AV.undef :: (AV.undef :: (AV.undef :: (AV.undef :: (AV.undef :: (AV.undef :: (AV.undef :: (AV.undef :: (AV.undef :: (AV.undef :: (AV.undef :: (AV.undef :: (AV.undef :: (AV.undef :: (AV.undef :: (AV.undef :: (AV.undef :: (AV.undef :: (AV.undef :: (AV.undef :: (AV.undef :: (AV.undef :: (AV.undef :: (AV.undef :: (AV.undef :: (AV.undef :: (AV.undef :: (AV.undef :: (AV.undef :: (AV.undef :: (AV.undef :: (AV.undef :: (AV.undef :: (AV.undef :: (AV.undef :: (AV.undef :: (AV.undef :: (AV.undef :: (AV.undef :: (AV.undef :: (AV.undef :: (AV.undef :: (AV.undef :: (AV.undef :: (AV.undef :: (AV.undef :: (AV.undef :: (AV.undef :: (AV.undef :: (AV.undef :: (AV.undef :: (AV.undef :: (AV.undef :: (AV.undef :: (AV.undef :: (AV.undef :: (AV.undef :: (AV.undef :: (AV.undef :: (AV.undef :: (AV.undef :: (AV.undef :: (AV.undef :: (AV.undef :: (AV.undef :: (AV.undef :: (AV.undef :: (AV.undef :: (AV.undef :: (AV.undef :: (AV.undef :: (AV.undef :: (AV.undef :: (AV.undef :: (AV.undef :: (AV.undef :: (AV.undef :: (AV.undef :: (AV.undef :: (AV.undef :: (AV.undef :: (AV.undef :: (AV.undef :: (AV.undef :: (AV.undef :: (AV.undef :: (AV.undef :: (AV.undef :: (AV.undef :: (AV.undef :: (AV.undef :: (AV.undef :: (AV.undef :: (AV.undef :: (AV.undef :: (AV.undef :: (AV.undef :: (AV.undef :: (AV.undef :: (AV.undef :: (AV.undef :: (AV.undef :: (AV.undef :: (AV.undef :: (AV.undef :: (AV.undef :: (AV.undef :: (AV.undef :: (AV.undef :: (AV.undef :: (AV.undef :: (AV.undef :: (AV.undef :: (AV.undef :: (AV.undef :: (AV.undef :: (AV.undef :: (AV.undef :: (AV.undef :: (AV.undef :: (AV.undef :: (AV.undef :: (AV.undef :: (AV.undef :: (AV.undef :: (AV.undef :: (AV.undef :: (AV.undef :: (AV.undef :: (AV.undef :: (AV.undef :: (AV.undef :: (AV.undef :: (AV.undef :: (AV.undef :: (AV.undef :: (AV.undef :: (AV.undef :: (AV.undef :: (AV.undef :: (AV.undef :: (AV.undef :: (AV.undef :: (AV.undef :: (AV.undef :: (AV.undef :: (AV.undef :: (AV.undef :: (AV.undef :: (AV.undef :: (AV.undef :: (AV.undef :: (AV.undef :: (AV.undef :: (AV.undef :: (AV.undef :: (AV.undef :: (AV.undef :: (AV.undef :: (AV.undef :: (AV.undef :: (AV.undef :: (AV.undef :: (AV.undef :: (AV.undef :: (AV.undef :: (AV.undef :: (AV.undef :: (AV.undef :: (AV.undef :: (AV.undef :: (AV.undef :: (AV.undef :: (AV.undef :: (AV.undef :: (AV.undef :: [])))))))))))))))))))))))))))))))))))))))))))))))))))))))))))))))))))))))))))))))))))))))))))))))))))))))))))))))))))))))))))))))))))))))))))))))))))))))))))))))))))))))))))))))))))))))))))))))))))))))))))))))))))))))))))))))))))))) ((1000000,(Ent.box ((SV.con (⟨37,(Ty.int Go.IntKind.i64).pair ((Ty.int Go.IntKind.i64).pair ((Ty.int Go.IntKind.i64).pair ((Ty.int Go.IntKind.i64).pair ((Ty.int Go.IntKind.i64).pair ((Ty.int Go.IntKind.i64).pair (Ty.bool.pair (Ty.str.pair (Ty.row (nat_lit 100) (Ty.str.pair (Ty.int Go.IntKind.i64)))))))))),x3⟩:Rw)) :: []))) :: ((1000001,(Ent.row (⟨3,Ty.int Go.IntKind.i64,x4⟩:Rw) 0 Option.none)) :: ((1000002,(Ent.row (⟨3,Ty.int Go.IntKind.i64,x5⟩:Rw) 0 Option.none)) :: []))))
noncomputable def st19_top (n:Nat) (lL6:(List NT)→Int→Int→(List NT)→(List Int)→(List Int)→Option R19) (a:List NT):Option R19 :=
 cond (!decide ((↑a.length:Int)=(10:Int))) (some ((false,()),())) (cond (decide ((0:Int) < (↑a.length:Int))) (cond (!decide ((a.getD (Int.toNat (0:Int)) ZN).1=(2:Int))) (some ((false,()),())) (lL6 (a) ((↑a.length:Int)) ((0:Int)) (a) (List.replicate (Int.toNat (10:Int)) (0:Int)) (List.replicate (Int.toNat (10:Int)) (0:Int)))) (none))
noncomputable def st19_L16 (n:Nat) (lL16:Int→(List NT)→Int→Int→(List (ByteArray × Int))→Int→Int→(List NT)→(List Int)→(List Int)→Int→Int→Int→Int→Int→Int→Bool→ByteArray→(List (ByteArray × Int))→Option R19) (lL6:(List NT)→Int→Int→(List NT)→(List Int)→(List Int)→Option R19) (x0:Int) (x1:List NT) (x2:Int) (x3:Int) (x4:List (ByteArray × Int)) (x5:Int) (x6:Int) (x7:List NT) (x8:List Int) (x9:List Int) (x10:Int) (x11:Int) (x12:Int) (x13:Int) (x14:Int) (x15:Int) (x16:Bool) (x17:ByteArray) (x18:List (ByteArray × Int)):Option R19 :=
 cond (decide (x6 < x5)) (cond (decide ((0:Int)≤x6)) (cond (decide (x6 < (↑x4.length:Int))) ((q70 n ((x4.getD x6.toNat (ByteArray.empty,(0:Int))).1,())).bind fun r8=>cond (!r8.1.1) (some ((false,()),())) ((q61 n ((x4.getD x6.toNat (ByteArray.empty,(0:Int))).2,(0:Int),(9:Int),())).bind fun r9=>cond (!r9.1.1) (some ((false,()),())) (cond (decide ((0:Int)≤(x4.getD x6.toNat (ByteArray.empty,(0:Int))).2)) (cond (decide ((x4.getD x6.toNat (ByteArray.empty,(0:Int))).2 < (↑x7.length:Int))) (cond (decide ((x7.getD (Int.toNat (x4.getD x6.toNat (ByteArray.empty,(0:Int))).2) ZN).1=(0:Int))) (some ((false,()),())) (cond (decide ((0:Int) < x6)) (cond (decide ((0:Int)≤Go.IntKind.i64.wrap (x6 - (1:Int)))) (cond (decide (Go.IntKind.i64.wrap (x6 - (1:Int)) < (↑x18.length:Int))) (cond (!Go.Op.bytesLess (ByteArray.toList (x18.getD (Go.IntKind.i64.wrap (x6 - (1:Int))).toNat (ByteArray.empty,(0:Int))).1) (ByteArray.toList (x4.getD x6.toNat (ByteArray.empty,(0:Int))).1)) (some ((false,()),())) (cond (decide ((0:Int)≤(x4.getD x6.toNat (ByteArray.empty,(0:Int))).2)) (cond (decide ((x4.getD x6.toNat (ByteArray.empty,(0:Int))).2 < (↑x8.length:Int))) (cond (decide ((0:Int)≤(x4.getD x6.toNat (ByteArray.empty,(0:Int))).2)) (cond (decide ((x4.getD x6.toNat (ByteArray.empty,(0:Int))).2 < (↑x8.length:Int))) (cond (decide ((0:Int)≤(x4.getD x6.toNat (ByteArray.empty,(0:Int))).2)) (cond (decide ((x4.getD x6.toNat (ByteArray.empty,(0:Int))).2 < (↑x9.length:Int))) (lL16 (x0) (x1) (x2) (x3) (x4) (x5) (Go.IntKind.i64.wrap (x6 + (1:Int))) (x7) (x8.set (Int.toNat (x4.getD x6.toNat (ByteArray.empty,(0:Int))).2) (Go.IntKind.i64.wrap (x8.getD (Int.toNat (x4.getD x6.toNat (ByteArray.empty,(0:Int))).2) (0:Int) + (1:Int)))) (x9.set (Int.toNat (x4.getD x6.toNat (ByteArray.empty,(0:Int))).2) x0) (x10) (x11) (x12) (x13) (x14) (x15) (x16) (x17) (x18)) (none)) (none)) (none)) (none)) (none)) (none))) (none)) (none)) (cond (decide ((0:Int)≤(x4.getD x6.toNat (ByteArray.empty,(0:Int))).2)) (cond (decide ((x4.getD x6.toNat (ByteArray.empty,(0:Int))).2 < (↑x8.length:Int))) (cond (decide ((0:Int)≤(x4.getD x6.toNat (ByteArray.empty,(0:Int))).2)) (cond (decide ((x4.getD x6.toNat (ByteArray.empty,(0:Int))).2 < (↑x8.length:Int))) (cond (decide ((0:Int)≤(x4.getD x6.toNat (ByteArray.empty,(0:Int))).2)) (cond (decide ((x4.getD x6.toNat (ByteArray.empty,(0:Int))).2 < (↑x9.length:Int))) (lL16 (x0) (x1) (x2) (x3) (x4) (x5) (Go.IntKind.i64.wrap (x6 + (1:Int))) (x7) (x8.set (Int.toNat (x4.getD x6.toNat (ByteArray.empty,(0:Int))).2) (Go.IntKind.i64.wrap (x8.getD (Int.toNat (x4.getD x6.toNat (ByteArray.empty,(0:Int))).2) (0:Int) + (1:Int)))) (x9.set (Int.toNat (x4.getD x6.toNat (ByteArray.empty,(0:Int))).2) x0) (x10) (x11) (x12) (x13) (x14) (x15) (x16) (x17) (x18)) (none)) (none)) (none)) (none)) (none)) (none)))) (none)) (none)))) (none)) (none)) (lL6 (x1) (x2) (Go.IntKind.i64.wrap (x3 + (1:Int))) (x7) (x8) (x9))
noncomputable def st19_L36 (n:Nat) (lL36:Int→Int→(List NT)→Int→Int→(List Int)→(List Int)→Option R19) (lL25:(List NT)→Int→Int→(List Int)→(List Int)→Option R19) (x0:Int) (x1:Int) (x2:List NT) (x3:Int) (x4:Int) (x5:List Int) (x6:List Int):Option R19 :=
 cond (!decide (x0=(0:Int))) (cond (decide ((10:Int) < x1)) (some ((false,()),())) (cond (decide ((0:Int)≤x0)) (cond (decide (x0 < (↑x6.length:Int))) (lL36 (x6.getD x0.toNat (0:Int)) (Go.IntKind.i64.wrap (x1 + (1:Int))) (x2) (x3) (x4) (x5) (x6)) (none)) (none))) (lL25 (x2) (x3) (Go.IntKind.i64.wrap (x4 + (1:Int))) (x5) (x6))
noncomputable def st19_L25 (n:Nat) (lL25:(List NT)→Int→Int→(List Int)→(List Int)→Option R19) (lL36:Int→Int→(List NT)→Int→Int→(List Int)→(List Int)→Option R19) (x0:List NT) (x1:Int) (x2:Int) (x3:List Int) (x4:List Int):Option R19 :=
 cond (decide (x2 < x1)) (cond (decide ((0:Int)≤x2)) (cond (decide (x2 < (↑x0.length:Int))) (cond (decide ((x0.getD x2.toNat ZN).1=(0:Int))) (lL25 (x0) (x1) (Go.IntKind.i64.wrap (x2 + (1:Int))) (x3) (x4)) (cond (decide ((0:Int)≤x2)) (cond (decide (x2 < (↑x3.length:Int))) (cond (!decide ((x0.getD x2.toNat ZN).2.2.2.2.1=x3.getD x2.toNat (0:Int))) (some ((false,()),())) (cond (decide ((x0.getD x2.toNat ZN).1=(1:Int))) (cond (decide ((x0.getD x2.toNat ZN).2.2.2.2.1=(0:Int))) (cond (decide ((x0.getD x2.toNat ZN).2.2.2.2.2.1=(0:Int))) (some ((false,()),())) (cond (decide ((x0.getD x2.toNat ZN).1=(2:Int))) (cond (decide ((0:Int) < x2)) (cond (!decide ((x0.getD x2.toNat ZN).2.2.2.2.1=(1:Int))) (some ((false,()),())) (cond (decide (x2=(0:Int))) (cond (!decide ((x0.getD x2.toNat ZN).2.2.2.2.1=(0:Int))) (some ((false,()),())) (cond (decide ((x0.getD x2.toNat ZN).1=(2:Int))) (lL36 (x2) ((0:Int)) (x0) (x1) (x2) (x3) (x4)) (lL25 (x0) (x1) (Go.IntKind.i64.wrap (x2 + (1:Int))) (x3) (x4)))) (cond (decide ((x0.getD x2.toNat ZN).1=(2:Int))) (lL36 (x2) ((0:Int)) (x0) (x1) (x2) (x3) (x4)) (lL25 (x0) (x1) (Go.IntKind.i64.wrap (x2 + (1:Int))) (x3) (x4))))) (cond (decide (x2=(0:Int))) (cond (!decide ((x0.getD x2.toNat ZN).2.2.2.2.1=(0:Int))) (some ((false,()),())) (cond (decide ((x0.getD x2.toNat ZN).1=(2:Int))) (lL36 (x2) ((0:Int)) (x0) (x1) (x2) (x3) (x4)) (lL25 (x0) (x1) (Go.IntKind.i64.wrap (x2 + (1:Int))) (x3) (x4)))) (cond (decide ((x0.getD x2.toNat ZN).1=(2:Int))) (lL36 (x2) ((0:Int)) (x0) (x1) (x2) (x3) (x4)) (lL25 (x0) (x1) (Go.IntKind.i64.wrap (x2 + (1:Int))) (x3) (x4))))) (cond (decide (x2=(0:Int))) (cond (!decide ((x0.getD x2.toNat ZN).2.2.2.2.1=(0:Int))) (some ((false,()),())) (cond (decide ((x0.getD x2.toNat ZN).1=(2:Int))) (lL36 (x2) ((0:Int)) (x0) (x1) (x2) (x3) (x4)) (lL25 (x0) (x1) (Go.IntKind.i64.wrap (x2 + (1:Int))) (x3) (x4)))) (cond (decide ((x0.getD x2.toNat ZN).1=(2:Int))) (lL36 (x2) ((0:Int)) (x0) (x1) (x2) (x3) (x4)) (lL25 (x0) (x1) (Go.IntKind.i64.wrap (x2 + (1:Int))) (x3) (x4)))))) (cond (decide ((x0.getD x2.toNat ZN).1=(2:Int))) (cond (decide ((0:Int) < x2)) (cond (!decide ((x0.getD x2.toNat ZN).2.2.2.2.1=(1:Int))) (some ((false,()),())) (cond (decide (x2=(0:Int))) (cond (!decide ((x0.getD x2.toNat ZN).2.2.2.2.1=(0:Int))) (some ((false,()),())) (cond (decide ((x0.getD x2.toNat ZN).1=(2:Int))) (lL36 (x2) ((0:Int)) (x0) (x1) (x2) (x3) (x4)) (lL25 (x0) (x1) (Go.IntKind.i64.wrap (x2 + (1:Int))) (x3) (x4)))) (cond (decide ((x0.getD x2.toNat ZN).1=(2:Int))) (lL36 (x2) ((0:Int)) (x0) (x1) (x2) (x3) (x4)) (lL25 (x0) (x1) (Go.IntKind.i64.wrap (x2 + (1:Int))) (x3) (x4))))) (cond (decide (x2=(0:Int))) (cond (!decide ((x0.getD x2.toNat ZN).2.2.2.2.1=(0:Int))) (some ((false,()),())) (cond (decide ((x0.getD x2.toNat ZN).1=(2:Int))) (lL36 (x2) ((0:Int)) (x0) (x1) (x2) (x3) (x4)) (lL25 (x0) (x1) (Go.IntKind.i64.wrap (x2 + (1:Int))) (x3) (x4)))) (cond (decide ((x0.getD x2.toNat ZN).1=(2:Int))) (lL36 (x2) ((0:Int)) (x0) (x1) (x2) (x3) (x4)) (lL25 (x0) (x1) (Go.IntKind.i64.wrap (x2 + (1:Int))) (x3) (x4))))) (cond (decide (x2=(0:Int))) (cond (!decide ((x0.getD x2.toNat ZN).2.2.2.2.1=(0:Int))) (some ((false,()),())) (cond (decide ((x0.getD x2.toNat ZN).1=(2:Int))) (lL36 (x2) ((0:Int)) (x0) (x1) (x2) (x3) (x4)) (lL25 (x0) (x1) (Go.IntKind.i64.wrap (x2 + (1:Int))) (x3) (x4)))) (cond (decide ((x0.getD x2.toNat ZN).1=(2:Int))) (lL36 (x2) ((0:Int)) (x0) (x1) (x2) (x3) (x4)) (lL25 (x0) (x1) (Go.IntKind.i64.wrap (x2 + (1:Int))) (x3) (x4)))))) (cond (decide ((x0.getD x2.toNat ZN).1=(2:Int))) (cond (decide ((0:Int) < x2)) (cond (!decide ((x0.getD x2.toNat ZN).2.2.2.2.1=(1:Int))) (some ((false,()),())) (cond (decide (x2=(0:Int))) (cond (!decide ((x0.getD x2.toNat ZN).2.2.2.2.1=(0:Int))) (some ((false,()),())) (cond (decide ((x0.getD x2.toNat ZN).1=(2:Int))) (lL36 (x2) ((0:Int)) (x0) (x1) (x2) (x3) (x4)) (lL25 (x0) (x1) (Go.IntKind.i64.wrap (x2 + (1:Int))) (x3) (x4)))) (cond (decide ((x0.getD x2.toNat ZN).1=(2:Int))) (lL36 (x2) ((0:Int)) (x0) (x1) (x2) (x3) (x4)) (lL25 (x0) (x1) (Go.IntKind.i64.wrap (x2 + (1:Int))) (x3) (x4))))) (cond (decide (x2=(0:Int))) (cond (!decide ((x0.getD x2.toNat ZN).2.2.2.2.1=(0:Int))) (some ((false,()),())) (cond (decide ((x0.getD x2.toNat ZN).1=(2:Int))) (lL36 (x2) ((0:Int)) (x0) (x1) (x2) (x3) (x4)) (lL25 (x0) (x1) (Go.IntKind.i64.wrap (x2 + (1:Int))) (x3) (x4)))) (cond (decide ((x0.getD x2.toNat ZN).1=(2:Int))) (lL36 (x2) ((0:Int)) (x0) (x1) (x2) (x3) (x4)) (lL25 (x0) (x1) (Go.IntKind.i64.wrap (x2 + (1:Int))) (x3) (x4))))) (cond (decide (x2=(0:Int))) (cond (!decide ((x0.getD x2.toNat ZN).2.2.2.2.1=(0:Int))) (some ((false,()),())) (cond (decide ((x0.getD x2.toNat ZN).1=(2:Int))) (lL36 (x2) ((0:Int)) (x0) (x1) (x2) (x3) (x4)) (lL25 (x0) (x1) (Go.IntKind.i64.wrap (x2 + (1:Int))) (x3) (x4)))) (cond (decide ((x0.getD x2.toNat ZN).1=(2:Int))) (lL36 (x2) ((0:Int)) (x0) (x1) (x2) (x3) (x4)) (lL25 (x0) (x1) (Go.IntKind.i64.wrap (x2 + (1:Int))) (x3) (x4))))))) (none)) (none))) (none)) (none)) (some ((true,()),()))
noncomputable def st19_L6 (n:Nat) (lL6:(List NT)→Int→Int→(List NT)→(List Int)→(List Int)→Option R19) (lL16:Int→(List NT)→Int→Int→(List (ByteArray × Int))→Int→Int→(List NT)→(List Int)→(List Int)→Int→Int→Int→Int→Int→Int→Bool→ByteArray→(List (ByteArray × Int))→Option R19) (lL25:(List NT)→Int→Int→(List Int)→(List Int)→Option R19) (x0:List NT) (x1:Int) (x2:Int) (x3:List NT) (x4:List Int) (x5:List Int):Option R19 :=
 cond (decide (x2 < x1)) (cond (decide ((0:Int)≤x2)) (cond (decide (x2 < (↑x0.length:Int))) (cond (decide ((x0.getD x2.toNat ZN).1=(0:Int))) ((q69 n (((x0.getD x2.toNat ZN).1,(x0.getD x2.toNat ZN).2.1,(x0.getD x2.toNat ZN).2.2.1,(x0.getD x2.toNat ZN).2.2.2.1,(x0.getD x2.toNat ZN).2.2.2.2.1,(x0.getD x2.toNat ZN).2.2.2.2.2.1,(x0.getD x2.toNat ZN).2.2.2.2.2.2.1,(x0.getD x2.toNat ZN).2.2.2.2.2.2.2.1,(x0.getD x2.toNat ZN).2.2.2.2.2.2.2.2),())).bind fun r1=>cond (!r1.1.1) (some ((false,()),())) (lL6 (x0) (x1) (Go.IntKind.i64.wrap (x2 + (1:Int))) (x3) (x4) (x5))) ((q61 n ((x0.getD x2.toNat ZN).1,(1:Int),(2:Int),())).bind fun r2=>cond (!r2.1.1) (some ((false,()),())) ((q61 n ((x0.getD x2.toNat ZN).2.1,(0:Int),(511:Int),())).bind fun r3=>cond (!r3.1.1) (some ((false,()),())) ((q61 n ((x0.getD x2.toNat ZN).2.2.1,(0:Int),(9:Int),())).bind fun r4=>cond (!r4.1.1) (some ((false,()),())) ((q61 n ((x0.getD x2.toNat ZN).2.2.2.1,(0:Int),(9:Int),())).bind fun r5=>cond (!r5.1.1) (some ((false,()),())) ((q61 n ((x0.getD x2.toNat ZN).2.2.2.2.2.1,(0:Int),(99:Int),())).bind fun r6=>cond (!r6.1.1) (some ((false,()),())) (cond (decide ((x0.getD x2.toNat ZN).1=(1:Int))) (cond (decide ((40:Int) < (↑(ByteArray.size (x0.getD x2.toNat ZN).2.2.2.2.2.2.2.1):Int))) (some ((false,()),())) (cond (decide ((0:Int) < (↑(List.length (x0.getD x2.toNat ZN).2.2.2.2.2.2.2.2):Int))) (some ((false,()),())) (cond (decide ((x0.getD x2.toNat ZN).1=(2:Int))) (cond (!ByteArray.toList (x0.getD x2.toNat ZN).2.2.2.2.2.2.2.1 == (ByteArray.mk #[]).toList) (some ((false,()),())) (cond ((x0.getD x2.toNat ZN).2.2.2.2.2.2.1) (some ((false,()),())) (cond (decide ((6:Int) < (↑(List.length (x0.getD x2.toNat ZN).2.2.2.2.2.2.2.2):Int))) (some ((false,()),())) (lL16 (x2) (x0) (x1) (x2) ((x0.getD x2.toNat ZN).2.2.2.2.2.2.2.2) ((↑(List.length (x0.getD x2.toNat ZN).2.2.2.2.2.2.2.2):Int)) ((0:Int)) (x3) (x4) (x5) ((x0.getD x2.toNat ZN).1) ((x0.getD x2.toNat ZN).2.1) ((x0.getD x2.toNat ZN).2.2.1) ((x0.getD x2.toNat ZN).2.2.2.1) ((x0.getD x2.toNat ZN).2.2.2.2.1) ((x0.getD x2.toNat ZN).2.2.2.2.2.1) ((x0.getD x2.toNat ZN).2.2.2.2.2.2.1) ((x0.getD x2.toNat ZN).2.2.2.2.2.2.2.1) ((x0.getD x2.toNat ZN).2.2.2.2.2.2.2.2))))) (lL16 (x2) (x0) (x1) (x2) ((x0.getD x2.toNat ZN).2.2.2.2.2.2.2.2) ((↑(List.length (x0.getD x2.toNat ZN).2.2.2.2.2.2.2.2):Int)) ((0:Int)) (x3) (x4) (x5) ((x0.getD x2.toNat ZN).1) ((x0.getD x2.toNat ZN).2.1) ((x0.getD x2.toNat ZN).2.2.1) ((x0.getD x2.toNat ZN).2.2.2.1) ((x0.getD x2.toNat ZN).2.2.2.2.1) ((x0.getD x2.toNat ZN).2.2.2.2.2.1) ((x0.getD x2.toNat ZN).2.2.2.2.2.2.1) ((x0.getD x2.toNat ZN).2.2.2.2.2.2.2.1) ((x0.getD x2.toNat ZN).2.2.2.2.2.2.2.2))))) (cond (decide ((x0.getD x2.toNat ZN).1=(2:Int))) (cond (!ByteArray.toList (x0.getD x2.toNat ZN).2.2.2.2.2.2.2.1 == (ByteArray.mk #[]).toList) (some ((false,()),())) (cond ((x0.getD x2.toNat ZN).2.2.2.2.2.2.1) (some ((false,()),())) (cond (decide ((6:Int) < (↑(List.length (x0.getD x2.toNat ZN).2.2.2.2.2.2.2.2):Int))) (some ((false,()),())) (lL16 (x2) (x0) (x1) (x2) ((x0.getD x2.toNat ZN).2.2.2.2.2.2.2.2) ((↑(List.length (x0.getD x2.toNat ZN).2.2.2.2.2.2.2.2):Int)) ((0:Int)) (x3) (x4) (x5) ((x0.getD x2.toNat ZN).1) ((x0.getD x2.toNat ZN).2.1) ((x0.getD x2.toNat ZN).2.2.1) ((x0.getD x2.toNat ZN).2.2.2.1) ((x0.getD x2.toNat ZN).2.2.2.2.1) ((x0.getD x2.toNat ZN).2.2.2.2.2.1) ((x0.getD x2.toNat ZN).2.2.2.2.2.2.1) ((x0.getD x2.toNat ZN).2.2.2.2.2.2.2.1) ((x0.getD x2.toNat ZN).2.2.2.2.2.2.2.2))))) (lL16 (x2) (x0) (x1) (x2) ((x0.getD x2.toNat ZN).2.2.2.2.2.2.2.2) ((↑(List.length (x0.getD x2.toNat ZN).2.2.2.2.2.2.2.2):Int)) ((0:Int)) (x3) (x4) (x5) ((x0.getD x2.toNat ZN).1) ((x0.getD x2.toNat ZN).2.1) ((x0.getD x2.toNat ZN).2.2.1) ((x0.getD x2.toNat ZN).2.2.2.1) ((x0.getD x2.toNat ZN).2.2.2.2.1) ((x0.getD x2.toNat ZN).2.2.2.2.2.1) ((x0.getD x2.toNat ZN).2.2.2.2.2.2.1) ((x0.getD x2.toNat ZN).2.2.2.2.2.2.2.1) ((x0.getD x2.toNat ZN).2.2.2.2.2.2.2.2)))))))))) (none)) (none)) (lL25 (x3) ((↑x3.length:Int)) ((0:Int)) (x4) (x5))
theorem e19_top (n:Nat) (a:List NT):runF TT G19 an19 Try.f19 c19 ps19 rs19 n (a,())=st19_top n (fun x0 x1 x2 x3 x4 x5=>at19 n (.head 6) [n] (sh19_L6 x0 x1 x2 x3 x4 x5)) a:=by kernel_rfl
theorem e19_L16_0 (n:Nat) (m6:Nat) (x0:Int) (x1:List NT) (x2:Int) (x3:Int) (x4:List (ByteArray × Int)) (x5:Int) (x6:Int) (x7:List NT) (x8:List Int) (x9:List Int) (x10:Int) (x11:Int) (x12:Int) (x13:Int) (x14:Int) (x15:Int) (x16:Bool) (x17:ByteArray) (x18:List (ByteArray × Int)):at19 n (.head 16) [m6,0] (sh19_L16 x0 x1 x2 x3 x4 x5 x6 x7 x8 x9 x10 x11 x12 x13 x14 x15 x16 x17 x18)=none:=by kernel_rfl
theorem e19_L16 (n:Nat) (m6:Nat) (m16:Nat) (x0:Int) (x1:List NT) (x2:Int) (x3:Int) (x4:List (ByteArray × Int)) (x5:Int) (x6:Int) (x7:List NT) (x8:List Int) (x9:List Int) (x10:Int) (x11:Int) (x12:Int) (x13:Int) (x14:Int) (x15:Int) (x16:Bool) (x17:ByteArray) (x18:List (ByteArray × Int)):at19 n (.head 16) [m6,m16 + 1] (sh19_L16 x0 x1 x2 x3 x4 x5 x6 x7 x8 x9 x10 x11 x12 x13 x14 x15 x16 x17 x18)=st19_L16 n (fun x0 x1 x2 x3 x4 x5 x6 x7 x8 x9 x10 x11 x12 x13 x14 x15 x16 x17 x18=>at19 n (.head 16) [m6,m16] (sh19_L16 x0 x1 x2 x3 x4 x5 x6 x7 x8 x9 x10 x11 x12 x13 x14 x15 x16 x17 x18)) (fun x0 x1 x2 x3 x4 x5=>at19 n (.head 6) [m6] (sh19_L6 x0 x1 x2 x3 x4 x5)) x0 x1 x2 x3 x4 x5 x6 x7 x8 x9 x10 x11 x12 x13 x14 x15 x16 x17 x18:=by kernel_rfl
theorem e19_L36_0 (n:Nat) (m25:Nat) (x0:Int) (x1:Int) (x2:List NT) (x3:Int) (x4:Int) (x5:List Int) (x6:List Int):at19 n (.head 36) [m25,0] (sh19_L36 x0 x1 x2 x3 x4 x5 x6)=none:=by kernel_rfl
theorem e19_L36 (n:Nat) (m25:Nat) (m36:Nat) (x0:Int) (x1:Int) (x2:List NT) (x3:Int) (x4:Int) (x5:List Int) (x6:List Int):at19 n (.head 36) [m25,m36 + 1] (sh19_L36 x0 x1 x2 x3 x4 x5 x6)=st19_L36 n (fun x0 x1 x2 x3 x4 x5 x6=>at19 n (.head 36) [m25,m36] (sh19_L36 x0 x1 x2 x3 x4 x5 x6)) (fun x0 x1 x2 x3 x4=>at19 n (.head 25) [m25] (sh19_L25 x0 x1 x2 x3 x4)) x0 x1 x2 x3 x4 x5 x6:=by kernel_rfl
theorem e19_L25_0 (n:Nat) (x0:List NT) (x1:Int) (x2:Int) (x3:List Int) (x4:List Int):at19 n (.head 25) [0] (sh19_L25 x0 x1 x2 x3 x4)=none:=by kernel_rfl
theorem e19_L25 (n:Nat) (m25:Nat) (x0:List NT) (x1:Int) (x2:Int) (x3:List Int) (x4:List Int):at19 n (.head 25) [m25 + 1] (sh19_L25 x0 x1 x2 x3 x4)=st19_L25 n (fun x0 x1 x2 x3 x4=>at19 n (.head 25) [m25] (sh19_L25 x0 x1 x2 x3 x4)) (fun x0 x1 x2 x3 x4 x5 x6=>at19 n (.head 36) [m25,n] (sh19_L36 x0 x1 x2 x3 x4 x5 x6)) x0 x1 x2 x3 x4:=by kernel_rfl
theorem e19_L6_0 (n:Nat) (x0:List NT) (x1:Int) (x2:Int) (x3:List NT) (x4:List Int) (x5:List Int):at19 n (.head 6) [0] (sh19_L6 x0 x1 x2 x3 x4 x5)=none:=by kernel_rfl
theorem e19_L6 (n:Nat) (m6:Nat) (x0:List NT) (x1:Int) (x2:Int) (x3:List NT) (x4:List Int) (x5:List Int):at19 n (.head 6) [m6 + 1] (sh19_L6 x0 x1 x2 x3 x4 x5)=st19_L6 n (fun x0 x1 x2 x3 x4 x5=>at19 n (.head 6) [m6] (sh19_L6 x0 x1 x2 x3 x4 x5)) (fun x0 x1 x2 x3 x4 x5 x6 x7 x8 x9 x10 x11 x12 x13 x14 x15 x16 x17 x18=>at19 n (.head 16) [m6,n] (sh19_L16 x0 x1 x2 x3 x4 x5 x6 x7 x8 x9 x10 x11 x12 x13 x14 x15 x16 x17 x18)) (fun x0 x1 x2 x3 x4=>at19 n (.head 25) [n] (sh19_L25 x0 x1 x2 x3 x4)) x0 x1 x2 x3 x4 x5:=by kernel_rfl
noncomputable def p19_L16 (g6:(List NT)→Int→Int→(List NT)→(List Int)→(List Int)→Option R19) (n:Nat):Nat→Int→(List NT)→Int→Int→(List (ByteArray × Int))→Int→Int→(List NT)→(List Int)→(List Int)→Int→Int→Int→Int→Int→Int→Bool→ByteArray→(List (ByteArray × Int))→Option R19
 | 0,_,_,_,_,_,_,_,_,_,_,_,_,_,_,_,_,_,_,_=>none
 | m + 1,x0,x1,x2,x3,x4,x5,x6,x7,x8,x9,x10,x11,x12,x13,x14,x15,x16,x17,x18=>st19_L16 n (p19_L16 g6 n m) g6 x0 x1 x2 x3 x4 x5 x6 x7 x8 x9 x10 x11 x12 x13 x14 x15 x16 x17 x18
noncomputable def p19_L36 (g25:(List NT)→Int→Int→(List Int)→(List Int)→Option R19) (n:Nat):Nat→Int→Int→(List NT)→Int→Int→(List Int)→(List Int)→Option R19
 | 0,_,_,_,_,_,_,_=>none
 | m + 1,x0,x1,x2,x3,x4,x5,x6=>st19_L36 n (p19_L36 g25 n m) g25 x0 x1 x2 x3 x4 x5 x6
noncomputable def p19_L25 (n:Nat):Nat→(List NT)→Int→Int→(List Int)→(List Int)→Option R19
 | 0,_,_,_,_,_=>none
 | m + 1,x0,x1,x2,x3,x4=>st19_L25 n (p19_L25 n m) (p19_L36 (p19_L25 n m) n n) x0 x1 x2 x3 x4
noncomputable def p19_L6 (n:Nat):Nat→(List NT)→Int→Int→(List NT)→(List Int)→(List Int)→Option R19
 | 0,_,_,_,_,_,_=>none
 | m + 1,x0,x1,x2,x3,x4,x5=>st19_L6 n (p19_L6 n m) (p19_L16 (p19_L6 n m) n n) (p19_L25 n n) x0 x1 x2 x3 x4 x5
noncomputable def p19 (n:Nat) (a:List NT):Option R19:=st19_top n (p19_L6 n n) a
theorem t19_L16 (n:Nat) (m6:Nat):∀ (m16:Nat) (x0:Int) (x1:List NT) (x2:Int) (x3:Int) (x4:List (ByteArray × Int)) (x5:Int) (x6:Int) (x7:List NT) (x8:List Int) (x9:List Int) (x10:Int) (x11:Int) (x12:Int) (x13:Int) (x14:Int) (x15:Int) (x16:Bool) (x17:ByteArray) (x18:List (ByteArray × Int)),at19 n (.head 16) [m6,m16] (sh19_L16 x0 x1 x2 x3 x4 x5 x6 x7 x8 x9 x10 x11 x12 x13 x14 x15 x16 x17 x18)=p19_L16 (fun x0 x1 x2 x3 x4 x5=>at19 n (.head 6) [m6] (sh19_L6 x0 x1 x2 x3 x4 x5)) n m16 x0 x1 x2 x3 x4 x5 x6 x7 x8 x9 x10 x11 x12 x13 x14 x15 x16 x17 x18:=by
 intro m
 induction m with
 | zero=>intros; rw [e19_L16_0]; rfl
 | succ m ih =>
  intros
  rw [e19_L16]
  try simp only [ih]
  rfl
theorem t19_L36 (n:Nat) (m25:Nat):∀ (m36:Nat) (x0:Int) (x1:Int) (x2:List NT) (x3:Int) (x4:Int) (x5:List Int) (x6:List Int),at19 n (.head 36) [m25,m36] (sh19_L36 x0 x1 x2 x3 x4 x5 x6)=p19_L36 (fun x0 x1 x2 x3 x4=>at19 n (.head 25) [m25] (sh19_L25 x0 x1 x2 x3 x4)) n m36 x0 x1 x2 x3 x4 x5 x6:=by
 intro m
 induction m with
 | zero=>intros; rw [e19_L36_0]; rfl
 | succ m ih =>
  intros
  rw [e19_L36]
  try simp only [ih]
  rfl
theorem t19_L25 (n:Nat):∀ (m25:Nat) (x0:List NT) (x1:Int) (x2:Int) (x3:List Int) (x4:List Int),at19 n (.head 25) [m25] (sh19_L25 x0 x1 x2 x3 x4)=p19_L25 n m25 x0 x1 x2 x3 x4:=by
 intro m
 induction m with
 | zero=>intros; rw [e19_L25_0]; rfl
 | succ m ih =>
  intros
  rw [e19_L25]
  try simp only [t19_L36,ih]
  rfl
theorem t19_L6 (n:Nat):∀ (m6:Nat) (x0:List NT) (x1:Int) (x2:Int) (x3:List NT) (x4:List Int) (x5:List Int),at19 n (.head 6) [m6] (sh19_L6 x0 x1 x2 x3 x4 x5)=p19_L6 n m6 x0 x1 x2 x3 x4 x5:=by
 intro m
 induction m with
 | zero=>intros; rw [e19_L6_0]; rfl
 | succ m ih =>
  intros
  rw [e19_L6]
  try simp only [t19_L16,t19_L25,ih]
  rfl
theorem F19_eq (n:Nat) (a:List NT):runF TT G19 an19 Try.f19 c19 ps19 rs19 n (a,())=p19 n a:=by
 rw [e19_top]
 simp only [t19_L6]
 try rfl
noncomputable def q19 (n:Nat) (x:argsD ps19):Option R19:=p19 n x.1
noncomputable def Sm19:Sm:=⟨ps19,rs19,false,q19⟩
theorem holds19 (hg:GamOK Try.prog G19):Holds Try.prog 19 Sm19:=by
 have:=h0_19 hg
 have e:(runF TT G19 an19 Try.f19 c19 ps19 rs19)=q19:=by
  funext n x
  exact F19_eq n x.1
 rw [e] at this
 exact this
theorem gam19:GamOK Try.prog G19:=by
 intro f s h
 unfold G19 at h
 split at h
 ·injection h with h; subst h; exact ⟨⟨Try.f70,c70,Try.func70,by kernel_rfl,by decide +kernel⟩,hh70⟩
 ·injection h with h; subst h; exact ⟨⟨Try.f61,c61,Try.func61,by kernel_rfl,by decide +kernel⟩,hh61⟩
 ·injection h with h; subst h; exact ⟨⟨Try.f69,c69,Try.func69,by kernel_rfl,by decide +kernel⟩,hh69⟩
 ·cases h
theorem hh19:Holds Try.prog 19 Sm19:=holds19 gam19
end Go.Proofs.Ytbjgiioppmkpiaa.Rx.S

namespace Go.Proofs.Ytbjgiioppmkpiaa.Rx.S
open Go Go.RowKit Go.Proofs
set_option maxRecDepth 100000
noncomputable def c86:Code:=(Try.f86.body.getD .skip)
def an86:An:=⟨fun _=>⟨[],[]⟩,fun _ _=>none⟩
abbrev ps86:List PK:=[.val tFs true,.val i64 false]
abbrev rs86:List RK:=[.val .bool false]
abbrev R86:=retsD rs86 × outsD ps86
noncomputable def G86:Gam:=fun f=>match f with | 61=>some Sm61 | _=>none
theorem h0_86 (hg:GamOK Try.prog G86):Holds Try.prog 86 ⟨ps86,rs86,false,runF TT G86 an86 Try.f86 c86 ps86 rs86⟩:=holds_of tt_ok hg mixed Try.func86 (by kernel_rfl) (by rfl) (by decide +kernel)
noncomputable def st86_top (n:Nat) (a:List NT) (b:Int):Option R86 :=
 (q61 n (b,(0:Int),Go.IntKind.i64.wrap ((↑a.length:Int) - (1:Int)),())).bind fun r0=>cond (r0.1.1) (cond (decide ((0:Int)≤b)) (cond (decide (b < (↑a.length:Int))) (some ((!decide ((a.getD b.toNat ZN).1=(0:Int)),()),())) (none)) (none)) (some ((false,()),()))
theorem e86_top (n:Nat) (a:List NT) (b:Int):runF TT G86 an86 Try.f86 c86 ps86 rs86 n (a,b,())=st86_top n a b:=by kernel_rfl
noncomputable def p86 (n:Nat) (a:List NT) (b:Int):Option R86:=st86_top n a b
theorem F86_eq (n:Nat) (a:List NT) (b:Int):runF TT G86 an86 Try.f86 c86 ps86 rs86 n (a,b,())=p86 n a b:=by
 rw [e86_top]
 skip
 try rfl
noncomputable def q86 (n:Nat) (x:argsD ps86):Option R86:=p86 n x.1 x.2.1
noncomputable def Sm86:Sm:=⟨ps86,rs86,false,q86⟩
theorem holds86 (hg:GamOK Try.prog G86):Holds Try.prog 86 Sm86:=by
 have:=h0_86 hg
 have e:(runF TT G86 an86 Try.f86 c86 ps86 rs86)=q86:=by
  funext n x
  exact F86_eq n x.1 x.2.1
 rw [e] at this
 exact this
theorem gam86:GamOK Try.prog G86:=by
 intro f s h
 unfold G86 at h
 split at h
 ·injection h with h; subst h; exact ⟨⟨Try.f61,c61,Try.func61,by kernel_rfl,by decide +kernel⟩,hh61⟩
 ·cases h
theorem hh86:Holds Try.prog 86 Sm86:=holds86 gam86
end Go.Proofs.Ytbjgiioppmkpiaa.Rx.S

namespace Go.Proofs.Ytbjgiioppmkpiaa.Rx.S
open Go Go.RowKit Go.Proofs
set_option maxRecDepth 100000
noncomputable def c79:Code:=(Try.f79.body.getD .skip)
def an79:An:=⟨fun r=>match r with | 2=>⟨[1,6,7,8],[]⟩ | _=>⟨[],[]⟩,fun _ _=>none⟩
abbrev ps79:List PK:=[.val tCr true]
abbrev rs79:List RK:=[.val .bool false]
abbrev R79:=retsD rs79 × outsD ps79
noncomputable def G79:Gam:=fun f=>match f with | 61=>some Sm61 | _=>none
theorem h0_79 (hg:GamOK Try.prog G79):Holds Try.prog 79 ⟨ps79,rs79,false,runF TT G79 an79 Try.f79 c79 ps79 rs79⟩:=holds_of tt_ok hg mixed Try.func79 (by kernel_rfl) (by rfl) (by decide +kernel)
noncomputable def at79:Nat→Pt→List Nat→St→Option R79:=atF TT G79 an79 Try.f79 c79 _ _
def sh79_L2 (x0:List Int) (x1:Int) (x2:Int) (x3:Int) (x4:Int) (x5:List Int):St:=(St.mk (AV.undef :: ((AV.one (SV.bptr 1000000 0)) :: (AV.undef :: (AV.undef :: (AV.undef :: (AV.undef :: ((AV.one (SV.con (⟨3,Ty.int Go.IntKind.i64,x0⟩:Rw))) :: ((AV.one (SV.int (Go.IntKind.i64) x1)) :: ((AV.one (SV.int (Go.IntKind.i64) x2)) :: (AV.undef :: (AV.undef :: (AV.undef :: (AV.undef :: (AV.undef :: (AV.undef :: (AV.undef :: (AV.undef :: (AV.undef :: (AV.undef :: (AV.undef :: (AV.undef :: (AV.undef :: (AV.undef :: (AV.undef :: (AV.undef :: (AV.undef :: (AV.undef :: (AV.undef :: (AV.undef :: (AV.undef :: (AV.undef :: (AV.undef :: (AV.undef :: (AV.undef :: (AV.undef :: (AV.undef :: (AV.undef :: (AV.undef :: (AV.undef :: (AV.undef :: (AV.undef :: (AV.undef :: (AV.undef :: (AV.undef :: (AV.undef :: []))))))))))))))))))))))))))))))))))))))))))))) ((1000000,(Ent.box ((SV.int (Go.IntKind.i64) x3) :: ((SV.int (Go.IntKind.i64) x4) :: ((SV.con (⟨3,Ty.int Go.IntKind.i64,x5⟩:Rw)) :: []))))) :: []))
noncomputable def st79_top (n:Nat) (lL2:(List Int)→Int→Int→Int→Int→(List Int)→Option R79) (a:Int × Int × List Int):Option R79 :=
 lL2 (a.2.2) ((↑(List.length a.2.2):Int)) ((0:Int)) (a.1) (a.2.1) (a.2.2)
noncomputable def st79_L2 (n:Nat) (lL2:(List Int)→Int→Int→Int→Int→(List Int)→Option R79) (x0:List Int) (x1:Int) (x2:Int) (x3:Int) (x4:Int) (x5:List Int):Option R79 :=
 cond (decide (x2 < x1)) (cond (decide ((0:Int)≤x2)) (cond (decide (x2 < (↑x0.length:Int))) ((q61 n (x0.getD x2.toNat (0:Int),(0:Int),(9:Int),())).bind fun r1=>cond (!r1.1.1) (some ((false,()),())) (cond (decide ((0:Int) < x2)) (cond (decide ((0:Int)≤Go.IntKind.i64.wrap (x2 - (1:Int)))) (cond (decide (Go.IntKind.i64.wrap (x2 - (1:Int)) < (↑x5.length:Int))) (cond (decide (x0.getD x2.toNat (0:Int)≤x5.getD (Go.IntKind.i64.wrap (x2 - (1:Int))).toNat (0:Int))) (some ((false,()),())) (lL2 (x0) (x1) (Go.IntKind.i64.wrap (x2 + (1:Int))) (x3) (x4) (x5))) (none)) (none)) (lL2 (x0) (x1) (Go.IntKind.i64.wrap (x2 + (1:Int))) (x3) (x4) (x5)))) (none)) (none)) ((q61 n (x3,(0:Int),(9:Int),())).bind fun r2=>cond (r2.1.1) ((q61 n (x4,(0:Int),(9:Int),())).bind fun r3=>cond (r3.1.1) (some ((decide ((↑x5.length:Int)≤(3:Int)),()),())) (some ((false,()),()))) (some ((false,()),())))
theorem e79_top (n:Nat) (a:Int × Int × List Int):runF TT G79 an79 Try.f79 c79 ps79 rs79 n (a,())=st79_top n (fun x0 x1 x2 x3 x4 x5=>at79 n (.head 2) [n] (sh79_L2 x0 x1 x2 x3 x4 x5)) a:=by kernel_rfl
theorem e79_L2_0 (n:Nat) (x0:List Int) (x1:Int) (x2:Int) (x3:Int) (x4:Int) (x5:List Int):at79 n (.head 2) [0] (sh79_L2 x0 x1 x2 x3 x4 x5)=none:=by kernel_rfl
theorem e79_L2 (n:Nat) (m2:Nat) (x0:List Int) (x1:Int) (x2:Int) (x3:Int) (x4:Int) (x5:List Int):at79 n (.head 2) [m2 + 1] (sh79_L2 x0 x1 x2 x3 x4 x5)=st79_L2 n (fun x0 x1 x2 x3 x4 x5=>at79 n (.head 2) [m2] (sh79_L2 x0 x1 x2 x3 x4 x5)) x0 x1 x2 x3 x4 x5:=by kernel_rfl
noncomputable def p79_L2 (n:Nat):Nat→(List Int)→Int→Int→Int→Int→(List Int)→Option R79
 | 0,_,_,_,_,_,_=>none
 | m + 1,x0,x1,x2,x3,x4,x5=>st79_L2 n (p79_L2 n m) x0 x1 x2 x3 x4 x5
noncomputable def p79 (n:Nat) (a:Int × Int × List Int):Option R79:=st79_top n (p79_L2 n n) a
theorem t79_L2 (n:Nat):∀ (m2:Nat) (x0:List Int) (x1:Int) (x2:Int) (x3:Int) (x4:Int) (x5:List Int),at79 n (.head 2) [m2] (sh79_L2 x0 x1 x2 x3 x4 x5)=p79_L2 n m2 x0 x1 x2 x3 x4 x5:=by
 intro m
 induction m with
 | zero=>intros; rw [e79_L2_0]; rfl
 | succ m ih =>
  intros
  rw [e79_L2]
  try simp only [ih]
  rfl
theorem F79_eq (n:Nat) (a:Int × Int × List Int):runF TT G79 an79 Try.f79 c79 ps79 rs79 n (a,())=p79 n a:=by
 rw [e79_top]
 simp only [t79_L2]
 try rfl
noncomputable def q79 (n:Nat) (x:argsD ps79):Option R79:=p79 n x.1
noncomputable def Sm79:Sm:=⟨ps79,rs79,false,q79⟩
theorem holds79 (hg:GamOK Try.prog G79):Holds Try.prog 79 Sm79:=by
 have:=h0_79 hg
 have e:(runF TT G79 an79 Try.f79 c79 ps79 rs79)=q79:=by
  funext n x
  exact F79_eq n x.1
 rw [e] at this
 exact this
theorem gam79:GamOK Try.prog G79:=by
 intro f s h
 unfold G79 at h
 split at h
 ·injection h with h; subst h; exact ⟨⟨Try.f61,c61,Try.func61,by kernel_rfl,by decide +kernel⟩,hh61⟩
 ·cases h
theorem hh79:Holds Try.prog 79 Sm79:=holds79 gam79
end Go.Proofs.Ytbjgiioppmkpiaa.Rx.S

namespace Go.Proofs.Ytbjgiioppmkpiaa.Rx.S
open Go Go.RowKit Go.Proofs
set_option maxRecDepth 100000
noncomputable def c114:Code:=(Try.f114.body.getD .skip)
abbrev ps114:List PK:=[.val (.row 37 (tIn 100)) false]
abbrev rs114:List RK:=[.half 37 (tIn 100) 8]
abbrev R114:=retsD rs114 × outsD ps114
noncomputable def p114 (n:Nat) (a:List NT):Option R114:=cond (decide (a.length * (96:Nat)≤(140737488355328:Nat))) (some ((a,()),())) none
noncomputable def q114 (n:Nat) (x:argsD ps114):Option R114:=p114 n x.1
noncomputable def Sm114:Sm:=⟨ps114,rs114,true,q114⟩
noncomputable def S0_93 (n:Nat) (xs:List NT):St:=(initS Try.f114.ntmps ps114 (xs,())).put (some 2) (.one .nil)
noncomputable def S1_93 (n:Nat) (xs:List NT):St:=(S0_93 n xs).put (some 3) (.one (.con ⟨37,(tIn 100),xs⟩))
theorem gam0_93:GamOK Try.prog (fun _=>none):=fun f s h=>by cases h
theorem hh114:Holds Try.prog 114 Sm114:=by
 refine holds_nilq tt_ok gam0_93 mixed (an:=⟨fun _=>⟨[],[]⟩,fun _ _=>none⟩) Try.func114 (by rfl) rfl (by first | exact Try.underlying23 | kernel_rfl) (by decide +kernel) S0_93 (fun n xs=>by kernel_rfl) S1_93 (fun n xs=>by kernel_rfl) (fun n xs=>rfl) (fun n xs b=>by kernel_rfl) (fun n y h=>?_) (fun n xs y h=>?_)
 ·have h':some (([],()),())=some y:=h
  refine Eq.trans ?_ h'
  kernel_rfl
 ·have h':cond (decide (xs.length * (96:Nat)≤(140737488355328:Nat))) (some ((xs,()),())) none=some y:=h
  refine Eq.trans ?_ h'
  kernel_rfl
end Go.Proofs.Ytbjgiioppmkpiaa.Rx.S

namespace Go.Proofs.Ytbjgiioppmkpiaa.Rx.S
open Go Go.RowKit Go.Proofs
set_option maxRecDepth 100000
noncomputable def c115:Code:=(Try.f115.body.getD .skip)
abbrev ps115:List PK:=[.val (.row 100 tEn) false]
abbrev rs115:List RK:=[.own (.row 100 tEn) false]
abbrev R115:=retsD rs115 × outsD ps115
noncomputable def p115 (n:Nat) (a:List (ByteArray × Int)):Option R115:=cond (decide ((0 + a.length) * (24:Nat)≤(140737488355328:Nat))) (some ((a,()),())) none
noncomputable def q115 (n:Nat) (x:argsD ps115):Option R115:=p115 n x.1
noncomputable def Sm115:Sm:=⟨ps115,rs115,false,q115⟩
noncomputable def S0_94 (n:Nat) (xs:List (ByteArray × Int)):St:=(initS Try.f115.ntmps ps115 (xs,())).put (some 2) (.one .nil)
noncomputable def S1_94 (n:Nat) (xs:List (ByteArray × Int)):St:=(S0_94 n xs).put (some 3) (.one (.con ⟨100,tEn,xs⟩))
theorem gam0_94:GamOK Try.prog (fun _=>none):=fun f s h=>by cases h
theorem hh115:Holds Try.prog 115 Sm115:=by
 refine holds_nilq tt_ok gam0_94 mixed (an:=⟨fun _=>⟨[],[]⟩,fun _ _=>none⟩) Try.func115 (by rfl) rfl (by first | exact Try.underlying37 | kernel_rfl) (by decide +kernel) S0_94 (fun n xs=>by kernel_rfl) S1_94 (fun n xs=>by kernel_rfl) (fun n xs=>rfl) (fun n xs b=>by kernel_rfl) (fun n y h=>?_) (fun n xs y h=>?_)
 ·have h':some (([],()),())=some y:=h
  refine Eq.trans ?_ h'
  kernel_rfl
 ·have h':cond (decide ((0 + xs.length) * (24:Nat)≤(140737488355328:Nat))) (some ((xs,()),())) none=some y:=h
  refine Eq.trans ?_ h'
  kernel_rfl
end Go.Proofs.Ytbjgiioppmkpiaa.Rx.S

namespace Go.Proofs.Ytbjgiioppmkpiaa.Rx.S
open Go Go.RowKit Go.Proofs
set_option maxRecDepth 100000
noncomputable def c62:Code:=(Try.f62.body.getD .skip)
def an62:An:=⟨fun r=>match r with | 3=>⟨[2,3,11,12],[]⟩ | _=>⟨[],[]⟩,fun _ _=>none⟩
abbrev ps62:List PK:=[.val tFs true]
abbrev rs62:List RK:=[.own tFs true]
abbrev R62:=retsD rs62 × outsD ps62
noncomputable def G62:Gam:=fun f=>match f with | 114=>some Sm114 | 115=>some Sm115 | _=>none
theorem h0_62 (hg:GamOK Try.prog G62):Holds Try.prog 62 ⟨ps62,rs62,false,runF TT G62 an62 Try.f62 c62 ps62 rs62⟩:=holds_of tt_ok hg mixed Try.func62 (by kernel_rfl) (by rfl) (by decide +kernel)
noncomputable def at62:Nat→Pt→List Nat→St→Option R62:=atF TT G62 an62 Try.f62 c62 _ _
def sh62_L3 (x0:Int) (x1:Int) (x2:List NT) (x3:Int):St:=(St.mk (AV.undef :: (AV.undef :: ((AV.one (SV.bptr 1000000 0)) :: ((AV.one (SV.bptr 1000001 0)) :: (AV.undef :: (AV.undef :: (AV.undef :: (AV.undef :: (AV.undef :: (AV.undef :: (AV.undef :: ((AV.one (SV.int (Go.IntKind.i64) x0)) :: ((AV.one (SV.int (Go.IntKind.i64) x1)) :: (AV.undef :: (AV.undef :: (AV.undef :: (AV.undef :: (AV.undef :: (AV.undef :: (AV.undef :: (AV.undef :: (AV.undef :: (AV.undef :: (AV.undef :: (AV.undef :: (AV.undef :: (AV.undef :: (AV.undef :: (AV.undef :: []))))))))))))))))))))))))))))) ((1000000,(Ent.box (SV.nil :: []))) :: ((1000001,(Ent.box ((SV.ref 1000002 0 [] Option.none) :: []))) :: ((1000002,(Ent.half (⟨37,(Ty.int Go.IntKind.i64).pair ((Ty.int Go.IntKind.i64).pair ((Ty.int Go.IntKind.i64).pair ((Ty.int Go.IntKind.i64).pair ((Ty.int Go.IntKind.i64).pair ((Ty.int Go.IntKind.i64).pair (Ty.bool.pair (Ty.str.pair (Ty.row (nat_lit 100) (Ty.str.pair (Ty.int Go.IntKind.i64)))))))))),x2⟩:Rw) x3 8)) :: []))))
noncomputable def st62_top (n:Nat) (lL3:Int→Int→(List NT)→Int→Option R62) (a:List NT):Option R62 :=
 (q114 n (a,())).bind fun r0=>lL3 ((↑(List.length r0.1.1):Int)) ((0:Int)) (r0.1.1) ((0:Int))
noncomputable def st62_L3 (n:Nat) (lL3:Int→Int→(List NT)→Int→Option R62) (x0:Int) (x1:Int) (x2:List NT) (x3:Int):Option R62 :=
 cond (decide (x1 < x0)) (cond (decide ((0:Int)≤x1)) (cond (decide (x1 < (↑x2.length:Int))) (cond (decide (x3≤(↑x1.toNat:Int))) ((q115 n ((x2.getD x1.toNat ZN).2.2.2.2.2.2.2.2,())).bind fun r2=>cond (decide ((0:Int)≤x1)) (cond (decide (x1 < (↑x2.length:Int))) (cond (decide (x3=(↑x1.toNat:Int))) (lL3 (x0) (Go.IntKind.i64.wrap (x1 + (1:Int))) (x2.set x1.toNat ((x2.getD x1.toNat ZN).1,(x2.getD x1.toNat ZN).2.1,(x2.getD x1.toNat ZN).2.2.1,(x2.getD x1.toNat ZN).2.2.2.1,(x2.getD x1.toNat ZN).2.2.2.2.1,(x2.getD x1.toNat ZN).2.2.2.2.2.1,(x2.getD x1.toNat ZN).2.2.2.2.2.2.1,(x2.getD x1.toNat ZN).2.2.2.2.2.2.2.1,r2.1.1)) (x3 + (1:Int))) (none)) (none)) (none)) (none)) (none)) (none)) (cond (decide ((↑x2.length:Int)≤x3)) (some ((x2,()),())) (none))
theorem e62_top (n:Nat) (a:List NT):runF TT G62 an62 Try.f62 c62 ps62 rs62 n (a,())=st62_top n (fun x0 x1 x2 x3=>at62 n (.head 3) [n] (sh62_L3 x0 x1 x2 x3)) a:=by kernel_rfl
theorem e62_L3_0 (n:Nat) (x0:Int) (x1:Int) (x2:List NT) (x3:Int):at62 n (.head 3) [0] (sh62_L3 x0 x1 x2 x3)=none:=by kernel_rfl
theorem e62_L3 (n:Nat) (m3:Nat) (x0:Int) (x1:Int) (x2:List NT) (x3:Int):at62 n (.head 3) [m3 + 1] (sh62_L3 x0 x1 x2 x3)=st62_L3 n (fun x0 x1 x2 x3=>at62 n (.head 3) [m3] (sh62_L3 x0 x1 x2 x3)) x0 x1 x2 x3:=by kernel_rfl
noncomputable def p62_L3 (n:Nat):Nat→Int→Int→(List NT)→Int→Option R62
 | 0,_,_,_,_=>none
 | m + 1,x0,x1,x2,x3=>st62_L3 n (p62_L3 n m) x0 x1 x2 x3
noncomputable def p62 (n:Nat) (a:List NT):Option R62:=st62_top n (p62_L3 n n) a
theorem t62_L3 (n:Nat):∀ (m3:Nat) (x0:Int) (x1:Int) (x2:List NT) (x3:Int),at62 n (.head 3) [m3] (sh62_L3 x0 x1 x2 x3)=p62_L3 n m3 x0 x1 x2 x3:=by
 intro m
 induction m with
 | zero=>intros; rw [e62_L3_0]; rfl
 | succ m ih =>
  intros
  rw [e62_L3]
  try simp only [ih]
  rfl
theorem F62_eq (n:Nat) (a:List NT):runF TT G62 an62 Try.f62 c62 ps62 rs62 n (a,())=p62 n a:=by
 rw [e62_top]
 simp only [t62_L3]
 try rfl
noncomputable def q62 (n:Nat) (x:argsD ps62):Option R62:=p62 n x.1
noncomputable def Sm62:Sm:=⟨ps62,rs62,false,q62⟩
theorem holds62 (hg:GamOK Try.prog G62):Holds Try.prog 62 Sm62:=by
 have:=h0_62 hg
 have e:(runF TT G62 an62 Try.f62 c62 ps62 rs62)=q62:=by
  funext n x
  exact F62_eq n x.1
 rw [e] at this
 exact this
theorem gam62:GamOK Try.prog G62:=by
 intro f s h
 unfold G62 at h
 split at h
 ·injection h with h; subst h; exact ⟨⟨Try.f114,c114,Try.func114,by kernel_rfl,by decide +kernel⟩,hh114⟩
 ·injection h with h; subst h; exact ⟨⟨Try.f115,c115,Try.func115,by kernel_rfl,by decide +kernel⟩,hh115⟩
 ·cases h
theorem hh62:Holds Try.prog 62 Sm62:=holds62 gam62
end Go.Proofs.Ytbjgiioppmkpiaa.Rx.S

namespace Go.Proofs.Ytbjgiioppmkpiaa.Rx.S
open Go Go.RowKit Go.Proofs
set_option maxRecDepth 100000
noncomputable def c76:Code:=(Try.f76.body.getD .skip)
def an76:An:=⟨fun r=>match r with | 2=>⟨[0,3],[]⟩ | _=>⟨[],[]⟩,fun _ _=>none⟩
abbrev ps76:List PK:=[.val .str false]
abbrev rs76:List RK:=[.val .bool false]
abbrev R76:=retsD rs76 × outsD ps76
noncomputable def G76:Gam:=fun f=>match f with | 66=>some Sm66 | _=>none
theorem h0_76 (hg:GamOK Try.prog G76):Holds Try.prog 76 ⟨ps76,rs76,false,runF TT G76 an76 Try.f76 c76 ps76 rs76⟩:=holds_of tt_ok hg mixed Try.func76 (by kernel_rfl) (by rfl) (by decide +kernel)
noncomputable def at76:Nat→Pt→List Nat→St→Option R76:=atF TT G76 an76 Try.f76 c76 _ _
def sh76_L2 (x0:ByteArray) (x1:Int):St:=(St.mk ((AV.one (SV.str x0)) :: (AV.undef :: (AV.undef :: ((AV.one (SV.int (Go.IntKind.i64) x1)) :: (AV.undef :: (AV.undef :: (AV.undef :: (AV.undef :: (AV.undef :: (AV.undef :: (AV.undef :: (AV.undef :: (AV.undef :: (AV.undef :: (AV.undef :: (AV.undef :: (AV.undef :: (AV.undef :: (AV.undef :: (AV.undef :: (AV.undef :: (AV.undef :: (AV.undef :: []))))))))))))))))))))))) [])
noncomputable def st76_top (n:Nat) (lL2:ByteArray→Int→Option R76) (a:ByteArray):Option R76 :=
 lL2 (a) ((0:Int))
noncomputable def st76_L2 (n:Nat) (lL2:ByteArray→Int→Option R76) (x0:ByteArray) (x1:Int):Option R76 :=
 cond (decide (x1 < (↑x0.size:Int))) (cond (decide ((0:Int)≤x1)) (cond (decide (x1 < (↑x0.size:Int))) (cond (decide ((↑(x0.data.toList.getD x1.toNat (0:UInt8)).toNat:Int) < (97:Int))) (some ((false,()),())) (cond (decide ((0:Int)≤x1)) (cond (decide (x1 < (↑x0.size:Int))) (cond (decide ((122:Int) < (↑(x0.data.toList.getD x1.toNat (0:UInt8)).toNat:Int))) (some ((false,()),())) (lL2 (x0) (Go.IntKind.i64.wrap (x1 + (1:Int))))) (none)) (none))) (none)) (none)) ((q66 n ((↑x0.size:Int),(1:Int),(3:Int),())).bind fun r1=>some ((r1.1.1,()),()))
theorem e76_top (n:Nat) (a:ByteArray):runF TT G76 an76 Try.f76 c76 ps76 rs76 n (a,())=st76_top n (fun x0 x1=>at76 n (.head 2) [n] (sh76_L2 x0 x1)) a:=by kernel_rfl
theorem e76_L2_0 (n:Nat) (x0:ByteArray) (x1:Int):at76 n (.head 2) [0] (sh76_L2 x0 x1)=none:=by kernel_rfl
theorem e76_L2 (n:Nat) (m2:Nat) (x0:ByteArray) (x1:Int):at76 n (.head 2) [m2 + 1] (sh76_L2 x0 x1)=st76_L2 n (fun x0 x1=>at76 n (.head 2) [m2] (sh76_L2 x0 x1)) x0 x1:=by kernel_rfl
noncomputable def p76_L2 (n:Nat):Nat→ByteArray→Int→Option R76
 | 0,_,_=>none
 | m + 1,x0,x1=>st76_L2 n (p76_L2 n m) x0 x1
noncomputable def p76 (n:Nat) (a:ByteArray):Option R76:=st76_top n (p76_L2 n n) a
theorem t76_L2 (n:Nat):∀ (m2:Nat) (x0:ByteArray) (x1:Int),at76 n (.head 2) [m2] (sh76_L2 x0 x1)=p76_L2 n m2 x0 x1:=by
 intro m
 induction m with
 | zero=>intros; rw [e76_L2_0]; rfl
 | succ m ih =>
  intros
  rw [e76_L2]
  try simp only [ih]
  rfl
theorem F76_eq (n:Nat) (a:ByteArray):runF TT G76 an76 Try.f76 c76 ps76 rs76 n (a,())=p76 n a:=by
 rw [e76_top]
 simp only [t76_L2]
 try rfl
noncomputable def q76 (n:Nat) (x:argsD ps76):Option R76:=p76 n x.1
noncomputable def Sm76:Sm:=⟨ps76,rs76,false,q76⟩
theorem holds76 (hg:GamOK Try.prog G76):Holds Try.prog 76 Sm76:=by
 have:=h0_76 hg
 have e:(runF TT G76 an76 Try.f76 c76 ps76 rs76)=q76:=by
  funext n x
  exact F76_eq n x.1
 rw [e] at this
 exact this
theorem gam76:GamOK Try.prog G76:=by
 intro f s h
 unfold G76 at h
 split at h
 ·injection h with h; subst h; exact ⟨⟨Try.f66,c66,Try.func66,by kernel_rfl,by decide +kernel⟩,hh66⟩
 ·cases h
theorem hh76:Holds Try.prog 76 Sm76:=holds76 gam76
end Go.Proofs.Ytbjgiioppmkpiaa.Rx.S

namespace Go.Proofs.Ytbjgiioppmkpiaa.Rx.S
open Go Go.RowKit Go.Proofs
set_option maxRecDepth 100000
noncomputable def c146:Code:=(Try.f146.body.getD .skip)
def an146:An:=⟨fun _=>⟨[],[]⟩,fun _ _=>none⟩
abbrev ps146:List PK:=[.val (tIn 100) true]
abbrev rs146:List RK:=[.val .bool false]
abbrev R146:=retsD rs146 × outsD ps146
noncomputable def G146:Gam:=fun _=>none
theorem h0_146 (hg:GamOK Try.prog G146):Holds Try.prog 146 ⟨ps146,rs146,false,runF TT G146 an146 Try.f146 c146 ps146 rs146⟩:=holds_of tt_ok hg mixed Try.func146 (by kernel_rfl) (by rfl) (by decide +kernel)
noncomputable def st146_top (n:Nat) (a:NT):Option R146 :=
 cond (decide (a.1=(0:Int))) (cond (decide (a.2.1=(0:Int))) (cond (decide (a.2.2.1=(0:Int))) (cond (decide (a.2.2.2.1=(0:Int))) (cond (decide (a.2.2.2.2.1=(0:Int))) (cond (decide (a.2.2.2.2.2.1=(0:Int))) (cond (!a.2.2.2.2.2.2.1) (cond (ByteArray.toList a.2.2.2.2.2.2.2.1 == (ByteArray.mk #[]).toList) (some ((decide ((↑(List.length a.2.2.2.2.2.2.2.2):Int)=(0:Int)),()),())) (some ((false,()),()))) (some ((false,()),()))) (some ((false,()),()))) (some ((false,()),()))) (some ((false,()),()))) (some ((false,()),()))) (some ((false,()),()))) (some ((false,()),()))
theorem e146_top (n:Nat) (a:NT):runF TT G146 an146 Try.f146 c146 ps146 rs146 n (a,())=st146_top n a:=by kernel_rfl
noncomputable def p146 (n:Nat) (a:NT):Option R146:=st146_top n a
theorem F146_eq (n:Nat) (a:NT):runF TT G146 an146 Try.f146 c146 ps146 rs146 n (a,())=p146 n a:=by
 rw [e146_top]
 skip
 try rfl
noncomputable def q146 (n:Nat) (x:argsD ps146):Option R146:=p146 n x.1
noncomputable def Sm146:Sm:=⟨ps146,rs146,false,q146⟩
theorem holds146 (hg:GamOK Try.prog G146):Holds Try.prog 146 Sm146:=by
 have:=h0_146 hg
 have e:(runF TT G146 an146 Try.f146 c146 ps146 rs146)=q146:=by
  funext n x
  exact F146_eq n x.1
 rw [e] at this
 exact this
theorem gam146:GamOK Try.prog G146:=fun _ _ h=>by cases h
theorem hh146:Holds Try.prog 146 Sm146:=holds146 gam146
end Go.Proofs.Ytbjgiioppmkpiaa.Rx.S

namespace Go.Proofs.Ytbjgiioppmkpiaa.Rx.S
open Go Go.RowKit Go.Proofs
set_option maxRecDepth 100000
noncomputable def c116:Code:=(Try.f116.body.getD .skip)
def an116:An:=⟨fun r=>match r with | 8=>⟨[1,3],[]⟩ | _=>⟨[],[]⟩,fun _ _=>none⟩
abbrev ps116:List PK:=[.val (tIn 100) true]
abbrev rs116:List RK:=[.val .bool false]
abbrev R116:=retsD rs116 × outsD ps116
noncomputable def G116:Gam:=fun f=>match f with | 76=>some Sm76 | 66=>some Sm66 | 118=>some Sm118 | 146=>some Sm146 | _=>none
theorem h0_116 (hg:GamOK Try.prog G116):Holds Try.prog 116 ⟨ps116,rs116,false,runF TT G116 an116 Try.f116 c116 ps116 rs116⟩:=holds_of tt_ok hg mixed Try.func116 (by kernel_rfl) (by rfl) (by decide +kernel)
noncomputable def at116:Nat→Pt→List Nat→St→Option R116:=atF TT G116 an116 Try.f116 c116 _ _
def sh116_L8 (x0:Int) (x1:Int) (x2:Int) (x3:Int) (x4:Int) (x5:Int) (x6:Int) (x7:Bool) (x8:ByteArray) (x9:List (ByteArray × Int)):St:=(St.mk (AV.undef :: ((AV.one (SV.bptr 1000000 0)) :: (AV.undef :: ((AV.one (SV.int (Go.IntKind.i64) x0)) :: (AV.undef :: (AV.undef :: (AV.undef :: (AV.undef :: (AV.undef :: (AV.undef :: (AV.undef :: (AV.undef :: (AV.undef :: (AV.undef :: (AV.undef :: (AV.undef :: (AV.undef :: (AV.undef :: (AV.undef :: (AV.undef :: (AV.undef :: (AV.undef :: (AV.undef :: (AV.undef :: (AV.undef :: (AV.undef :: (AV.undef :: (AV.undef :: (AV.undef :: (AV.undef :: (AV.undef :: (AV.undef :: (AV.undef :: (AV.undef :: (AV.undef :: (AV.undef :: (AV.undef :: (AV.undef :: (AV.undef :: (AV.undef :: (AV.undef :: (AV.undef :: (AV.undef :: (AV.undef :: (AV.undef :: (AV.undef :: (AV.undef :: (AV.undef :: (AV.undef :: (AV.undef :: (AV.undef :: (AV.undef :: (AV.undef :: (AV.undef :: (AV.undef :: (AV.undef :: (AV.undef :: (AV.undef :: (AV.undef :: (AV.undef :: (AV.undef :: (AV.undef :: (AV.undef :: (AV.undef :: (AV.undef :: (AV.undef :: (AV.undef :: (AV.undef :: (AV.undef :: (AV.undef :: (AV.undef :: (AV.undef :: (AV.undef :: (AV.undef :: (AV.undef :: (AV.undef :: (AV.undef :: (AV.undef :: (AV.undef :: (AV.undef :: (AV.undef :: (AV.undef :: (AV.undef :: (AV.undef :: (AV.undef :: (AV.undef :: (AV.undef :: (AV.undef :: (AV.undef :: (AV.undef :: (AV.undef :: (AV.undef :: (AV.undef :: (AV.undef :: (AV.undef :: (AV.undef :: (AV.undef :: (AV.undef :: (AV.undef :: (AV.undef :: (AV.undef :: (AV.undef :: (AV.undef :: (AV.undef :: (AV.undef :: (AV.undef :: (AV.undef :: (AV.undef :: (AV.undef :: (AV.undef :: (AV.undef :: (AV.undef :: (AV.undef :: (AV.undef :: (AV.undef :: (AV.undef :: (AV.undef :: []))))))))))))))))))))))))))))))))))))))))))))))))))))))))))))))))))))))))))))))))))))))))))))))))))))))))))))))))))))) ((1000000,(Ent.box ((SV.int (Go.IntKind.i64) x1) :: ((SV.int (Go.IntKind.i64) x2) :: ((SV.int (Go.IntKind.i64) x3) :: ((SV.int (Go.IntKind.i64) x4) :: ((SV.int (Go.IntKind.i64) x5) :: ((SV.int (Go.IntKind.i64) x6) :: ((SV.bool x7) :: ((SV.str x8) :: ((SV.con (⟨100,Ty.str.pair (Ty.int Go.IntKind.i64),x9⟩:Rw)) :: []))))))))))) :: []))
noncomputable def st116_top (n:Nat) (lL8:Int→Int→Int→Int→Int→Int→Int→Bool→ByteArray→(List (ByteArray × Int))→Option R116) (a:NT):Option R116 :=
 cond (decide (a.1=(0:Int))) ((q146 n ((a.1,a.2.1,a.2.2.1,a.2.2.2.1,a.2.2.2.2.1,a.2.2.2.2.2.1,a.2.2.2.2.2.2.1,a.2.2.2.2.2.2.2.1,a.2.2.2.2.2.2.2.2),())).bind fun r0=>some ((r0.1.1,()),())) ((q66 n (a.1,(1:Int),(2:Int),())).bind fun r1=>cond (!r1.1.1) (some ((false,()),())) ((q66 n (a.2.1,(0:Int),(511:Int),())).bind fun r2=>cond (!r2.1.1) (some ((false,()),())) ((q118 n (a.2.2.1,())).bind fun r3=>cond (!r3.1.1) (some ((false,()),())) ((q118 n (a.2.2.2.1,())).bind fun r4=>cond (!r4.1.1) (some ((false,()),())) ((q66 n (a.2.2.2.2.2.1,(0:Int),(99:Int),())).bind fun r5=>cond (!r5.1.1) (some ((false,()),())) ((q66 n (a.2.2.2.2.1,(0:Int),(99:Int),())).bind fun r6=>cond (!r6.1.1) (some ((false,()),())) (cond (decide ((40:Int) < (↑(ByteArray.size a.2.2.2.2.2.2.2.1):Int))) (some ((false,()),())) (cond (decide ((6:Int) < (↑(List.length a.2.2.2.2.2.2.2.2):Int))) (some ((false,()),())) (cond (decide (a.1=(2:Int))) (cond (!ByteArray.toList a.2.2.2.2.2.2.2.1 == (ByteArray.mk #[]).toList) (some ((false,()),())) (cond (a.2.2.2.2.2.2.1) (some ((false,()),())) (cond (decide (a.1=(1:Int))) (cond (decide ((0:Int) < (↑(List.length a.2.2.2.2.2.2.2.2):Int))) (some ((false,()),())) (lL8 ((0:Int)) (a.1) (a.2.1) (a.2.2.1) (a.2.2.2.1) (a.2.2.2.2.1) (a.2.2.2.2.2.1) (a.2.2.2.2.2.2.1) (a.2.2.2.2.2.2.2.1) (a.2.2.2.2.2.2.2.2))) (lL8 ((0:Int)) (a.1) (a.2.1) (a.2.2.1) (a.2.2.2.1) (a.2.2.2.2.1) (a.2.2.2.2.2.1) (a.2.2.2.2.2.2.1) (a.2.2.2.2.2.2.2.1) (a.2.2.2.2.2.2.2.2))))) (cond (decide (a.1=(1:Int))) (cond (decide ((0:Int) < (↑(List.length a.2.2.2.2.2.2.2.2):Int))) (some ((false,()),())) (lL8 ((0:Int)) (a.1) (a.2.1) (a.2.2.1) (a.2.2.2.1) (a.2.2.2.2.1) (a.2.2.2.2.2.1) (a.2.2.2.2.2.2.1) (a.2.2.2.2.2.2.2.1) (a.2.2.2.2.2.2.2.2))) (lL8 ((0:Int)) (a.1) (a.2.1) (a.2.2.1) (a.2.2.2.1) (a.2.2.2.2.1) (a.2.2.2.2.2.1) (a.2.2.2.2.2.2.1) (a.2.2.2.2.2.2.2.1) (a.2.2.2.2.2.2.2.2))))))))))))
noncomputable def st116_L8 (n:Nat) (lL8:Int→Int→Int→Int→Int→Int→Int→Bool→ByteArray→(List (ByteArray × Int))→Option R116) (x0:Int) (x1:Int) (x2:Int) (x3:Int) (x4:Int) (x5:Int) (x6:Int) (x7:Bool) (x8:ByteArray) (x9:List (ByteArray × Int)):Option R116 :=
 cond (decide (x0 < (↑x9.length:Int))) (cond (decide ((0:Int)≤x0)) (cond (decide (x0 < (↑x9.length:Int))) ((q76 n ((x9.getD x0.toNat (ByteArray.empty,(0:Int))).1,())).bind fun r8=>cond (!r8.1.1) (some ((false,()),())) ((q66 n ((x9.getD x0.toNat (ByteArray.empty,(0:Int))).2,(1:Int),(9:Int),())).bind fun r9=>cond (!r9.1.1) (some ((false,()),())) (cond (decide ((0:Int) < x0)) (cond (decide ((0:Int)≤Go.IntKind.i64.wrap (x0 - (1:Int)))) (cond (decide (Go.IntKind.i64.wrap (x0 - (1:Int)) < (↑x9.length:Int))) (cond (!Go.Op.bytesLess (ByteArray.toList (x9.getD (Go.IntKind.i64.wrap (x0 - (1:Int))).toNat (ByteArray.empty,(0:Int))).1) (ByteArray.toList (x9.getD x0.toNat (ByteArray.empty,(0:Int))).1)) (some ((false,()),())) (lL8 (Go.IntKind.i64.wrap (x0 + (1:Int))) (x1) (x2) (x3) (x4) (x5) (x6) (x7) (x8) (x9))) (none)) (none)) (lL8 (Go.IntKind.i64.wrap (x0 + (1:Int))) (x1) (x2) (x3) (x4) (x5) (x6) (x7) (x8) (x9))))) (none)) (none)) (some ((true,()),()))
theorem e116_top (n:Nat) (a:NT):runF TT G116 an116 Try.f116 c116 ps116 rs116 n (a,())=st116_top n (fun x0 x1 x2 x3 x4 x5 x6 x7 x8 x9=>at116 n (.head 8) [n] (sh116_L8 x0 x1 x2 x3 x4 x5 x6 x7 x8 x9)) a:=by kernel_rfl
theorem e116_L8_0 (n:Nat) (x0:Int) (x1:Int) (x2:Int) (x3:Int) (x4:Int) (x5:Int) (x6:Int) (x7:Bool) (x8:ByteArray) (x9:List (ByteArray × Int)):at116 n (.head 8) [0] (sh116_L8 x0 x1 x2 x3 x4 x5 x6 x7 x8 x9)=none:=by kernel_rfl
theorem e116_L8 (n:Nat) (m8:Nat) (x0:Int) (x1:Int) (x2:Int) (x3:Int) (x4:Int) (x5:Int) (x6:Int) (x7:Bool) (x8:ByteArray) (x9:List (ByteArray × Int)):at116 n (.head 8) [m8 + 1] (sh116_L8 x0 x1 x2 x3 x4 x5 x6 x7 x8 x9)=st116_L8 n (fun x0 x1 x2 x3 x4 x5 x6 x7 x8 x9=>at116 n (.head 8) [m8] (sh116_L8 x0 x1 x2 x3 x4 x5 x6 x7 x8 x9)) x0 x1 x2 x3 x4 x5 x6 x7 x8 x9:=by kernel_rfl
noncomputable def p116_L8 (n:Nat):Nat→Int→Int→Int→Int→Int→Int→Int→Bool→ByteArray→(List (ByteArray × Int))→Option R116
 | 0,_,_,_,_,_,_,_,_,_,_=>none
 | m + 1,x0,x1,x2,x3,x4,x5,x6,x7,x8,x9=>st116_L8 n (p116_L8 n m) x0 x1 x2 x3 x4 x5 x6 x7 x8 x9
noncomputable def p116 (n:Nat) (a:NT):Option R116:=st116_top n (p116_L8 n n) a
theorem t116_L8 (n:Nat):∀ (m8:Nat) (x0:Int) (x1:Int) (x2:Int) (x3:Int) (x4:Int) (x5:Int) (x6:Int) (x7:Bool) (x8:ByteArray) (x9:List (ByteArray × Int)),at116 n (.head 8) [m8] (sh116_L8 x0 x1 x2 x3 x4 x5 x6 x7 x8 x9)=p116_L8 n m8 x0 x1 x2 x3 x4 x5 x6 x7 x8 x9:=by
 intro m
 induction m with
 | zero=>intros; rw [e116_L8_0]; rfl
 | succ m ih =>
  intros
  rw [e116_L8]
  try simp only [ih]
  rfl
theorem F116_eq (n:Nat) (a:NT):runF TT G116 an116 Try.f116 c116 ps116 rs116 n (a,())=p116 n a:=by
 rw [e116_top]
 simp only [t116_L8]
 try rfl
noncomputable def q116 (n:Nat) (x:argsD ps116):Option R116:=p116 n x.1
noncomputable def Sm116:Sm:=⟨ps116,rs116,false,q116⟩
theorem holds116 (hg:GamOK Try.prog G116):Holds Try.prog 116 Sm116:=by
 have:=h0_116 hg
 have e:(runF TT G116 an116 Try.f116 c116 ps116 rs116)=q116:=by
  funext n x
  exact F116_eq n x.1
 rw [e] at this
 exact this
theorem gam116:GamOK Try.prog G116:=by
 intro f s h
 unfold G116 at h
 split at h
 ·injection h with h; subst h; exact ⟨⟨Try.f76,c76,Try.func76,by kernel_rfl,by decide +kernel⟩,hh76⟩
 ·injection h with h; subst h; exact ⟨⟨Try.f66,c66,Try.func66,by kernel_rfl,by decide +kernel⟩,hh66⟩
 ·injection h with h; subst h; exact ⟨⟨Try.f118,c118,Try.func118,by kernel_rfl,by decide +kernel⟩,hh118⟩
 ·injection h with h; subst h; exact ⟨⟨Try.f146,c146,Try.func146,by kernel_rfl,by decide +kernel⟩,hh146⟩
 ·cases h
theorem hh116:Holds Try.prog 116 Sm116:=holds116 gam116
end Go.Proofs.Ytbjgiioppmkpiaa.Rx.S

namespace Go.Proofs.Ytbjgiioppmkpiaa.Rx.S
open Go Go.RowKit Go.Proofs
set_option maxRecDepth 100000
noncomputable def c117:Code:=(Try.f117.body.getD .skip)
def an117:An:=⟨fun r=>match r with | 3=>⟨[1,4,5],[]⟩ | 10=>⟨[1,4,5,6,7],[]⟩ | _=>⟨[],[]⟩,fun _ _=>none⟩
abbrev ps117:List PK:=[.val tFs true]
abbrev rs117:List RK:=[.own (.row 4 .bool) false,.val .bool false]
abbrev R117:=retsD rs117 × outsD ps117
noncomputable def G117:Gam:=fun _=>none
theorem h0_117 (hg:GamOK Try.prog G117):Holds Try.prog 117 ⟨ps117,rs117,false,runF TT G117 an117 Try.f117 c117 ps117 rs117⟩:=holds_of tt_ok hg mixed Try.func117 (by kernel_rfl) (by rfl) (by decide +kernel)
noncomputable def at117:Nat→Pt→List Nat→St→Option R117:=atF TT G117 an117 Try.f117 c117 _ _
def sh117_L10 (x0:Int) (x1:Int) (x2:List NT) (x3:List Bool) (x4:List Int):St:=(St.mk (AV.undef :: ((AV.one (SV.bptr 1000000 0)) :: (AV.undef :: (AV.undef :: ((AV.one (SV.ref 1000001 0 [] Option.none)) :: ((AV.one (SV.ref 1000002 0 [] Option.none)) :: ((AV.one (SV.int (Go.IntKind.i64) x0)) :: ((AV.one (SV.int (Go.IntKind.i64) x1)) :: (AV.undef :: (AV.undef :: (AV.undef :: (AV.undef :: (AV.undef :: (AV.undef :: (AV.undef :: (AV.undef :: (AV.undef :: (AV.undef :: (AV.undef :: (AV.undef :: (AV.undef :: (AV.undef :: (AV.undef :: (AV.undef :: (AV.undef :: (AV.undef :: (AV.undef :: (AV.undef :: (AV.undef :: (AV.undef :: (AV.undef :: (AV.undef :: (AV.undef :: (AV.undef :: (AV.undef :: (AV.undef :: (AV.undef :: (AV.undef :: (AV.undef :: (AV.undef :: (AV.undef :: (AV.undef :: (AV.undef :: (AV.undef :: (AV.undef :: (AV.undef :: (AV.undef :: (AV.undef :: (AV.undef :: (AV.undef :: (AV.undef :: (AV.undef :: (AV.undef :: (AV.undef :: (AV.undef :: (AV.undef :: (AV.undef :: (AV.undef :: (AV.undef :: (AV.undef :: (AV.undef :: (AV.undef :: (AV.undef :: (AV.undef :: (AV.undef :: []))))))))))))))))))))))))))))))))))))))))))))))))))))))))))))))))) ((1000000,(Ent.box ((SV.con (⟨37,(Ty.int Go.IntKind.i64).pair ((Ty.int Go.IntKind.i64).pair ((Ty.int Go.IntKind.i64).pair ((Ty.int Go.IntKind.i64).pair ((Ty.int Go.IntKind.i64).pair ((Ty.int Go.IntKind.i64).pair (Ty.bool.pair (Ty.str.pair (Ty.row (nat_lit 100) (Ty.str.pair (Ty.int Go.IntKind.i64)))))))))),x2⟩:Rw)) :: []))) :: ((1000001,(Ent.row (⟨4,Ty.bool,x3⟩:Rw) 0 Option.none)) :: ((1000002,(Ent.row (⟨3,Ty.int Go.IntKind.i64,x4⟩:Rw) 0 Option.none)) :: []))))
def sh117_L3 (x0:List NT) (x1:List Bool) (x2:List Int):St:=(St.mk (AV.undef :: ((AV.one (SV.bptr 1000000 0)) :: (AV.undef :: (AV.undef :: ((AV.one (SV.ref 1000001 0 [] Option.none)) :: ((AV.one (SV.ref 1000002 0 [] Option.none)) :: (AV.undef :: (AV.undef :: (AV.undef :: (AV.undef :: (AV.undef :: (AV.undef :: (AV.undef :: (AV.undef :: (AV.undef :: (AV.undef :: (AV.undef :: (AV.undef :: (AV.undef :: (AV.undef :: (AV.undef :: (AV.undef :: (AV.undef :: (AV.undef :: (AV.undef :: (AV.undef :: (AV.undef :: (AV.undef :: (AV.undef :: (AV.undef :: (AV.undef :: (AV.undef :: (AV.undef :: (AV.undef :: (AV.undef :: (AV.undef :: (AV.undef :: (AV.undef :: (AV.undef :: (AV.undef :: (AV.undef :: (AV.undef :: (AV.undef :: (AV.undef :: (AV.undef :: (AV.undef :: (AV.undef :: (AV.undef :: (AV.undef :: (AV.undef :: (AV.undef :: (AV.undef :: (AV.undef :: (AV.undef :: (AV.undef :: (AV.undef :: (AV.undef :: (AV.undef :: (AV.undef :: (AV.undef :: (AV.undef :: (AV.undef :: (AV.undef :: (AV.undef :: (AV.undef :: []))))))))))))))))))))))))))))))))))))))))))))))))))))))))))))))))) ((1000000,(Ent.box ((SV.con (⟨37,(Ty.int Go.IntKind.i64).pair ((Ty.int Go.IntKind.i64).pair ((Ty.int Go.IntKind.i64).pair ((Ty.int Go.IntKind.i64).pair ((Ty.int Go.IntKind.i64).pair ((Ty.int Go.IntKind.i64).pair (Ty.bool.pair (Ty.str.pair (Ty.row (nat_lit 100) (Ty.str.pair (Ty.int Go.IntKind.i64)))))))))),x0⟩:Rw)) :: []))) :: ((1000001,(Ent.row (⟨4,Ty.bool,x1⟩:Rw) 0 Option.none)) :: ((1000002,(Ent.row (⟨3,Ty.int Go.IntKind.i64,x2⟩:Rw) 0 Option.none)) :: []))))
noncomputable def st117_top (n:Nat) (lL3:(List NT)→(List Bool)→(List Int)→Option R117) (a:List NT):Option R117 :=
 cond (decide ((↑a.length:Int) * (↑(1:Nat):Int)≤(140737488355328:Int))) (lL3 (a) (List.replicate (↑a.length:Int).toNat false) ([(0:Int)])) (none)
noncomputable def st117_L10 (n:Nat) (lL10:Int→Int→(List NT)→(List Bool)→(List Int)→Option R117) (lL3:(List NT)→(List Bool)→(List Int)→Option R117) (x0:Int) (x1:Int) (x2:List NT) (x3:List Bool) (x4:List Int):Option R117 :=
 cond (decide ((0:Int)≤x0)) (cond (decide (x0 < (↑x2.length:Int))) (cond (decide (x1 < (↑(List.length (x2.getD x0.toNat ZN).2.2.2.2.2.2.2.2):Int))) (cond (decide ((0:Int)≤x0)) (cond (decide (x0 < (↑x2.length:Int))) (cond (decide ((0:Int)≤x1)) (cond (decide (x1 < (↑(List.length (x2.getD x0.toNat ZN).2.2.2.2.2.2.2.2):Int))) (cond (decide ((0:Int)≤(List.getD (x2.getD x0.toNat ZN).2.2.2.2.2.2.2.2 x1.toNat (ByteArray.empty,(0:Int))).2)) (cond (decide ((List.getD (x2.getD x0.toNat ZN).2.2.2.2.2.2.2.2 x1.toNat (ByteArray.empty,(0:Int))).2 < (↑x2.length:Int))) (cond (decide ((x2.getD (Int.toNat (List.getD (x2.getD x0.toNat ZN).2.2.2.2.2.2.2.2 x1.toNat (ByteArray.empty,(0:Int))).2) ZN).1=(2:Int))) (cond (decide ((x4.length + [(List.getD (x2.getD x0.toNat ZN).2.2.2.2.2.2.2.2 x1.toNat (ByteArray.empty,(0:Int))).2].length) * (8:Nat)≤(140737488355328:Nat))) (lL10 (x0) (Go.IntKind.i64.wrap (x1 + (1:Int))) (x2) (x3) (x4 ++ [(List.getD (x2.getD x0.toNat ZN).2.2.2.2.2.2.2.2 x1.toNat (ByteArray.empty,(0:Int))).2])) (none)) (lL10 (x0) (Go.IntKind.i64.wrap (x1 + (1:Int))) (x2) (x3) (x4))) (none)) (none)) (none)) (none)) (none)) (none)) (lL3 (x2) (x3) (x4))) (none)) (none)
noncomputable def st117_L3 (n:Nat) (lL10:Int→Int→(List NT)→(List Bool)→(List Int)→Option R117) (x0:List NT) (x1:List Bool) (x2:List Int):Option R117 :=
 cond (decide ((0:Int) < (↑x2.length:Int))) (cond (decide ((0:Int) < (↑x2.length:Int))) (cond (decide ((1:Int)≤(↑x2.length:Int))) (cond (decide (((0:Nat) + (List.take ((↑x2.length:Int) - (1:Int)).toNat (List.drop ((0:Nat) + Int.toNat (1:Int)) x2)).length) * (8:Nat)≤(140737488355328:Nat))) (cond (decide ((0:Int)≤x2.getD (Int.toNat (0:Int)) (0:Int))) (cond (decide (x2.getD (Int.toNat (0:Int)) (0:Int) < (↑x1.length:Int))) (cond (x1.getD (Int.toNat (x2.getD (Int.toNat (0:Int)) (0:Int))) false) (some ((x1,(false,())),())) (cond (decide ((0:Int)≤x2.getD (Int.toNat (0:Int)) (0:Int))) (cond (decide (x2.getD (Int.toNat (0:Int)) (0:Int) < (↑x1.length:Int))) (lL10 (x2.getD (Int.toNat (0:Int)) (0:Int)) ((0:Int)) (x0) (x1.set (Int.toNat (x2.getD (Int.toNat (0:Int)) (0:Int))) true) (List.take ((↑x2.length:Int) - (1:Int)).toNat (List.drop ((0:Nat) + Int.toNat (1:Int)) x2))) (none)) (none))) (none)) (none)) (none)) (none)) (none)) (some ((x1,(true,())),()))
theorem e117_top (n:Nat) (a:List NT):runF TT G117 an117 Try.f117 c117 ps117 rs117 n (a,())=st117_top n (fun x0 x1 x2=>at117 n (.head 3) [n] (sh117_L3 x0 x1 x2)) a:=by kernel_rfl
theorem e117_L10_0 (n:Nat) (m3:Nat) (x0:Int) (x1:Int) (x2:List NT) (x3:List Bool) (x4:List Int):at117 n (.head 10) [m3,0] (sh117_L10 x0 x1 x2 x3 x4)=none:=by kernel_rfl
theorem e117_L10 (n:Nat) (m3:Nat) (m10:Nat) (x0:Int) (x1:Int) (x2:List NT) (x3:List Bool) (x4:List Int):at117 n (.head 10) [m3,m10 + 1] (sh117_L10 x0 x1 x2 x3 x4)=st117_L10 n (fun x0 x1 x2 x3 x4=>at117 n (.head 10) [m3,m10] (sh117_L10 x0 x1 x2 x3 x4)) (fun x0 x1 x2=>at117 n (.head 3) [m3] (sh117_L3 x0 x1 x2)) x0 x1 x2 x3 x4:=by kernel_rfl
theorem e117_L3_0 (n:Nat) (x0:List NT) (x1:List Bool) (x2:List Int):at117 n (.head 3) [0] (sh117_L3 x0 x1 x2)=none:=by kernel_rfl
theorem e117_L3 (n:Nat) (m3:Nat) (x0:List NT) (x1:List Bool) (x2:List Int):at117 n (.head 3) [m3 + 1] (sh117_L3 x0 x1 x2)=st117_L3 n (fun x0 x1 x2 x3 x4=>at117 n (.head 10) [m3,n] (sh117_L10 x0 x1 x2 x3 x4)) x0 x1 x2:=by kernel_rfl
noncomputable def p117_L10 (g3:(List NT)→(List Bool)→(List Int)→Option R117) (n:Nat):Nat→Int→Int→(List NT)→(List Bool)→(List Int)→Option R117
 | 0,_,_,_,_,_=>none
 | m + 1,x0,x1,x2,x3,x4=>st117_L10 n (p117_L10 g3 n m) g3 x0 x1 x2 x3 x4
noncomputable def p117_L3 (n:Nat):Nat→(List NT)→(List Bool)→(List Int)→Option R117
 | 0,_,_,_=>none
 | m + 1,x0,x1,x2=>st117_L3 n (p117_L10 (p117_L3 n m) n n) x0 x1 x2
noncomputable def p117 (n:Nat) (a:List NT):Option R117:=st117_top n (p117_L3 n n) a
theorem t117_L10 (n:Nat) (m3:Nat):∀ (m10:Nat) (x0:Int) (x1:Int) (x2:List NT) (x3:List Bool) (x4:List Int),at117 n (.head 10) [m3,m10] (sh117_L10 x0 x1 x2 x3 x4)=p117_L10 (fun x0 x1 x2=>at117 n (.head 3) [m3] (sh117_L3 x0 x1 x2)) n m10 x0 x1 x2 x3 x4:=by
 intro m
 induction m with
 | zero=>intros; rw [e117_L10_0]; rfl
 | succ m ih =>
  intros
  rw [e117_L10]
  try simp only [ih]
  rfl
theorem t117_L3 (n:Nat):∀ (m3:Nat) (x0:List NT) (x1:List Bool) (x2:List Int),at117 n (.head 3) [m3] (sh117_L3 x0 x1 x2)=p117_L3 n m3 x0 x1 x2:=by
 intro m
 induction m with
 | zero=>intros; rw [e117_L3_0]; rfl
 | succ m ih =>
  intros
  rw [e117_L3]
  try simp only [t117_L10,ih]
  rfl
theorem F117_eq (n:Nat) (a:List NT):runF TT G117 an117 Try.f117 c117 ps117 rs117 n (a,())=p117 n a:=by
 rw [e117_top]
 simp only [t117_L3]
 try rfl
noncomputable def q117 (n:Nat) (x:argsD ps117):Option R117:=p117 n x.1
noncomputable def Sm117:Sm:=⟨ps117,rs117,false,q117⟩
theorem holds117 (hg:GamOK Try.prog G117):Holds Try.prog 117 Sm117:=by
 have:=h0_117 hg
 have e:(runF TT G117 an117 Try.f117 c117 ps117 rs117)=q117:=by
  funext n x
  exact F117_eq n x.1
 rw [e] at this
 exact this
theorem gam117:GamOK Try.prog G117:=fun _ _ h=>by cases h
theorem hh117:Holds Try.prog 117 Sm117:=holds117 gam117
end Go.Proofs.Ytbjgiioppmkpiaa.Rx.S

namespace Go.Proofs.Ytbjgiioppmkpiaa.Rx.S
open Go Go.RowKit Go.Proofs
set_option maxRecDepth 100000
noncomputable def c63:Code:=(Try.f63.body.getD .skip)
def an63:An:=⟨fun r=>match r with | 5=>⟨[1,3,4],[]⟩ | 10=>⟨[1,3,4,5],[]⟩ | 17=>⟨[1,3,6,7,8],[]⟩ | _=>⟨[],[]⟩,fun _ _=>none⟩
abbrev ps63:List PK:=[.val tFs true]
abbrev rs63:List RK:=[.val .bool false]
abbrev R63:=retsD rs63 × outsD ps63
noncomputable def G63:Gam:=fun f=>match f with | 116=>some Sm116 | 117=>some Sm117 | _=>none
theorem h0_63 (hg:GamOK Try.prog G63):Holds Try.prog 63 ⟨ps63,rs63,false,runF TT G63 an63 Try.f63 c63 ps63 rs63⟩:=holds_of tt_ok hg mixed Try.func63 (by kernel_rfl) (by rfl) (by decide +kernel)
noncomputable def at63:Nat→Pt→List Nat→St→Option R63:=atF TT G63 an63 Try.f63 c63 _ _
def sh63_L10 (x0:Int) (x1:Int) (x2:List NT) (x3:List Int):St:=(St.mk (AV.undef :: ((AV.one (SV.bptr 1000000 0)) :: (AV.undef :: ((AV.one (SV.ref 1000001 0 [] Option.none)) :: ((AV.one (SV.int (Go.IntKind.i64) x0)) :: ((AV.one (SV.int (Go.IntKind.i64) x1)) :: (AV.undef :: (AV.undef :: (AV.undef :: (AV.undef :: (AV.undef :: (AV.undef :: (AV.undef :: (AV.undef :: (AV.undef :: (AV.undef :: (AV.undef :: (AV.undef :: (AV.undef :: (AV.undef :: (AV.undef :: (AV.undef :: (AV.undef :: (AV.undef :: (AV.undef :: (AV.undef :: (AV.undef :: (AV.undef :: (AV.undef :: (AV.undef :: (AV.undef :: (AV.undef :: (AV.undef :: (AV.undef :: (AV.undef :: (AV.undef :: (AV.undef :: (AV.undef :: (AV.undef :: (AV.undef :: (AV.undef :: (AV.undef :: (AV.undef :: (AV.undef :: (AV.undef :: (AV.undef :: (AV.undef :: (AV.undef :: (AV.undef :: (AV.undef :: (AV.undef :: (AV.undef :: (AV.undef :: (AV.undef :: (AV.undef :: (AV.undef :: (AV.undef :: (AV.undef :: (AV.undef :: (AV.undef :: (AV.undef :: (AV.undef :: (AV.undef :: (AV.undef :: (AV.undef :: (AV.undef :: (AV.undef :: (AV.undef :: (AV.undef :: (AV.undef :: (AV.undef :: (AV.undef :: (AV.undef :: (AV.undef :: (AV.undef :: (AV.undef :: (AV.undef :: (AV.undef :: (AV.undef :: (AV.undef :: (AV.undef :: (AV.undef :: (AV.undef :: (AV.undef :: (AV.undef :: (AV.undef :: (AV.undef :: (AV.undef :: (AV.undef :: (AV.undef :: (AV.undef :: (AV.undef :: (AV.undef :: (AV.undef :: (AV.undef :: (AV.undef :: (AV.undef :: (AV.undef :: (AV.undef :: (AV.undef :: (AV.undef :: (AV.undef :: (AV.undef :: (AV.undef :: (AV.undef :: (AV.undef :: (AV.undef :: (AV.undef :: (AV.undef :: (AV.undef :: (AV.undef :: (AV.undef :: (AV.undef :: (AV.undef :: (AV.undef :: (AV.undef :: (AV.undef :: (AV.undef :: (AV.undef :: (AV.undef :: (AV.undef :: (AV.undef :: (AV.undef :: (AV.undef :: (AV.undef :: (AV.undef :: (AV.undef :: (AV.undef :: (AV.undef :: (AV.undef :: (AV.undef :: (AV.undef :: (AV.undef :: (AV.undef :: (AV.undef :: (AV.undef :: (AV.undef :: (AV.undef :: [])))))))))))))))))))))))))))))))))))))))))))))))))))))))))))))))))))))))))))))))))))))))))))))))))))))))))))))))))))))))))))))))))))))))))) ((1000000,(Ent.box ((SV.con (⟨37,(Ty.int Go.IntKind.i64).pair ((Ty.int Go.IntKind.i64).pair ((Ty.int Go.IntKind.i64).pair ((Ty.int Go.IntKind.i64).pair ((Ty.int Go.IntKind.i64).pair ((Ty.int Go.IntKind.i64).pair (Ty.bool.pair (Ty.str.pair (Ty.row (nat_lit 100) (Ty.str.pair (Ty.int Go.IntKind.i64)))))))))),x2⟩:Rw)) :: []))) :: ((1000001,(Ent.row (⟨3,Ty.int Go.IntKind.i64,x3⟩:Rw) 0 Option.none)) :: [])))
def sh63_L17 (x0:Bool) (x1:Int) (x2:List NT) (x3:List Int) (x4:List Bool):St:=(St.mk (AV.undef :: ((AV.one (SV.bptr 1000000 0)) :: (AV.undef :: ((AV.one (SV.ref 1000001 0 [] Option.none)) :: (AV.undef :: (AV.undef :: ((AV.one (SV.ref 1000002 0 [] Option.none)) :: ((AV.one (SV.bool x0)) :: ((AV.one (SV.int (Go.IntKind.i64) x1)) :: (AV.undef :: (AV.undef :: (AV.undef :: (AV.undef :: (AV.undef :: (AV.undef :: (AV.undef :: (AV.undef :: (AV.undef :: (AV.undef :: (AV.undef :: (AV.undef :: (AV.undef :: (AV.undef :: (AV.undef :: (AV.undef :: (AV.undef :: (AV.undef :: (AV.undef :: (AV.undef :: (AV.undef :: (AV.undef :: (AV.undef :: (AV.undef :: (AV.undef :: (AV.undef :: (AV.undef :: (AV.undef :: (AV.undef :: (AV.undef :: (AV.undef :: (AV.undef :: (AV.undef :: (AV.undef :: (AV.undef :: (AV.undef :: (AV.undef :: (AV.undef :: (AV.undef :: (AV.undef :: (AV.undef :: (AV.undef :: (AV.undef :: (AV.undef :: (AV.undef :: (AV.undef :: (AV.undef :: (AV.undef :: (AV.undef :: (AV.undef :: (AV.undef :: (AV.undef :: (AV.undef :: (AV.undef :: (AV.undef :: (AV.undef :: (AV.undef :: (AV.undef :: (AV.undef :: (AV.undef :: (AV.undef :: (AV.undef :: (AV.undef :: (AV.undef :: (AV.undef :: (AV.undef :: (AV.undef :: (AV.undef :: (AV.undef :: (AV.undef :: (AV.undef :: (AV.undef :: (AV.undef :: (AV.undef :: (AV.undef :: (AV.undef :: (AV.undef :: (AV.undef :: (AV.undef :: (AV.undef :: (AV.undef :: (AV.undef :: (AV.undef :: (AV.undef :: (AV.undef :: (AV.undef :: (AV.undef :: (AV.undef :: (AV.undef :: (AV.undef :: (AV.undef :: (AV.undef :: (AV.undef :: (AV.undef :: (AV.undef :: (AV.undef :: (AV.undef :: (AV.undef :: (AV.undef :: (AV.undef :: (AV.undef :: (AV.undef :: (AV.undef :: (AV.undef :: (AV.undef :: (AV.undef :: (AV.undef :: (AV.undef :: (AV.undef :: (AV.undef :: (AV.undef :: (AV.undef :: (AV.undef :: (AV.undef :: (AV.undef :: (AV.undef :: (AV.undef :: (AV.undef :: (AV.undef :: (AV.undef :: (AV.undef :: (AV.undef :: (AV.undef :: (AV.undef :: (AV.undef :: (AV.undef :: (AV.undef :: (AV.undef :: (AV.undef :: [])))))))))))))))))))))))))))))))))))))))))))))))))))))))))))))))))))))))))))))))))))))))))))))))))))))))))))))))))))))))))))))))))))))))))) ((1000000,(Ent.box ((SV.con (⟨37,(Ty.int Go.IntKind.i64).pair ((Ty.int Go.IntKind.i64).pair ((Ty.int Go.IntKind.i64).pair ((Ty.int Go.IntKind.i64).pair ((Ty.int Go.IntKind.i64).pair ((Ty.int Go.IntKind.i64).pair (Ty.bool.pair (Ty.str.pair (Ty.row (nat_lit 100) (Ty.str.pair (Ty.int Go.IntKind.i64)))))))))),x2⟩:Rw)) :: []))) :: ((1000001,(Ent.row (⟨3,Ty.int Go.IntKind.i64,x3⟩:Rw) 0 Option.none)) :: ((1000002,(Ent.row (⟨4,Ty.bool,x4⟩:Rw) 0 Option.none)) :: []))))
def sh63_L5 (x0:Int) (x1:List NT) (x2:List Int):St:=(St.mk (AV.undef :: ((AV.one (SV.bptr 1000000 0)) :: (AV.undef :: ((AV.one (SV.ref 1000001 0 [] Option.none)) :: ((AV.one (SV.int (Go.IntKind.i64) x0)) :: (AV.undef :: (AV.undef :: (AV.undef :: (AV.undef :: (AV.undef :: (AV.undef :: (AV.undef :: (AV.undef :: (AV.undef :: (AV.undef :: (AV.undef :: (AV.undef :: (AV.undef :: (AV.undef :: (AV.undef :: (AV.undef :: (AV.undef :: (AV.undef :: (AV.undef :: (AV.undef :: (AV.undef :: (AV.undef :: (AV.undef :: (AV.undef :: (AV.undef :: (AV.undef :: (AV.undef :: (AV.undef :: (AV.undef :: (AV.undef :: (AV.undef :: (AV.undef :: (AV.undef :: (AV.undef :: (AV.undef :: (AV.undef :: (AV.undef :: (AV.undef :: (AV.undef :: (AV.undef :: (AV.undef :: (AV.undef :: (AV.undef :: (AV.undef :: (AV.undef :: (AV.undef :: (AV.undef :: (AV.undef :: (AV.undef :: (AV.undef :: (AV.undef :: (AV.undef :: (AV.undef :: (AV.undef :: (AV.undef :: (AV.undef :: (AV.undef :: (AV.undef :: (AV.undef :: (AV.undef :: (AV.undef :: (AV.undef :: (AV.undef :: (AV.undef :: (AV.undef :: (AV.undef :: (AV.undef :: (AV.undef :: (AV.undef :: (AV.undef :: (AV.undef :: (AV.undef :: (AV.undef :: (AV.undef :: (AV.undef :: (AV.undef :: (AV.undef :: (AV.undef :: (AV.undef :: (AV.undef :: (AV.undef :: (AV.undef :: (AV.undef :: (AV.undef :: (AV.undef :: (AV.undef :: (AV.undef :: (AV.undef :: (AV.undef :: (AV.undef :: (AV.undef :: (AV.undef :: (AV.undef :: (AV.undef :: (AV.undef :: (AV.undef :: (AV.undef :: (AV.undef :: (AV.undef :: (AV.undef :: (AV.undef :: (AV.undef :: (AV.undef :: (AV.undef :: (AV.undef :: (AV.undef :: (AV.undef :: (AV.undef :: (AV.undef :: (AV.undef :: (AV.undef :: (AV.undef :: (AV.undef :: (AV.undef :: (AV.undef :: (AV.undef :: (AV.undef :: (AV.undef :: (AV.undef :: (AV.undef :: (AV.undef :: (AV.undef :: (AV.undef :: (AV.undef :: (AV.undef :: (AV.undef :: (AV.undef :: (AV.undef :: (AV.undef :: (AV.undef :: (AV.undef :: (AV.undef :: (AV.undef :: [])))))))))))))))))))))))))))))))))))))))))))))))))))))))))))))))))))))))))))))))))))))))))))))))))))))))))))))))))))))))))))))))))))))))))) ((1000000,(Ent.box ((SV.con (⟨37,(Ty.int Go.IntKind.i64).pair ((Ty.int Go.IntKind.i64).pair ((Ty.int Go.IntKind.i64).pair ((Ty.int Go.IntKind.i64).pair ((Ty.int Go.IntKind.i64).pair ((Ty.int Go.IntKind.i64).pair (Ty.bool.pair (Ty.str.pair (Ty.row (nat_lit 100) (Ty.str.pair (Ty.int Go.IntKind.i64)))))))))),x1⟩:Rw)) :: []))) :: ((1000001,(Ent.row (⟨3,Ty.int Go.IntKind.i64,x2⟩:Rw) 0 Option.none)) :: [])))
noncomputable def st63_top (n:Nat) (lL5:Int→(List NT)→(List Int)→Option R63) (a:List NT):Option R63 :=
 cond (!decide ((↑a.length:Int)=(10:Int))) (some ((false,()),())) (lL5 ((0:Int)) (a) (List.replicate (Int.toNat (10:Int)) (0:Int)))
noncomputable def st63_L10 (n:Nat) (lL10:Int→Int→(List NT)→(List Int)→Option R63) (lL5:Int→(List NT)→(List Int)→Option R63) (x0:Int) (x1:Int) (x2:List NT) (x3:List Int):Option R63 :=
 cond (decide ((0:Int)≤x0)) (cond (decide (x0 < (↑x2.length:Int))) (cond (decide (x1 < (↑(List.length (x2.getD x0.toNat ZN).2.2.2.2.2.2.2.2):Int))) (cond (decide ((0:Int)≤x0)) (cond (decide (x0 < (↑x2.length:Int))) (cond (decide ((0:Int)≤x1)) (cond (decide (x1 < (↑(List.length (x2.getD x0.toNat ZN).2.2.2.2.2.2.2.2):Int))) (cond (decide ((0:Int)≤x0)) (cond (decide (x0 < (↑x2.length:Int))) (cond (decide ((0:Int)≤x1)) (cond (decide (x1 < (↑(List.length (x2.getD x0.toNat ZN).2.2.2.2.2.2.2.2):Int))) (cond (decide ((0:Int)≤(List.getD (x2.getD x0.toNat ZN).2.2.2.2.2.2.2.2 x1.toNat (ByteArray.empty,(0:Int))).2)) (cond (decide ((List.getD (x2.getD x0.toNat ZN).2.2.2.2.2.2.2.2 x1.toNat (ByteArray.empty,(0:Int))).2 < (↑x3.length:Int))) (cond (decide ((0:Int)≤(List.getD (x2.getD x0.toNat ZN).2.2.2.2.2.2.2.2 x1.toNat (ByteArray.empty,(0:Int))).2)) (cond (decide ((List.getD (x2.getD x0.toNat ZN).2.2.2.2.2.2.2.2 x1.toNat (ByteArray.empty,(0:Int))).2 < (↑x3.length:Int))) (lL10 (x0) (Go.IntKind.i64.wrap (x1 + (1:Int))) (x2) (x3.set (Int.toNat (List.getD (x2.getD x0.toNat ZN).2.2.2.2.2.2.2.2 x1.toNat (ByteArray.empty,(0:Int))).2) (Go.IntKind.i64.wrap (x3.getD (Int.toNat (List.getD (x2.getD x0.toNat ZN).2.2.2.2.2.2.2.2 x1.toNat (ByteArray.empty,(0:Int))).2) (0:Int) + (1:Int))))) (none)) (none)) (none)) (none)) (none)) (none)) (none)) (none)) (none)) (none)) (none)) (none)) (lL5 (Go.IntKind.i64.wrap (x0 + (1:Int))) (x2) (x3))) (none)) (none)
noncomputable def st63_L17 (n:Nat) (lL17:Bool→Int→(List NT)→(List Int)→(List Bool)→Option R63) (x0:Bool) (x1:Int) (x2:List NT) (x3:List Int) (x4:List Bool):Option R63 :=
 cond (decide (x1 < (10:Int))) (cond (x0) (cond (decide ((0:Int)≤x1)) (cond (decide (x1 < (↑x2.length:Int))) (cond (decide ((0:Int)≤x1)) (cond (decide (x1 < (↑x3.length:Int))) (cond (decide ((0:Int) < x3.getD x1.toNat (0:Int))) (cond (decide ((x2.getD x1.toNat ZN).1=(0:Int))) (some ((false,()),())) (cond (!decide ((x2.getD x1.toNat ZN).1=(0:Int))) (cond (decide ((0:Int)≤x1)) (cond (decide (x1 < (↑x3.length:Int))) (cond (!decide ((x2.getD x1.toNat ZN).2.2.2.2.1=x3.getD x1.toNat (0:Int))) (some ((false,()),())) (cond (decide ((x2.getD x1.toNat ZN).1=(2:Int))) (cond (decide ((0:Int)≤x1)) (cond (decide (x1 < (↑x4.length:Int))) (cond (!x4.getD x1.toNat false) (some ((false,()),())) (cond (decide ((x2.getD x1.toNat ZN).1=(1:Int))) (cond (decide ((x2.getD x1.toNat ZN).2.2.2.2.1=(0:Int))) (cond (decide ((x2.getD x1.toNat ZN).2.2.2.2.2.1=(0:Int))) (some ((false,()),())) (lL17 (x0) (Go.IntKind.i64.wrap (x1 + (1:Int))) (x2) (x3) (x4))) (lL17 (x0) (Go.IntKind.i64.wrap (x1 + (1:Int))) (x2) (x3) (x4))) (lL17 (x0) (Go.IntKind.i64.wrap (x1 + (1:Int))) (x2) (x3) (x4)))) (none)) (none)) (cond (decide ((x2.getD x1.toNat ZN).1=(1:Int))) (cond (decide ((x2.getD x1.toNat ZN).2.2.2.2.1=(0:Int))) (cond (decide ((x2.getD x1.toNat ZN).2.2.2.2.2.1=(0:Int))) (some ((false,()),())) (lL17 (x0) (Go.IntKind.i64.wrap (x1 + (1:Int))) (x2) (x3) (x4))) (lL17 (x0) (Go.IntKind.i64.wrap (x1 + (1:Int))) (x2) (x3) (x4))) (lL17 (x0) (Go.IntKind.i64.wrap (x1 + (1:Int))) (x2) (x3) (x4))))) (none)) (none)) (cond (decide ((x2.getD x1.toNat ZN).1=(2:Int))) (cond (decide ((0:Int)≤x1)) (cond (decide (x1 < (↑x4.length:Int))) (cond (!x4.getD x1.toNat false) (some ((false,()),())) (cond (decide ((x2.getD x1.toNat ZN).1=(1:Int))) (cond (decide ((x2.getD x1.toNat ZN).2.2.2.2.1=(0:Int))) (cond (decide ((x2.getD x1.toNat ZN).2.2.2.2.2.1=(0:Int))) (some ((false,()),())) (lL17 (x0) (Go.IntKind.i64.wrap (x1 + (1:Int))) (x2) (x3) (x4))) (lL17 (x0) (Go.IntKind.i64.wrap (x1 + (1:Int))) (x2) (x3) (x4))) (lL17 (x0) (Go.IntKind.i64.wrap (x1 + (1:Int))) (x2) (x3) (x4)))) (none)) (none)) (cond (decide ((x2.getD x1.toNat ZN).1=(1:Int))) (cond (decide ((x2.getD x1.toNat ZN).2.2.2.2.1=(0:Int))) (cond (decide ((x2.getD x1.toNat ZN).2.2.2.2.2.1=(0:Int))) (some ((false,()),())) (lL17 (x0) (Go.IntKind.i64.wrap (x1 + (1:Int))) (x2) (x3) (x4))) (lL17 (x0) (Go.IntKind.i64.wrap (x1 + (1:Int))) (x2) (x3) (x4))) (lL17 (x0) (Go.IntKind.i64.wrap (x1 + (1:Int))) (x2) (x3) (x4)))))) (cond (!decide ((x2.getD x1.toNat ZN).1=(0:Int))) (cond (decide ((0:Int)≤x1)) (cond (decide (x1 < (↑x3.length:Int))) (cond (!decide ((x2.getD x1.toNat ZN).2.2.2.2.1=x3.getD x1.toNat (0:Int))) (some ((false,()),())) (cond (decide ((x2.getD x1.toNat ZN).1=(2:Int))) (cond (decide ((0:Int)≤x1)) (cond (decide (x1 < (↑x4.length:Int))) (cond (!x4.getD x1.toNat false) (some ((false,()),())) (cond (decide ((x2.getD x1.toNat ZN).1=(1:Int))) (cond (decide ((x2.getD x1.toNat ZN).2.2.2.2.1=(0:Int))) (cond (decide ((x2.getD x1.toNat ZN).2.2.2.2.2.1=(0:Int))) (some ((false,()),())) (lL17 (x0) (Go.IntKind.i64.wrap (x1 + (1:Int))) (x2) (x3) (x4))) (lL17 (x0) (Go.IntKind.i64.wrap (x1 + (1:Int))) (x2) (x3) (x4))) (lL17 (x0) (Go.IntKind.i64.wrap (x1 + (1:Int))) (x2) (x3) (x4)))) (none)) (none)) (cond (decide ((x2.getD x1.toNat ZN).1=(1:Int))) (cond (decide ((x2.getD x1.toNat ZN).2.2.2.2.1=(0:Int))) (cond (decide ((x2.getD x1.toNat ZN).2.2.2.2.2.1=(0:Int))) (some ((false,()),())) (lL17 (x0) (Go.IntKind.i64.wrap (x1 + (1:Int))) (x2) (x3) (x4))) (lL17 (x0) (Go.IntKind.i64.wrap (x1 + (1:Int))) (x2) (x3) (x4))) (lL17 (x0) (Go.IntKind.i64.wrap (x1 + (1:Int))) (x2) (x3) (x4))))) (none)) (none)) (cond (decide ((x2.getD x1.toNat ZN).1=(2:Int))) (cond (decide ((0:Int)≤x1)) (cond (decide (x1 < (↑x4.length:Int))) (cond (!x4.getD x1.toNat false) (some ((false,()),())) (cond (decide ((x2.getD x1.toNat ZN).1=(1:Int))) (cond (decide ((x2.getD x1.toNat ZN).2.2.2.2.1=(0:Int))) (cond (decide ((x2.getD x1.toNat ZN).2.2.2.2.2.1=(0:Int))) (some ((false,()),())) (lL17 (x0) (Go.IntKind.i64.wrap (x1 + (1:Int))) (x2) (x3) (x4))) (lL17 (x0) (Go.IntKind.i64.wrap (x1 + (1:Int))) (x2) (x3) (x4))) (lL17 (x0) (Go.IntKind.i64.wrap (x1 + (1:Int))) (x2) (x3) (x4)))) (none)) (none)) (cond (decide ((x2.getD x1.toNat ZN).1=(1:Int))) (cond (decide ((x2.getD x1.toNat ZN).2.2.2.2.1=(0:Int))) (cond (decide ((x2.getD x1.toNat ZN).2.2.2.2.2.1=(0:Int))) (some ((false,()),())) (lL17 (x0) (Go.IntKind.i64.wrap (x1 + (1:Int))) (x2) (x3) (x4))) (lL17 (x0) (Go.IntKind.i64.wrap (x1 + (1:Int))) (x2) (x3) (x4))) (lL17 (x0) (Go.IntKind.i64.wrap (x1 + (1:Int))) (x2) (x3) (x4)))))) (none)) (none)) (none)) (none)) (some ((x0,()),()))) (some ((x0,()),()))
noncomputable def st63_L5 (n:Nat) (lL10:Int→Int→(List NT)→(List Int)→Option R63) (lL17:Bool→Int→(List NT)→(List Int)→(List Bool)→Option R63) (x0:Int) (x1:List NT) (x2:List Int):Option R63 :=
 cond (decide (x0 < (10:Int))) (cond (decide ((0:Int)≤x0)) (cond (decide (x0 < (↑x1.length:Int))) ((q116 n (((x1.getD x0.toNat ZN).1,(x1.getD x0.toNat ZN).2.1,(x1.getD x0.toNat ZN).2.2.1,(x1.getD x0.toNat ZN).2.2.2.1,(x1.getD x0.toNat ZN).2.2.2.2.1,(x1.getD x0.toNat ZN).2.2.2.2.2.1,(x1.getD x0.toNat ZN).2.2.2.2.2.2.1,(x1.getD x0.toNat ZN).2.2.2.2.2.2.2.1,(x1.getD x0.toNat ZN).2.2.2.2.2.2.2.2),())).bind fun r1=>cond (!r1.1.1) (some ((false,()),())) (lL10 (x0) ((0:Int)) (x1) (x2))) (none)) (none)) (cond (decide ((0:Int) < (↑x1.length:Int))) (cond (!decide ((x1.getD (Int.toNat (0:Int)) ZN).1=(2:Int))) (some ((false,()),())) ((q117 n (x1,())).bind fun r3=>lL17 (r3.1.2.1) ((0:Int)) (x1) (x2) (r3.1.1))) (none))
theorem e63_top (n:Nat) (a:List NT):runF TT G63 an63 Try.f63 c63 ps63 rs63 n (a,())=st63_top n (fun x0 x1 x2=>at63 n (.head 5) [n] (sh63_L5 x0 x1 x2)) a:=by kernel_rfl
theorem e63_L10_0 (n:Nat) (m5:Nat) (x0:Int) (x1:Int) (x2:List NT) (x3:List Int):at63 n (.head 10) [m5,0] (sh63_L10 x0 x1 x2 x3)=none:=by kernel_rfl
theorem e63_L10 (n:Nat) (m5:Nat) (m10:Nat) (x0:Int) (x1:Int) (x2:List NT) (x3:List Int):at63 n (.head 10) [m5,m10 + 1] (sh63_L10 x0 x1 x2 x3)=st63_L10 n (fun x0 x1 x2 x3=>at63 n (.head 10) [m5,m10] (sh63_L10 x0 x1 x2 x3)) (fun x0 x1 x2=>at63 n (.head 5) [m5] (sh63_L5 x0 x1 x2)) x0 x1 x2 x3:=by kernel_rfl
theorem e63_L17_0 (n:Nat) (x0:Bool) (x1:Int) (x2:List NT) (x3:List Int) (x4:List Bool):at63 n (.head 17) [0] (sh63_L17 x0 x1 x2 x3 x4)=none:=by kernel_rfl
theorem e63_L17 (n:Nat) (m17:Nat) (x0:Bool) (x1:Int) (x2:List NT) (x3:List Int) (x4:List Bool):at63 n (.head 17) [m17 + 1] (sh63_L17 x0 x1 x2 x3 x4)=st63_L17 n (fun x0 x1 x2 x3 x4=>at63 n (.head 17) [m17] (sh63_L17 x0 x1 x2 x3 x4)) x0 x1 x2 x3 x4:=by kernel_rfl
theorem e63_L5_0 (n:Nat) (x0:Int) (x1:List NT) (x2:List Int):at63 n (.head 5) [0] (sh63_L5 x0 x1 x2)=none:=by kernel_rfl
theorem e63_L5 (n:Nat) (m5:Nat) (x0:Int) (x1:List NT) (x2:List Int):at63 n (.head 5) [m5 + 1] (sh63_L5 x0 x1 x2)=st63_L5 n (fun x0 x1 x2 x3=>at63 n (.head 10) [m5,n] (sh63_L10 x0 x1 x2 x3)) (fun x0 x1 x2 x3 x4=>at63 n (.head 17) [n] (sh63_L17 x0 x1 x2 x3 x4)) x0 x1 x2:=by kernel_rfl
noncomputable def p63_L10 (g5:Int→(List NT)→(List Int)→Option R63) (n:Nat):Nat→Int→Int→(List NT)→(List Int)→Option R63
 | 0,_,_,_,_=>none
 | m + 1,x0,x1,x2,x3=>st63_L10 n (p63_L10 g5 n m) g5 x0 x1 x2 x3
noncomputable def p63_L17 (n:Nat):Nat→Bool→Int→(List NT)→(List Int)→(List Bool)→Option R63
 | 0,_,_,_,_,_=>none
 | m + 1,x0,x1,x2,x3,x4=>st63_L17 n (p63_L17 n m) x0 x1 x2 x3 x4
noncomputable def p63_L5 (n:Nat):Nat→Int→(List NT)→(List Int)→Option R63
 | 0,_,_,_=>none
 | m + 1,x0,x1,x2=>st63_L5 n (p63_L10 (p63_L5 n m) n n) (p63_L17 n n) x0 x1 x2
noncomputable def p63 (n:Nat) (a:List NT):Option R63:=st63_top n (p63_L5 n n) a
theorem t63_L10 (n:Nat) (m5:Nat):∀ (m10:Nat) (x0:Int) (x1:Int) (x2:List NT) (x3:List Int),at63 n (.head 10) [m5,m10] (sh63_L10 x0 x1 x2 x3)=p63_L10 (fun x0 x1 x2=>at63 n (.head 5) [m5] (sh63_L5 x0 x1 x2)) n m10 x0 x1 x2 x3:=by
 intro m
 induction m with
 | zero=>intros; rw [e63_L10_0]; rfl
 | succ m ih =>
  intros
  rw [e63_L10]
  try simp only [ih]
  rfl
theorem t63_L17 (n:Nat):∀ (m17:Nat) (x0:Bool) (x1:Int) (x2:List NT) (x3:List Int) (x4:List Bool),at63 n (.head 17) [m17] (sh63_L17 x0 x1 x2 x3 x4)=p63_L17 n m17 x0 x1 x2 x3 x4:=by
 intro m
 induction m with
 | zero=>intros; rw [e63_L17_0]; rfl
 | succ m ih =>
  intros
  rw [e63_L17]
  try simp only [ih]
  rfl
theorem t63_L5 (n:Nat):∀ (m5:Nat) (x0:Int) (x1:List NT) (x2:List Int),at63 n (.head 5) [m5] (sh63_L5 x0 x1 x2)=p63_L5 n m5 x0 x1 x2:=by
 intro m
 induction m with
 | zero=>intros; rw [e63_L5_0]; rfl
 | succ m ih =>
  intros
  rw [e63_L5]
  try simp only [t63_L10,t63_L17,ih]
  rfl
theorem F63_eq (n:Nat) (a:List NT):runF TT G63 an63 Try.f63 c63 ps63 rs63 n (a,())=p63 n a:=by
 rw [e63_top]
 simp only [t63_L5]
 try rfl
noncomputable def q63 (n:Nat) (x:argsD ps63):Option R63:=p63 n x.1
noncomputable def Sm63:Sm:=⟨ps63,rs63,false,q63⟩
theorem holds63 (hg:GamOK Try.prog G63):Holds Try.prog 63 Sm63:=by
 have:=h0_63 hg
 have e:(runF TT G63 an63 Try.f63 c63 ps63 rs63)=q63:=by
  funext n x
  exact F63_eq n x.1
 rw [e] at this
 exact this
theorem gam63:GamOK Try.prog G63:=by
 intro f s h
 unfold G63 at h
 split at h
 ·injection h with h; subst h; exact ⟨⟨Try.f116,c116,Try.func116,by kernel_rfl,by decide +kernel⟩,hh116⟩
 ·injection h with h; subst h; exact ⟨⟨Try.f117,c117,Try.func117,by kernel_rfl,by decide +kernel⟩,hh117⟩
 ·cases h
theorem hh63:Holds Try.prog 63 Sm63:=holds63 gam63
end Go.Proofs.Ytbjgiioppmkpiaa.Rx.S

namespace Go.Proofs.Ytbjgiioppmkpiaa.Rx.S
open Go Go.RowKit Go.Proofs
set_option maxRecDepth 100000
noncomputable def c64:Code:=(Try.f64.body.getD .skip)
def an64:An:=⟨fun r=>match r with | 2=>⟨[1,3],[]⟩ | _=>⟨[],[]⟩,fun _ _=>none⟩
abbrev ps64:List PK:=[.val tCr true]
abbrev rs64:List RK:=[.val .bool false]
abbrev R64:=retsD rs64 × outsD ps64
noncomputable def G64:Gam:=fun f=>match f with | 118=>some Sm118 | _=>none
theorem h0_64 (hg:GamOK Try.prog G64):Holds Try.prog 64 ⟨ps64,rs64,false,runF TT G64 an64 Try.f64 c64 ps64 rs64⟩:=holds_of tt_ok hg mixed Try.func64 (by kernel_rfl) (by rfl) (by decide +kernel)
noncomputable def at64:Nat→Pt→List Nat→St→Option R64:=atF TT G64 an64 Try.f64 c64 _ _
def sh64_L2 (x0:Int) (x1:Int) (x2:Int) (x3:List Int):St:=(St.mk (AV.undef :: ((AV.one (SV.bptr 1000000 0)) :: (AV.undef :: ((AV.one (SV.int (Go.IntKind.i64) x0)) :: (AV.undef :: (AV.undef :: (AV.undef :: (AV.undef :: (AV.undef :: (AV.undef :: (AV.undef :: (AV.undef :: (AV.undef :: (AV.undef :: (AV.undef :: (AV.undef :: (AV.undef :: (AV.undef :: (AV.undef :: (AV.undef :: (AV.undef :: (AV.undef :: (AV.undef :: (AV.undef :: (AV.undef :: (AV.undef :: (AV.undef :: (AV.undef :: (AV.undef :: (AV.undef :: (AV.undef :: (AV.undef :: (AV.undef :: (AV.undef :: (AV.undef :: (AV.undef :: (AV.undef :: (AV.undef :: (AV.undef :: (AV.undef :: (AV.undef :: (AV.undef :: (AV.undef :: (AV.undef :: (AV.undef :: (AV.undef :: (AV.undef :: (AV.undef :: (AV.undef :: (AV.undef :: [])))))))))))))))))))))))))))))))))))))))))))))))))) ((1000000,(Ent.box ((SV.int (Go.IntKind.i64) x1) :: ((SV.int (Go.IntKind.i64) x2) :: ((SV.con (⟨3,Ty.int Go.IntKind.i64,x3⟩:Rw)) :: []))))) :: []))
noncomputable def st64_top (n:Nat) (lL2:Int→Int→Int→(List Int)→Option R64) (a:Int × Int × List Int):Option R64 :=
 lL2 ((0:Int)) (a.1) (a.2.1) (a.2.2)
noncomputable def st64_L2 (n:Nat) (lL2:Int→Int→Int→(List Int)→Option R64) (x0:Int) (x1:Int) (x2:Int) (x3:List Int):Option R64 :=
 cond (decide (x0 < (↑x3.length:Int))) (cond (decide ((0:Int)≤x0)) (cond (decide (x0 < (↑x3.length:Int))) ((q118 n (x3.getD x0.toNat (0:Int),())).bind fun r1=>cond (!r1.1.1) (some ((false,()),())) (cond (decide ((0:Int) < x0)) (cond (decide ((0:Int)≤Go.IntKind.i64.wrap (x0 - (1:Int)))) (cond (decide (Go.IntKind.i64.wrap (x0 - (1:Int)) < (↑x3.length:Int))) (cond (decide ((0:Int)≤x0)) (cond (decide (x0 < (↑x3.length:Int))) (cond (decide (x3.getD x0.toNat (0:Int)≤x3.getD (Go.IntKind.i64.wrap (x0 - (1:Int))).toNat (0:Int))) (some ((false,()),())) (lL2 (Go.IntKind.i64.wrap (x0 + (1:Int))) (x1) (x2) (x3))) (none)) (none)) (none)) (none)) (lL2 (Go.IntKind.i64.wrap (x0 + (1:Int))) (x1) (x2) (x3)))) (none)) (none)) ((q118 n (x1,())).bind fun r2=>cond (r2.1.1) ((q118 n (x2,())).bind fun r3=>cond (r3.1.1) (some ((decide ((↑x3.length:Int)≤(3:Int)),()),())) (some ((false,()),()))) (some ((false,()),())))
theorem e64_top (n:Nat) (a:Int × Int × List Int):runF TT G64 an64 Try.f64 c64 ps64 rs64 n (a,())=st64_top n (fun x0 x1 x2 x3=>at64 n (.head 2) [n] (sh64_L2 x0 x1 x2 x3)) a:=by kernel_rfl
theorem e64_L2_0 (n:Nat) (x0:Int) (x1:Int) (x2:Int) (x3:List Int):at64 n (.head 2) [0] (sh64_L2 x0 x1 x2 x3)=none:=by kernel_rfl
theorem e64_L2 (n:Nat) (m2:Nat) (x0:Int) (x1:Int) (x2:Int) (x3:List Int):at64 n (.head 2) [m2 + 1] (sh64_L2 x0 x1 x2 x3)=st64_L2 n (fun x0 x1 x2 x3=>at64 n (.head 2) [m2] (sh64_L2 x0 x1 x2 x3)) x0 x1 x2 x3:=by kernel_rfl
noncomputable def p64_L2 (n:Nat):Nat→Int→Int→Int→(List Int)→Option R64
 | 0,_,_,_,_=>none
 | m + 1,x0,x1,x2,x3=>st64_L2 n (p64_L2 n m) x0 x1 x2 x3
noncomputable def p64 (n:Nat) (a:Int × Int × List Int):Option R64:=st64_top n (p64_L2 n n) a
theorem t64_L2 (n:Nat):∀ (m2:Nat) (x0:Int) (x1:Int) (x2:Int) (x3:List Int),at64 n (.head 2) [m2] (sh64_L2 x0 x1 x2 x3)=p64_L2 n m2 x0 x1 x2 x3:=by
 intro m
 induction m with
 | zero=>intros; rw [e64_L2_0]; rfl
 | succ m ih =>
  intros
  rw [e64_L2]
  try simp only [ih]
  rfl
theorem F64_eq (n:Nat) (a:Int × Int × List Int):runF TT G64 an64 Try.f64 c64 ps64 rs64 n (a,())=p64 n a:=by
 rw [e64_top]
 simp only [t64_L2]
 try rfl
noncomputable def q64 (n:Nat) (x:argsD ps64):Option R64:=p64 n x.1
noncomputable def Sm64:Sm:=⟨ps64,rs64,false,q64⟩
theorem holds64 (hg:GamOK Try.prog G64):Holds Try.prog 64 Sm64:=by
 have:=h0_64 hg
 have e:(runF TT G64 an64 Try.f64 c64 ps64 rs64)=q64:=by
  funext n x
  exact F64_eq n x.1
 rw [e] at this
 exact this
theorem gam64:GamOK Try.prog G64:=by
 intro f s h
 unfold G64 at h
 split at h
 ·injection h with h; subst h; exact ⟨⟨Try.f118,c118,Try.func118,by kernel_rfl,by decide +kernel⟩,hh118⟩
 ·cases h
theorem hh64:Holds Try.prog 64 Sm64:=holds64 gam64
end Go.Proofs.Ytbjgiioppmkpiaa.Rx.S

namespace Go.Proofs.Ytbjgiioppmkpiaa.Rx.S
open Go Go.RowKit Go.Proofs
set_option maxRecDepth 100000
noncomputable def c136:Code:=(Try.f136.body.getD .skip)
def an136:An:=⟨fun r=>match r with | 4=>⟨[0,3],[]⟩ | _=>⟨[],[]⟩,fun _ _=>none⟩
abbrev ps136:List PK:=[.val i64 false]
abbrev rs136:List RK:=[.val .str false]
abbrev R136:=retsD rs136 × outsD ps136
noncomputable def G136:Gam:=fun _=>none
theorem h0_136 (hg:GamOK Try.prog G136):Holds Try.prog 136 ⟨ps136,rs136,false,runF TT G136 an136 Try.f136 c136 ps136 rs136⟩:=holds_of tt_ok hg mixed Try.func136 (by kernel_rfl) (by rfl) (by decide +kernel)
noncomputable def at136:Nat→Pt→List Nat→St→Option R136:=atF TT G136 an136 Try.f136 c136 _ _
def sh136_L4 (x0:Int) (x1:ByteArray):St:=(St.mk ((AV.one (SV.int (Go.IntKind.i64) x0)) :: (AV.undef :: (AV.undef :: ((AV.one (SV.str x1)) :: (AV.undef :: (AV.undef :: (AV.undef :: (AV.undef :: (AV.undef :: (AV.undef :: (AV.undef :: (AV.undef :: (AV.undef :: (AV.undef :: (AV.undef :: (AV.undef :: (AV.undef :: (AV.undef :: (AV.undef :: (AV.undef :: [])))))))))))))))))))) [])
noncomputable def st136_top (n:Nat) (lL4:Int→ByteArray→Option R136) (a:Int):Option R136 :=
 cond (decide (a≤(0:Int))) (some ((ByteArray.mk #[(109:UInt8),(48:UInt8)],()),())) (lL4 (a) (ByteArray.mk #[]))
noncomputable def st136_L4 (n:Nat) (lL4:Int→ByteArray→Option R136) (x0:Int) (x1:ByteArray):Option R136 :=
 cond (decide ((0:Int) < x0)) (cond (decide ((List.foldl (fun r n=>r.push (UInt8.ofNat n.toNat)) ByteArray.empty [Go.IntKind.u8.wrap (Go.IntKind.i64.wrap ((48:Int) + x0.tmod (10:Int)))]).size + x1.size≤(9223372036854775807:Nat))) (lL4 (Go.IntKind.i64.wrap (x0.tdiv (10:Int))) (List.foldl (fun r n=>r.push (UInt8.ofNat n.toNat)) ByteArray.empty [Go.IntKind.u8.wrap (Go.IntKind.i64.wrap ((48:Int) + x0.tmod (10:Int)))] ++ x1)) (none)) (cond (decide ((ByteArray.mk #[(109:UInt8)]).size + x1.size≤(9223372036854775807:Nat))) (some ((ByteArray.mk #[(109:UInt8)] ++ x1,()),())) (none))
theorem e136_top (n:Nat) (a:Int):runF TT G136 an136 Try.f136 c136 ps136 rs136 n (a,())=st136_top n (fun x0 x1=>at136 n (.head 4) [n] (sh136_L4 x0 x1)) a:=by kernel_rfl
theorem e136_L4_0 (n:Nat) (x0:Int) (x1:ByteArray):at136 n (.head 4) [0] (sh136_L4 x0 x1)=none:=by kernel_rfl
theorem e136_L4 (n:Nat) (m4:Nat) (x0:Int) (x1:ByteArray):at136 n (.head 4) [m4 + 1] (sh136_L4 x0 x1)=st136_L4 n (fun x0 x1=>at136 n (.head 4) [m4] (sh136_L4 x0 x1)) x0 x1:=by kernel_rfl
noncomputable def p136_L4 (n:Nat):Nat→Int→ByteArray→Option R136
 | 0,_,_=>none
 | m + 1,x0,x1=>st136_L4 n (p136_L4 n m) x0 x1
noncomputable def p136 (n:Nat) (a:Int):Option R136:=st136_top n (p136_L4 n n) a
theorem t136_L4 (n:Nat):∀ (m4:Nat) (x0:Int) (x1:ByteArray),at136 n (.head 4) [m4] (sh136_L4 x0 x1)=p136_L4 n m4 x0 x1:=by
 intro m
 induction m with
 | zero=>intros; rw [e136_L4_0]; rfl
 | succ m ih =>
  intros
  rw [e136_L4]
  try simp only [ih]
  rfl
theorem F136_eq (n:Nat) (a:Int):runF TT G136 an136 Try.f136 c136 ps136 rs136 n (a,())=p136 n a:=by
 rw [e136_top]
 simp only [t136_L4]
 try rfl
noncomputable def q136 (n:Nat) (x:argsD ps136):Option R136:=p136 n x.1
noncomputable def Sm136:Sm:=⟨ps136,rs136,false,q136⟩
theorem holds136 (hg:GamOK Try.prog G136):Holds Try.prog 136 Sm136:=by
 have:=h0_136 hg
 have e:(runF TT G136 an136 Try.f136 c136 ps136 rs136)=q136:=by
  funext n x
  exact F136_eq n x.1
 rw [e] at this
 exact this
theorem gam136:GamOK Try.prog G136:=fun _ _ h=>by cases h
theorem hh136:Holds Try.prog 136 Sm136:=holds136 gam136
end Go.Proofs.Ytbjgiioppmkpiaa.Rx.S

namespace Go.Proofs.Ytbjgiioppmkpiaa.Rx.S
open Go Go.RowKit Go.Proofs
set_option maxRecDepth 100000
noncomputable def c138:Code:=(Try.f138.body.getD .skip)
def an138:An:=⟨fun r=>match r with | 2=>⟨[0,1,5],[]⟩ | _=>⟨[],[]⟩,fun _ _=>none⟩
abbrev ps138:List PK:=[.val (.row 100 tEn) false,.val i64 false]
abbrev rs138:List RK:=[.val i64 false]
abbrev R138:=retsD rs138 × outsD ps138
noncomputable def G138:Gam:=fun f=>match f with | 136=>some Sm136 | _=>none
theorem h0_138 (hg:GamOK Try.prog G138):Holds Try.prog 138 ⟨ps138,rs138,false,runF TT G138 an138 Try.f138 c138 ps138 rs138⟩:=holds_of tt_ok hg mixed Try.func138 (by kernel_rfl) (by rfl) (by decide +kernel)
noncomputable def at138:Nat→Pt→List Nat→St→Option R138:=atF TT G138 an138 Try.f138 c138 _ _
def sh138_L2 (x0:List (ByteArray × Int)) (x1:Int) (x2:Int):St:=(St.mk ((AV.one (SV.con (⟨100,Ty.str.pair (Ty.int Go.IntKind.i64),x0⟩:Rw))) :: ((AV.one (SV.int (Go.IntKind.i64) x1)) :: (AV.undef :: (AV.undef :: (AV.undef :: ((AV.one (SV.int (Go.IntKind.i64) x2)) :: (AV.undef :: (AV.undef :: (AV.undef :: (AV.undef :: (AV.undef :: (AV.undef :: (AV.undef :: (AV.undef :: (AV.undef :: (AV.undef :: (AV.undef :: (AV.undef :: (AV.undef :: (AV.undef :: (AV.undef :: (AV.undef :: (AV.undef :: (AV.undef :: (AV.undef :: (AV.undef :: (AV.undef :: (AV.undef :: (AV.undef :: (AV.undef :: (AV.undef :: (AV.undef :: [])))))))))))))))))))))))))))))))) [])
noncomputable def st138_top (n:Nat) (lL2:(List (ByteArray × Int))→Int→Int→Option R138) (a:List (ByteArray × Int)) (b:Int):Option R138 :=
 lL2 (a) (b) ((0:Int))
noncomputable def st138_L2 (n:Nat) (lL2:(List (ByteArray × Int))→Int→Int→Option R138) (x0:List (ByteArray × Int)) (x1:Int) (x2:Int):Option R138 :=
 cond (decide (x2 < (↑x0.length:Int))) (cond (decide ((0:Int)≤x2)) (cond (decide (x2 < (↑x0.length:Int))) ((q136 n (x1,())).bind fun r1=>cond (!ByteArray.toList (x0.getD x2.toNat (ByteArray.empty,(0:Int))).1 == ByteArray.toList r1.1.1) (some (((-1:Int),()),())) (cond (decide ((0:Int)≤x2)) (cond (decide (x2 < (↑x0.length:Int))) (cond (!decide ((x0.getD x2.toNat (ByteArray.empty,(0:Int))).2=Go.IntKind.i64.wrap (x1 + (1:Int)))) (some (((-1:Int),()),())) (lL2 (x0) (Go.IntKind.i64.wrap (Go.IntKind.i64.wrap (x1 + (1:Int)) + (1:Int))) (Go.IntKind.i64.wrap (x2 + (1:Int))))) (none)) (none))) (none)) (none)) (some ((x1,()),()))
theorem e138_top (n:Nat) (a:List (ByteArray × Int)) (b:Int):runF TT G138 an138 Try.f138 c138 ps138 rs138 n (a,b,())=st138_top n (fun x0 x1 x2=>at138 n (.head 2) [n] (sh138_L2 x0 x1 x2)) a b:=by kernel_rfl
theorem e138_L2_0 (n:Nat) (x0:List (ByteArray × Int)) (x1:Int) (x2:Int):at138 n (.head 2) [0] (sh138_L2 x0 x1 x2)=none:=by kernel_rfl
theorem e138_L2 (n:Nat) (m2:Nat) (x0:List (ByteArray × Int)) (x1:Int) (x2:Int):at138 n (.head 2) [m2 + 1] (sh138_L2 x0 x1 x2)=st138_L2 n (fun x0 x1 x2=>at138 n (.head 2) [m2] (sh138_L2 x0 x1 x2)) x0 x1 x2:=by kernel_rfl
noncomputable def p138_L2 (n:Nat):Nat→(List (ByteArray × Int))→Int→Int→Option R138
 | 0,_,_,_=>none
 | m + 1,x0,x1,x2=>st138_L2 n (p138_L2 n m) x0 x1 x2
noncomputable def p138 (n:Nat) (a:List (ByteArray × Int)) (b:Int):Option R138:=st138_top n (p138_L2 n n) a b
theorem t138_L2 (n:Nat):∀ (m2:Nat) (x0:List (ByteArray × Int)) (x1:Int) (x2:Int),at138 n (.head 2) [m2] (sh138_L2 x0 x1 x2)=p138_L2 n m2 x0 x1 x2:=by
 intro m
 induction m with
 | zero=>intros; rw [e138_L2_0]; rfl
 | succ m ih =>
  intros
  rw [e138_L2]
  try simp only [ih]
  rfl
theorem F138_eq (n:Nat) (a:List (ByteArray × Int)) (b:Int):runF TT G138 an138 Try.f138 c138 ps138 rs138 n (a,b,())=p138 n a b:=by
 rw [e138_top]
 simp only [t138_L2]
 try rfl
noncomputable def q138 (n:Nat) (x:argsD ps138):Option R138:=p138 n x.1 x.2.1
noncomputable def Sm138:Sm:=⟨ps138,rs138,false,q138⟩
theorem holds138 (hg:GamOK Try.prog G138):Holds Try.prog 138 Sm138:=by
 have:=h0_138 hg
 have e:(runF TT G138 an138 Try.f138 c138 ps138 rs138)=q138:=by
  funext n x
  exact F138_eq n x.1 x.2.1
 rw [e] at this
 exact this
theorem gam138:GamOK Try.prog G138:=by
 intro f s h
 unfold G138 at h
 split at h
 ·injection h with h; subst h; exact ⟨⟨Try.f136,c136,Try.func136,by kernel_rfl,by decide +kernel⟩,hh136⟩
 ·cases h
theorem hh138:Holds Try.prog 138 Sm138:=holds138 gam138
end Go.Proofs.Ytbjgiioppmkpiaa.Rx.S

namespace Go.Proofs.Ytbjgiioppmkpiaa.Rx.S
open Go Go.RowKit Go.Proofs
set_option maxRecDepth 100000
noncomputable def c100:Code:=(Try.f100.body.getD .skip)
def an100:An:=⟨fun r=>match r with | 2=>⟨[0,1,5],[]⟩ | _=>⟨[],[]⟩,fun _ _=>none⟩
abbrev ps100:List PK:=[.val tFs false,.val i64 false]
abbrev rs100:List RK:=[.val i64 false]
abbrev R100:=retsD rs100 × outsD ps100
noncomputable def G100:Gam:=fun f=>match f with | 136=>some Sm136 | 138=>some Sm138 | _=>none
theorem h0_100 (hg:GamOK Try.prog G100):Holds Try.prog 100 ⟨ps100,rs100,false,runF TT G100 an100 Try.f100 c100 ps100 rs100⟩:=holds_of tt_ok hg mixed Try.func100 (by kernel_rfl) (by rfl) (by decide +kernel)
noncomputable def at100:Nat→Pt→List Nat→St→Option R100:=atF TT G100 an100 Try.f100 c100 _ _
def sh100_L2 (x0:List NT) (x1:Int) (x2:Int):St:=(St.mk ((AV.one (SV.con (⟨37,(Ty.int Go.IntKind.i64).pair ((Ty.int Go.IntKind.i64).pair ((Ty.int Go.IntKind.i64).pair ((Ty.int Go.IntKind.i64).pair ((Ty.int Go.IntKind.i64).pair ((Ty.int Go.IntKind.i64).pair (Ty.bool.pair (Ty.str.pair (Ty.row (nat_lit 100) (Ty.str.pair (Ty.int Go.IntKind.i64)))))))))),x0⟩:Rw))) :: ((AV.one (SV.int (Go.IntKind.i64) x1)) :: (AV.undef :: (AV.undef :: (AV.undef :: ((AV.one (SV.int (Go.IntKind.i64) x2)) :: (AV.undef :: (AV.undef :: (AV.undef :: (AV.undef :: (AV.undef :: (AV.undef :: (AV.undef :: (AV.undef :: (AV.undef :: (AV.undef :: (AV.undef :: (AV.undef :: (AV.undef :: (AV.undef :: (AV.undef :: (AV.undef :: (AV.undef :: (AV.undef :: (AV.undef :: (AV.undef :: (AV.undef :: (AV.undef :: (AV.undef :: (AV.undef :: (AV.undef :: (AV.undef :: (AV.undef :: (AV.undef :: (AV.undef :: (AV.undef :: (AV.undef :: (AV.undef :: (AV.undef :: (AV.undef :: (AV.undef :: (AV.undef :: (AV.undef :: (AV.undef :: (AV.undef :: (AV.undef :: (AV.undef :: (AV.undef :: (AV.undef :: (AV.undef :: (AV.undef :: (AV.undef :: (AV.undef :: (AV.undef :: (AV.undef :: (AV.undef :: (AV.undef :: (AV.undef :: (AV.undef :: (AV.undef :: (AV.undef :: (AV.undef :: (AV.undef :: (AV.undef :: (AV.undef :: (AV.undef :: (AV.undef :: (AV.undef :: (AV.undef :: (AV.undef :: (AV.undef :: (AV.undef :: (AV.undef :: (AV.undef :: (AV.undef :: (AV.undef :: (AV.undef :: (AV.undef :: (AV.undef :: (AV.undef :: (AV.undef :: (AV.undef :: (AV.undef :: (AV.undef :: (AV.undef :: (AV.undef :: (AV.undef :: (AV.undef :: (AV.undef :: (AV.undef :: (AV.undef :: (AV.undef :: (AV.undef :: (AV.undef :: (AV.undef :: (AV.undef :: (AV.undef :: []))))))))))))))))))))))))))))))))))))))))))))))))))))))))))))))))))))))))))))))))))))))))))))))))) [])
noncomputable def st100_top (n:Nat) (lL2:(List NT)→Int→Int→Option R100) (a:List NT) (b:Int):Option R100 :=
 lL2 (a) (b) ((0:Int))
noncomputable def st100_L2 (n:Nat) (lL2:(List NT)→Int→Int→Option R100) (x0:List NT) (x1:Int) (x2:Int):Option R100 :=
 cond (decide (x2 < (↑x0.length:Int))) (cond (decide ((0:Int)≤x2)) (cond (decide (x2 < (↑x0.length:Int))) (cond (!decide ((x0.getD x2.toNat ZN).1=x1)) (some (((-1:Int),()),())) (cond (decide ((0:Int)≤x2)) (cond (decide (x2 < (↑x0.length:Int))) (cond (!decide ((x0.getD x2.toNat ZN).2.1=Go.IntKind.i64.wrap (x1 + (1:Int)))) (some (((-1:Int),()),())) (cond (decide ((0:Int)≤x2)) (cond (decide (x2 < (↑x0.length:Int))) (cond (!decide ((x0.getD x2.toNat ZN).2.2.1=Go.IntKind.i64.wrap (Go.IntKind.i64.wrap (x1 + (1:Int)) + (1:Int)))) (some (((-1:Int),()),())) (cond (decide ((0:Int)≤x2)) (cond (decide (x2 < (↑x0.length:Int))) (cond (!decide ((x0.getD x2.toNat ZN).2.2.2.1=Go.IntKind.i64.wrap (Go.IntKind.i64.wrap (Go.IntKind.i64.wrap (x1 + (1:Int)) + (1:Int)) + (1:Int)))) (some (((-1:Int),()),())) (cond (decide ((0:Int)≤x2)) (cond (decide (x2 < (↑x0.length:Int))) (cond (!decide ((x0.getD x2.toNat ZN).2.2.2.2.1=Go.IntKind.i64.wrap (Go.IntKind.i64.wrap (Go.IntKind.i64.wrap (Go.IntKind.i64.wrap (x1 + (1:Int)) + (1:Int)) + (1:Int)) + (1:Int)))) (some (((-1:Int),()),())) (cond (decide ((0:Int)≤x2)) (cond (decide (x2 < (↑x0.length:Int))) (cond (!decide ((x0.getD x2.toNat ZN).2.2.2.2.2.1=Go.IntKind.i64.wrap (Go.IntKind.i64.wrap (Go.IntKind.i64.wrap (Go.IntKind.i64.wrap (Go.IntKind.i64.wrap (x1 + (1:Int)) + (1:Int)) + (1:Int)) + (1:Int)) + (1:Int)))) (some (((-1:Int),()),())) (cond (decide ((0:Int)≤x2)) (cond (decide (x2 < (↑x0.length:Int))) (cond (!(x0.getD x2.toNat ZN).2.2.2.2.2.2.1 == decide ((Go.IntKind.i64.wrap (Go.IntKind.i64.wrap (Go.IntKind.i64.wrap (Go.IntKind.i64.wrap (Go.IntKind.i64.wrap (Go.IntKind.i64.wrap (x1 + (1:Int)) + (1:Int)) + (1:Int)) + (1:Int)) + (1:Int)) + (1:Int))).tmod (3:Int)=(0:Int))) (some (((-1:Int),()),())) (cond (decide ((0:Int)≤x2)) (cond (decide (x2 < (↑x0.length:Int))) ((q136 n (Go.IntKind.i64.wrap (Go.IntKind.i64.wrap (Go.IntKind.i64.wrap (Go.IntKind.i64.wrap (Go.IntKind.i64.wrap (Go.IntKind.i64.wrap (Go.IntKind.i64.wrap (x1 + (1:Int)) + (1:Int)) + (1:Int)) + (1:Int)) + (1:Int)) + (1:Int)) + (1:Int)),())).bind fun r1=>cond (!ByteArray.toList (x0.getD x2.toNat ZN).2.2.2.2.2.2.2.1 == ByteArray.toList r1.1.1) (some (((-1:Int),()),())) (cond (decide ((0:Int)≤x2)) (cond (decide (x2 < (↑x0.length:Int))) ((q138 n ((x0.getD x2.toNat ZN).2.2.2.2.2.2.2.2,Go.IntKind.i64.wrap (Go.IntKind.i64.wrap (Go.IntKind.i64.wrap (Go.IntKind.i64.wrap (Go.IntKind.i64.wrap (Go.IntKind.i64.wrap (Go.IntKind.i64.wrap (Go.IntKind.i64.wrap (x1 + (1:Int)) + (1:Int)) + (1:Int)) + (1:Int)) + (1:Int)) + (1:Int)) + (1:Int)) + (1:Int)),())).bind fun r2=>cond (decide (r2.1.1 < (0:Int))) (some (((-1:Int),()),())) (lL2 (x0) (r2.1.1) (Go.IntKind.i64.wrap (x2 + (1:Int))))) (none)) (none))) (none)) (none))) (none)) (none))) (none)) (none))) (none)) (none))) (none)) (none))) (none)) (none))) (none)) (none))) (none)) (none)) (some ((x1,()),()))
theorem e100_top (n:Nat) (a:List NT) (b:Int):runF TT G100 an100 Try.f100 c100 ps100 rs100 n (a,b,())=st100_top n (fun x0 x1 x2=>at100 n (.head 2) [n] (sh100_L2 x0 x1 x2)) a b:=by kernel_rfl
theorem e100_L2_0 (n:Nat) (x0:List NT) (x1:Int) (x2:Int):at100 n (.head 2) [0] (sh100_L2 x0 x1 x2)=none:=by kernel_rfl
theorem e100_L2 (n:Nat) (m2:Nat) (x0:List NT) (x1:Int) (x2:Int):at100 n (.head 2) [m2 + 1] (sh100_L2 x0 x1 x2)=st100_L2 n (fun x0 x1 x2=>at100 n (.head 2) [m2] (sh100_L2 x0 x1 x2)) x0 x1 x2:=by kernel_rfl
noncomputable def p100_L2 (n:Nat):Nat→(List NT)→Int→Int→Option R100
 | 0,_,_,_=>none
 | m + 1,x0,x1,x2=>st100_L2 n (p100_L2 n m) x0 x1 x2
noncomputable def p100 (n:Nat) (a:List NT) (b:Int):Option R100:=st100_top n (p100_L2 n n) a b
theorem t100_L2 (n:Nat):∀ (m2:Nat) (x0:List NT) (x1:Int) (x2:Int),at100 n (.head 2) [m2] (sh100_L2 x0 x1 x2)=p100_L2 n m2 x0 x1 x2:=by
 intro m
 induction m with
 | zero=>intros; rw [e100_L2_0]; rfl
 | succ m ih =>
  intros
  rw [e100_L2]
  try simp only [ih]
  rfl
theorem F100_eq (n:Nat) (a:List NT) (b:Int):runF TT G100 an100 Try.f100 c100 ps100 rs100 n (a,b,())=p100 n a b:=by
 rw [e100_top]
 simp only [t100_L2]
 try rfl
noncomputable def q100 (n:Nat) (x:argsD ps100):Option R100:=p100 n x.1 x.2.1
noncomputable def Sm100:Sm:=⟨ps100,rs100,false,q100⟩
theorem holds100 (hg:GamOK Try.prog G100):Holds Try.prog 100 Sm100:=by
 have:=h0_100 hg
 have e:(runF TT G100 an100 Try.f100 c100 ps100 rs100)=q100:=by
  funext n x
  exact F100_eq n x.1 x.2.1
 rw [e] at this
 exact this
theorem gam100:GamOK Try.prog G100:=by
 intro f s h
 unfold G100 at h
 split at h
 ·injection h with h; subst h; exact ⟨⟨Try.f136,c136,Try.func136,by kernel_rfl,by decide +kernel⟩,hh136⟩
 ·injection h with h; subst h; exact ⟨⟨Try.f138,c138,Try.func138,by kernel_rfl,by decide +kernel⟩,hh138⟩
 ·cases h
theorem hh100:Holds Try.prog 100 Sm100:=holds100 gam100
end Go.Proofs.Ytbjgiioppmkpiaa.Rx.S

namespace Go.Proofs.Ytbjgiioppmkpiaa.Rx.S
open Go Go.RowKit Go.Proofs
set_option maxRecDepth 100000
noncomputable def c137:Code:=(Try.f137.body.getD .skip)
def an137:An:=⟨fun r=>match r with | 2=>⟨[0,1,5],[]⟩ | _=>⟨[],[]⟩,fun _ _=>none⟩
abbrev ps137:List PK:=[.io (.row 100 tEn) false,.val i64 false]
abbrev rs137:List RK:=[.val i64 false]
abbrev R137:=retsD rs137 × outsD ps137
noncomputable def G137:Gam:=fun f=>match f with | 136=>some Sm136 | _=>none
theorem h0_137 (hg:GamOK Try.prog G137):Holds Try.prog 137 ⟨ps137,rs137,false,runF TT G137 an137 Try.f137 c137 ps137 rs137⟩:=holds_of tt_ok hg mixed Try.func137 (by kernel_rfl) (by rfl) (by decide +kernel)
noncomputable def at137:Nat→Pt→List Nat→St→Option R137:=atF TT G137 an137 Try.f137 c137 _ _
def sh137_L2 (x0:Int) (x1:Int) (x2:List (ByteArray × Int)):St:=(St.mk ((AV.par 0 false ((SV.ref 1000000 0 [] Option.none) :: [])) :: ((AV.one (SV.int (Go.IntKind.i64) x0)) :: (AV.undef :: (AV.undef :: (AV.undef :: ((AV.one (SV.int (Go.IntKind.i64) x1)) :: (AV.undef :: (AV.undef :: (AV.undef :: (AV.undef :: (AV.undef :: (AV.undef :: (AV.undef :: (AV.undef :: (AV.undef :: (AV.undef :: (AV.undef :: (AV.undef :: (AV.undef :: (AV.undef :: (AV.undef :: (AV.undef :: (AV.undef :: (AV.undef :: (AV.undef :: (AV.undef :: (AV.undef :: (AV.undef :: [])))))))))))))))))))))))))))) ((1000000,(Ent.row (⟨100,Ty.str.pair (Ty.int Go.IntKind.i64),x2⟩:Rw) 0 Option.none)) :: []))
noncomputable def st137_top (n:Nat) (lL2:Int→Int→(List (ByteArray × Int))→Option R137) (a:List (ByteArray × Int)) (b:Int):Option R137 :=
 lL2 (b) ((0:Int)) (a)
noncomputable def st137_L2 (n:Nat) (lL2:Int→Int→(List (ByteArray × Int))→Option R137) (x0:Int) (x1:Int) (x2:List (ByteArray × Int)):Option R137 :=
 cond (decide (x1 < (↑x2.length:Int))) ((q136 n (x0,())).bind fun r1=>cond (decide ((0:Int)≤x1)) (cond (decide (x1 < (↑x2.length:Int))) (cond (decide ((0:Int)≤x1)) (cond (decide (x1 < (↑(x2.set x1.toNat (r1.1.1,(x2.getD x1.toNat (ByteArray.empty,(0:Int))).2)).length:Int))) (lL2 (Go.IntKind.i64.wrap (Go.IntKind.i64.wrap (x0 + (1:Int)) + (1:Int))) (Go.IntKind.i64.wrap (x1 + (1:Int))) ((x2.set x1.toNat (r1.1.1,(x2.getD x1.toNat (ByteArray.empty,(0:Int))).2)).set x1.toNat (((x2.set x1.toNat (r1.1.1,(x2.getD x1.toNat (ByteArray.empty,(0:Int))).2)).getD x1.toNat (ByteArray.empty,(0:Int))).1,Go.IntKind.i64.wrap (x0 + (1:Int))))) (none)) (none)) (none)) (none)) (some ((x0,()),(x2,())))
theorem e137_top (n:Nat) (a:List (ByteArray × Int)) (b:Int):runF TT G137 an137 Try.f137 c137 ps137 rs137 n (a,b,())=st137_top n (fun x0 x1 x2=>at137 n (.head 2) [n] (sh137_L2 x0 x1 x2)) a b:=by kernel_rfl
theorem e137_L2_0 (n:Nat) (x0:Int) (x1:Int) (x2:List (ByteArray × Int)):at137 n (.head 2) [0] (sh137_L2 x0 x1 x2)=none:=by kernel_rfl
theorem e137_L2 (n:Nat) (m2:Nat) (x0:Int) (x1:Int) (x2:List (ByteArray × Int)):at137 n (.head 2) [m2 + 1] (sh137_L2 x0 x1 x2)=st137_L2 n (fun x0 x1 x2=>at137 n (.head 2) [m2] (sh137_L2 x0 x1 x2)) x0 x1 x2:=by kernel_rfl
noncomputable def p137_L2 (n:Nat):Nat→Int→Int→(List (ByteArray × Int))→Option R137
 | 0,_,_,_=>none
 | m + 1,x0,x1,x2=>st137_L2 n (p137_L2 n m) x0 x1 x2
noncomputable def p137 (n:Nat) (a:List (ByteArray × Int)) (b:Int):Option R137:=st137_top n (p137_L2 n n) a b
theorem t137_L2 (n:Nat):∀ (m2:Nat) (x0:Int) (x1:Int) (x2:List (ByteArray × Int)),at137 n (.head 2) [m2] (sh137_L2 x0 x1 x2)=p137_L2 n m2 x0 x1 x2:=by
 intro m
 induction m with
 | zero=>intros; rw [e137_L2_0]; rfl
 | succ m ih =>
  intros
  rw [e137_L2]
  try simp only [ih]
  rfl
theorem F137_eq (n:Nat) (a:List (ByteArray × Int)) (b:Int):runF TT G137 an137 Try.f137 c137 ps137 rs137 n (a,b,())=p137 n a b:=by
 rw [e137_top]
 simp only [t137_L2]
 try rfl
noncomputable def q137 (n:Nat) (x:argsD ps137):Option R137:=p137 n x.1 x.2.1
noncomputable def Sm137:Sm:=⟨ps137,rs137,false,q137⟩
theorem holds137 (hg:GamOK Try.prog G137):Holds Try.prog 137 Sm137:=by
 have:=h0_137 hg
 have e:(runF TT G137 an137 Try.f137 c137 ps137 rs137)=q137:=by
  funext n x
  exact F137_eq n x.1 x.2.1
 rw [e] at this
 exact this
theorem gam137:GamOK Try.prog G137:=by
 intro f s h
 unfold G137 at h
 split at h
 ·injection h with h; subst h; exact ⟨⟨Try.f136,c136,Try.func136,by kernel_rfl,by decide +kernel⟩,hh136⟩
 ·cases h
theorem hh137:Holds Try.prog 137 Sm137:=holds137 gam137
end Go.Proofs.Ytbjgiioppmkpiaa.Rx.S

namespace Go.Proofs.Ytbjgiioppmkpiaa.Rx.S
open Go Go.RowKit Go.Proofs
set_option maxRecDepth 100000
noncomputable def c94:Code:=(Try.f94.body.getD .skip)
def an94:An:=⟨fun r=>match r with | 2=>⟨[0,1,5],[]⟩ | _=>⟨[],[]⟩,fun _ _=>none⟩
abbrev ps94:List PK:=[.io (.row 3 i64) false,.val i64 false]
abbrev rs94:List RK:=[.val i64 false]
abbrev R94:=retsD rs94 × outsD ps94
noncomputable def G94:Gam:=fun _=>none
theorem h0_94 (hg:GamOK Try.prog G94):Holds Try.prog 94 ⟨ps94,rs94,false,runF TT G94 an94 Try.f94 c94 ps94 rs94⟩:=holds_of tt_ok hg mixed Try.func94 (by kernel_rfl) (by rfl) (by decide +kernel)
noncomputable def at94:Nat→Pt→List Nat→St→Option R94:=atF TT G94 an94 Try.f94 c94 _ _
def sh94_L2 (x0:Int) (x1:Int) (x2:List Int):St:=(St.mk ((AV.par 0 false ((SV.ref 1000000 0 [] Option.none) :: [])) :: ((AV.one (SV.int (Go.IntKind.i64) x0)) :: (AV.undef :: (AV.undef :: (AV.undef :: ((AV.one (SV.int (Go.IntKind.i64) x1)) :: (AV.undef :: (AV.undef :: (AV.undef :: (AV.undef :: (AV.undef :: (AV.undef :: (AV.undef :: (AV.undef :: (AV.undef :: (AV.undef :: (AV.undef :: (AV.undef :: (AV.undef :: []))))))))))))))))))) ((1000000,(Ent.row (⟨3,Ty.int Go.IntKind.i64,x2⟩:Rw) 0 Option.none)) :: []))
noncomputable def st94_top (n:Nat) (lL2:Int→Int→(List Int)→Option R94) (a:List Int) (b:Int):Option R94 :=
 lL2 (b) ((0:Int)) (a)
noncomputable def st94_L2 (n:Nat) (lL2:Int→Int→(List Int)→Option R94) (x0:Int) (x1:Int) (x2:List Int):Option R94 :=
 cond (decide (x1 < (↑x2.length:Int))) (cond (decide ((0:Int)≤x1)) (cond (decide (x1 < (↑x2.length:Int))) (lL2 (Go.IntKind.i64.wrap (x0 + (1:Int))) (Go.IntKind.i64.wrap (x1 + (1:Int))) (x2.set x1.toNat x0)) (none)) (none)) (some ((x0,()),(x2,())))
theorem e94_top (n:Nat) (a:List Int) (b:Int):runF TT G94 an94 Try.f94 c94 ps94 rs94 n (a,b,())=st94_top n (fun x0 x1 x2=>at94 n (.head 2) [n] (sh94_L2 x0 x1 x2)) a b:=by kernel_rfl
theorem e94_L2_0 (n:Nat) (x0:Int) (x1:Int) (x2:List Int):at94 n (.head 2) [0] (sh94_L2 x0 x1 x2)=none:=by kernel_rfl
theorem e94_L2 (n:Nat) (m2:Nat) (x0:Int) (x1:Int) (x2:List Int):at94 n (.head 2) [m2 + 1] (sh94_L2 x0 x1 x2)=st94_L2 n (fun x0 x1 x2=>at94 n (.head 2) [m2] (sh94_L2 x0 x1 x2)) x0 x1 x2:=by kernel_rfl
noncomputable def p94_L2 (n:Nat):Nat→Int→Int→(List Int)→Option R94
 | 0,_,_,_=>none
 | m + 1,x0,x1,x2=>st94_L2 n (p94_L2 n m) x0 x1 x2
noncomputable def p94 (n:Nat) (a:List Int) (b:Int):Option R94:=st94_top n (p94_L2 n n) a b
theorem t94_L2 (n:Nat):∀ (m2:Nat) (x0:Int) (x1:Int) (x2:List Int),at94 n (.head 2) [m2] (sh94_L2 x0 x1 x2)=p94_L2 n m2 x0 x1 x2:=by
 intro m
 induction m with
 | zero=>intros; rw [e94_L2_0]; rfl
 | succ m ih =>
  intros
  rw [e94_L2]
  try simp only [ih]
  rfl
theorem F94_eq (n:Nat) (a:List Int) (b:Int):runF TT G94 an94 Try.f94 c94 ps94 rs94 n (a,b,())=p94 n a b:=by
 rw [e94_top]
 simp only [t94_L2]
 try rfl
noncomputable def q94 (n:Nat) (x:argsD ps94):Option R94:=p94 n x.1 x.2.1
noncomputable def Sm94:Sm:=⟨ps94,rs94,false,q94⟩
theorem holds94 (hg:GamOK Try.prog G94):Holds Try.prog 94 Sm94:=by
 have:=h0_94 hg
 have e:(runF TT G94 an94 Try.f94 c94 ps94 rs94)=q94:=by
  funext n x
  exact F94_eq n x.1 x.2.1
 rw [e] at this
 exact this
theorem gam94:GamOK Try.prog G94:=fun _ _ h=>by cases h
theorem hh94:Holds Try.prog 94 Sm94:=holds94 gam94
end Go.Proofs.Ytbjgiioppmkpiaa.Rx.S

namespace Go.Proofs.Ytbjgiioppmkpiaa.Rx.S
open Go Go.RowKit Go.Proofs
set_option maxRecDepth 100000
noncomputable def c37:Code:=(Try.f37.body.getD .skip)
def an37:An:=⟨fun _=>⟨[],[]⟩,fun _ _=>none⟩
abbrev ps37:List PK:=[.io tCr true,.val i64 false]
abbrev rs37:List RK:=[.val i64 false]
abbrev R37:=retsD rs37 × outsD ps37
noncomputable def G37:Gam:=fun f=>match f with | 94=>some Sm94 | _=>none
theorem h0_37 (hg:GamOK Try.prog G37):Holds Try.prog 37 ⟨ps37,rs37,false,runF TT G37 an37 Try.f37 c37 ps37 rs37⟩:=holds_of tt_ok hg mixed Try.func37 (by kernel_rfl) (by rfl) (by decide +kernel)
noncomputable def st37_top (n:Nat) (a:Int × Int × List Int) (b:Int):Option R37 :=
 (q94 n (a.2.2,b,())).bind fun r0=>some ((r0.1.1,()),((a.1,(a.2.1,r0.2.1)),()))
theorem e37_top (n:Nat) (a:Int × Int × List Int) (b:Int):runF TT G37 an37 Try.f37 c37 ps37 rs37 n (a,b,())=st37_top n a b:=by kernel_rfl
noncomputable def p37 (n:Nat) (a:Int × Int × List Int) (b:Int):Option R37:=st37_top n a b
theorem F37_eq (n:Nat) (a:Int × Int × List Int) (b:Int):runF TT G37 an37 Try.f37 c37 ps37 rs37 n (a,b,())=p37 n a b:=by
 rw [e37_top]
 skip
 try rfl
noncomputable def q37 (n:Nat) (x:argsD ps37):Option R37:=p37 n x.1 x.2.1
noncomputable def Sm37:Sm:=⟨ps37,rs37,false,q37⟩
theorem holds37 (hg:GamOK Try.prog G37):Holds Try.prog 37 Sm37:=by
 have:=h0_37 hg
 have e:(runF TT G37 an37 Try.f37 c37 ps37 rs37)=q37:=by
  funext n x
  exact F37_eq n x.1 x.2.1
 rw [e] at this
 exact this
theorem gam37:GamOK Try.prog G37:=by
 intro f s h
 unfold G37 at h
 split at h
 ·injection h with h; subst h; exact ⟨⟨Try.f94,c94,Try.func94,by kernel_rfl,by decide +kernel⟩,hh94⟩
 ·cases h
theorem hh37:Holds Try.prog 37 Sm37:=holds37 gam37
end Go.Proofs.Ytbjgiioppmkpiaa.Rx.S

namespace Go.Proofs.Ytbjgiioppmkpiaa.Rx.S
open Go Go.RowKit Go.Proofs
set_option maxRecDepth 100000
noncomputable def c99:Code:=(Try.f99.body.getD .skip)
def an99:An:=⟨fun r=>match r with | 2=>⟨[0,1,5],[]⟩ | _=>⟨[],[]⟩,fun r i=>match r,i with | 6,0=>some ⟨[0,1,5],[]⟩ | 8,0=>some ⟨[0,1,5],[]⟩ | 10,0=>some ⟨[0,1,5],[]⟩ | 12,0=>some ⟨[0,1,5],[]⟩ | 14,0=>some ⟨[0,1,5],[]⟩ | 16,0=>some ⟨[0,1,5],[]⟩ | 18,0=>some ⟨[0,1,5],[]⟩ | 20,0=>some ⟨[0,1,5],[]⟩ | _,_=>none⟩
abbrev ps99:List PK:=[.io tFs false,.val i64 false]
abbrev rs99:List RK:=[.val i64 false]
abbrev R99:=retsD rs99 × outsD ps99
noncomputable def G99:Gam:=fun f=>match f with | 136=>some Sm136 | 137=>some Sm137 | _=>none
theorem ateq99 {β:Type} (t:Nat) (f:St→Option β) (S:St):at_ t f S=f S:=rfl
theorem h0_99 (hg:GamOK Try.prog G99):Holds Try.prog 99 ⟨ps99,rs99,false,runF TT G99 an99 Try.f99 c99 ps99 rs99⟩:=holds_of tt_ok hg mixed Try.func99 (by kernel_rfl) (by rfl) (by decide +kernel)
noncomputable def at99:Nat→Pt→List Nat→St→Option R99:=atF TT G99 an99 Try.f99 c99 _ _
def sh99_C20_0 (x0:Int) (x1:Int) (x2:List NT):St:=(St.mk ((AV.par 0 false ((SV.ref 1000000 0 [] Option.none) :: [])) :: ((AV.one (SV.int (Go.IntKind.i64) x0)) :: (AV.undef :: (AV.undef :: (AV.undef :: ((AV.one (SV.int (Go.IntKind.i64) x1)) :: (AV.undef :: (AV.undef :: (AV.undef :: (AV.undef :: (AV.undef :: (AV.undef :: (AV.undef :: (AV.undef :: (AV.undef :: (AV.undef :: (AV.undef :: (AV.undef :: (AV.undef :: (AV.undef :: (AV.undef :: (AV.undef :: (AV.undef :: (AV.undef :: (AV.undef :: (AV.undef :: (AV.undef :: (AV.undef :: (AV.undef :: (AV.undef :: (AV.undef :: (AV.undef :: (AV.undef :: (AV.undef :: (AV.undef :: (AV.undef :: (AV.undef :: (AV.undef :: (AV.undef :: (AV.undef :: (AV.undef :: (AV.undef :: (AV.undef :: (AV.undef :: (AV.undef :: (AV.undef :: (AV.undef :: (AV.undef :: (AV.undef :: (AV.undef :: (AV.undef :: (AV.undef :: (AV.undef :: (AV.undef :: (AV.undef :: (AV.undef :: (AV.undef :: (AV.undef :: (AV.undef :: (AV.undef :: (AV.undef :: (AV.undef :: (AV.undef :: (AV.undef :: (AV.undef :: (AV.undef :: (AV.undef :: (AV.undef :: (AV.undef :: (AV.undef :: (AV.undef :: (AV.undef :: (AV.undef :: (AV.undef :: (AV.undef :: (AV.undef :: (AV.undef :: (AV.undef :: (AV.undef :: []))))))))))))))))))))))))))))))))))))))))))))))))))))))))))))))))))))))))))))))) ((1000000,(Ent.row (⟨37,(Ty.int Go.IntKind.i64).pair ((Ty.int Go.IntKind.i64).pair ((Ty.int Go.IntKind.i64).pair ((Ty.int Go.IntKind.i64).pair ((Ty.int Go.IntKind.i64).pair ((Ty.int Go.IntKind.i64).pair (Ty.bool.pair (Ty.str.pair (Ty.row (nat_lit 100) (Ty.str.pair (Ty.int Go.IntKind.i64)))))))))),x2⟩:Rw) 0 Option.none)) :: []))
def sh99_C18_0 (x0:Int) (x1:Int) (x2:List NT):St:=(St.mk ((AV.par 0 false ((SV.ref 1000000 0 [] Option.none) :: [])) :: ((AV.one (SV.int (Go.IntKind.i64) x0)) :: (AV.undef :: (AV.undef :: (AV.undef :: ((AV.one (SV.int (Go.IntKind.i64) x1)) :: (AV.undef :: (AV.undef :: (AV.undef :: (AV.undef :: (AV.undef :: (AV.undef :: (AV.undef :: (AV.undef :: (AV.undef :: (AV.undef :: (AV.undef :: (AV.undef :: (AV.undef :: (AV.undef :: (AV.undef :: (AV.undef :: (AV.undef :: (AV.undef :: (AV.undef :: (AV.undef :: (AV.undef :: (AV.undef :: (AV.undef :: (AV.undef :: (AV.undef :: (AV.undef :: (AV.undef :: (AV.undef :: (AV.undef :: (AV.undef :: (AV.undef :: (AV.undef :: (AV.undef :: (AV.undef :: (AV.undef :: (AV.undef :: (AV.undef :: (AV.undef :: (AV.undef :: (AV.undef :: (AV.undef :: (AV.undef :: (AV.undef :: (AV.undef :: (AV.undef :: (AV.undef :: (AV.undef :: (AV.undef :: (AV.undef :: (AV.undef :: (AV.undef :: (AV.undef :: (AV.undef :: (AV.undef :: (AV.undef :: (AV.undef :: (AV.undef :: (AV.undef :: (AV.undef :: (AV.undef :: (AV.undef :: (AV.undef :: (AV.undef :: (AV.undef :: (AV.undef :: (AV.undef :: (AV.undef :: (AV.undef :: (AV.undef :: (AV.undef :: (AV.undef :: (AV.undef :: (AV.undef :: []))))))))))))))))))))))))))))))))))))))))))))))))))))))))))))))))))))))))))))))) ((1000000,(Ent.row (⟨37,(Ty.int Go.IntKind.i64).pair ((Ty.int Go.IntKind.i64).pair ((Ty.int Go.IntKind.i64).pair ((Ty.int Go.IntKind.i64).pair ((Ty.int Go.IntKind.i64).pair ((Ty.int Go.IntKind.i64).pair (Ty.bool.pair (Ty.str.pair (Ty.row (nat_lit 100) (Ty.str.pair (Ty.int Go.IntKind.i64)))))))))),x2⟩:Rw) 0 Option.none)) :: []))
def sh99_C16_0 (x0:Int) (x1:Int) (x2:List NT):St:=(St.mk ((AV.par 0 false ((SV.ref 1000000 0 [] Option.none) :: [])) :: ((AV.one (SV.int (Go.IntKind.i64) x0)) :: (AV.undef :: (AV.undef :: (AV.undef :: ((AV.one (SV.int (Go.IntKind.i64) x1)) :: (AV.undef :: (AV.undef :: (AV.undef :: (AV.undef :: (AV.undef :: (AV.undef :: (AV.undef :: (AV.undef :: (AV.undef :: (AV.undef :: (AV.undef :: (AV.undef :: (AV.undef :: (AV.undef :: (AV.undef :: (AV.undef :: (AV.undef :: (AV.undef :: (AV.undef :: (AV.undef :: (AV.undef :: (AV.undef :: (AV.undef :: (AV.undef :: (AV.undef :: (AV.undef :: (AV.undef :: (AV.undef :: (AV.undef :: (AV.undef :: (AV.undef :: (AV.undef :: (AV.undef :: (AV.undef :: (AV.undef :: (AV.undef :: (AV.undef :: (AV.undef :: (AV.undef :: (AV.undef :: (AV.undef :: (AV.undef :: (AV.undef :: (AV.undef :: (AV.undef :: (AV.undef :: (AV.undef :: (AV.undef :: (AV.undef :: (AV.undef :: (AV.undef :: (AV.undef :: (AV.undef :: (AV.undef :: (AV.undef :: (AV.undef :: (AV.undef :: (AV.undef :: (AV.undef :: (AV.undef :: (AV.undef :: (AV.undef :: (AV.undef :: (AV.undef :: (AV.undef :: (AV.undef :: (AV.undef :: (AV.undef :: (AV.undef :: (AV.undef :: (AV.undef :: (AV.undef :: (AV.undef :: []))))))))))))))))))))))))))))))))))))))))))))))))))))))))))))))))))))))))))))))) ((1000000,(Ent.row (⟨37,(Ty.int Go.IntKind.i64).pair ((Ty.int Go.IntKind.i64).pair ((Ty.int Go.IntKind.i64).pair ((Ty.int Go.IntKind.i64).pair ((Ty.int Go.IntKind.i64).pair ((Ty.int Go.IntKind.i64).pair (Ty.bool.pair (Ty.str.pair (Ty.row (nat_lit 100) (Ty.str.pair (Ty.int Go.IntKind.i64)))))))))),x2⟩:Rw) 0 Option.none)) :: []))
def sh99_C14_0 (x0:Int) (x1:Int) (x2:List NT):St:=(St.mk ((AV.par 0 false ((SV.ref 1000000 0 [] Option.none) :: [])) :: ((AV.one (SV.int (Go.IntKind.i64) x0)) :: (AV.undef :: (AV.undef :: (AV.undef :: ((AV.one (SV.int (Go.IntKind.i64) x1)) :: (AV.undef :: (AV.undef :: (AV.undef :: (AV.undef :: (AV.undef :: (AV.undef :: (AV.undef :: (AV.undef :: (AV.undef :: (AV.undef :: (AV.undef :: (AV.undef :: (AV.undef :: (AV.undef :: (AV.undef :: (AV.undef :: (AV.undef :: (AV.undef :: (AV.undef :: (AV.undef :: (AV.undef :: (AV.undef :: (AV.undef :: (AV.undef :: (AV.undef :: (AV.undef :: (AV.undef :: (AV.undef :: (AV.undef :: (AV.undef :: (AV.undef :: (AV.undef :: (AV.undef :: (AV.undef :: (AV.undef :: (AV.undef :: (AV.undef :: (AV.undef :: (AV.undef :: (AV.undef :: (AV.undef :: (AV.undef :: (AV.undef :: (AV.undef :: (AV.undef :: (AV.undef :: (AV.undef :: (AV.undef :: (AV.undef :: (AV.undef :: (AV.undef :: (AV.undef :: (AV.undef :: (AV.undef :: (AV.undef :: (AV.undef :: (AV.undef :: (AV.undef :: (AV.undef :: (AV.undef :: (AV.undef :: (AV.undef :: (AV.undef :: (AV.undef :: (AV.undef :: (AV.undef :: (AV.undef :: (AV.undef :: (AV.undef :: (AV.undef :: (AV.undef :: (AV.undef :: (AV.undef :: []))))))))))))))))))))))))))))))))))))))))))))))))))))))))))))))))))))))))))))))) ((1000000,(Ent.row (⟨37,(Ty.int Go.IntKind.i64).pair ((Ty.int Go.IntKind.i64).pair ((Ty.int Go.IntKind.i64).pair ((Ty.int Go.IntKind.i64).pair ((Ty.int Go.IntKind.i64).pair ((Ty.int Go.IntKind.i64).pair (Ty.bool.pair (Ty.str.pair (Ty.row (nat_lit 100) (Ty.str.pair (Ty.int Go.IntKind.i64)))))))))),x2⟩:Rw) 0 Option.none)) :: []))
def sh99_C12_0 (x0:Int) (x1:Int) (x2:List NT):St:=(St.mk ((AV.par 0 false ((SV.ref 1000000 0 [] Option.none) :: [])) :: ((AV.one (SV.int (Go.IntKind.i64) x0)) :: (AV.undef :: (AV.undef :: (AV.undef :: ((AV.one (SV.int (Go.IntKind.i64) x1)) :: (AV.undef :: (AV.undef :: (AV.undef :: (AV.undef :: (AV.undef :: (AV.undef :: (AV.undef :: (AV.undef :: (AV.undef :: (AV.undef :: (AV.undef :: (AV.undef :: (AV.undef :: (AV.undef :: (AV.undef :: (AV.undef :: (AV.undef :: (AV.undef :: (AV.undef :: (AV.undef :: (AV.undef :: (AV.undef :: (AV.undef :: (AV.undef :: (AV.undef :: (AV.undef :: (AV.undef :: (AV.undef :: (AV.undef :: (AV.undef :: (AV.undef :: (AV.undef :: (AV.undef :: (AV.undef :: (AV.undef :: (AV.undef :: (AV.undef :: (AV.undef :: (AV.undef :: (AV.undef :: (AV.undef :: (AV.undef :: (AV.undef :: (AV.undef :: (AV.undef :: (AV.undef :: (AV.undef :: (AV.undef :: (AV.undef :: (AV.undef :: (AV.undef :: (AV.undef :: (AV.undef :: (AV.undef :: (AV.undef :: (AV.undef :: (AV.undef :: (AV.undef :: (AV.undef :: (AV.undef :: (AV.undef :: (AV.undef :: (AV.undef :: (AV.undef :: (AV.undef :: (AV.undef :: (AV.undef :: (AV.undef :: (AV.undef :: (AV.undef :: (AV.undef :: (AV.undef :: (AV.undef :: []))))))))))))))))))))))))))))))))))))))))))))))))))))))))))))))))))))))))))))))) ((1000000,(Ent.row (⟨37,(Ty.int Go.IntKind.i64).pair ((Ty.int Go.IntKind.i64).pair ((Ty.int Go.IntKind.i64).pair ((Ty.int Go.IntKind.i64).pair ((Ty.int Go.IntKind.i64).pair ((Ty.int Go.IntKind.i64).pair (Ty.bool.pair (Ty.str.pair (Ty.row (nat_lit 100) (Ty.str.pair (Ty.int Go.IntKind.i64)))))))))),x2⟩:Rw) 0 Option.none)) :: []))
def sh99_C10_0 (x0:Int) (x1:Int) (x2:List NT):St:=(St.mk ((AV.par 0 false ((SV.ref 1000000 0 [] Option.none) :: [])) :: ((AV.one (SV.int (Go.IntKind.i64) x0)) :: (AV.undef :: (AV.undef :: (AV.undef :: ((AV.one (SV.int (Go.IntKind.i64) x1)) :: (AV.undef :: (AV.undef :: (AV.undef :: (AV.undef :: (AV.undef :: (AV.undef :: (AV.undef :: (AV.undef :: (AV.undef :: (AV.undef :: (AV.undef :: (AV.undef :: (AV.undef :: (AV.undef :: (AV.undef :: (AV.undef :: (AV.undef :: (AV.undef :: (AV.undef :: (AV.undef :: (AV.undef :: (AV.undef :: (AV.undef :: (AV.undef :: (AV.undef :: (AV.undef :: (AV.undef :: (AV.undef :: (AV.undef :: (AV.undef :: (AV.undef :: (AV.undef :: (AV.undef :: (AV.undef :: (AV.undef :: (AV.undef :: (AV.undef :: (AV.undef :: (AV.undef :: (AV.undef :: (AV.undef :: (AV.undef :: (AV.undef :: (AV.undef :: (AV.undef :: (AV.undef :: (AV.undef :: (AV.undef :: (AV.undef :: (AV.undef :: (AV.undef :: (AV.undef :: (AV.undef :: (AV.undef :: (AV.undef :: (AV.undef :: (AV.undef :: (AV.undef :: (AV.undef :: (AV.undef :: (AV.undef :: (AV.undef :: (AV.undef :: (AV.undef :: (AV.undef :: (AV.undef :: (AV.undef :: (AV.undef :: (AV.undef :: (AV.undef :: (AV.undef :: (AV.undef :: (AV.undef :: []))))))))))))))))))))))))))))))))))))))))))))))))))))))))))))))))))))))))))))))) ((1000000,(Ent.row (⟨37,(Ty.int Go.IntKind.i64).pair ((Ty.int Go.IntKind.i64).pair ((Ty.int Go.IntKind.i64).pair ((Ty.int Go.IntKind.i64).pair ((Ty.int Go.IntKind.i64).pair ((Ty.int Go.IntKind.i64).pair (Ty.bool.pair (Ty.str.pair (Ty.row (nat_lit 100) (Ty.str.pair (Ty.int Go.IntKind.i64)))))))))),x2⟩:Rw) 0 Option.none)) :: []))
def sh99_C8_0 (x0:Int) (x1:Int) (x2:List NT):St:=(St.mk ((AV.par 0 false ((SV.ref 1000000 0 [] Option.none) :: [])) :: ((AV.one (SV.int (Go.IntKind.i64) x0)) :: (AV.undef :: (AV.undef :: (AV.undef :: ((AV.one (SV.int (Go.IntKind.i64) x1)) :: (AV.undef :: (AV.undef :: (AV.undef :: (AV.undef :: (AV.undef :: (AV.undef :: (AV.undef :: (AV.undef :: (AV.undef :: (AV.undef :: (AV.undef :: (AV.undef :: (AV.undef :: (AV.undef :: (AV.undef :: (AV.undef :: (AV.undef :: (AV.undef :: (AV.undef :: (AV.undef :: (AV.undef :: (AV.undef :: (AV.undef :: (AV.undef :: (AV.undef :: (AV.undef :: (AV.undef :: (AV.undef :: (AV.undef :: (AV.undef :: (AV.undef :: (AV.undef :: (AV.undef :: (AV.undef :: (AV.undef :: (AV.undef :: (AV.undef :: (AV.undef :: (AV.undef :: (AV.undef :: (AV.undef :: (AV.undef :: (AV.undef :: (AV.undef :: (AV.undef :: (AV.undef :: (AV.undef :: (AV.undef :: (AV.undef :: (AV.undef :: (AV.undef :: (AV.undef :: (AV.undef :: (AV.undef :: (AV.undef :: (AV.undef :: (AV.undef :: (AV.undef :: (AV.undef :: (AV.undef :: (AV.undef :: (AV.undef :: (AV.undef :: (AV.undef :: (AV.undef :: (AV.undef :: (AV.undef :: (AV.undef :: (AV.undef :: (AV.undef :: (AV.undef :: (AV.undef :: (AV.undef :: []))))))))))))))))))))))))))))))))))))))))))))))))))))))))))))))))))))))))))))))) ((1000000,(Ent.row (⟨37,(Ty.int Go.IntKind.i64).pair ((Ty.int Go.IntKind.i64).pair ((Ty.int Go.IntKind.i64).pair ((Ty.int Go.IntKind.i64).pair ((Ty.int Go.IntKind.i64).pair ((Ty.int Go.IntKind.i64).pair (Ty.bool.pair (Ty.str.pair (Ty.row (nat_lit 100) (Ty.str.pair (Ty.int Go.IntKind.i64)))))))))),x2⟩:Rw) 0 Option.none)) :: []))
def sh99_C6_0 (x0:Int) (x1:Int) (x2:List NT):St:=(St.mk ((AV.par 0 false ((SV.ref 1000000 0 [] Option.none) :: [])) :: ((AV.one (SV.int (Go.IntKind.i64) x0)) :: (AV.undef :: (AV.undef :: (AV.undef :: ((AV.one (SV.int (Go.IntKind.i64) x1)) :: (AV.undef :: (AV.undef :: (AV.undef :: (AV.undef :: (AV.undef :: (AV.undef :: (AV.undef :: (AV.undef :: (AV.undef :: (AV.undef :: (AV.undef :: (AV.undef :: (AV.undef :: (AV.undef :: (AV.undef :: (AV.undef :: (AV.undef :: (AV.undef :: (AV.undef :: (AV.undef :: (AV.undef :: (AV.undef :: (AV.undef :: (AV.undef :: (AV.undef :: (AV.undef :: (AV.undef :: (AV.undef :: (AV.undef :: (AV.undef :: (AV.undef :: (AV.undef :: (AV.undef :: (AV.undef :: (AV.undef :: (AV.undef :: (AV.undef :: (AV.undef :: (AV.undef :: (AV.undef :: (AV.undef :: (AV.undef :: (AV.undef :: (AV.undef :: (AV.undef :: (AV.undef :: (AV.undef :: (AV.undef :: (AV.undef :: (AV.undef :: (AV.undef :: (AV.undef :: (AV.undef :: (AV.undef :: (AV.undef :: (AV.undef :: (AV.undef :: (AV.undef :: (AV.undef :: (AV.undef :: (AV.undef :: (AV.undef :: (AV.undef :: (AV.undef :: (AV.undef :: (AV.undef :: (AV.undef :: (AV.undef :: (AV.undef :: (AV.undef :: (AV.undef :: (AV.undef :: (AV.undef :: []))))))))))))))))))))))))))))))))))))))))))))))))))))))))))))))))))))))))))))))) ((1000000,(Ent.row (⟨37,(Ty.int Go.IntKind.i64).pair ((Ty.int Go.IntKind.i64).pair ((Ty.int Go.IntKind.i64).pair ((Ty.int Go.IntKind.i64).pair ((Ty.int Go.IntKind.i64).pair ((Ty.int Go.IntKind.i64).pair (Ty.bool.pair (Ty.str.pair (Ty.row (nat_lit 100) (Ty.str.pair (Ty.int Go.IntKind.i64)))))))))),x2⟩:Rw) 0 Option.none)) :: []))
def sh99_L2 (x0:Int) (x1:Int) (x2:List NT):St:=(St.mk ((AV.par 0 false ((SV.ref 1000000 0 [] Option.none) :: [])) :: ((AV.one (SV.int (Go.IntKind.i64) x0)) :: (AV.undef :: (AV.undef :: (AV.undef :: ((AV.one (SV.int (Go.IntKind.i64) x1)) :: (AV.undef :: (AV.undef :: (AV.undef :: (AV.undef :: (AV.undef :: (AV.undef :: (AV.undef :: (AV.undef :: (AV.undef :: (AV.undef :: (AV.undef :: (AV.undef :: (AV.undef :: (AV.undef :: (AV.undef :: (AV.undef :: (AV.undef :: (AV.undef :: (AV.undef :: (AV.undef :: (AV.undef :: (AV.undef :: (AV.undef :: (AV.undef :: (AV.undef :: (AV.undef :: (AV.undef :: (AV.undef :: (AV.undef :: (AV.undef :: (AV.undef :: (AV.undef :: (AV.undef :: (AV.undef :: (AV.undef :: (AV.undef :: (AV.undef :: (AV.undef :: (AV.undef :: (AV.undef :: (AV.undef :: (AV.undef :: (AV.undef :: (AV.undef :: (AV.undef :: (AV.undef :: (AV.undef :: (AV.undef :: (AV.undef :: (AV.undef :: (AV.undef :: (AV.undef :: (AV.undef :: (AV.undef :: (AV.undef :: (AV.undef :: (AV.undef :: (AV.undef :: (AV.undef :: (AV.undef :: (AV.undef :: (AV.undef :: (AV.undef :: (AV.undef :: (AV.undef :: (AV.undef :: (AV.undef :: (AV.undef :: (AV.undef :: (AV.undef :: (AV.undef :: (AV.undef :: (AV.undef :: []))))))))))))))))))))))))))))))))))))))))))))))))))))))))))))))))))))))))))))))) ((1000000,(Ent.row (⟨37,(Ty.int Go.IntKind.i64).pair ((Ty.int Go.IntKind.i64).pair ((Ty.int Go.IntKind.i64).pair ((Ty.int Go.IntKind.i64).pair ((Ty.int Go.IntKind.i64).pair ((Ty.int Go.IntKind.i64).pair (Ty.bool.pair (Ty.str.pair (Ty.row (nat_lit 100) (Ty.str.pair (Ty.int Go.IntKind.i64)))))))))),x2⟩:Rw) 0 Option.none)) :: []))
noncomputable def st99_top (n:Nat) (lL2:Int→Int→(List NT)→Option R99) (a:List NT) (b:Int):Option R99 :=
 lL2 (b) ((0:Int)) (a)
noncomputable def st99_C20_0 (n:Nat) (lL2:Int→Int→(List NT)→Option R99) (x0:Int) (x1:Int) (x2:List NT):Option R99 :=
 cond (decide ((0:Int)≤x1)) (cond (decide (x1 < (↑x2.length:Int))) ((q137 n ((x2.getD x1.toNat ZN).2.2.2.2.2.2.2.2,x0,())).bind fun r10=>lL2 (r10.1.1) (Go.IntKind.i64.wrap (x1 + (1:Int))) (x2.set x1.toNat ((x2.getD x1.toNat ZN).1,(x2.getD x1.toNat ZN).2.1,(x2.getD x1.toNat ZN).2.2.1,(x2.getD x1.toNat ZN).2.2.2.1,(x2.getD x1.toNat ZN).2.2.2.2.1,(x2.getD x1.toNat ZN).2.2.2.2.2.1,(x2.getD x1.toNat ZN).2.2.2.2.2.2.1,(x2.getD x1.toNat ZN).2.2.2.2.2.2.2.1,r10.2.1))) (none)) (none)
noncomputable def st99_C18_0 (n:Nat) (lC20_0:Int→Int→(List NT)→Option R99) (x0:Int) (x1:Int) (x2:List NT):Option R99 :=
 (q136 n (x0,())).bind fun r8=>cond (decide ((0:Int)≤x1)) (cond (decide (x1 < (↑x2.length:Int))) (lC20_0 (Go.IntKind.i64.wrap (x0 + (1:Int))) (x1) (x2.set x1.toNat ((x2.getD x1.toNat ZN).1,(x2.getD x1.toNat ZN).2.1,(x2.getD x1.toNat ZN).2.2.1,(x2.getD x1.toNat ZN).2.2.2.1,(x2.getD x1.toNat ZN).2.2.2.2.1,(x2.getD x1.toNat ZN).2.2.2.2.2.1,(x2.getD x1.toNat ZN).2.2.2.2.2.2.1,r8.1.1,(x2.getD x1.toNat ZN).2.2.2.2.2.2.2.2))) (none)) (none)
noncomputable def st99_C16_0 (n:Nat) (lC18_0:Int→Int→(List NT)→Option R99) (x0:Int) (x1:Int) (x2:List NT):Option R99 :=
 cond (decide ((0:Int)≤x1)) (cond (decide (x1 < (↑x2.length:Int))) (lC18_0 (Go.IntKind.i64.wrap (x0 + (1:Int))) (x1) (x2.set x1.toNat ((x2.getD x1.toNat ZN).1,(x2.getD x1.toNat ZN).2.1,(x2.getD x1.toNat ZN).2.2.1,(x2.getD x1.toNat ZN).2.2.2.1,(x2.getD x1.toNat ZN).2.2.2.2.1,(x2.getD x1.toNat ZN).2.2.2.2.2.1,decide (x0.tmod (3:Int)=(0:Int)),(x2.getD x1.toNat ZN).2.2.2.2.2.2.2))) (none)) (none)
noncomputable def st99_C14_0 (n:Nat) (lC16_0:Int→Int→(List NT)→Option R99) (x0:Int) (x1:Int) (x2:List NT):Option R99 :=
 cond (decide ((0:Int)≤x1)) (cond (decide (x1 < (↑x2.length:Int))) (lC16_0 (Go.IntKind.i64.wrap (x0 + (1:Int))) (x1) (x2.set x1.toNat ((x2.getD x1.toNat ZN).1,(x2.getD x1.toNat ZN).2.1,(x2.getD x1.toNat ZN).2.2.1,(x2.getD x1.toNat ZN).2.2.2.1,(x2.getD x1.toNat ZN).2.2.2.2.1,x0,(x2.getD x1.toNat ZN).2.2.2.2.2.2))) (none)) (none)
noncomputable def st99_C12_0 (n:Nat) (lC14_0:Int→Int→(List NT)→Option R99) (x0:Int) (x1:Int) (x2:List NT):Option R99 :=
 cond (decide ((0:Int)≤x1)) (cond (decide (x1 < (↑x2.length:Int))) (lC14_0 (Go.IntKind.i64.wrap (x0 + (1:Int))) (x1) (x2.set x1.toNat ((x2.getD x1.toNat ZN).1,(x2.getD x1.toNat ZN).2.1,(x2.getD x1.toNat ZN).2.2.1,(x2.getD x1.toNat ZN).2.2.2.1,x0,(x2.getD x1.toNat ZN).2.2.2.2.2))) (none)) (none)
noncomputable def st99_C10_0 (n:Nat) (lC12_0:Int→Int→(List NT)→Option R99) (x0:Int) (x1:Int) (x2:List NT):Option R99 :=
 cond (decide ((0:Int)≤x1)) (cond (decide (x1 < (↑x2.length:Int))) (lC12_0 (Go.IntKind.i64.wrap (x0 + (1:Int))) (x1) (x2.set x1.toNat ((x2.getD x1.toNat ZN).1,(x2.getD x1.toNat ZN).2.1,(x2.getD x1.toNat ZN).2.2.1,x0,(x2.getD x1.toNat ZN).2.2.2.2))) (none)) (none)
noncomputable def st99_C8_0 (n:Nat) (lC10_0:Int→Int→(List NT)→Option R99) (x0:Int) (x1:Int) (x2:List NT):Option R99 :=
 cond (decide ((0:Int)≤x1)) (cond (decide (x1 < (↑x2.length:Int))) (lC10_0 (Go.IntKind.i64.wrap (x0 + (1:Int))) (x1) (x2.set x1.toNat ((x2.getD x1.toNat ZN).1,(x2.getD x1.toNat ZN).2.1,x0,(x2.getD x1.toNat ZN).2.2.2))) (none)) (none)
noncomputable def st99_C6_0 (n:Nat) (lC8_0:Int→Int→(List NT)→Option R99) (x0:Int) (x1:Int) (x2:List NT):Option R99 :=
 cond (decide ((0:Int)≤x1)) (cond (decide (x1 < (↑x2.length:Int))) (lC8_0 (Go.IntKind.i64.wrap (x0 + (1:Int))) (x1) (x2.set x1.toNat ((x2.getD x1.toNat ZN).1,x0,(x2.getD x1.toNat ZN).2.2))) (none)) (none)
noncomputable def st99_L2 (n:Nat) (lC6_0:Int→Int→(List NT)→Option R99) (x0:Int) (x1:Int) (x2:List NT):Option R99 :=
 cond (decide (x1 < (↑x2.length:Int))) (cond (decide ((0:Int)≤x1)) (cond (decide (x1 < (↑x2.length:Int))) (lC6_0 (Go.IntKind.i64.wrap (x0 + (1:Int))) (x1) (x2.set x1.toNat (x0,(x2.getD x1.toNat ZN).2))) (none)) (none)) (some ((x0,()),(x2,())))
theorem e99_top (n:Nat) (a:List NT) (b:Int):runF TT G99 an99 Try.f99 c99 ps99 rs99 n (a,b,())=st99_top n (fun x0 x1 x2=>at99 n (.head 2) [n] (sh99_L2 x0 x1 x2)) a b:=by kernel_rfl
theorem e99_C20_0 (n:Nat) (m2:Nat) (x0:Int) (x1:Int) (x2:List NT):at99 n (.op 20 0) [m2] (sh99_C20_0 x0 x1 x2)=st99_C20_0 n (fun x0 x1 x2=>at99 n (.head 2) [m2] (sh99_L2 x0 x1 x2)) x0 x1 x2:=by kernel_rfl
theorem e99_C18_0 (n:Nat) (m2:Nat) (x0:Int) (x1:Int) (x2:List NT):at99 n (.op 18 0) [m2] (sh99_C18_0 x0 x1 x2)=st99_C18_0 n (fun x0 x1 x2=>at_ 20000 (at99 n (.op 20 0) [m2]) (sh99_C20_0 x0 x1 x2)) x0 x1 x2:=by kernel_rfl
theorem e99_C16_0 (n:Nat) (m2:Nat) (x0:Int) (x1:Int) (x2:List NT):at99 n (.op 16 0) [m2] (sh99_C16_0 x0 x1 x2)=st99_C16_0 n (fun x0 x1 x2=>at_ 18000 (at99 n (.op 18 0) [m2]) (sh99_C18_0 x0 x1 x2)) x0 x1 x2:=by kernel_rfl
theorem e99_C14_0 (n:Nat) (m2:Nat) (x0:Int) (x1:Int) (x2:List NT):at99 n (.op 14 0) [m2] (sh99_C14_0 x0 x1 x2)=st99_C14_0 n (fun x0 x1 x2=>at_ 16000 (at99 n (.op 16 0) [m2]) (sh99_C16_0 x0 x1 x2)) x0 x1 x2:=by kernel_rfl
theorem e99_C12_0 (n:Nat) (m2:Nat) (x0:Int) (x1:Int) (x2:List NT):at99 n (.op 12 0) [m2] (sh99_C12_0 x0 x1 x2)=st99_C12_0 n (fun x0 x1 x2=>at_ 14000 (at99 n (.op 14 0) [m2]) (sh99_C14_0 x0 x1 x2)) x0 x1 x2:=by kernel_rfl
theorem e99_C10_0 (n:Nat) (m2:Nat) (x0:Int) (x1:Int) (x2:List NT):at99 n (.op 10 0) [m2] (sh99_C10_0 x0 x1 x2)=st99_C10_0 n (fun x0 x1 x2=>at_ 12000 (at99 n (.op 12 0) [m2]) (sh99_C12_0 x0 x1 x2)) x0 x1 x2:=by kernel_rfl
theorem e99_C8_0 (n:Nat) (m2:Nat) (x0:Int) (x1:Int) (x2:List NT):at99 n (.op 8 0) [m2] (sh99_C8_0 x0 x1 x2)=st99_C8_0 n (fun x0 x1 x2=>at_ 10000 (at99 n (.op 10 0) [m2]) (sh99_C10_0 x0 x1 x2)) x0 x1 x2:=by kernel_rfl
theorem e99_C6_0 (n:Nat) (m2:Nat) (x0:Int) (x1:Int) (x2:List NT):at99 n (.op 6 0) [m2] (sh99_C6_0 x0 x1 x2)=st99_C6_0 n (fun x0 x1 x2=>at_ 8000 (at99 n (.op 8 0) [m2]) (sh99_C8_0 x0 x1 x2)) x0 x1 x2:=by kernel_rfl
theorem e99_L2_0 (n:Nat) (x0:Int) (x1:Int) (x2:List NT):at99 n (.head 2) [0] (sh99_L2 x0 x1 x2)=none:=by kernel_rfl
theorem e99_L2 (n:Nat) (m2:Nat) (x0:Int) (x1:Int) (x2:List NT):at99 n (.head 2) [m2 + 1] (sh99_L2 x0 x1 x2)=st99_L2 n (fun x0 x1 x2=>at_ 6000 (at99 n (.op 6 0) [m2]) (sh99_C6_0 x0 x1 x2)) x0 x1 x2:=by kernel_rfl
noncomputable def p99_C20_0 (g2:Int→Int→(List NT)→Option R99) (n:Nat) (x0:Int) (x1:Int) (x2:List NT):Option R99:=st99_C20_0 n g2 x0 x1 x2
noncomputable def p99_C18_0 (g2:Int→Int→(List NT)→Option R99) (n:Nat) (x0:Int) (x1:Int) (x2:List NT):Option R99:=st99_C18_0 n (p99_C20_0 g2 n) x0 x1 x2
noncomputable def p99_C16_0 (g2:Int→Int→(List NT)→Option R99) (n:Nat) (x0:Int) (x1:Int) (x2:List NT):Option R99:=st99_C16_0 n (p99_C18_0 g2 n) x0 x1 x2
noncomputable def p99_C14_0 (g2:Int→Int→(List NT)→Option R99) (n:Nat) (x0:Int) (x1:Int) (x2:List NT):Option R99:=st99_C14_0 n (p99_C16_0 g2 n) x0 x1 x2
noncomputable def p99_C12_0 (g2:Int→Int→(List NT)→Option R99) (n:Nat) (x0:Int) (x1:Int) (x2:List NT):Option R99:=st99_C12_0 n (p99_C14_0 g2 n) x0 x1 x2
noncomputable def p99_C10_0 (g2:Int→Int→(List NT)→Option R99) (n:Nat) (x0:Int) (x1:Int) (x2:List NT):Option R99:=st99_C10_0 n (p99_C12_0 g2 n) x0 x1 x2
noncomputable def p99_C8_0 (g2:Int→Int→(List NT)→Option R99) (n:Nat) (x0:Int) (x1:Int) (x2:List NT):Option R99:=st99_C8_0 n (p99_C10_0 g2 n) x0 x1 x2
noncomputable def p99_C6_0 (g2:Int→Int→(List NT)→Option R99) (n:Nat) (x0:Int) (x1:Int) (x2:List NT):Option R99:=st99_C6_0 n (p99_C8_0 g2 n) x0 x1 x2
noncomputable def p99_L2 (n:Nat):Nat→Int→Int→(List NT)→Option R99
 | 0,_,_,_=>none
 | m + 1,x0,x1,x2=>st99_L2 n (p99_C6_0 (p99_L2 n m) n) x0 x1 x2
noncomputable def p99 (n:Nat) (a:List NT) (b:Int):Option R99:=st99_top n (p99_L2 n n) a b
theorem t99_C20_0 (n:Nat) (m2:Nat) (x0:Int) (x1:Int) (x2:List NT):at99 n (.op 20 0) [m2] (sh99_C20_0 x0 x1 x2)=p99_C20_0 (fun x0 x1 x2=>at99 n (.head 2) [m2] (sh99_L2 x0 x1 x2)) n x0 x1 x2:=by
 rw [e99_C20_0]
 skip
 try rfl
theorem t99_C18_0 (n:Nat) (m2:Nat) (x0:Int) (x1:Int) (x2:List NT):at99 n (.op 18 0) [m2] (sh99_C18_0 x0 x1 x2)=p99_C18_0 (fun x0 x1 x2=>at99 n (.head 2) [m2] (sh99_L2 x0 x1 x2)) n x0 x1 x2:=by
 rw [e99_C18_0]
 simp only [ateq99,t99_C20_0]
 try rfl
theorem t99_C16_0 (n:Nat) (m2:Nat) (x0:Int) (x1:Int) (x2:List NT):at99 n (.op 16 0) [m2] (sh99_C16_0 x0 x1 x2)=p99_C16_0 (fun x0 x1 x2=>at99 n (.head 2) [m2] (sh99_L2 x0 x1 x2)) n x0 x1 x2:=by
 rw [e99_C16_0]
 simp only [ateq99,t99_C18_0]
 try rfl
theorem t99_C14_0 (n:Nat) (m2:Nat) (x0:Int) (x1:Int) (x2:List NT):at99 n (.op 14 0) [m2] (sh99_C14_0 x0 x1 x2)=p99_C14_0 (fun x0 x1 x2=>at99 n (.head 2) [m2] (sh99_L2 x0 x1 x2)) n x0 x1 x2:=by
 rw [e99_C14_0]
 simp only [ateq99,t99_C16_0]
 try rfl
theorem t99_C12_0 (n:Nat) (m2:Nat) (x0:Int) (x1:Int) (x2:List NT):at99 n (.op 12 0) [m2] (sh99_C12_0 x0 x1 x2)=p99_C12_0 (fun x0 x1 x2=>at99 n (.head 2) [m2] (sh99_L2 x0 x1 x2)) n x0 x1 x2:=by
 rw [e99_C12_0]
 simp only [ateq99,t99_C14_0]
 try rfl
theorem t99_C10_0 (n:Nat) (m2:Nat) (x0:Int) (x1:Int) (x2:List NT):at99 n (.op 10 0) [m2] (sh99_C10_0 x0 x1 x2)=p99_C10_0 (fun x0 x1 x2=>at99 n (.head 2) [m2] (sh99_L2 x0 x1 x2)) n x0 x1 x2:=by
 rw [e99_C10_0]
 simp only [ateq99,t99_C12_0]
 try rfl
theorem t99_C8_0 (n:Nat) (m2:Nat) (x0:Int) (x1:Int) (x2:List NT):at99 n (.op 8 0) [m2] (sh99_C8_0 x0 x1 x2)=p99_C8_0 (fun x0 x1 x2=>at99 n (.head 2) [m2] (sh99_L2 x0 x1 x2)) n x0 x1 x2:=by
 rw [e99_C8_0]
 simp only [ateq99,t99_C10_0]
 try rfl
theorem t99_C6_0 (n:Nat) (m2:Nat) (x0:Int) (x1:Int) (x2:List NT):at99 n (.op 6 0) [m2] (sh99_C6_0 x0 x1 x2)=p99_C6_0 (fun x0 x1 x2=>at99 n (.head 2) [m2] (sh99_L2 x0 x1 x2)) n x0 x1 x2:=by
 rw [e99_C6_0]
 simp only [ateq99,t99_C8_0]
 try rfl
theorem t99_L2 (n:Nat):∀ (m2:Nat) (x0:Int) (x1:Int) (x2:List NT),at99 n (.head 2) [m2] (sh99_L2 x0 x1 x2)=p99_L2 n m2 x0 x1 x2:=by
 intro m
 induction m with
 | zero=>intros; rw [e99_L2_0]; rfl
 | succ m ih =>
  intros
  rw [e99_L2]
  try simp only [ateq99,t99_C6_0,ih]
  rfl
theorem F99_eq (n:Nat) (a:List NT) (b:Int):runF TT G99 an99 Try.f99 c99 ps99 rs99 n (a,b,())=p99 n a b:=by
 rw [e99_top]
 simp only [t99_L2]
 try rfl
noncomputable def q99 (n:Nat) (x:argsD ps99):Option R99:=p99 n x.1 x.2.1
noncomputable def Sm99:Sm:=⟨ps99,rs99,false,q99⟩
theorem holds99 (hg:GamOK Try.prog G99):Holds Try.prog 99 Sm99:=by
 have:=h0_99 hg
 have e:(runF TT G99 an99 Try.f99 c99 ps99 rs99)=q99:=by
  funext n x
  exact F99_eq n x.1 x.2.1
 rw [e] at this
 exact this
theorem gam99:GamOK Try.prog G99:=by
 intro f s h
 unfold G99 at h
 split at h
 ·injection h with h; subst h; exact ⟨⟨Try.f136,c136,Try.func136,by kernel_rfl,by decide +kernel⟩,hh136⟩
 ·injection h with h; subst h; exact ⟨⟨Try.f137,c137,Try.func137,by kernel_rfl,by decide +kernel⟩,hh137⟩
 ·cases h
theorem hh99:Holds Try.prog 99 Sm99:=holds99 gam99
end Go.Proofs.Ytbjgiioppmkpiaa.Rx.S

namespace Go.Proofs.Ytbjgiioppmkpiaa.Rx.S
open Go Go.RowKit Go.Proofs
set_option maxRecDepth 100000
noncomputable def c156:Code:=(Try.f156.body.getD .skip)
def an156:An:=⟨fun _=>⟨[],[]⟩,fun _ _=>none⟩
abbrev ps156:List PK:=[.val tEn true,.val i64 false]
abbrev rs156:List RK:=[.val i64 false]
abbrev R156:=retsD rs156 × outsD ps156
noncomputable def G156:Gam:=fun _=>none
theorem h0_156 (hg:GamOK Try.prog G156):Holds Try.prog 156 ⟨ps156,rs156,false,runF TT G156 an156 Try.f156 c156 ps156 rs156⟩:=holds_of tt_ok hg mixed Try.func156 (by kernel_rfl) (by rfl) (by decide +kernel)
noncomputable def st156_top (n:Nat) (a:ByteArray × Int) (b:Int):Option R156 :=
 cond (decide (Go.IntKind.i64.wrap (b - (↑(ByteArray.size a.1):Int)) < (0:Int))) (some (((-1:Int),()),())) (some ((Go.IntKind.i64.wrap (b - (↑(ByteArray.size a.1):Int)),()),()))
theorem e156_top (n:Nat) (a:ByteArray × Int) (b:Int):runF TT G156 an156 Try.f156 c156 ps156 rs156 n (a,b,())=st156_top n a b:=by kernel_rfl
noncomputable def p156 (n:Nat) (a:ByteArray × Int) (b:Int):Option R156:=st156_top n a b
theorem F156_eq (n:Nat) (a:ByteArray × Int) (b:Int):runF TT G156 an156 Try.f156 c156 ps156 rs156 n (a,b,())=p156 n a b:=by
 rw [e156_top]
 skip
 try rfl
noncomputable def q156 (n:Nat) (x:argsD ps156):Option R156:=p156 n x.1 x.2.1
noncomputable def Sm156:Sm:=⟨ps156,rs156,false,q156⟩
theorem holds156 (hg:GamOK Try.prog G156):Holds Try.prog 156 Sm156:=by
 have:=h0_156 hg
 have e:(runF TT G156 an156 Try.f156 c156 ps156 rs156)=q156:=by
  funext n x
  exact F156_eq n x.1 x.2.1
 rw [e] at this
 exact this
theorem gam156:GamOK Try.prog G156:=fun _ _ h=>by cases h
theorem hh156:Holds Try.prog 156 Sm156:=holds156 gam156
end Go.Proofs.Ytbjgiioppmkpiaa.Rx.S

namespace Go.Proofs.Ytbjgiioppmkpiaa.Rx.S
open Go Go.RowKit Go.Proofs
set_option maxRecDepth 100000
noncomputable def c149:Code:=(Try.f149.body.getD .skip)
def an149:An:=⟨fun r=>match r with | 5=>⟨[0,1,5],[]⟩ | _=>⟨[],[]⟩,fun _ _=>none⟩
abbrev ps149:List PK:=[.val (.row 178 tEn) false,.val i64 false]
abbrev rs149:List RK:=[.val i64 false]
abbrev R149:=retsD rs149 × outsD ps149
noncomputable def G149:Gam:=fun f=>match f with | 156=>some Sm156 | _=>none
theorem h0_149 (hg:GamOK Try.prog G149):Holds Try.prog 149 ⟨ps149,rs149,false,runF TT G149 an149 Try.f149 c149 ps149 rs149⟩:=holds_of tt_ok hg mixed Try.func149 (by kernel_rfl) (by rfl) (by decide +kernel)
noncomputable def at149:Nat→Pt→List Nat→St→Option R149:=atF TT G149 an149 Try.f149 c149 _ _
def sh149_L5 (x0:List (ByteArray × Int)) (x1:Int) (x2:Int):St:=(St.mk ((AV.one (SV.con (⟨178,Ty.str.pair (Ty.int Go.IntKind.i64),x0⟩:Rw))) :: ((AV.one (SV.int (Go.IntKind.i64) x1)) :: (AV.undef :: (AV.undef :: (AV.undef :: ((AV.one (SV.int (Go.IntKind.i64) x2)) :: (AV.undef :: (AV.undef :: (AV.undef :: (AV.undef :: (AV.undef :: (AV.undef :: (AV.undef :: (AV.undef :: (AV.undef :: (AV.undef :: (AV.undef :: (AV.undef :: (AV.undef :: (AV.undef :: (AV.undef :: (AV.undef :: (AV.undef :: (AV.undef :: (AV.undef :: (AV.undef :: (AV.undef :: []))))))))))))))))))))))))))) [])
noncomputable def st149_top (n:Nat) (lL5:(List (ByteArray × Int))→Int→Int→Option R149) (a:List (ByteArray × Int)) (b:Int):Option R149 :=
 cond (decide (Go.IntKind.i64.wrap (b - (↑a.length:Int)) < (0:Int))) (some (((-1:Int),()),())) (lL5 (a) (Go.IntKind.i64.wrap (b - (↑a.length:Int))) ((0:Int)))
noncomputable def st149_L5 (n:Nat) (lL5:(List (ByteArray × Int))→Int→Int→Option R149) (x0:List (ByteArray × Int)) (x1:Int) (x2:Int):Option R149 :=
 cond (decide (x2 < (↑x0.length:Int))) (cond (decide ((0:Int)≤x2)) (cond (decide (x2 < (↑x0.length:Int))) ((q156 n (((x0.getD x2.toNat (ByteArray.empty,(0:Int))).1,(x0.getD x2.toNat (ByteArray.empty,(0:Int))).2),x1,())).bind fun r1=>cond (decide (r1.1.1 < (0:Int))) (some (((-1:Int),()),())) (lL5 (x0) (r1.1.1) (Go.IntKind.i64.wrap (x2 + (1:Int))))) (none)) (none)) (some ((x1,()),()))
theorem e149_top (n:Nat) (a:List (ByteArray × Int)) (b:Int):runF TT G149 an149 Try.f149 c149 ps149 rs149 n (a,b,())=st149_top n (fun x0 x1 x2=>at149 n (.head 5) [n] (sh149_L5 x0 x1 x2)) a b:=by kernel_rfl
theorem e149_L5_0 (n:Nat) (x0:List (ByteArray × Int)) (x1:Int) (x2:Int):at149 n (.head 5) [0] (sh149_L5 x0 x1 x2)=none:=by kernel_rfl
theorem e149_L5 (n:Nat) (m5:Nat) (x0:List (ByteArray × Int)) (x1:Int) (x2:Int):at149 n (.head 5) [m5 + 1] (sh149_L5 x0 x1 x2)=st149_L5 n (fun x0 x1 x2=>at149 n (.head 5) [m5] (sh149_L5 x0 x1 x2)) x0 x1 x2:=by kernel_rfl
noncomputable def p149_L5 (n:Nat):Nat→(List (ByteArray × Int))→Int→Int→Option R149
 | 0,_,_,_=>none
 | m + 1,x0,x1,x2=>st149_L5 n (p149_L5 n m) x0 x1 x2
noncomputable def p149 (n:Nat) (a:List (ByteArray × Int)) (b:Int):Option R149:=st149_top n (p149_L5 n n) a b
theorem t149_L5 (n:Nat):∀ (m5:Nat) (x0:List (ByteArray × Int)) (x1:Int) (x2:Int),at149 n (.head 5) [m5] (sh149_L5 x0 x1 x2)=p149_L5 n m5 x0 x1 x2:=by
 intro m
 induction m with
 | zero=>intros; rw [e149_L5_0]; rfl
 | succ m ih =>
  intros
  rw [e149_L5]
  try simp only [ih]
  rfl
theorem F149_eq (n:Nat) (a:List (ByteArray × Int)) (b:Int):runF TT G149 an149 Try.f149 c149 ps149 rs149 n (a,b,())=p149 n a b:=by
 rw [e149_top]
 simp only [t149_L5]
 try rfl
noncomputable def q149 (n:Nat) (x:argsD ps149):Option R149:=p149 n x.1 x.2.1
noncomputable def Sm149:Sm:=⟨ps149,rs149,false,q149⟩
theorem holds149 (hg:GamOK Try.prog G149):Holds Try.prog 149 Sm149:=by
 have:=h0_149 hg
 have e:(runF TT G149 an149 Try.f149 c149 ps149 rs149)=q149:=by
  funext n x
  exact F149_eq n x.1 x.2.1
 rw [e] at this
 exact this
theorem gam149:GamOK Try.prog G149:=by
 intro f s h
 unfold G149 at h
 split at h
 ·injection h with h; subst h; exact ⟨⟨Try.f156,c156,Try.func156,by kernel_rfl,by decide +kernel⟩,hh156⟩
 ·cases h
theorem hh149:Holds Try.prog 149 Sm149:=holds149 gam149
end Go.Proofs.Ytbjgiioppmkpiaa.Rx.S

namespace Go.Proofs.Ytbjgiioppmkpiaa.Rx.S
open Go Go.RowKit Go.Proofs
set_option maxRecDepth 100000
noncomputable def c133:Code:=(Try.f133.body.getD .skip)
def an133:An:=⟨fun _=>⟨[],[]⟩,fun _ _=>none⟩
abbrev ps133:List PK:=[.val (tIn 178) true,.val i64 false]
abbrev rs133:List RK:=[.val i64 false]
abbrev R133:=retsD rs133 × outsD ps133
noncomputable def G133:Gam:=fun f=>match f with | 149=>some Sm149 | _=>none
theorem h0_133 (hg:GamOK Try.prog G133):Holds Try.prog 133 ⟨ps133,rs133,false,runF TT G133 an133 Try.f133 c133 ps133 rs133⟩:=holds_of tt_ok hg mixed Try.func133 (by kernel_rfl) (by rfl) (by decide +kernel)
noncomputable def st133_top (n:Nat) (a:NT) (b:Int):Option R133 :=
 cond (decide (Go.IntKind.i64.wrap (b - (↑(ByteArray.size a.2.2.2.2.2.2.2.1):Int)) < (0:Int))) (some (((-1:Int),()),())) ((q149 n (a.2.2.2.2.2.2.2.2,Go.IntKind.i64.wrap (b - (↑(ByteArray.size a.2.2.2.2.2.2.2.1):Int)),())).bind fun r0=>cond (decide (r0.1.1 < (0:Int))) (some (((-1:Int),()),())) (some ((r0.1.1,()),())))
theorem e133_top (n:Nat) (a:NT) (b:Int):runF TT G133 an133 Try.f133 c133 ps133 rs133 n (a,b,())=st133_top n a b:=by kernel_rfl
noncomputable def p133 (n:Nat) (a:NT) (b:Int):Option R133:=st133_top n a b
theorem F133_eq (n:Nat) (a:NT) (b:Int):runF TT G133 an133 Try.f133 c133 ps133 rs133 n (a,b,())=p133 n a b:=by
 rw [e133_top]
 skip
 try rfl
noncomputable def q133 (n:Nat) (x:argsD ps133):Option R133:=p133 n x.1 x.2.1
noncomputable def Sm133:Sm:=⟨ps133,rs133,false,q133⟩
theorem holds133 (hg:GamOK Try.prog G133):Holds Try.prog 133 Sm133:=by
 have:=h0_133 hg
 have e:(runF TT G133 an133 Try.f133 c133 ps133 rs133)=q133:=by
  funext n x
  exact F133_eq n x.1 x.2.1
 rw [e] at this
 exact this
theorem gam133:GamOK Try.prog G133:=by
 intro f s h
 unfold G133 at h
 split at h
 ·injection h with h; subst h; exact ⟨⟨Try.f149,c149,Try.func149,by kernel_rfl,by decide +kernel⟩,hh149⟩
 ·cases h
theorem hh133:Holds Try.prog 133 Sm133:=holds133 gam133
end Go.Proofs.Ytbjgiioppmkpiaa.Rx.S

namespace Go.Proofs.Ytbjgiioppmkpiaa.Rx.S
open Go Go.RowKit Go.Proofs
set_option maxRecDepth 100000
noncomputable def c157:Code:=(Try.f157.body.getD .skip)
def an157:An:=⟨fun _=>⟨[],[]⟩,fun _ _=>none⟩
abbrev ps157:List PK:=[.val tEn true]
abbrev rs157:List RK:=[.val tEn true]
abbrev R157:=retsD rs157 × outsD ps157
noncomputable def G157:Gam:=fun _=>none
theorem h0_157 (hg:GamOK Try.prog G157):Holds Try.prog 157 ⟨ps157,rs157,false,runF TT G157 an157 Try.f157 c157 ps157 rs157⟩:=holds_of tt_ok hg mixed Try.func157 (by kernel_rfl) (by rfl) (by decide +kernel)
noncomputable def st157_top (n:Nat) (a:ByteArray × Int):Option R157 :=
 some (((a.1,a.2),()),())
theorem e157_top (n:Nat) (a:ByteArray × Int):runF TT G157 an157 Try.f157 c157 ps157 rs157 n (a,())=st157_top n a:=by kernel_rfl
noncomputable def p157 (n:Nat) (a:ByteArray × Int):Option R157:=st157_top n a
theorem F157_eq (n:Nat) (a:ByteArray × Int):runF TT G157 an157 Try.f157 c157 ps157 rs157 n (a,())=p157 n a:=by
 rw [e157_top]
 skip
 try rfl
noncomputable def q157 (n:Nat) (x:argsD ps157):Option R157:=p157 n x.1
noncomputable def Sm157:Sm:=⟨ps157,rs157,false,q157⟩
theorem holds157 (hg:GamOK Try.prog G157):Holds Try.prog 157 Sm157:=by
 have:=h0_157 hg
 have e:(runF TT G157 an157 Try.f157 c157 ps157 rs157)=q157:=by
  funext n x
  exact F157_eq n x.1
 rw [e] at this
 exact this
theorem gam157:GamOK Try.prog G157:=fun _ _ h=>by cases h
theorem hh157:Holds Try.prog 157 Sm157:=holds157 gam157
end Go.Proofs.Ytbjgiioppmkpiaa.Rx.S

