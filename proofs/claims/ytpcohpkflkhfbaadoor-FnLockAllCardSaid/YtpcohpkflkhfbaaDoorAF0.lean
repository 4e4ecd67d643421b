/- What the functions of this seat compute, each as a plain function on lists and numbers, with the proof that a call answers so. No condition. -/
import Derived.Test.YtpcohpkflkhfbaaDoorProg
import Derived.KernelRfl
import Derived.Test.YtpcohpkflkhfbaaDoorRxK3
set_option linter.unusedVariables false
set_option linter.unusedSimpArgs false
namespace Go.Proofs.YtpcohpkflkhfbaaDoor.Rx.S
open Go Go.RowKit Go.Proofs
def tbl:List (TypeId × TI):=[
(2,⟨.int .i64,1,8,[.int .i64],some (.int .i64),false⟩),
(3,⟨.int .i64,1,8,[.int .i64],some (.int .i64),false⟩),
(4,⟨.bool,1,1,[.bool],some .bool,false⟩),
(5,⟨.int .u8,1,1,[.int .u8],some (.int .u8),false⟩),
(6,⟨.int .u8,1,1,[.int .u8],some (.int .u8),false⟩),
(7,⟨.struct [(0,1),(1,1),(2,1),(3,1)],4,24,[.int .i64,.int .i64,.bool,.int .u8],some (.pair (.int .i64) (.pair (.int .i64) (.pair .bool (.int .u8)))),true⟩),
(8,⟨.struct [(0,1),(1,1),(2,1),(3,1)],4,24,[.int .i64,.int .i64,.bool,.int .u8],some (.pair (.int .i64) (.pair (.int .i64) (.pair .bool (.int .u8)))),true⟩),
(9,⟨.str,1,16,[.str],some .str,false⟩),
(10,⟨.str,1,16,[.str],some .str,false⟩),
(11,⟨.str,1,16,[.str],some .str,false⟩),
(12,⟨.int .u64,1,8,[.int .u64],some (.int .u64),false⟩),
(13,⟨.struct [(0,1),(1,1)],2,24,[.str,.int .u64],some (.pair .str (.int .u64)),false⟩),
(14,⟨.struct [(0,1),(1,1)],2,24,[.str,.int .u64],some (.pair .str (.int .u64)),false⟩),
(15,⟨.ptr,1,8,[.ptr],none,false⟩),
(16,⟨.ptr,1,8,[.ptr],none,false⟩),
(17,⟨.ptr,1,8,[.ptr],none,false⟩),
(18,⟨.struct [(0,1)],1,8,[.ptr],none,false⟩),
(19,⟨.struct [(0,1)],1,8,[.ptr],none,false⟩),
(21,⟨.int .i32,1,4,[.int .i32],some (.int .i32),false⟩),
(25,⟨.slice 5,1,24,[.slice],some (.row 5 (.int .u8)),false⟩),
(30,⟨.slice 51,1,24,[.slice],some (.row 51 (.pair (.int .i64) (.pair (.int .i64) (.pair (.int .i64) .bool)))),false⟩),
(31,⟨.slice 3,1,24,[.slice],some (.row 3 (.int .i64)),false⟩),
(32,⟨.struct [(0,1),(1,1),(2,1)],3,56,[.int .i64,.slice,.slice],some (.pair (.int .i64) (.pair (.row 51 (.pair (.int .i64) (.pair (.int .i64) (.pair (.int .i64) .bool)))) (.row 3 (.int .i64)))),false⟩),
(33,⟨.struct [(0,1),(1,1),(2,1)],3,56,[.int .i64,.slice,.slice],some (.pair (.int .i64) (.pair (.row 51 (.pair (.int .i64) (.pair (.int .i64) (.pair (.int .i64) .bool)))) (.row 3 (.int .i64)))),false⟩),
(36,⟨.slice 33,1,24,[.slice],some (.row 33 (.pair (.int .i64) (.pair (.row 51 (.pair (.int .i64) (.pair (.int .i64) (.pair (.int .i64) .bool)))) (.row 3 (.int .i64))))),false⟩),
(44,⟨.map 9 4,1,8,[.map],none,false⟩),
(47,⟨.ptr,1,8,[.ptr],none,false⟩),
(50,⟨.struct [(0,1),(1,1),(2,1),(3,1)],4,32,[.int .i64,.int .i64,.int .i64,.bool],some (.pair (.int .i64) (.pair (.int .i64) (.pair (.int .i64) .bool))),true⟩),
(51,⟨.struct [(0,1),(1,1),(2,1),(3,1)],4,32,[.int .i64,.int .i64,.int .i64,.bool],some (.pair (.int .i64) (.pair (.int .i64) (.pair (.int .i64) .bool))),true⟩),
(54,⟨.ptr,1,8,[.ptr],none,false⟩),
(55,⟨.struct [(0,1),(1,1)],2,32,[.slice,.int .i64],some (.pair (.row 5 (.int .u8)) (.int .i64)),false⟩),
(56,⟨.struct [(0,1),(1,1)],2,32,[.slice,.int .i64],some (.pair (.row 5 (.int .u8)) (.int .i64)),false⟩),
(63,⟨.int .u64,1,8,[.int .u64],some (.int .u64),false⟩),
(70,⟨.int .u32,1,4,[.int .u32],some (.int .u32),false⟩),
(72,⟨.int .u64,1,8,[.int .u64],some (.int .u64),false⟩),
(78,⟨.struct [(0,1),(1,1),(2,1),(3,1)],4,40,[.ptr,.ptr,.ptr,.str],none,false⟩),
(79,⟨.struct [(0,1),(1,1),(2,1),(3,1)],4,40,[.ptr,.ptr,.ptr,.str],none,false⟩),
(81,⟨.struct [(0,0)],0,0,[],none,false⟩),
(82,⟨.struct [(0,0)],0,0,[],none,false⟩),
(84,⟨.int .u8,1,1,[.int .u8],some (.int .u8),false⟩),
(85,⟨.int .u8,1,1,[.int .u8],some (.int .u8),false⟩),
(87,⟨.ptr,1,8,[.ptr],none,false⟩),
(88,⟨.int .i32,1,4,[.int .i32],some (.int .i32),false⟩),
(89,⟨.int .i32,1,4,[.int .i32],some (.int .i32),false⟩),
(92,⟨.other,1,8,[.ptr],none,false⟩)]
def TT:TB:=tbOf tbl
theorem tt_ok:TBok Tryd.prog TT:=tbOk (by decide +kernel)
abbrev i64:Ty:=.int .i64
abbrev tTh:Ty:=.pair i64 (.pair i64 (.pair i64 .bool))
abbrev tLk:Ty:=.pair i64 (.pair (.row 51 tTh) (.row 3 i64))
abbrev tRd:Ty:=.pair (.row 5 (.int .u8)) i64
theorem mixed:Tryd.prog.follows .mixedOrders=true:=by kernel_rfl
end Go.Proofs.YtpcohpkflkhfbaaDoor.Rx.S

namespace Go.Proofs.YtpcohpkflkhfbaaDoor.Rx.S
open Go Go.RowKit Go.Proofs
set_option maxRecDepth 100000
noncomputable def c8:Code:=(Tryd.f8.body.getD .skip)
def an8:An:=⟨fun _=>⟨[],[]⟩,fun _ _=>none⟩
abbrev ps8:List PK:=[.val i64 false,.val i64 false,.val i64 false]
abbrev rs8:List RK:=[.val .bool false]
abbrev R8:=retsD rs8 × outsD ps8
noncomputable def G8:Gam:=fun _=>none
theorem h0_8 (hg:GamOK Tryd.prog G8):Holds Tryd.prog 8 ⟨ps8,rs8,false,runF TT G8 an8 Tryd.f8 c8 ps8 rs8⟩:=holds_of tt_ok hg mixed Tryd.func8 (by kernel_rfl) (by rfl) (by decide +kernel)
noncomputable def st8_top (n:Nat) (a:Int) (b:Int) (c:Int):Option R8 :=
 cond (decide (b≤a)) (some ((decide (a≤c),()),())) (some ((false,()),()))
theorem e8_top (n:Nat) (a:Int) (b:Int) (c:Int):runF TT G8 an8 Tryd.f8 c8 ps8 rs8 n (a,b,c,())=st8_top n a b c:=by kernel_rfl
noncomputable def p8 (n:Nat) (a:Int) (b:Int) (c:Int):Option R8:=st8_top n a b c
theorem F8_eq (n:Nat) (a:Int) (b:Int) (c:Int):runF TT G8 an8 Tryd.f8 c8 ps8 rs8 n (a,b,c,())=p8 n a b c:=by
 rw [e8_top]
 skip
 try rfl
noncomputable def q8 (n:Nat) (x:argsD ps8):Option R8:=p8 n x.1 x.2.1 x.2.2.1
noncomputable def Sm8:Sm:=⟨ps8,rs8,false,q8⟩
theorem holds8 (hg:GamOK Tryd.prog G8):Holds Tryd.prog 8 Sm8:=by
 have:=h0_8 hg
 have e:(runF TT G8 an8 Tryd.f8 c8 ps8 rs8)=q8:=by
  funext n x
  exact F8_eq n x.1 x.2.1 x.2.2.1
 rw [e] at this
 exact this
theorem gam8:GamOK Tryd.prog G8:=fun _ _ h=>by cases h
theorem hh8:Holds Tryd.prog 8 Sm8:=holds8 gam8
end Go.Proofs.YtpcohpkflkhfbaaDoor.Rx.S

namespace Go.Proofs.YtpcohpkflkhfbaaDoor.Rx.S
open Go Go.RowKit Go.Proofs
set_option maxRecDepth 100000
noncomputable def c9:Code:=(Tryd.f9.body.getD .skip)
def an9:An:=⟨fun r=>match r with | 5=>⟨[0,1,4,6,7],[]⟩ | _=>⟨[],[]⟩,fun _ _=>none⟩
abbrev ps9:List PK:=[.val i64 false,.val i64 false]
abbrev rs9:List RK:=[.own tLk true,.val .bool false]
abbrev R9:=retsD rs9 × outsD ps9
noncomputable def G9:Gam:=fun f=>match f with | 8=>some Sm8 | _=>none
theorem h0_9 (hg:GamOK Tryd.prog G9):Holds Tryd.prog 9 ⟨ps9,rs9,false,runF TT G9 an9 Tryd.f9 c9 ps9 rs9⟩:=holds_of tt_ok hg mixed Tryd.func9 (by kernel_rfl) (by rfl) (by decide +kernel)
noncomputable def at9:Nat→Pt→List Nat→St→Option R9:=atF TT G9 an9 Tryd.f9 c9 _ _
def sh9_L5 (x0:Int) (x1:Int) (x2:Int) (x3:Int) (x4:Int) (x5:List (Int × Int × Int × Bool)) (x6:List Int):St:=(St.mk ((AV.one (SV.int (Go.IntKind.i64) x0)) :: ((AV.one (SV.int (Go.IntKind.i64) x1)) :: (AV.undef :: (AV.undef :: ((AV.one (SV.bptr 1000000 0)) :: (AV.undef :: ((AV.one (SV.bptr 1000001 0)) :: ((AV.one (SV.int (Go.IntKind.i64) x2)) :: (AV.undef :: (AV.undef :: (AV.undef :: (AV.undef :: (AV.undef :: (AV.undef :: (AV.undef :: (AV.undef :: (AV.undef :: (AV.undef :: (AV.undef :: (AV.undef :: (AV.undef :: (AV.undef :: (AV.undef :: (AV.undef :: (AV.undef :: (AV.undef :: (AV.undef :: (AV.undef :: (AV.undef :: (AV.undef :: (AV.undef :: (AV.undef :: (AV.undef :: []))))))))))))))))))))))))))))))))) ((1000000,(Ent.box ((SV.int (Go.IntKind.i64) x3) :: (SV.nil :: (SV.nil :: []))))) :: ((1000001,(Ent.box ((SV.int (Go.IntKind.i64) x4) :: ((SV.ref 1000002 0 [] Option.none) :: ((SV.ref 1000003 0 [] Option.none) :: []))))) :: ((1000002,(Ent.row (⟨51,(Ty.int Go.IntKind.i64).pair ((Ty.int Go.IntKind.i64).pair ((Ty.int Go.IntKind.i64).pair Ty.bool)),x5⟩:Rw) 0 Option.none)) :: ((1000003,(Ent.row (⟨3,Ty.int Go.IntKind.i64,x6⟩:Rw) 0 Option.none)) :: [])))))
noncomputable def st9_top (n:Nat) (lL5:Int→Int→Int→Int→Int→(List (Int × Int × Int × Bool))→(List Int)→Option R9) (a:Int) (b:Int):Option R9 :=
 (q8 n (a,(1:Int),(4:Int),())).bind fun r0=>cond (!r0.1.1) (some ((((0:Int),([],[])),(false,())),())) ((q8 n (b,(0:Int),(3:Int),())).bind fun r1=>cond (!r1.1.1) (some ((((0:Int),([],[])),(false,())),())) (lL5 (a) (b) ((0:Int)) ((0:Int)) ((0:Int)) ([]) ([])))
noncomputable def st9_L5 (n:Nat) (lL5:Int→Int→Int→Int→Int→(List (Int × Int × Int × Bool))→(List Int)→Option R9) (x0:Int) (x1:Int) (x2:Int) (x3:Int) (x4:Int) (x5:List (Int × Int × Int × Bool)) (x6:List Int):Option R9 :=
 cond (decide (x2 < x0)) (cond (decide ((x5.length + [((0:Int),(0:Int),x1,false)].length) * (32:Nat)≤(140737488355328:Nat))) (lL5 (x0) (x1) (Go.IntKind.i64.wrap (x2 + (1:Int))) (x3) (x4) (x5 ++ [((0:Int),(0:Int),x1,false)]) (x6)) (none)) (some (((x4,(x5,x6)),(true,())),()))
theorem e9_top (n:Nat) (a:Int) (b:Int):runF TT G9 an9 Tryd.f9 c9 ps9 rs9 n (a,b,())=st9_top n (fun x0 x1 x2 x3 x4 x5 x6=>at9 n (.head 5) [n] (sh9_L5 x0 x1 x2 x3 x4 x5 x6)) a b:=by kernel_rfl
theorem e9_L5_0 (n:Nat) (x0:Int) (x1:Int) (x2:Int) (x3:Int) (x4:Int) (x5:List (Int × Int × Int × Bool)) (x6:List Int):at9 n (.head 5) [0] (sh9_L5 x0 x1 x2 x3 x4 x5 x6)=none:=by kernel_rfl
theorem e9_L5 (n:Nat) (m5:Nat) (x0:Int) (x1:Int) (x2:Int) (x3:Int) (x4:Int) (x5:List (Int × Int × Int × Bool)) (x6:List Int):at9 n (.head 5) [m5 + 1] (sh9_L5 x0 x1 x2 x3 x4 x5 x6)=st9_L5 n (fun x0 x1 x2 x3 x4 x5 x6=>at9 n (.head 5) [m5] (sh9_L5 x0 x1 x2 x3 x4 x5 x6)) x0 x1 x2 x3 x4 x5 x6:=by kernel_rfl
noncomputable def p9_L5 (n:Nat):Nat→Int→Int→Int→Int→Int→(List (Int × Int × Int × Bool))→(List Int)→Option R9
 | 0,_,_,_,_,_,_,_=>none
 | m + 1,x0,x1,x2,x3,x4,x5,x6=>st9_L5 n (p9_L5 n m) x0 x1 x2 x3 x4 x5 x6
noncomputable def p9 (n:Nat) (a:Int) (b:Int):Option R9:=st9_top n (p9_L5 n n) a b
theorem t9_L5 (n:Nat):∀ (m5:Nat) (x0:Int) (x1:Int) (x2:Int) (x3:Int) (x4:Int) (x5:List (Int × Int × Int × Bool)) (x6:List Int),at9 n (.head 5) [m5] (sh9_L5 x0 x1 x2 x3 x4 x5 x6)=p9_L5 n m5 x0 x1 x2 x3 x4 x5 x6:=by
 intro m
 induction m with
 | zero=>intros; rw [e9_L5_0]; rfl
 | succ m ih =>
  intros
  rw [e9_L5]
  try simp only [ih]
  rfl
theorem F9_eq (n:Nat) (a:Int) (b:Int):runF TT G9 an9 Tryd.f9 c9 ps9 rs9 n (a,b,())=p9 n a b:=by
 rw [e9_top]
 simp only [t9_L5]
 try rfl
noncomputable def q9 (n:Nat) (x:argsD ps9):Option R9:=p9 n x.1 x.2.1
noncomputable def Sm9:Sm:=⟨ps9,rs9,false,q9⟩
theorem holds9 (hg:GamOK Tryd.prog G9):Holds Tryd.prog 9 Sm9:=by
 have:=h0_9 hg
 have e:(runF TT G9 an9 Tryd.f9 c9 ps9 rs9)=q9:=by
  funext n x
  exact F9_eq n x.1 x.2.1
 rw [e] at this
 exact this
theorem gam9:GamOK Tryd.prog G9:=by
 intro f s h
 unfold G9 at h
 split at h
 ·injection h with h; subst h; exact ⟨⟨Tryd.f8,c8,Tryd.func8,by kernel_rfl,by decide +kernel⟩,hh8⟩
 ·cases h
theorem hh9:Holds Tryd.prog 9 Sm9:=holds9 gam9
end Go.Proofs.YtpcohpkflkhfbaaDoor.Rx.S

namespace Go.Proofs.YtpcohpkflkhfbaaDoor.Rx.S
open Go Go.RowKit Go.Proofs
set_option maxRecDepth 100000
noncomputable def c10:Code:=(Tryd.f10.body.getD .skip)
def an10:An:=⟨fun r=>match r with | 3=>⟨[1,3,4],[]⟩ | _=>⟨[],[]⟩,fun _ _=>none⟩
abbrev ps10:List PK:=[.val tLk true]
abbrev rs10:List RK:=[.val i64 false]
abbrev R10:=retsD rs10 × outsD ps10
noncomputable def G10:Gam:=fun _=>none
theorem h0_10 (hg:GamOK Tryd.prog G10):Holds Tryd.prog 10 ⟨ps10,rs10,false,runF TT G10 an10 Tryd.f10 c10 ps10 rs10⟩:=holds_of tt_ok hg mixed Tryd.func10 (by kernel_rfl) (by rfl) (by decide +kernel)
noncomputable def at10:Nat→Pt→List Nat→St→Option R10:=atF TT G10 an10 Tryd.f10 c10 _ _
def sh10_L3 (x0:Int) (x1:Int) (x2:Int) (x3:List (Int × Int × Int × Bool)) (x4:List Int):St:=(St.mk (AV.undef :: ((AV.one (SV.bptr 1000000 0)) :: (AV.undef :: ((AV.one (SV.int (Go.IntKind.i64) x0)) :: ((AV.one (SV.int (Go.IntKind.i64) x1)) :: (AV.undef :: (AV.undef :: (AV.undef :: (AV.undef :: (AV.undef :: (AV.undef :: (AV.undef :: (AV.undef :: (AV.undef :: (AV.undef :: (AV.undef :: (AV.undef :: (AV.undef :: (AV.undef :: (AV.undef :: (AV.undef :: (AV.undef :: [])))))))))))))))))))))) ((1000000,(Ent.box ((SV.int (Go.IntKind.i64) x2) :: ((SV.con (⟨51,(Ty.int Go.IntKind.i64).pair ((Ty.int Go.IntKind.i64).pair ((Ty.int Go.IntKind.i64).pair Ty.bool)),x3⟩:Rw)) :: ((SV.con (⟨3,Ty.int Go.IntKind.i64,x4⟩:Rw)) :: []))))) :: []))
noncomputable def st10_top (n:Nat) (lL3:Int→Int→Int→(List (Int × Int × Int × Bool))→(List Int)→Option R10) (a:Int × List (Int × Int × Int × Bool) × List Int):Option R10 :=
 lL3 ((0:Int)) ((0:Int)) (a.1) (a.2.1) (a.2.2)
noncomputable def st10_L3 (n:Nat) (lL3:Int→Int→Int→(List (Int × Int × Int × Bool))→(List Int)→Option R10) (x0:Int) (x1:Int) (x2:Int) (x3:List (Int × Int × Int × Bool)) (x4:List Int):Option R10 :=
 cond (decide (x1 < (↑x3.length:Int))) (cond (decide ((0:Int)≤x1)) (cond (decide (x1 < (↑x3.length:Int))) (cond (decide ((x3.getD x1.toNat ((0:Int),(0:Int),(0:Int),false)).1=(4:Int))) (lL3 (Go.IntKind.i64.wrap (x0 + (1:Int))) (Go.IntKind.i64.wrap (x1 + (1:Int))) (x2) (x3) (x4)) (lL3 (x0) (Go.IntKind.i64.wrap (x1 + (1:Int))) (x2) (x3) (x4))) (none)) (none)) (some ((x0,()),()))
theorem e10_top (n:Nat) (a:Int × List (Int × Int × Int × Bool) × List Int):runF TT G10 an10 Tryd.f10 c10 ps10 rs10 n (a,())=st10_top n (fun x0 x1 x2 x3 x4=>at10 n (.head 3) [n] (sh10_L3 x0 x1 x2 x3 x4)) a:=by kernel_rfl
theorem e10_L3_0 (n:Nat) (x0:Int) (x1:Int) (x2:Int) (x3:List (Int × Int × Int × Bool)) (x4:List Int):at10 n (.head 3) [0] (sh10_L3 x0 x1 x2 x3 x4)=none:=by kernel_rfl
theorem e10_L3 (n:Nat) (m3:Nat) (x0:Int) (x1:Int) (x2:Int) (x3:List (Int × Int × Int × Bool)) (x4:List Int):at10 n (.head 3) [m3 + 1] (sh10_L3 x0 x1 x2 x3 x4)=st10_L3 n (fun x0 x1 x2 x3 x4=>at10 n (.head 3) [m3] (sh10_L3 x0 x1 x2 x3 x4)) x0 x1 x2 x3 x4:=by kernel_rfl
noncomputable def p10_L3 (n:Nat):Nat→Int→Int→Int→(List (Int × Int × Int × Bool))→(List Int)→Option R10
 | 0,_,_,_,_,_=>none
 | m + 1,x0,x1,x2,x3,x4=>st10_L3 n (p10_L3 n m) x0 x1 x2 x3 x4
noncomputable def p10 (n:Nat) (a:Int × List (Int × Int × Int × Bool) × List Int):Option R10:=st10_top n (p10_L3 n n) a
theorem t10_L3 (n:Nat):∀ (m3:Nat) (x0:Int) (x1:Int) (x2:Int) (x3:List (Int × Int × Int × Bool)) (x4:List Int),at10 n (.head 3) [m3] (sh10_L3 x0 x1 x2 x3 x4)=p10_L3 n m3 x0 x1 x2 x3 x4:=by
 intro m
 induction m with
 | zero=>intros; rw [e10_L3_0]; rfl
 | succ m ih =>
  intros
  rw [e10_L3]
  try simp only [ih]
  rfl
theorem F10_eq (n:Nat) (a:Int × List (Int × Int × Int × Bool) × List Int):runF TT G10 an10 Tryd.f10 c10 ps10 rs10 n (a,())=p10 n a:=by
 rw [e10_top]
 simp only [t10_L3]
 try rfl
noncomputable def q10 (n:Nat) (x:argsD ps10):Option R10:=p10 n x.1
noncomputable def Sm10:Sm:=⟨ps10,rs10,false,q10⟩
theorem holds10 (hg:GamOK Tryd.prog G10):Holds Tryd.prog 10 Sm10:=by
 have:=h0_10 hg
 have e:(runF TT G10 an10 Tryd.f10 c10 ps10 rs10)=q10:=by
  funext n x
  exact F10_eq n x.1
 rw [e] at this
 exact this
theorem gam10:GamOK Tryd.prog G10:=fun _ _ h=>by cases h
theorem hh10:Holds Tryd.prog 10 Sm10:=holds10 gam10
end Go.Proofs.YtpcohpkflkhfbaaDoor.Rx.S

namespace Go.Proofs.YtpcohpkflkhfbaaDoor.Rx.S
open Go Go.RowKit Go.Proofs
set_option maxRecDepth 100000
noncomputable def c12:Code:=(Tryd.f12.body.getD .skip)
def an12:An:=⟨fun _=>⟨[],[]⟩,fun _ _=>none⟩
abbrev ps12:List PK:=[.val tLk true,.val i64 false]
abbrev rs12:List RK:=[.val .bool false]
abbrev R12:=retsD rs12 × outsD ps12
noncomputable def G12:Gam:=fun _=>none
theorem h0_12 (hg:GamOK Tryd.prog G12):Holds Tryd.prog 12 ⟨ps12,rs12,false,runF TT G12 an12 Tryd.f12 c12 ps12 rs12⟩:=holds_of tt_ok hg mixed Tryd.func12 (by kernel_rfl) (by rfl) (by decide +kernel)
noncomputable def st12_top (n:Nat) (a:Int × List (Int × Int × Int × Bool) × List Int) (b:Int):Option R12 :=
 cond (decide ((0:Int)≤b)) (cond (decide (b < (↑(List.length a.2.1):Int))) (cond (!(List.getD a.2.1 b.toNat ((0:Int),(0:Int),(0:Int),false)).2.2.2) (cond (decide ((0:Int) < (List.getD a.2.1 b.toNat ((0:Int),(0:Int),(0:Int),false)).1)) (some ((true,()),())) (some ((decide ((0:Int) < (List.getD a.2.1 b.toNat ((0:Int),(0:Int),(0:Int),false)).2.2.1),()),()))) (some ((false,()),()))) (none)) (none)
theorem e12_top (n:Nat) (a:Int × List (Int × Int × Int × Bool) × List Int) (b:Int):runF TT G12 an12 Tryd.f12 c12 ps12 rs12 n (a,b,())=st12_top n a b:=by kernel_rfl
noncomputable def p12 (n:Nat) (a:Int × List (Int × Int × Int × Bool) × List Int) (b:Int):Option R12:=st12_top n a b
theorem F12_eq (n:Nat) (a:Int × List (Int × Int × Int × Bool) × List Int) (b:Int):runF TT G12 an12 Tryd.f12 c12 ps12 rs12 n (a,b,())=p12 n a b:=by
 rw [e12_top]
 skip
 try rfl
noncomputable def q12 (n:Nat) (x:argsD ps12):Option R12:=p12 n x.1 x.2.1
noncomputable def Sm12:Sm:=⟨ps12,rs12,false,q12⟩
theorem holds12 (hg:GamOK Tryd.prog G12):Holds Tryd.prog 12 Sm12:=by
 have:=h0_12 hg
 have e:(runF TT G12 an12 Tryd.f12 c12 ps12 rs12)=q12:=by
  funext n x
  exact F12_eq n x.1 x.2.1
 rw [e] at this
 exact this
theorem gam12:GamOK Tryd.prog G12:=fun _ _ h=>by cases h
theorem hh12:Holds Tryd.prog 12 Sm12:=holds12 gam12
end Go.Proofs.YtpcohpkflkhfbaaDoor.Rx.S

namespace Go.Proofs.YtpcohpkflkhfbaaDoor.Rx.S
open Go Go.RowKit Go.Proofs
set_option maxRecDepth 100000
noncomputable def c11:Code:=(Tryd.f11.body.getD .skip)
def an11:An:=⟨fun r=>match r with | 2=>⟨[1,3],[]⟩ | _=>⟨[],[]⟩,fun _ _=>none⟩
abbrev ps11:List PK:=[.val tLk true]
abbrev rs11:List RK:=[.val .bool false]
abbrev R11:=retsD rs11 × outsD ps11
noncomputable def G11:Gam:=fun f=>match f with | 12=>some Sm12 | _=>none
theorem h0_11 (hg:GamOK Tryd.prog G11):Holds Tryd.prog 11 ⟨ps11,rs11,false,runF TT G11 an11 Tryd.f11 c11 ps11 rs11⟩:=holds_of tt_ok hg mixed Tryd.func11 (by kernel_rfl) (by rfl) (by decide +kernel)
noncomputable def at11:Nat→Pt→List Nat→St→Option R11:=atF TT G11 an11 Tryd.f11 c11 _ _
def sh11_L2 (x0:Int) (x1:Int) (x2:List (Int × Int × Int × Bool)) (x3:List Int):St:=(St.mk (AV.undef :: ((AV.one (SV.bptr 1000000 0)) :: (AV.undef :: ((AV.one (SV.int (Go.IntKind.i64) x0)) :: (AV.undef :: (AV.undef :: (AV.undef :: (AV.undef :: (AV.undef :: (AV.undef :: (AV.undef :: (AV.undef :: (AV.undef :: (AV.undef :: (AV.undef :: (AV.undef :: (AV.undef :: (AV.undef :: [])))))))))))))))))) ((1000000,(Ent.box ((SV.int (Go.IntKind.i64) x1) :: ((SV.con (⟨51,(Ty.int Go.IntKind.i64).pair ((Ty.int Go.IntKind.i64).pair ((Ty.int Go.IntKind.i64).pair Ty.bool)),x2⟩:Rw)) :: ((SV.con (⟨3,Ty.int Go.IntKind.i64,x3⟩:Rw)) :: []))))) :: []))
noncomputable def st11_top (n:Nat) (lL2:Int→Int→(List (Int × Int × Int × Bool))→(List Int)→Option R11) (a:Int × List (Int × Int × Int × Bool) × List Int):Option R11 :=
 lL2 ((0:Int)) (a.1) (a.2.1) (a.2.2)
noncomputable def st11_L2 (n:Nat) (lL2:Int→Int→(List (Int × Int × Int × Bool))→(List Int)→Option R11) (x0:Int) (x1:Int) (x2:List (Int × Int × Int × Bool)) (x3:List Int):Option R11 :=
 cond (decide (x0 < (↑x2.length:Int))) ((q12 n ((x1,x2,x3),x0,())).bind fun r1=>cond (r1.1.1) (some ((false,()),())) (lL2 (Go.IntKind.i64.wrap (x0 + (1:Int))) (x1) (x2) (x3))) (some ((decide ((0:Int) < (↑x3.length:Int)),()),()))
theorem e11_top (n:Nat) (a:Int × List (Int × Int × Int × Bool) × List Int):runF TT G11 an11 Tryd.f11 c11 ps11 rs11 n (a,())=st11_top n (fun x0 x1 x2 x3=>at11 n (.head 2) [n] (sh11_L2 x0 x1 x2 x3)) a:=by kernel_rfl
theorem e11_L2_0 (n:Nat) (x0:Int) (x1:Int) (x2:List (Int × Int × Int × Bool)) (x3:List Int):at11 n (.head 2) [0] (sh11_L2 x0 x1 x2 x3)=none:=by kernel_rfl
theorem e11_L2 (n:Nat) (m2:Nat) (x0:Int) (x1:Int) (x2:List (Int × Int × Int × Bool)) (x3:List Int):at11 n (.head 2) [m2 + 1] (sh11_L2 x0 x1 x2 x3)=st11_L2 n (fun x0 x1 x2 x3=>at11 n (.head 2) [m2] (sh11_L2 x0 x1 x2 x3)) x0 x1 x2 x3:=by kernel_rfl
noncomputable def p11_L2 (n:Nat):Nat→Int→Int→(List (Int × Int × Int × Bool))→(List Int)→Option R11
 | 0,_,_,_,_=>none
 | m + 1,x0,x1,x2,x3=>st11_L2 n (p11_L2 n m) x0 x1 x2 x3
noncomputable def p11 (n:Nat) (a:Int × List (Int × Int × Int × Bool) × List Int):Option R11:=st11_top n (p11_L2 n n) a
theorem t11_L2 (n:Nat):∀ (m2:Nat) (x0:Int) (x1:Int) (x2:List (Int × Int × Int × Bool)) (x3:List Int),at11 n (.head 2) [m2] (sh11_L2 x0 x1 x2 x3)=p11_L2 n m2 x0 x1 x2 x3:=by
 intro m
 induction m with
 | zero=>intros; rw [e11_L2_0]; rfl
 | succ m ih =>
  intros
  rw [e11_L2]
  try simp only [ih]
  rfl
theorem F11_eq (n:Nat) (a:Int × List (Int × Int × Int × Bool) × List Int):runF TT G11 an11 Tryd.f11 c11 ps11 rs11 n (a,())=p11 n a:=by
 rw [e11_top]
 simp only [t11_L2]
 try rfl
noncomputable def q11 (n:Nat) (x:argsD ps11):Option R11:=p11 n x.1
noncomputable def Sm11:Sm:=⟨ps11,rs11,false,q11⟩
theorem holds11 (hg:GamOK Tryd.prog G11):Holds Tryd.prog 11 Sm11:=by
 have:=h0_11 hg
 have e:(runF TT G11 an11 Tryd.f11 c11 ps11 rs11)=q11:=by
  funext n x
  exact F11_eq n x.1
 rw [e] at this
 exact this
theorem gam11:GamOK Tryd.prog G11:=by
 intro f s h
 unfold G11 at h
 split at h
 ·injection h with h; subst h; exact ⟨⟨Tryd.f12,c12,Tryd.func12,by kernel_rfl,by decide +kernel⟩,hh12⟩
 ·cases h
theorem hh11:Holds Tryd.prog 11 Sm11:=holds11 gam11
end Go.Proofs.YtpcohpkflkhfbaaDoor.Rx.S

namespace Go.Proofs.YtpcohpkflkhfbaaDoor.Rx.S
open Go Go.RowKit Go.Proofs
set_option maxRecDepth 100000
noncomputable def c13:Code:=(Tryd.f13.body.getD .skip)
def an13:An:=⟨fun _=>⟨[],[]⟩,fun _ _=>none⟩
abbrev ps13:List PK:=[.own tLk true,.val i64 false]
abbrev rs13:List RK:=[.own tLk true]
abbrev R13:=retsD rs13 × outsD ps13
noncomputable def G13:Gam:=fun _=>none
theorem h0_13 (hg:GamOK Tryd.prog G13):Holds Tryd.prog 13 ⟨ps13,rs13,false,runF TT G13 an13 Tryd.f13 c13 ps13 rs13⟩:=holds_of tt_ok hg mixed Tryd.func13 (by kernel_rfl) (by rfl) (by decide +kernel)
noncomputable def st13_top (n:Nat) (a:Int × List (Int × Int × Int × Bool) × List Int) (b:Int):Option R13 :=
 cond (decide ((0:Int)≤b)) (cond (decide (b < (↑(List.length a.2.1):Int))) (cond (decide ((List.getD a.2.1 b.toNat ((0:Int),(0:Int),(0:Int),false)).1=(0:Int))) (cond (decide (a.1=(0:Int))) (cond (decide ((0:Int)≤b)) (cond (decide (b < (↑(List.length a.2.1):Int))) (some (((Go.IntKind.i64.wrap ((1:Int) + Go.IntKind.i64.wrap (Int.tdiv (List.getD a.2.1 b.toNat ((0:Int),(0:Int),(0:Int),false)).1 (3:Int))),(List.set a.2.1 b.toNat ((4:Int),(List.getD a.2.1 b.toNat ((0:Int),(0:Int),(0:Int),false)).2.1,(List.getD a.2.1 b.toNat ((0:Int),(0:Int),(0:Int),false)).2.2.1,(List.getD a.2.1 b.toNat ((0:Int),(0:Int),(0:Int),false)).2.2.2),a.2.2)),()),())) (none)) (none)) (cond (decide ((0:Int)≤b)) (cond (decide (b < (↑(List.length a.2.1):Int))) (some (((a.1,(List.set a.2.1 b.toNat ((1:Int),a.1,(List.getD a.2.1 b.toNat ((0:Int),(0:Int),(0:Int),false)).2.2.1,(List.getD a.2.1 b.toNat ((0:Int),(0:Int),(0:Int),false)).2.2.2),a.2.2)),()),())) (none)) (none))) (cond (decide ((List.getD a.2.1 b.toNat ((0:Int),(0:Int),(0:Int),false)).1=(3:Int))) (cond (decide (a.1=(0:Int))) (cond (decide ((0:Int)≤b)) (cond (decide (b < (↑(List.length a.2.1):Int))) (some (((Go.IntKind.i64.wrap ((1:Int) + Go.IntKind.i64.wrap (Int.tdiv (List.getD a.2.1 b.toNat ((0:Int),(0:Int),(0:Int),false)).1 (3:Int))),(List.set a.2.1 b.toNat ((4:Int),(List.getD a.2.1 b.toNat ((0:Int),(0:Int),(0:Int),false)).2.1,(List.getD a.2.1 b.toNat ((0:Int),(0:Int),(0:Int),false)).2.2.1,(List.getD a.2.1 b.toNat ((0:Int),(0:Int),(0:Int),false)).2.2.2),a.2.2)),()),())) (none)) (none)) (cond (decide ((0:Int)≤b)) (cond (decide (b < (↑(List.length a.2.1):Int))) (some (((a.1,(List.set a.2.1 b.toNat ((1:Int),a.1,(List.getD a.2.1 b.toNat ((0:Int),(0:Int),(0:Int),false)).2.2.1,(List.getD a.2.1 b.toNat ((0:Int),(0:Int),(0:Int),false)).2.2.2),a.2.2)),()),())) (none)) (none))) (cond (decide ((List.getD a.2.1 b.toNat ((0:Int),(0:Int),(0:Int),false)).1=(1:Int))) (cond (decide ((List.getD a.2.1 b.toNat ((0:Int),(0:Int),(0:Int),false)).2.1=(2:Int))) (cond (decide ((0:Int)≤b)) (cond (decide (b < (↑(List.length a.2.1):Int))) (some (((a.1,(List.set a.2.1 b.toNat ((2:Int),(0:Int),(List.getD a.2.1 b.toNat ((0:Int),(0:Int),(0:Int),false)).2.2.1,(List.getD a.2.1 b.toNat ((0:Int),(0:Int),(0:Int),false)).2.2.2),a.2.2)),()),())) (none)) (none)) (cond (decide (a.1=(0:Int))) (cond (decide ((0:Int)≤b)) (cond (decide (b < (↑(List.length a.2.1):Int))) (some (((a.1,(List.set a.2.1 b.toNat ((3:Int),(0:Int),(List.getD a.2.1 b.toNat ((0:Int),(0:Int),(0:Int),false)).2.2.1,(List.getD a.2.1 b.toNat ((0:Int),(0:Int),(0:Int),false)).2.2.2),a.2.2)),()),())) (none)) (none)) (cond (decide ((0:Int)≤b)) (cond (decide (b < (↑(List.length a.2.1):Int))) (some ((((2:Int),(List.set a.2.1 b.toNat ((2:Int),(0:Int),(List.getD a.2.1 b.toNat ((0:Int),(0:Int),(0:Int),false)).2.2.1,(List.getD a.2.1 b.toNat ((0:Int),(0:Int),(0:Int),false)).2.2.2),a.2.2)),()),())) (none)) (none)))) (cond (decide ((List.getD a.2.1 b.toNat ((0:Int),(0:Int),(0:Int),false)).1=(2:Int))) (cond (decide (a.1=(2:Int))) (cond (decide ((List.length a.2.2 + [b].length) * (8:Nat)≤(140737488355328:Nat))) (cond (decide ((0:Int)≤b)) (cond (decide (b < (↑(List.length a.2.1):Int))) (some (((a.1,(List.set a.2.1 b.toNat ((3:Int),(List.getD a.2.1 b.toNat ((0:Int),(0:Int),(0:Int),false)).2.1,(List.getD a.2.1 b.toNat ((0:Int),(0:Int),(0:Int),false)).2.2.1,true),a.2.2 ++ [b])),()),())) (none)) (none)) (none)) (cond (decide ((0:Int)≤b)) (cond (decide (b < (↑(List.length a.2.1):Int))) (some (((a.1,(List.set a.2.1 b.toNat ((3:Int),(List.getD a.2.1 b.toNat ((0:Int),(0:Int),(0:Int),false)).2.1,(List.getD a.2.1 b.toNat ((0:Int),(0:Int),(0:Int),false)).2.2.1,(List.getD a.2.1 b.toNat ((0:Int),(0:Int),(0:Int),false)).2.2.2),a.2.2)),()),())) (none)) (none))) (cond (decide ((List.getD a.2.1 b.toNat ((0:Int),(0:Int),(0:Int),false)).1=(4:Int))) (cond (decide (Go.IntKind.i64.wrap (a.1 - (1:Int))≤(0:Int))) (cond (decide ((0:Int)≤b)) (cond (decide (b < (↑(List.length a.2.1):Int))) (some ((((0:Int),(List.set a.2.1 b.toNat ((0:Int),(List.getD a.2.1 b.toNat ((0:Int),(0:Int),(0:Int),false)).2.1,Go.IntKind.i64.wrap ((List.getD a.2.1 b.toNat ((0:Int),(0:Int),(0:Int),false)).2.2.1 - (1:Int)),(List.getD a.2.1 b.toNat ((0:Int),(0:Int),(0:Int),false)).2.2.2),a.2.2)),()),())) (none)) (none)) (cond (decide ((0:Int)≤b)) (cond (decide (b < (↑(List.length a.2.1):Int))) (some (((Go.IntKind.i64.wrap (a.1 - (1:Int)),(List.set a.2.1 b.toNat ((5:Int),(List.getD a.2.1 b.toNat ((0:Int),(0:Int),(0:Int),false)).2.1,(List.getD a.2.1 b.toNat ((0:Int),(0:Int),(0:Int),false)).2.2.1,(List.getD a.2.1 b.toNat ((0:Int),(0:Int),(0:Int),false)).2.2.2),a.2.2)),()),())) (none)) (none))) (cond (decide ((List.getD a.2.1 b.toNat ((0:Int),(0:Int),(0:Int),false)).1=(5:Int))) (cond (decide ((0:Int)≤b)) (cond (decide (b < (↑(List.length a.2.1):Int))) (some ((((0:Int),(List.set a.2.1 b.toNat ((6:Int),(List.getD a.2.1 b.toNat ((0:Int),(0:Int),(0:Int),false)).2.1,(List.getD a.2.1 b.toNat ((0:Int),(0:Int),(0:Int),false)).2.2.1,(List.getD a.2.1 b.toNat ((0:Int),(0:Int),(0:Int),false)).2.2.2),a.2.2)),()),())) (none)) (none)) (cond (decide ((List.getD a.2.1 b.toNat ((0:Int),(0:Int),(0:Int),false)).1=(6:Int))) (cond (decide ((0:Int) < (↑(List.length a.2.2):Int))) (cond (decide ((0:Int) < (↑(List.length a.2.2):Int))) (cond (decide ((0:Int)≤List.getD a.2.2 (Int.toNat (0:Int)) (0:Int))) (cond (decide (List.getD a.2.2 (Int.toNat (0:Int)) (0:Int) < (↑(List.length a.2.1):Int))) (cond (decide ((1:Int)≤(↑(List.length a.2.2):Int))) (cond (decide (((0:Nat) + (List.take ((↑(List.length a.2.2):Int) - (1:Int)).toNat (List.drop ((0:Nat) + Int.toNat (1:Int)) a.2.2)).length) * (8:Nat)≤(140737488355328:Nat))) (cond (decide ((0:Int)≤b)) (cond (decide (b < (↑(List.set a.2.1 (Int.toNat (List.getD a.2.2 (Int.toNat (0:Int)) (0:Int))) ((List.getD a.2.1 (Int.toNat (List.getD a.2.2 (Int.toNat (0:Int)) (0:Int))) ((0:Int),(0:Int),(0:Int),false)).1,(List.getD a.2.1 (Int.toNat (List.getD a.2.2 (Int.toNat (0:Int)) (0:Int))) ((0:Int),(0:Int),(0:Int),false)).2.1,(List.getD a.2.1 (Int.toNat (List.getD a.2.2 (Int.toNat (0:Int)) (0:Int))) ((0:Int),(0:Int),(0:Int),false)).2.2.1,false)).length:Int))) (some (((a.1,((List.set a.2.1 (Int.toNat (List.getD a.2.2 (Int.toNat (0:Int)) (0:Int))) ((List.getD a.2.1 (Int.toNat (List.getD a.2.2 (Int.toNat (0:Int)) (0:Int))) ((0:Int),(0:Int),(0:Int),false)).1,(List.getD a.2.1 (Int.toNat (List.getD a.2.2 (Int.toNat (0:Int)) (0:Int))) ((0:Int),(0:Int),(0:Int),false)).2.1,(List.getD a.2.1 (Int.toNat (List.getD a.2.2 (Int.toNat (0:Int)) (0:Int))) ((0:Int),(0:Int),(0:Int),false)).2.2.1,false)).set b.toNat ((0:Int),(List.getD a.2.1 b.toNat ((0:Int),(0:Int),(0:Int),false)).2.1,Go.IntKind.i64.wrap ((List.getD a.2.1 b.toNat ((0:Int),(0:Int),(0:Int),false)).2.2.1 - (1:Int)),(List.getD a.2.1 b.toNat ((0:Int),(0:Int),(0:Int),false)).2.2.2),List.take ((↑(List.length a.2.2):Int) - (1:Int)).toNat (List.drop ((0:Nat) + Int.toNat (1:Int)) a.2.2))),()),())) (none)) (none)) (none)) (none)) (none)) (none)) (none)) (cond (decide ((0:Int)≤b)) (cond (decide (b < (↑(List.length a.2.1):Int))) (some (((a.1,(List.set a.2.1 b.toNat ((0:Int),(List.getD a.2.1 b.toNat ((0:Int),(0:Int),(0:Int),false)).2.1,Go.IntKind.i64.wrap ((List.getD a.2.1 b.toNat ((0:Int),(0:Int),(0:Int),false)).2.2.1 - (1:Int)),(List.getD a.2.1 b.toNat ((0:Int),(0:Int),(0:Int),false)).2.2.2),a.2.2)),()),())) (none)) (none))) (cond (decide ((0:Int)≤b)) (cond (decide (b < (↑(List.length a.2.1):Int))) (some (((a.1,(List.set a.2.1 b.toNat ((List.getD a.2.1 b.toNat ((0:Int),(0:Int),(0:Int),false)).1,(List.getD a.2.1 b.toNat ((0:Int),(0:Int),(0:Int),false)).2.1,(List.getD a.2.1 b.toNat ((0:Int),(0:Int),(0:Int),false)).2.2.1,(List.getD a.2.1 b.toNat ((0:Int),(0:Int),(0:Int),false)).2.2.2),a.2.2)),()),())) (none)) (none))))))))) (none)) (none)
theorem e13_top (n:Nat) (a:Int × List (Int × Int × Int × Bool) × List Int) (b:Int):runF TT G13 an13 Tryd.f13 c13 ps13 rs13 n (a,b,())=st13_top n a b:=by kernel_rfl
noncomputable def p13 (n:Nat) (a:Int × List (Int × Int × Int × Bool) × List Int) (b:Int):Option R13:=st13_top n a b
theorem F13_eq (n:Nat) (a:Int × List (Int × Int × Int × Bool) × List Int) (b:Int):runF TT G13 an13 Tryd.f13 c13 ps13 rs13 n (a,b,())=p13 n a b:=by
 rw [e13_top]
 skip
 try rfl
noncomputable def q13 (n:Nat) (x:argsD ps13):Option R13:=p13 n x.1 x.2.1
noncomputable def Sm13:Sm:=⟨ps13,rs13,false,q13⟩
theorem holds13 (hg:GamOK Tryd.prog G13):Holds Tryd.prog 13 Sm13:=by
 have:=h0_13 hg
 have e:(runF TT G13 an13 Tryd.f13 c13 ps13 rs13)=q13:=by
  funext n x
  exact F13_eq n x.1 x.2.1
 rw [e] at this
 exact this
theorem gam13:GamOK Tryd.prog G13:=fun _ _ h=>by cases h
theorem hh13:Holds Tryd.prog 13 Sm13:=holds13 gam13
end Go.Proofs.YtpcohpkflkhfbaaDoor.Rx.S

namespace Go.Proofs.YtpcohpkflkhfbaaDoor.Rx.S
open Go Go.RowKit Go.Proofs
set_option maxRecDepth 100000
noncomputable def c14:Code:=(Tryd.f14.body.getD .skip)
def an14:An:=⟨fun _=>⟨[],[]⟩,fun _ _=>none⟩
abbrev ps14:List PK:=[.val tLk true]
abbrev rs14:List RK:=[.own tLk true]
abbrev R14:=retsD rs14 × outsD ps14
noncomputable def G14:Gam:=fun _=>none
theorem h0_14 (hg:GamOK Tryd.prog G14):Holds Tryd.prog 14 ⟨ps14,rs14,false,runF TT G14 an14 Tryd.f14 c14 ps14 rs14⟩:=holds_of tt_ok hg mixed Tryd.func14 (by kernel_rfl) (by rfl) (by decide +kernel)
noncomputable def st14_top (n:Nat) (a:Int × List (Int × Int × Int × Bool) × List Int):Option R14 :=
 cond (decide (((0:Nat) + List.length a.2.1) * (32:Nat)≤(140737488355328:Nat))) (cond (decide (((0:Nat) + List.length a.2.2) * (8:Nat)≤(140737488355328:Nat))) (some (((a.1,(a.2.1,a.2.2)),()),())) (none)) (none)
theorem e14_top (n:Nat) (a:Int × List (Int × Int × Int × Bool) × List Int):runF TT G14 an14 Tryd.f14 c14 ps14 rs14 n (a,())=st14_top n a:=by kernel_rfl
noncomputable def p14 (n:Nat) (a:Int × List (Int × Int × Int × Bool) × List Int):Option R14:=st14_top n a
theorem F14_eq (n:Nat) (a:Int × List (Int × Int × Int × Bool) × List Int):runF TT G14 an14 Tryd.f14 c14 ps14 rs14 n (a,())=p14 n a:=by
 rw [e14_top]
 skip
 try rfl
noncomputable def q14 (n:Nat) (x:argsD ps14):Option R14:=p14 n x.1
noncomputable def Sm14:Sm:=⟨ps14,rs14,false,q14⟩
theorem holds14 (hg:GamOK Tryd.prog G14):Holds Tryd.prog 14 Sm14:=by
 have:=h0_14 hg
 have e:(runF TT G14 an14 Tryd.f14 c14 ps14 rs14)=q14:=by
  funext n x
  exact F14_eq n x.1
 rw [e] at this
 exact this
theorem gam14:GamOK Tryd.prog G14:=fun _ _ h=>by cases h
theorem hh14:Holds Tryd.prog 14 Sm14:=holds14 gam14
end Go.Proofs.YtpcohpkflkhfbaaDoor.Rx.S

namespace Go.Proofs.YtpcohpkflkhfbaaDoor.Rx.S
open Go Go.RowKit Go.Proofs
set_option maxRecDepth 100000
noncomputable def c15:Code:=(Tryd.f15.body.getD .skip)
def an15:An:=⟨fun r=>match r with | 4=>⟨[2,3,5],[]⟩ | 9=>⟨[2,3,6],[]⟩ | _=>⟨[],[]⟩,fun _ _=>none⟩
abbrev ps15:List PK:=[.val tLk true,.val tLk true]
abbrev rs15:List RK:=[.val .bool false]
abbrev R15:=retsD rs15 × outsD ps15
noncomputable def G15:Gam:=fun _=>none
theorem h0_15 (hg:GamOK Tryd.prog G15):Holds Tryd.prog 15 ⟨ps15,rs15,false,runF TT G15 an15 Tryd.f15 c15 ps15 rs15⟩:=holds_of tt_ok hg mixed Tryd.func15 (by kernel_rfl) (by rfl) (by decide +kernel)
noncomputable def at15:Nat→Pt→List Nat→St→Option R15:=atF TT G15 an15 Tryd.f15 c15 _ _
def sh15_L9 (x0:Int) (x1:Int) (x2:List (Int × Int × Int × Bool)) (x3:List Int) (x4:Int) (x5:List (Int × Int × Int × Bool)) (x6:List Int):St:=(St.mk (AV.undef :: (AV.undef :: ((AV.one (SV.bptr 1000000 0)) :: ((AV.one (SV.bptr 1000001 0)) :: (AV.undef :: (AV.undef :: ((AV.one (SV.int (Go.IntKind.i64) x0)) :: (AV.undef :: (AV.undef :: (AV.undef :: (AV.undef :: (AV.undef :: (AV.undef :: (AV.undef :: (AV.undef :: (AV.undef :: (AV.undef :: (AV.undef :: (AV.undef :: (AV.undef :: (AV.undef :: (AV.undef :: (AV.undef :: (AV.undef :: (AV.undef :: (AV.undef :: (AV.undef :: (AV.undef :: (AV.undef :: (AV.undef :: (AV.undef :: (AV.undef :: (AV.undef :: (AV.undef :: (AV.undef :: (AV.undef :: (AV.undef :: (AV.undef :: (AV.undef :: (AV.undef :: (AV.undef :: (AV.undef :: (AV.undef :: (AV.undef :: (AV.undef :: (AV.undef :: (AV.undef :: (AV.undef :: (AV.undef :: (AV.undef :: (AV.undef :: (AV.undef :: (AV.undef :: (AV.undef :: (AV.undef :: (AV.undef :: (AV.undef :: (AV.undef :: (AV.undef :: (AV.undef :: (AV.undef :: (AV.undef :: (AV.undef :: (AV.undef :: (AV.undef :: (AV.undef :: [])))))))))))))))))))))))))))))))))))))))))))))))))))))))))))))))))) ((1000000,(Ent.box ((SV.int (Go.IntKind.i64) x1) :: ((SV.con (⟨51,(Ty.int Go.IntKind.i64).pair ((Ty.int Go.IntKind.i64).pair ((Ty.int Go.IntKind.i64).pair Ty.bool)),x2⟩:Rw)) :: ((SV.con (⟨3,Ty.int Go.IntKind.i64,x3⟩:Rw)) :: []))))) :: ((1000001,(Ent.box ((SV.int (Go.IntKind.i64) x4) :: ((SV.con (⟨51,(Ty.int Go.IntKind.i64).pair ((Ty.int Go.IntKind.i64).pair ((Ty.int Go.IntKind.i64).pair Ty.bool)),x5⟩:Rw)) :: ((SV.con (⟨3,Ty.int Go.IntKind.i64,x6⟩:Rw)) :: []))))) :: [])))
def sh15_L4 (x0:Int) (x1:Int) (x2:List (Int × Int × Int × Bool)) (x3:List Int) (x4:Int) (x5:List (Int × Int × Int × Bool)) (x6:List Int):St:=(St.mk (AV.undef :: (AV.undef :: ((AV.one (SV.bptr 1000000 0)) :: ((AV.one (SV.bptr 1000001 0)) :: (AV.undef :: ((AV.one (SV.int (Go.IntKind.i64) x0)) :: (AV.undef :: (AV.undef :: (AV.undef :: (AV.undef :: (AV.undef :: (AV.undef :: (AV.undef :: (AV.undef :: (AV.undef :: (AV.undef :: (AV.undef :: (AV.undef :: (AV.undef :: (AV.undef :: (AV.undef :: (AV.undef :: (AV.undef :: (AV.undef :: (AV.undef :: (AV.undef :: (AV.undef :: (AV.undef :: (AV.undef :: (AV.undef :: (AV.undef :: (AV.undef :: (AV.undef :: (AV.undef :: (AV.undef :: (AV.undef :: (AV.undef :: (AV.undef :: (AV.undef :: (AV.undef :: (AV.undef :: (AV.undef :: (AV.undef :: (AV.undef :: (AV.undef :: (AV.undef :: (AV.undef :: (AV.undef :: (AV.undef :: (AV.undef :: (AV.undef :: (AV.undef :: (AV.undef :: (AV.undef :: (AV.undef :: (AV.undef :: (AV.undef :: (AV.undef :: (AV.undef :: (AV.undef :: (AV.undef :: (AV.undef :: (AV.undef :: (AV.undef :: (AV.undef :: (AV.undef :: [])))))))))))))))))))))))))))))))))))))))))))))))))))))))))))))))))) ((1000000,(Ent.box ((SV.int (Go.IntKind.i64) x1) :: ((SV.con (⟨51,(Ty.int Go.IntKind.i64).pair ((Ty.int Go.IntKind.i64).pair ((Ty.int Go.IntKind.i64).pair Ty.bool)),x2⟩:Rw)) :: ((SV.con (⟨3,Ty.int Go.IntKind.i64,x3⟩:Rw)) :: []))))) :: ((1000001,(Ent.box ((SV.int (Go.IntKind.i64) x4) :: ((SV.con (⟨51,(Ty.int Go.IntKind.i64).pair ((Ty.int Go.IntKind.i64).pair ((Ty.int Go.IntKind.i64).pair Ty.bool)),x5⟩:Rw)) :: ((SV.con (⟨3,Ty.int Go.IntKind.i64,x6⟩:Rw)) :: []))))) :: [])))
noncomputable def st15_top (n:Nat) (lL4:Int→Int→(List (Int × Int × Int × Bool))→(List Int)→Int→(List (Int × Int × Int × Bool))→(List Int)→Option R15) (a:Int × List (Int × Int × Int × Bool) × List Int) (b:Int × List (Int × Int × Int × Bool) × List Int):Option R15 :=
 cond (!decide (a.1=b.1)) (some ((false,()),())) (cond (!decide ((↑(List.length a.2.1):Int)=(↑(List.length b.2.1):Int))) (some ((false,()),())) (cond (!decide ((↑(List.length a.2.2):Int)=(↑(List.length b.2.2):Int))) (some ((false,()),())) (lL4 ((0:Int)) (a.1) (a.2.1) (a.2.2) (b.1) (b.2.1) (b.2.2))))
noncomputable def st15_L9 (n:Nat) (lL9:Int→Int→(List (Int × Int × Int × Bool))→(List Int)→Int→(List (Int × Int × Int × Bool))→(List Int)→Option R15) (x0:Int) (x1:Int) (x2:List (Int × Int × Int × Bool)) (x3:List Int) (x4:Int) (x5:List (Int × Int × Int × Bool)) (x6:List Int):Option R15 :=
 cond (decide (x0 < (↑x3.length:Int))) (cond (decide ((0:Int)≤x0)) (cond (decide (x0 < (↑x3.length:Int))) (cond (decide ((0:Int)≤x0)) (cond (decide (x0 < (↑x6.length:Int))) (cond (!decide (x3.getD x0.toNat (0:Int)=x6.getD x0.toNat (0:Int))) (some ((false,()),())) (lL9 (Go.IntKind.i64.wrap (x0 + (1:Int))) (x1) (x2) (x3) (x4) (x5) (x6))) (none)) (none)) (none)) (none)) (some ((true,()),()))
noncomputable def st15_L4 (n:Nat) (lL4:Int→Int→(List (Int × Int × Int × Bool))→(List Int)→Int→(List (Int × Int × Int × Bool))→(List Int)→Option R15) (lL9:Int→Int→(List (Int × Int × Int × Bool))→(List Int)→Int→(List (Int × Int × Int × Bool))→(List Int)→Option R15) (x0:Int) (x1:Int) (x2:List (Int × Int × Int × Bool)) (x3:List Int) (x4:Int) (x5:List (Int × Int × Int × Bool)) (x6:List Int):Option R15 :=
 cond (decide (x0 < (↑x2.length:Int))) (cond (decide ((0:Int)≤x0)) (cond (decide (x0 < (↑x2.length:Int))) (cond (decide ((0:Int)≤x0)) (cond (decide (x0 < (↑x5.length:Int))) (cond (!(decide ((x2.getD x0.toNat ((0:Int),(0:Int),(0:Int),false)).1=(x5.getD x0.toNat ((0:Int),(0:Int),(0:Int),false)).1)&&(decide ((x2.getD x0.toNat ((0:Int),(0:Int),(0:Int),false)).2.1=(x5.getD x0.toNat ((0:Int),(0:Int),(0:Int),false)).2.1)&&(decide ((x2.getD x0.toNat ((0:Int),(0:Int),(0:Int),false)).2.2.1=(x5.getD x0.toNat ((0:Int),(0:Int),(0:Int),false)).2.2.1)&&((x2.getD x0.toNat ((0:Int),(0:Int),(0:Int),false)).2.2.2 == (x5.getD x0.toNat ((0:Int),(0:Int),(0:Int),false)).2.2.2&&true))))) (some ((false,()),())) (lL4 (Go.IntKind.i64.wrap (x0 + (1:Int))) (x1) (x2) (x3) (x4) (x5) (x6))) (none)) (none)) (none)) (none)) (lL9 ((0:Int)) (x1) (x2) (x3) (x4) (x5) (x6))
theorem e15_top (n:Nat) (a:Int × List (Int × Int × Int × Bool) × List Int) (b:Int × List (Int × Int × Int × Bool) × List Int):runF TT G15 an15 Tryd.f15 c15 ps15 rs15 n (a,b,())=st15_top n (fun x0 x1 x2 x3 x4 x5 x6=>at15 n (.head 4) [n] (sh15_L4 x0 x1 x2 x3 x4 x5 x6)) a b:=by kernel_rfl
theorem e15_L9_0 (n:Nat) (x0:Int) (x1:Int) (x2:List (Int × Int × Int × Bool)) (x3:List Int) (x4:Int) (x5:List (Int × Int × Int × Bool)) (x6:List Int):at15 n (.head 9) [0] (sh15_L9 x0 x1 x2 x3 x4 x5 x6)=none:=by kernel_rfl
theorem e15_L9 (n:Nat) (m9:Nat) (x0:Int) (x1:Int) (x2:List (Int × Int × Int × Bool)) (x3:List Int) (x4:Int) (x5:List (Int × Int × Int × Bool)) (x6:List Int):at15 n (.head 9) [m9 + 1] (sh15_L9 x0 x1 x2 x3 x4 x5 x6)=st15_L9 n (fun x0 x1 x2 x3 x4 x5 x6=>at15 n (.head 9) [m9] (sh15_L9 x0 x1 x2 x3 x4 x5 x6)) x0 x1 x2 x3 x4 x5 x6:=by kernel_rfl
theorem e15_L4_0 (n:Nat) (x0:Int) (x1:Int) (x2:List (Int × Int × Int × Bool)) (x3:List Int) (x4:Int) (x5:List (Int × Int × Int × Bool)) (x6:List Int):at15 n (.head 4) [0] (sh15_L4 x0 x1 x2 x3 x4 x5 x6)=none:=by kernel_rfl
theorem e15_L4 (n:Nat) (m4:Nat) (x0:Int) (x1:Int) (x2:List (Int × Int × Int × Bool)) (x3:List Int) (x4:Int) (x5:List (Int × Int × Int × Bool)) (x6:List Int):at15 n (.head 4) [m4 + 1] (sh15_L4 x0 x1 x2 x3 x4 x5 x6)=st15_L4 n (fun x0 x1 x2 x3 x4 x5 x6=>at15 n (.head 4) [m4] (sh15_L4 x0 x1 x2 x3 x4 x5 x6)) (fun x0 x1 x2 x3 x4 x5 x6=>at15 n (.head 9) [n] (sh15_L9 x0 x1 x2 x3 x4 x5 x6)) x0 x1 x2 x3 x4 x5 x6:=by kernel_rfl
noncomputable def p15_L9 (n:Nat):Nat→Int→Int→(List (Int × Int × Int × Bool))→(List Int)→Int→(List (Int × Int × Int × Bool))→(List Int)→Option R15
 | 0,_,_,_,_,_,_,_=>none
 | m + 1,x0,x1,x2,x3,x4,x5,x6=>st15_L9 n (p15_L9 n m) x0 x1 x2 x3 x4 x5 x6
noncomputable def p15_L4 (n:Nat):Nat→Int→Int→(List (Int × Int × Int × Bool))→(List Int)→Int→(List (Int × Int × Int × Bool))→(List Int)→Option R15
 | 0,_,_,_,_,_,_,_=>none
 | m + 1,x0,x1,x2,x3,x4,x5,x6=>st15_L4 n (p15_L4 n m) (p15_L9 n n) x0 x1 x2 x3 x4 x5 x6
noncomputable def p15 (n:Nat) (a:Int × List (Int × Int × Int × Bool) × List Int) (b:Int × List (Int × Int × Int × Bool) × List Int):Option R15:=st15_top n (p15_L4 n n) a b
theorem t15_L9 (n:Nat):∀ (m9:Nat) (x0:Int) (x1:Int) (x2:List (Int × Int × Int × Bool)) (x3:List Int) (x4:Int) (x5:List (Int × Int × Int × Bool)) (x6:List Int),at15 n (.head 9) [m9] (sh15_L9 x0 x1 x2 x3 x4 x5 x6)=p15_L9 n m9 x0 x1 x2 x3 x4 x5 x6:=by
 intro m
 induction m with
 | zero=>intros; rw [e15_L9_0]; rfl
 | succ m ih =>
  intros
  rw [e15_L9]
  try simp only [ih]
  rfl
theorem t15_L4 (n:Nat):∀ (m4:Nat) (x0:Int) (x1:Int) (x2:List (Int × Int × Int × Bool)) (x3:List Int) (x4:Int) (x5:List (Int × Int × Int × Bool)) (x6:List Int),at15 n (.head 4) [m4] (sh15_L4 x0 x1 x2 x3 x4 x5 x6)=p15_L4 n m4 x0 x1 x2 x3 x4 x5 x6:=by
 intro m
 induction m with
 | zero=>intros; rw [e15_L4_0]; rfl
 | succ m ih =>
  intros
  rw [e15_L4]
  try simp only [t15_L9,ih]
  rfl
theorem F15_eq (n:Nat) (a:Int × List (Int × Int × Int × Bool) × List Int) (b:Int × List (Int × Int × Int × Bool) × List Int):runF TT G15 an15 Tryd.f15 c15 ps15 rs15 n (a,b,())=p15 n a b:=by
 rw [e15_top]
 simp only [t15_L4]
 try rfl
noncomputable def q15 (n:Nat) (x:argsD ps15):Option R15:=p15 n x.1 x.2.1
noncomputable def Sm15:Sm:=⟨ps15,rs15,false,q15⟩
theorem holds15 (hg:GamOK Tryd.prog G15):Holds Tryd.prog 15 Sm15:=by
 have:=h0_15 hg
 have e:(runF TT G15 an15 Tryd.f15 c15 ps15 rs15)=q15:=by
  funext n x
  exact F15_eq n x.1 x.2.1
 rw [e] at this
 exact this
theorem gam15:GamOK Tryd.prog G15:=fun _ _ h=>by cases h
theorem hh15:Holds Tryd.prog 15 Sm15:=holds15 gam15
end Go.Proofs.YtpcohpkflkhfbaaDoor.Rx.S

namespace Go.Proofs.YtpcohpkflkhfbaaDoor.Rx.S
open Go Go.RowKit Go.Proofs
set_option maxRecDepth 100000
noncomputable def c5:Code:=(Tryd.f5.body.getD .skip)
def an5:An:=⟨fun r=>match r with | 8=>⟨[0,10,11,12,13],[]⟩ | 13=>⟨[0,10,11,12,13,14],[]⟩ | 19=>⟨[0,10,11,12,13,14,15,16,17],[]⟩ | _=>⟨[],[]⟩,fun _ _=>none⟩
abbrev ps5:List PK:=[.val i64 false,.val i64 false]
abbrev rs5:List RK:=[.val i64 false,.val i64 false,.val .bool false,.val .bool false]
abbrev R5:=retsD rs5 × outsD ps5
noncomputable def G5:Gam:=fun f=>match f with | 8=>some Sm8 | 9=>some Sm9 | 10=>some Sm10 | 11=>some Sm11 | 12=>some Sm12 | 13=>some Sm13 | 14=>some Sm14 | 15=>some Sm15 | _=>none
theorem h0_5 (hg:GamOK Tryd.prog G5):Holds Tryd.prog 5 ⟨ps5,rs5,false,runF TT G5 an5 Tryd.f5 c5 ps5 rs5⟩:=holds_of tt_ok hg mixed Tryd.func5 (by kernel_rfl) (by rfl) (by decide +kernel)
noncomputable def at5:Nat→Pt→List Nat→St→Option R5:=atF TT G5 an5 Tryd.f5 c5 _ _
def sh5_L19 (x0:Int) (x1:Int) (x2:Bool) (x3:Int) (x4:Int) (x5:Bool) (x6:Int) (x7:List (Int × List (Int × Int × Int × Bool) × List Int)) (x8:Int) (x9:List (Int × Int × Int × Bool)) (x10:List Int):St:=(St.mk ((AV.one (SV.int (Go.IntKind.i64) x0)) :: (AV.undef :: (AV.undef :: (AV.undef :: (AV.undef :: (AV.undef :: (AV.undef :: (AV.undef :: (AV.undef :: (AV.undef :: ((AV.one (SV.ref 1000000 0 [] Option.none)) :: ((AV.one (SV.int (Go.IntKind.i64) x1)) :: ((AV.one (SV.bool x2)) :: ((AV.one (SV.int (Go.IntKind.i64) x3)) :: ((AV.one (SV.int (Go.IntKind.i64) x4)) :: ((AV.one (SV.bptr 1000001 0)) :: ((AV.one (SV.bool x5)) :: ((AV.one (SV.int (Go.IntKind.i64) x6)) :: (AV.undef :: (AV.undef :: (AV.undef :: (AV.undef :: (AV.undef :: (AV.undef :: (AV.undef :: (AV.undef :: (AV.undef :: (AV.undef :: (AV.undef :: (AV.undef :: (AV.undef :: (AV.undef :: (AV.undef :: (AV.undef :: (AV.undef :: (AV.undef :: (AV.undef :: (AV.undef :: (AV.undef :: (AV.undef :: (AV.undef :: (AV.undef :: (AV.undef :: (AV.undef :: (AV.undef :: (AV.undef :: (AV.undef :: (AV.undef :: (AV.undef :: (AV.undef :: (AV.undef :: (AV.undef :: (AV.undef :: (AV.undef :: (AV.undef :: (AV.undef :: (AV.undef :: (AV.undef :: (AV.undef :: (AV.undef :: (AV.undef :: (AV.undef :: (AV.undef :: (AV.undef :: (AV.undef :: (AV.undef :: (AV.undef :: (AV.undef :: (AV.undef :: (AV.undef :: (AV.undef :: (AV.undef :: (AV.undef :: (AV.undef :: (AV.undef :: (AV.undef :: (AV.undef :: (AV.undef :: (AV.undef :: (AV.undef :: (AV.undef :: (AV.undef :: (AV.undef :: (AV.undef :: (AV.undef :: (AV.undef :: (AV.undef :: (AV.undef :: (AV.undef :: (AV.undef :: (AV.undef :: (AV.undef :: (AV.undef :: (AV.undef :: (AV.undef :: (AV.undef :: (AV.undef :: (AV.undef :: (AV.undef :: (AV.undef :: (AV.undef :: (AV.undef :: (AV.undef :: (AV.undef :: (AV.undef :: (AV.undef :: (AV.undef :: (AV.undef :: [])))))))))))))))))))))))))))))))))))))))))))))))))))))))))))))))))))))))))))))))))))))))))))))))))))))))))))) ((1000000,(Ent.row (⟨33,(Ty.int Go.IntKind.i64).pair ((Ty.row (nat_lit 51) ((Ty.int Go.IntKind.i64).pair ((Ty.int Go.IntKind.i64).pair ((Ty.int Go.IntKind.i64).pair Ty.bool)))).pair (Ty.row (nat_lit 3) (Ty.int Go.IntKind.i64))),x7⟩:Rw) 0 Option.none)) :: ((1000001,(Ent.box ((SV.int (Go.IntKind.i64) x8) :: ((SV.ref 1000002 0 [] Option.none) :: ((SV.ref 1000003 0 [] Option.none) :: []))))) :: ((1000002,(Ent.row (⟨51,(Ty.int Go.IntKind.i64).pair ((Ty.int Go.IntKind.i64).pair ((Ty.int Go.IntKind.i64).pair Ty.bool)),x9⟩:Rw) 0 Option.none)) :: ((1000003,(Ent.row (⟨3,Ty.int Go.IntKind.i64,x10⟩:Rw) 0 Option.none)) :: [])))))
def sh5_L13 (x0:Int) (x1:Int) (x2:Bool) (x3:Int) (x4:Int) (x5:List (Int × List (Int × Int × Int × Bool) × List Int)):St:=(St.mk ((AV.one (SV.int (Go.IntKind.i64) x0)) :: (AV.undef :: (AV.undef :: (AV.undef :: (AV.undef :: (AV.undef :: (AV.undef :: (AV.undef :: (AV.undef :: (AV.undef :: ((AV.one (SV.ref 1000000 0 [] Option.none)) :: ((AV.one (SV.int (Go.IntKind.i64) x1)) :: ((AV.one (SV.bool x2)) :: ((AV.one (SV.int (Go.IntKind.i64) x3)) :: ((AV.one (SV.int (Go.IntKind.i64) x4)) :: (AV.undef :: (AV.undef :: (AV.undef :: (AV.undef :: (AV.undef :: (AV.undef :: (AV.undef :: (AV.undef :: (AV.undef :: (AV.undef :: (AV.undef :: (AV.undef :: (AV.undef :: (AV.undef :: (AV.undef :: (AV.undef :: (AV.undef :: (AV.undef :: (AV.undef :: (AV.undef :: (AV.undef :: (AV.undef :: (AV.undef :: (AV.undef :: (AV.undef :: (AV.undef :: (AV.undef :: (AV.undef :: (AV.undef :: (AV.undef :: (AV.undef :: (AV.undef :: (AV.undef :: (AV.undef :: (AV.undef :: (AV.undef :: (AV.undef :: (AV.undef :: (AV.undef :: (AV.undef :: (AV.undef :: (AV.undef :: (AV.undef :: (AV.undef :: (AV.undef :: (AV.undef :: (AV.undef :: (AV.undef :: (AV.undef :: (AV.undef :: (AV.undef :: (AV.undef :: (AV.undef :: (AV.undef :: (AV.undef :: (AV.undef :: (AV.undef :: (AV.undef :: (AV.undef :: (AV.undef :: (AV.undef :: (AV.undef :: (AV.undef :: (AV.undef :: (AV.undef :: (AV.undef :: (AV.undef :: (AV.undef :: (AV.undef :: (AV.undef :: (AV.undef :: (AV.undef :: (AV.undef :: (AV.undef :: (AV.undef :: (AV.undef :: (AV.undef :: (AV.undef :: (AV.undef :: (AV.undef :: (AV.undef :: (AV.undef :: (AV.undef :: (AV.undef :: (AV.undef :: (AV.undef :: (AV.undef :: (AV.undef :: (AV.undef :: (AV.undef :: (AV.undef :: (AV.undef :: (AV.undef :: [])))))))))))))))))))))))))))))))))))))))))))))))))))))))))))))))))))))))))))))))))))))))))))))))))))))))))))) ((1000000,(Ent.row (⟨33,(Ty.int Go.IntKind.i64).pair ((Ty.row (nat_lit 51) ((Ty.int Go.IntKind.i64).pair ((Ty.int Go.IntKind.i64).pair ((Ty.int Go.IntKind.i64).pair Ty.bool)))).pair (Ty.row (nat_lit 3) (Ty.int Go.IntKind.i64))),x5⟩:Rw) 0 Option.none)) :: []))
def sh5_L8 (x0:Int) (x1:Int) (x2:Bool) (x3:Int) (x4:List (Int × List (Int × Int × Int × Bool) × List Int)):St:=(St.mk ((AV.one (SV.int (Go.IntKind.i64) x0)) :: (AV.undef :: (AV.undef :: (AV.undef :: (AV.undef :: (AV.undef :: (AV.undef :: (AV.undef :: (AV.undef :: (AV.undef :: ((AV.one (SV.ref 1000000 0 [] Option.none)) :: ((AV.one (SV.int (Go.IntKind.i64) x1)) :: ((AV.one (SV.bool x2)) :: ((AV.one (SV.int (Go.IntKind.i64) x3)) :: (AV.undef :: (AV.undef :: (AV.undef :: (AV.undef :: (AV.undef :: (AV.undef :: (AV.undef :: (AV.undef :: (AV.undef :: (AV.undef :: (AV.undef :: (AV.undef :: (AV.undef :: (AV.undef :: (AV.undef :: (AV.undef :: (AV.undef :: (AV.undef :: (AV.undef :: (AV.undef :: (AV.undef :: (AV.undef :: (AV.undef :: (AV.undef :: (AV.undef :: (AV.undef :: (AV.undef :: (AV.undef :: (AV.undef :: (AV.undef :: (AV.undef :: (AV.undef :: (AV.undef :: (AV.undef :: (AV.undef :: (AV.undef :: (AV.undef :: (AV.undef :: (AV.undef :: (AV.undef :: (AV.undef :: (AV.undef :: (AV.undef :: (AV.undef :: (AV.undef :: (AV.undef :: (AV.undef :: (AV.undef :: (AV.undef :: (AV.undef :: (AV.undef :: (AV.undef :: (AV.undef :: (AV.undef :: (AV.undef :: (AV.undef :: (AV.undef :: (AV.undef :: (AV.undef :: (AV.undef :: (AV.undef :: (AV.undef :: (AV.undef :: (AV.undef :: (AV.undef :: (AV.undef :: (AV.undef :: (AV.undef :: (AV.undef :: (AV.undef :: (AV.undef :: (AV.undef :: (AV.undef :: (AV.undef :: (AV.undef :: (AV.undef :: (AV.undef :: (AV.undef :: (AV.undef :: (AV.undef :: (AV.undef :: (AV.undef :: (AV.undef :: (AV.undef :: (AV.undef :: (AV.undef :: (AV.undef :: (AV.undef :: (AV.undef :: (AV.undef :: (AV.undef :: (AV.undef :: (AV.undef :: (AV.undef :: [])))))))))))))))))))))))))))))))))))))))))))))))))))))))))))))))))))))))))))))))))))))))))))))))))))))))))))) ((1000000,(Ent.row (⟨33,(Ty.int Go.IntKind.i64).pair ((Ty.row (nat_lit 51) ((Ty.int Go.IntKind.i64).pair ((Ty.int Go.IntKind.i64).pair ((Ty.int Go.IntKind.i64).pair Ty.bool)))).pair (Ty.row (nat_lit 3) (Ty.int Go.IntKind.i64))),x4⟩:Rw) 0 Option.none)) :: []))
noncomputable def st5_top (n:Nat) (lL8:Int→Int→Bool→Int→(List (Int × List (Int × Int × Int × Bool) × List Int))→Option R5) (a:Int) (b:Int):Option R5 :=
 (q8 n (a,(1:Int),(3:Int),())).bind fun r0=>cond (!r0.1.1) (some (((0:Int),((0:Int),(false,(false,())))),())) ((q8 n (b,(1:Int),(2:Int),())).bind fun r1=>cond (!r1.1.1) (some (((0:Int),((0:Int),(false,(false,())))),())) (cond (decide (a=(3:Int))) (cond (decide (b=(2:Int))) (some (((0:Int),((0:Int),(false,(false,())))),())) ((q9 n (a,b,())).bind fun r2=>lL8 (a) ((0:Int)) (false) ((0:Int)) ([(r2.1.1.1,r2.1.1.2.1,r2.1.1.2.2)]))) ((q9 n (a,b,())).bind fun r12=>lL8 (a) ((0:Int)) (false) ((0:Int)) ([(r12.1.1.1,r12.1.1.2.1,r12.1.1.2.2)]))))
noncomputable def st5_L19 (n:Nat) (lL19:Int→Int→Bool→Int→Int→Bool→Int→(List (Int × List (Int × Int × Int × Bool) × List Int))→Int→(List (Int × Int × Int × Bool))→(List Int)→Option R5) (lL13:Int→Int→Bool→Int→Int→(List (Int × List (Int × Int × Int × Bool) × List Int))→Option R5) (x0:Int) (x1:Int) (x2:Bool) (x3:Int) (x4:Int) (x5:Bool) (x6:Int) (x7:List (Int × List (Int × Int × Int × Bool) × List Int)) (x8:Int) (x9:List (Int × Int × Int × Bool)) (x10:List Int):Option R5 :=
 cond (decide (x6 < (↑x7.length:Int))) (cond (!x5) (cond (decide ((0:Int)≤x6)) (cond (decide (x6 < (↑x7.length:Int))) ((q15 n (((x7.getD x6.toNat ((0:Int),[],[])).1,(x7.getD x6.toNat ((0:Int),[],[])).2.1,(x7.getD x6.toNat ((0:Int),[],[])).2.2),(x8,x9,x10),())).bind fun r10=>lL19 (x0) (x1) (x2) (x3) (x4) (r10.1.1) (Go.IntKind.i64.wrap (x6 + (1:Int))) (x7) (x8) (x9) (x10)) (none)) (none)) (cond (!x5) (cond (decide ((x7.length + [(x8,x9,x10)].length) * (56:Nat)≤(140737488355328:Nat))) (lL13 (x0) (x1) (x2) (x3) (Go.IntKind.i64.wrap (x4 + (1:Int))) (x7 ++ [(x8,x9,x10)])) (none)) (lL13 (x0) (x1) (x2) (x3) (Go.IntKind.i64.wrap (x4 + (1:Int))) (x7)))) (cond (!x5) (cond (decide ((x7.length + [(x8,x9,x10)].length) * (56:Nat)≤(140737488355328:Nat))) (lL13 (x0) (x1) (x2) (x3) (Go.IntKind.i64.wrap (x4 + (1:Int))) (x7 ++ [(x8,x9,x10)])) (none)) (lL13 (x0) (x1) (x2) (x3) (Go.IntKind.i64.wrap (x4 + (1:Int))) (x7)))
noncomputable def st5_L13 (n:Nat) (lL13:Int→Int→Bool→Int→Int→(List (Int × List (Int × Int × Int × Bool) × List Int))→Option R5) (lL19:Int→Int→Bool→Int→Int→Bool→Int→(List (Int × List (Int × Int × Int × Bool) × List Int))→Int→(List (Int × Int × Int × Bool))→(List Int)→Option R5) (lL8:Int→Int→Bool→Int→(List (Int × List (Int × Int × Int × Bool) × List Int))→Option R5) (x0:Int) (x1:Int) (x2:Bool) (x3:Int) (x4:Int) (x5:List (Int × List (Int × Int × Int × Bool) × List Int)):Option R5 :=
 cond (decide (x4 < x0)) (cond (decide ((0:Int)≤x3)) (cond (decide (x3 < (↑x5.length:Int))) ((q12 n (((x5.getD x3.toNat ((0:Int),[],[])).1,(x5.getD x3.toNat ((0:Int),[],[])).2.1,(x5.getD x3.toNat ((0:Int),[],[])).2.2),x4,())).bind fun r6=>cond (!r6.1.1) (lL13 (x0) (x1) (x2) (x3) (Go.IntKind.i64.wrap (x4 + (1:Int))) (x5)) (cond (decide ((0:Int)≤x3)) (cond (decide (x3 < (↑x5.length:Int))) ((q14 n (((x5.getD x3.toNat ((0:Int),[],[])).1,(x5.getD x3.toNat ((0:Int),[],[])).2.1,(x5.getD x3.toNat ((0:Int),[],[])).2.2),())).bind fun r7=>(q13 n ((r7.1.1.1,r7.1.1.2.1,r7.1.1.2.2),x4,())).bind fun r8=>lL19 (x0) (x1) (x2) (x3) (x4) (false) ((0:Int)) (x5) (r8.1.1.1) (r8.1.1.2.1) (r8.1.1.2.2)) (none)) (none))) (none)) (none)) (lL8 (x0) (x1) (x2) (Go.IntKind.i64.wrap (x3 + (1:Int))) (x5))
noncomputable def st5_L8 (n:Nat) (lL13:Int→Int→Bool→Int→Int→(List (Int × List (Int × Int × Int × Bool) × List Int))→Option R5) (x0:Int) (x1:Int) (x2:Bool) (x3:Int) (x4:List (Int × List (Int × Int × Int × Bool) × List Int)):Option R5 :=
 cond (decide (x3 < (↑x4.length:Int))) (cond (decide ((0:Int)≤x3)) (cond (decide (x3 < (↑x4.length:Int))) ((q10 n (((x4.getD x3.toNat ((0:Int),[],[])).1,(x4.getD x3.toNat ((0:Int),[],[])).2.1,(x4.getD x3.toNat ((0:Int),[],[])).2.2),())).bind fun r4=>cond (x2) (lL13 (x0) (if r4.1.1 > x1 then r4.1.1 else x1) (true) (x3) ((0:Int)) (x4)) (cond (decide ((0:Int)≤x3)) (cond (decide (x3 < (↑x4.length:Int))) ((q11 n (((x4.getD x3.toNat ((0:Int),[],[])).1,(x4.getD x3.toNat ((0:Int),[],[])).2.1,(x4.getD x3.toNat ((0:Int),[],[])).2.2),())).bind fun r11=>lL13 (x0) (if r4.1.1 > x1 then r4.1.1 else x1) (r11.1.1) (x3) ((0:Int)) (x4)) (none)) (none))) (none)) (none)) (some (((↑x4.length:Int),(x1,(x2,(true,())))),()))
theorem e5_top (n:Nat) (a:Int) (b:Int):runF TT G5 an5 Tryd.f5 c5 ps5 rs5 n (a,b,())=st5_top n (fun x0 x1 x2 x3 x4=>at5 n (.head 8) [n] (sh5_L8 x0 x1 x2 x3 x4)) a b:=by kernel_rfl
theorem e5_L19_0 (n:Nat) (m8:Nat) (m13:Nat) (x0:Int) (x1:Int) (x2:Bool) (x3:Int) (x4:Int) (x5:Bool) (x6:Int) (x7:List (Int × List (Int × Int × Int × Bool) × List Int)) (x8:Int) (x9:List (Int × Int × Int × Bool)) (x10:List Int):at5 n (.head 19) [m8,m13,0] (sh5_L19 x0 x1 x2 x3 x4 x5 x6 x7 x8 x9 x10)=none:=by kernel_rfl
theorem e5_L19 (n:Nat) (m8:Nat) (m13:Nat) (m19:Nat) (x0:Int) (x1:Int) (x2:Bool) (x3:Int) (x4:Int) (x5:Bool) (x6:Int) (x7:List (Int × List (Int × Int × Int × Bool) × List Int)) (x8:Int) (x9:List (Int × Int × Int × Bool)) (x10:List Int):at5 n (.head 19) [m8,m13,m19 + 1] (sh5_L19 x0 x1 x2 x3 x4 x5 x6 x7 x8 x9 x10)=st5_L19 n (fun x0 x1 x2 x3 x4 x5 x6 x7 x8 x9 x10=>at5 n (.head 19) [m8,m13,m19] (sh5_L19 x0 x1 x2 x3 x4 x5 x6 x7 x8 x9 x10)) (fun x0 x1 x2 x3 x4 x5=>at5 n (.head 13) [m8,m13] (sh5_L13 x0 x1 x2 x3 x4 x5)) x0 x1 x2 x3 x4 x5 x6 x7 x8 x9 x10:=by kernel_rfl
theorem e5_L13_0 (n:Nat) (m8:Nat) (x0:Int) (x1:Int) (x2:Bool) (x3:Int) (x4:Int) (x5:List (Int × List (Int × Int × Int × Bool) × List Int)):at5 n (.head 13) [m8,0] (sh5_L13 x0 x1 x2 x3 x4 x5)=none:=by kernel_rfl
theorem e5_L13 (n:Nat) (m8:Nat) (m13:Nat) (x0:Int) (x1:Int) (x2:Bool) (x3:Int) (x4:Int) (x5:List (Int × List (Int × Int × Int × Bool) × List Int)):at5 n (.head 13) [m8,m13 + 1] (sh5_L13 x0 x1 x2 x3 x4 x5)=st5_L13 n (fun x0 x1 x2 x3 x4 x5=>at5 n (.head 13) [m8,m13] (sh5_L13 x0 x1 x2 x3 x4 x5)) (fun x0 x1 x2 x3 x4 x5 x6 x7 x8 x9 x10=>at5 n (.head 19) [m8,m13,n] (sh5_L19 x0 x1 x2 x3 x4 x5 x6 x7 x8 x9 x10)) (fun x0 x1 x2 x3 x4=>at5 n (.head 8) [m8] (sh5_L8 x0 x1 x2 x3 x4)) x0 x1 x2 x3 x4 x5:=by kernel_rfl
theorem e5_L8_0 (n:Nat) (x0:Int) (x1:Int) (x2:Bool) (x3:Int) (x4:List (Int × List (Int × Int × Int × Bool) × List Int)):at5 n (.head 8) [0] (sh5_L8 x0 x1 x2 x3 x4)=none:=by kernel_rfl
theorem e5_L8 (n:Nat) (m8:Nat) (x0:Int) (x1:Int) (x2:Bool) (x3:Int) (x4:List (Int × List (Int × Int × Int × Bool) × List Int)):at5 n (.head 8) [m8 + 1] (sh5_L8 x0 x1 x2 x3 x4)=st5_L8 n (fun x0 x1 x2 x3 x4 x5=>at5 n (.head 13) [m8,n] (sh5_L13 x0 x1 x2 x3 x4 x5)) x0 x1 x2 x3 x4:=by kernel_rfl
noncomputable def p5_L19 (g8:Int→Int→Bool→Int→(List (Int × List (Int × Int × Int × Bool) × List Int))→Option R5) (g13:Int→Int→Bool→Int→Int→(List (Int × List (Int × Int × Int × Bool) × List Int))→Option R5) (n:Nat):Nat→Int→Int→Bool→Int→Int→Bool→Int→(List (Int × List (Int × Int × Int × Bool) × List Int))→Int→(List (Int × Int × Int × Bool))→(List Int)→Option R5
 | 0,_,_,_,_,_,_,_,_,_,_,_=>none
 | m + 1,x0,x1,x2,x3,x4,x5,x6,x7,x8,x9,x10=>st5_L19 n (p5_L19 g8 g13 n m) g13 x0 x1 x2 x3 x4 x5 x6 x7 x8 x9 x10
noncomputable def p5_L13 (g8:Int→Int→Bool→Int→(List (Int × List (Int × Int × Int × Bool) × List Int))→Option R5) (n:Nat):Nat→Int→Int→Bool→Int→Int→(List (Int × List (Int × Int × Int × Bool) × List Int))→Option R5
 | 0,_,_,_,_,_,_=>none
 | m + 1,x0,x1,x2,x3,x4,x5=>st5_L13 n (p5_L13 g8 n m) (p5_L19 g8 (p5_L13 g8 n m) n n) g8 x0 x1 x2 x3 x4 x5
noncomputable def p5_L8 (n:Nat):Nat→Int→Int→Bool→Int→(List (Int × List (Int × Int × Int × Bool) × List Int))→Option R5
 | 0,_,_,_,_,_=>none
 | m + 1,x0,x1,x2,x3,x4=>st5_L8 n (p5_L13 (p5_L8 n m) n n) x0 x1 x2 x3 x4
noncomputable def p5 (n:Nat) (a:Int) (b:Int):Option R5:=st5_top n (p5_L8 n n) a b
theorem t5_L19 (n:Nat) (m8:Nat) (m13:Nat):∀ (m19:Nat) (x0:Int) (x1:Int) (x2:Bool) (x3:Int) (x4:Int) (x5:Bool) (x6:Int) (x7:List (Int × List (Int × Int × Int × Bool) × List Int)) (x8:Int) (x9:List (Int × Int × Int × Bool)) (x10:List Int),at5 n (.head 19) [m8,m13,m19] (sh5_L19 x0 x1 x2 x3 x4 x5 x6 x7 x8 x9 x10)=p5_L19 (fun x0 x1 x2 x3 x4=>at5 n (.head 8) [m8] (sh5_L8 x0 x1 x2 x3 x4)) (fun x0 x1 x2 x3 x4 x5=>at5 n (.head 13) [m8,m13] (sh5_L13 x0 x1 x2 x3 x4 x5)) n m19 x0 x1 x2 x3 x4 x5 x6 x7 x8 x9 x10:=by
 intro m
 induction m with
 | zero=>intros; rw [e5_L19_0]; rfl
 | succ m ih =>
  intros
  rw [e5_L19]
  try simp only [ih]
  rfl
theorem t5_L13 (n:Nat) (m8:Nat):∀ (m13:Nat) (x0:Int) (x1:Int) (x2:Bool) (x3:Int) (x4:Int) (x5:List (Int × List (Int × Int × Int × Bool) × List Int)),at5 n (.head 13) [m8,m13] (sh5_L13 x0 x1 x2 x3 x4 x5)=p5_L13 (fun x0 x1 x2 x3 x4=>at5 n (.head 8) [m8] (sh5_L8 x0 x1 x2 x3 x4)) n m13 x0 x1 x2 x3 x4 x5:=by
 intro m
 induction m with
 | zero=>intros; rw [e5_L13_0]; rfl
 | succ m ih =>
  intros
  rw [e5_L13]
  try simp only [t5_L19,ih]
  rfl
theorem t5_L8 (n:Nat):∀ (m8:Nat) (x0:Int) (x1:Int) (x2:Bool) (x3:Int) (x4:List (Int × List (Int × Int × Int × Bool) × List Int)),at5 n (.head 8) [m8] (sh5_L8 x0 x1 x2 x3 x4)=p5_L8 n m8 x0 x1 x2 x3 x4:=by
 intro m
 induction m with
 | zero=>intros; rw [e5_L8_0]; rfl
 | succ m ih =>
  intros
  rw [e5_L8]
  try simp only [t5_L13,ih]
  rfl
theorem F5_eq (n:Nat) (a:Int) (b:Int):runF TT G5 an5 Tryd.f5 c5 ps5 rs5 n (a,b,())=p5 n a b:=by
 rw [e5_top]
 simp only [t5_L8]
 try rfl
noncomputable def q5 (n:Nat) (x:argsD ps5):Option R5:=p5 n x.1 x.2.1
noncomputable def Sm5:Sm:=⟨ps5,rs5,false,q5⟩
theorem holds5 (hg:GamOK Tryd.prog G5):Holds Tryd.prog 5 Sm5:=by
 have:=h0_5 hg
 have e:(runF TT G5 an5 Tryd.f5 c5 ps5 rs5)=q5:=by
  funext n x
  exact F5_eq n x.1 x.2.1
 rw [e] at this
 exact this
theorem gam5:GamOK Tryd.prog G5:=by
 intro f s h
 unfold G5 at h
 split at h
 ·injection h with h; subst h; exact ⟨⟨Tryd.f8,c8,Tryd.func8,by kernel_rfl,by decide +kernel⟩,hh8⟩
 ·injection h with h; subst h; exact ⟨⟨Tryd.f9,c9,Tryd.func9,by kernel_rfl,by decide +kernel⟩,hh9⟩
 ·injection h with h; subst h; exact ⟨⟨Tryd.f10,c10,Tryd.func10,by kernel_rfl,by decide +kernel⟩,hh10⟩
 ·injection h with h; subst h; exact ⟨⟨Tryd.f11,c11,Tryd.func11,by kernel_rfl,by decide +kernel⟩,hh11⟩
 ·injection h with h; subst h; exact ⟨⟨Tryd.f12,c12,Tryd.func12,by kernel_rfl,by decide +kernel⟩,hh12⟩
 ·injection h with h; subst h; exact ⟨⟨Tryd.f13,c13,Tryd.func13,by kernel_rfl,by decide +kernel⟩,hh13⟩
 ·injection h with h; subst h; exact ⟨⟨Tryd.f14,c14,Tryd.func14,by kernel_rfl,by decide +kernel⟩,hh14⟩
 ·injection h with h; subst h; exact ⟨⟨Tryd.f15,c15,Tryd.func15,by kernel_rfl,by decide +kernel⟩,hh15⟩
 ·cases h
theorem hh5:Holds Tryd.prog 5 Sm5:=holds5 gam5
end Go.Proofs.YtpcohpkflkhfbaaDoor.Rx.S

namespace Go.Proofs.YtpcohpkflkhfbaaDoor.Rx.S
open Go Go.RowKit Go.Proofs
set_option maxRecDepth 100000
noncomputable def c16:Code:=(Tryd.f16.body.getD .skip)
def an16:An:=⟨fun _=>⟨[],[]⟩,fun _ _=>none⟩
abbrev ps16:List PK:=[.val i64 false,.val i64 false,.val i64 false]
abbrev rs16:List RK:=[.val .bool false]
abbrev R16:=retsD rs16 × outsD ps16
noncomputable def G16:Gam:=fun _=>none
theorem h0_16 (hg:GamOK Tryd.prog G16):Holds Tryd.prog 16 ⟨ps16,rs16,false,runF TT G16 an16 Tryd.f16 c16 ps16 rs16⟩:=holds_of tt_ok hg mixed Tryd.func16 (by kernel_rfl) (by rfl) (by decide +kernel)
noncomputable def st16_top (n:Nat) (a:Int) (b:Int) (c:Int):Option R16 :=
 cond (decide (b≤a)) (some ((decide (a≤c),()),())) (some ((false,()),()))
theorem e16_top (n:Nat) (a:Int) (b:Int) (c:Int):runF TT G16 an16 Tryd.f16 c16 ps16 rs16 n (a,b,c,())=st16_top n a b c:=by kernel_rfl
noncomputable def p16 (n:Nat) (a:Int) (b:Int) (c:Int):Option R16:=st16_top n a b c
theorem F16_eq (n:Nat) (a:Int) (b:Int) (c:Int):runF TT G16 an16 Tryd.f16 c16 ps16 rs16 n (a,b,c,())=p16 n a b c:=by
 rw [e16_top]
 skip
 try rfl
noncomputable def q16 (n:Nat) (x:argsD ps16):Option R16:=p16 n x.1 x.2.1 x.2.2.1
noncomputable def Sm16:Sm:=⟨ps16,rs16,false,q16⟩
theorem holds16 (hg:GamOK Tryd.prog G16):Holds Tryd.prog 16 Sm16:=by
 have:=h0_16 hg
 have e:(runF TT G16 an16 Tryd.f16 c16 ps16 rs16)=q16:=by
  funext n x
  exact F16_eq n x.1 x.2.1 x.2.2.1
 rw [e] at this
 exact this
theorem gam16:GamOK Tryd.prog G16:=fun _ _ h=>by cases h
theorem hh16:Holds Tryd.prog 16 Sm16:=holds16 gam16
end Go.Proofs.YtpcohpkflkhfbaaDoor.Rx.S

namespace Go.Proofs.YtpcohpkflkhfbaaDoor.Rx.S
open Go Go.RowKit Go.Proofs
set_option maxRecDepth 100000
noncomputable def c17:Code:=(Tryd.f17.body.getD .skip)
def an17:An:=⟨fun r=>match r with | 5=>⟨[1,4,6,22,23],[]⟩ | _=>⟨[],[]⟩,fun _ _=>none⟩
abbrev ps17:List PK:=[.val i64 false,.val i64 false]
abbrev rs17:List RK:=[.own tLk true,.val .bool false]
abbrev R17:=retsD rs17 × outsD ps17
noncomputable def G17:Gam:=fun f=>match f with | 16=>some Sm16 | _=>none
theorem h0_17 (hg:GamOK Tryd.prog G17):Holds Tryd.prog 17 ⟨ps17,rs17,false,runF TT G17 an17 Tryd.f17 c17 ps17 rs17⟩:=holds_of tt_ok hg mixed Tryd.func17 (by kernel_rfl) (by rfl) (by decide +kernel)
noncomputable def at17:Nat→Pt→List Nat→St→Option R17:=atF TT G17 an17 Tryd.f17 c17 _ _
def sh17_L5 (x0:Int) (x1:Int) (x2:Int) (x3:Int) (x4:Int) (x5:List (Int × Int × Int × Bool)):St:=(St.mk (AV.undef :: ((AV.one (SV.int (Go.IntKind.i64) x0)) :: (AV.undef :: (AV.undef :: ((AV.one (SV.bptr 1000000 0)) :: (AV.undef :: ((AV.one (SV.bptr 1000001 0)) :: (AV.undef :: (AV.undef :: (AV.undef :: (AV.undef :: (AV.undef :: (AV.undef :: (AV.undef :: (AV.undef :: (AV.undef :: (AV.undef :: (AV.undef :: (AV.undef :: (AV.undef :: (AV.undef :: (AV.undef :: ((AV.one (SV.int (Go.IntKind.i64) x1)) :: ((AV.one (SV.int (Go.IntKind.i64) x2)) :: (AV.undef :: (AV.undef :: (AV.undef :: (AV.undef :: (AV.undef :: (AV.undef :: (AV.undef :: (AV.undef :: (AV.undef :: (AV.undef :: [])))))))))))))))))))))))))))))))))) ((1000000,(Ent.box ((SV.int (Go.IntKind.i64) x3) :: (SV.nil :: (SV.nil :: []))))) :: ((1000001,(Ent.box ((SV.int (Go.IntKind.i64) x4) :: ((SV.ref 1000002 0 [] Option.none) :: (SV.nil :: []))))) :: ((1000002,(Ent.row (⟨51,(Ty.int Go.IntKind.i64).pair ((Ty.int Go.IntKind.i64).pair ((Ty.int Go.IntKind.i64).pair Ty.bool)),x5⟩:Rw) 0 Option.none)) :: []))))
noncomputable def st17_top (n:Nat) (lL5:Int→Int→Int→Int→Int→(List (Int × Int × Int × Bool))→Option R17) (a:Int) (b:Int):Option R17 :=
 (q16 n (a,(1:Int),(4:Int),())).bind fun r0=>cond (!r0.1.1) (some ((((0:Int),([],[])),(false,())),())) ((q16 n (b,(0:Int),(3:Int),())).bind fun r1=>cond (!r1.1.1) (some ((((0:Int),([],[])),(false,())),())) (cond (decide ((0:Int)≤a)) (cond (decide (a * (↑(32:Nat):Int)≤(140737488355328:Int))) (lL5 (b) ((↑(List.replicate a.toNat ((0:Int),(0:Int),(0:Int),false)).length:Int)) ((0:Int)) ((0:Int)) ((0:Int)) (List.replicate a.toNat ((0:Int),(0:Int),(0:Int),false))) (none)) (none)))
noncomputable def st17_L5 (n:Nat) (lL5:Int→Int→Int→Int→Int→(List (Int × Int × Int × Bool))→Option R17) (x0:Int) (x1:Int) (x2:Int) (x3:Int) (x4:Int) (x5:List (Int × Int × Int × Bool)):Option R17 :=
 cond (decide (x2 < x1)) (cond (decide ((0:Int)≤x2)) (cond (decide (x2 < (↑x5.length:Int))) (lL5 (x0) (x1) (Go.IntKind.i64.wrap (x2 + (1:Int))) (x3) (x4) (x5.set x2.toNat ((x5.getD x2.toNat ((0:Int),(0:Int),(0:Int),false)).1,(x5.getD x2.toNat ((0:Int),(0:Int),(0:Int),false)).2.1,x0,(x5.getD x2.toNat ((0:Int),(0:Int),(0:Int),false)).2.2.2))) (none)) (none)) (some (((x4,(x5,[])),(true,())),()))
theorem e17_top (n:Nat) (a:Int) (b:Int):runF TT G17 an17 Tryd.f17 c17 ps17 rs17 n (a,b,())=st17_top n (fun x0 x1 x2 x3 x4 x5=>at17 n (.head 5) [n] (sh17_L5 x0 x1 x2 x3 x4 x5)) a b:=by kernel_rfl
theorem e17_L5_0 (n:Nat) (x0:Int) (x1:Int) (x2:Int) (x3:Int) (x4:Int) (x5:List (Int × Int × Int × Bool)):at17 n (.head 5) [0] (sh17_L5 x0 x1 x2 x3 x4 x5)=none:=by kernel_rfl
theorem e17_L5 (n:Nat) (m5:Nat) (x0:Int) (x1:Int) (x2:Int) (x3:Int) (x4:Int) (x5:List (Int × Int × Int × Bool)):at17 n (.head 5) [m5 + 1] (sh17_L5 x0 x1 x2 x3 x4 x5)=st17_L5 n (fun x0 x1 x2 x3 x4 x5=>at17 n (.head 5) [m5] (sh17_L5 x0 x1 x2 x3 x4 x5)) x0 x1 x2 x3 x4 x5:=by kernel_rfl
noncomputable def p17_L5 (n:Nat):Nat→Int→Int→Int→Int→Int→(List (Int × Int × Int × Bool))→Option R17
 | 0,_,_,_,_,_,_=>none
 | m + 1,x0,x1,x2,x3,x4,x5=>st17_L5 n (p17_L5 n m) x0 x1 x2 x3 x4 x5
noncomputable def p17 (n:Nat) (a:Int) (b:Int):Option R17:=st17_top n (p17_L5 n n) a b
theorem t17_L5 (n:Nat):∀ (m5:Nat) (x0:Int) (x1:Int) (x2:Int) (x3:Int) (x4:Int) (x5:List (Int × Int × Int × Bool)),at17 n (.head 5) [m5] (sh17_L5 x0 x1 x2 x3 x4 x5)=p17_L5 n m5 x0 x1 x2 x3 x4 x5:=by
 intro m
 induction m with
 | zero=>intros; rw [e17_L5_0]; rfl
 | succ m ih =>
  intros
  rw [e17_L5]
  try simp only [ih]
  rfl
theorem F17_eq (n:Nat) (a:Int) (b:Int):runF TT G17 an17 Tryd.f17 c17 ps17 rs17 n (a,b,())=p17 n a b:=by
 rw [e17_top]
 simp only [t17_L5]
 try rfl
noncomputable def q17 (n:Nat) (x:argsD ps17):Option R17:=p17 n x.1 x.2.1
noncomputable def Sm17:Sm:=⟨ps17,rs17,false,q17⟩
theorem holds17 (hg:GamOK Tryd.prog G17):Holds Tryd.prog 17 Sm17:=by
 have:=h0_17 hg
 have e:(runF TT G17 an17 Tryd.f17 c17 ps17 rs17)=q17:=by
  funext n x
  exact F17_eq n x.1 x.2.1
 rw [e] at this
 exact this
theorem gam17:GamOK Tryd.prog G17:=by
 intro f s h
 unfold G17 at h
 split at h
 ·injection h with h; subst h; exact ⟨⟨Tryd.f16,c16,Tryd.func16,by kernel_rfl,by decide +kernel⟩,hh16⟩
 ·cases h
theorem hh17:Holds Tryd.prog 17 Sm17:=holds17 gam17
end Go.Proofs.YtpcohpkflkhfbaaDoor.Rx.S

namespace Go.Proofs.YtpcohpkflkhfbaaDoor.Rx.S
open Go Go.RowKit Go.Proofs
set_option maxRecDepth 100000
noncomputable def c34:Code:=(Tryd.f34.body.getD .skip)
def an34:An:=⟨fun _=>⟨[],[]⟩,fun _ _=>none⟩
abbrev ps34:List PK:=[.val i64 false]
abbrev rs34:List RK:=[.val .str false]
abbrev R34:=retsD rs34 × outsD ps34
noncomputable def G34:Gam:=fun _=>none
theorem h0_34 (hg:GamOK Tryd.prog G34):Holds Tryd.prog 34 ⟨ps34,rs34,false,runF TT G34 an34 Tryd.f34 c34 ps34 rs34⟩:=holds_of tt_ok hg mixed Tryd.func34 (by kernel_rfl) (by rfl) (by decide +kernel)
def tb34_0:ByteArray:=(ByteArray.mk #[(48:UInt8),(49:UInt8),(50:UInt8),(51:UInt8),(52:UInt8),(53:UInt8),(54:UInt8),(55:UInt8),(56:UInt8),(57:UInt8),(97:UInt8),(98:UInt8),(99:UInt8),(100:UInt8),(101:UInt8),(102:UInt8),(103:UInt8),(104:UInt8),(105:UInt8),(106:UInt8),(107:UInt8),(108:UInt8),(109:UInt8),(110:UInt8),(111:UInt8),(112:UInt8),(113:UInt8),(114:UInt8),(115:UInt8),(116:UInt8),(117:UInt8),(118:UInt8),(119:UInt8),(120:UInt8),(121:UInt8),(122:UInt8)])
def tb34_1:ByteArray:=(ByteArray.mk (([(48:UInt8),(48:UInt8),(48:UInt8),(49:UInt8),(48:UInt8),(50:UInt8),(48:UInt8),(51:UInt8),(48:UInt8),(52:UInt8),(48:UInt8),(53:UInt8),(48:UInt8),(54:UInt8),(48:UInt8),(55:UInt8),(48:UInt8),(56:UInt8),(48:UInt8),(57:UInt8),(49:UInt8),(48:UInt8),(49:UInt8),(49:UInt8),(49:UInt8),(50:UInt8),(49:UInt8),(51:UInt8),(49:UInt8),(52:UInt8),(49:UInt8),(53:UInt8),(49:UInt8),(54:UInt8),(49:UInt8),(55:UInt8),(49:UInt8),(56:UInt8),(49:UInt8),(57:UInt8),(50:UInt8),(48:UInt8),(50:UInt8),(49:UInt8),(50:UInt8),(50:UInt8),(50:UInt8),(51:UInt8),(50:UInt8),(52:UInt8)].append [(50:UInt8),(53:UInt8),(50:UInt8),(54:UInt8),(50:UInt8),(55:UInt8),(50:UInt8),(56:UInt8),(50:UInt8),(57:UInt8),(51:UInt8),(48:UInt8),(51:UInt8),(49:UInt8),(51:UInt8),(50:UInt8),(51:UInt8),(51:UInt8),(51:UInt8),(52:UInt8),(51:UInt8),(53:UInt8),(51:UInt8),(54:UInt8),(51:UInt8),(55:UInt8),(51:UInt8),(56:UInt8),(51:UInt8),(57:UInt8),(52:UInt8),(48:UInt8),(52:UInt8),(49:UInt8),(52:UInt8),(50:UInt8),(52:UInt8),(51:UInt8),(52:UInt8),(52:UInt8),(52:UInt8),(53:UInt8),(52:UInt8),(54:UInt8),(52:UInt8),(55:UInt8),(52:UInt8),(56:UInt8),(52:UInt8),(57:UInt8)]).append ([(53:UInt8),(48:UInt8),(53:UInt8),(49:UInt8),(53:UInt8),(50:UInt8),(53:UInt8),(51:UInt8),(53:UInt8),(52:UInt8),(53:UInt8),(53:UInt8),(53:UInt8),(54:UInt8),(53:UInt8),(55:UInt8),(53:UInt8),(56:UInt8),(53:UInt8),(57:UInt8),(54:UInt8),(48:UInt8),(54:UInt8),(49:UInt8),(54:UInt8),(50:UInt8),(54:UInt8),(51:UInt8),(54:UInt8),(52:UInt8),(54:UInt8),(53:UInt8),(54:UInt8),(54:UInt8),(54:UInt8),(55:UInt8),(54:UInt8),(56:UInt8),(54:UInt8),(57:UInt8),(55:UInt8),(48:UInt8),(55:UInt8),(49:UInt8),(55:UInt8),(50:UInt8),(55:UInt8),(51:UInt8),(55:UInt8),(52:UInt8)].append [(55:UInt8),(53:UInt8),(55:UInt8),(54:UInt8),(55:UInt8),(55:UInt8),(55:UInt8),(56:UInt8),(55:UInt8),(57:UInt8),(56:UInt8),(48:UInt8),(56:UInt8),(49:UInt8),(56:UInt8),(50:UInt8),(56:UInt8),(51:UInt8),(56:UInt8),(52:UInt8),(56:UInt8),(53:UInt8),(56:UInt8),(54:UInt8),(56:UInt8),(55:UInt8),(56:UInt8),(56:UInt8),(56:UInt8),(57:UInt8),(57:UInt8),(48:UInt8),(57:UInt8),(49:UInt8),(57:UInt8),(50:UInt8),(57:UInt8),(51:UInt8),(57:UInt8),(52:UInt8),(57:UInt8),(53:UInt8),(57:UInt8),(54:UInt8),(57:UInt8),(55:UInt8),(57:UInt8),(56:UInt8),(57:UInt8),(57:UInt8)])).toArray)
noncomputable def st34_top (n:Nat) (a:Int):Option R34 :=
 cond (decide (a < (10:Int))) (cond (decide ((0:Int)≤Go.IntKind.i64.wrap (a + (1:Int)))) (cond (decide (Go.IntKind.i64.wrap (a + (1:Int))≤(↑tb34_0.size:Int))) (cond (decide ((0:Int)≤a)) (cond (decide (a≤Go.IntKind.i64.wrap (a + (1:Int)))) (some ((tb34_0.extract a.toNat (Go.IntKind.i64.wrap (a + (1:Int))).toNat,()),())) (none)) (none)) (none)) (none)) (cond (decide ((0:Int)≤Go.IntKind.i64.wrap (Go.IntKind.i64.wrap (a * (2:Int)) + (2:Int)))) (cond (decide (Go.IntKind.i64.wrap (Go.IntKind.i64.wrap (a * (2:Int)) + (2:Int))≤(↑tb34_1.size:Int))) (cond (decide ((0:Int)≤Go.IntKind.i64.wrap (a * (2:Int)))) (cond (decide (Go.IntKind.i64.wrap (a * (2:Int))≤Go.IntKind.i64.wrap (Go.IntKind.i64.wrap (a * (2:Int)) + (2:Int)))) (some ((tb34_1.extract (Go.IntKind.i64.wrap (a * (2:Int))).toNat (Go.IntKind.i64.wrap (Go.IntKind.i64.wrap (a * (2:Int)) + (2:Int))).toNat,()),())) (none)) (none)) (none)) (none))
theorem e34_top (n:Nat) (a:Int):runF TT G34 an34 Tryd.f34 c34 ps34 rs34 n (a,())=st34_top n a:=by kernel_rfl
noncomputable def p34 (n:Nat) (a:Int):Option R34:=st34_top n a
theorem F34_eq (n:Nat) (a:Int):runF TT G34 an34 Tryd.f34 c34 ps34 rs34 n (a,())=p34 n a:=by
 rw [e34_top]
 skip
 try rfl
noncomputable def q34 (n:Nat) (x:argsD ps34):Option R34:=p34 n x.1
noncomputable def Sm34:Sm:=⟨ps34,rs34,false,q34⟩
theorem holds34 (hg:GamOK Tryd.prog G34):Holds Tryd.prog 34 Sm34:=by
 have:=h0_34 hg
 have e:(runF TT G34 an34 Tryd.f34 c34 ps34 rs34)=q34:=by
  funext n x
  exact F34_eq n x.1
 rw [e] at this
 exact this
theorem gam34:GamOK Tryd.prog G34:=fun _ _ h=>by cases h
theorem hh34:Holds Tryd.prog 34 Sm34:=holds34 gam34
end Go.Proofs.YtpcohpkflkhfbaaDoor.Rx.S

namespace Go.Proofs.YtpcohpkflkhfbaaDoor.Rx.S
open Go Go.RowKit Go.Proofs
set_option maxRecDepth 100000
noncomputable def c32:Code:=(Tryd.f32.body.getD .skip)
def an32:An:=⟨fun _=>⟨[],[]⟩,fun _ _=>none⟩
abbrev ps32:List PK:=[.val i64 false,.val i64 false]
abbrev rs32:List RK:=[.val .str false]
abbrev R32:=retsD rs32 × outsD ps32
noncomputable def G32:Gam:=fun f=>match f with | 34=>some Sm34 | _=>none
theorem h0_32 (hg:GamOK Tryd.prog G32):Holds Tryd.prog 32 ⟨ps32,rs32,false,runF TT G32 an32 Tryd.f32 c32 ps32 rs32⟩:=holds_of tt_ok hg mixed Tryd.func32 (by kernel_rfl) (by rfl) (by decide +kernel)
noncomputable def st32_top (n:Nat) (a:Int) (b:Int):Option R32 :=
 cond (decide (b=(10:Int))) (cond (decide ((0:Int)≤a)) (cond (decide (a < (100:Int))) ((q34 n (a,())).bind fun r0=>some ((r0.1.1,()),())) (none)) (none)) (none)
theorem e32_top (n:Nat) (a:Int) (b:Int):runF TT G32 an32 Tryd.f32 c32 ps32 rs32 n (a,b,())=st32_top n a b:=by kernel_rfl
noncomputable def p32 (n:Nat) (a:Int) (b:Int):Option R32:=st32_top n a b
theorem F32_eq (n:Nat) (a:Int) (b:Int):runF TT G32 an32 Tryd.f32 c32 ps32 rs32 n (a,b,())=p32 n a b:=by
 rw [e32_top]
 skip
 try rfl
noncomputable def q32 (n:Nat) (x:argsD ps32):Option R32:=p32 n x.1 x.2.1
noncomputable def Sm32:Sm:=⟨ps32,rs32,false,q32⟩
theorem holds32 (hg:GamOK Tryd.prog G32):Holds Tryd.prog 32 Sm32:=by
 have:=h0_32 hg
 have e:(runF TT G32 an32 Tryd.f32 c32 ps32 rs32)=q32:=by
  funext n x
  exact F32_eq n x.1 x.2.1
 rw [e] at this
 exact this
theorem gam32:GamOK Tryd.prog G32:=by
 intro f s h
 unfold G32 at h
 split at h
 ·injection h with h; subst h; exact ⟨⟨Tryd.f34,c34,Tryd.func34,by kernel_rfl,by decide +kernel⟩,hh34⟩
 ·cases h
theorem hh32:Holds Tryd.prog 32 Sm32:=holds32 gam32
end Go.Proofs.YtpcohpkflkhfbaaDoor.Rx.S

namespace Go.Proofs.YtpcohpkflkhfbaaDoor.Rx.S
open Go Go.RowKit Go.Proofs
set_option maxRecDepth 100000
noncomputable def c28:Code:=(Tryd.f28.body.getD .skip)
def an28:An:=⟨fun _=>⟨[],[]⟩,fun _ _=>none⟩
abbrev ps28:List PK:=[.val i64 false]
abbrev rs28:List RK:=[.val .str false]
abbrev R28:=retsD rs28 × outsD ps28
noncomputable def G28:Gam:=fun f=>match f with | 32=>some Sm32 | _=>none
theorem h0_28 (hg:GamOK Tryd.prog G28):Holds Tryd.prog 28 ⟨ps28,rs28,false,runF TT G28 an28 Tryd.f28 c28 ps28 rs28⟩:=holds_of tt_ok hg mixed Tryd.func28 (by kernel_rfl) (by rfl) (by decide +kernel)
noncomputable def st28_top (n:Nat) (a:Int):Option R28 :=
 (q32 n (a,(10:Int),())).bind fun r0=>some ((r0.1.1,()),())
theorem e28_top (n:Nat) (a:Int):runF TT G28 an28 Tryd.f28 c28 ps28 rs28 n (a,())=st28_top n a:=by kernel_rfl
noncomputable def p28 (n:Nat) (a:Int):Option R28:=st28_top n a
theorem F28_eq (n:Nat) (a:Int):runF TT G28 an28 Tryd.f28 c28 ps28 rs28 n (a,())=p28 n a:=by
 rw [e28_top]
 skip
 try rfl
noncomputable def q28 (n:Nat) (x:argsD ps28):Option R28:=p28 n x.1
noncomputable def Sm28:Sm:=⟨ps28,rs28,false,q28⟩
theorem holds28 (hg:GamOK Tryd.prog G28):Holds Tryd.prog 28 Sm28:=by
 have:=h0_28 hg
 have e:(runF TT G28 an28 Tryd.f28 c28 ps28 rs28)=q28:=by
  funext n x
  exact F28_eq n x.1
 rw [e] at this
 exact this
theorem gam28:GamOK Tryd.prog G28:=by
 intro f s h
 unfold G28 at h
 split at h
 ·injection h with h; subst h; exact ⟨⟨Tryd.f32,c32,Tryd.func32,by kernel_rfl,by decide +kernel⟩,hh32⟩
 ·cases h
theorem hh28:Holds Tryd.prog 28 Sm28:=holds28 gam28
end Go.Proofs.YtpcohpkflkhfbaaDoor.Rx.S

namespace Go.Proofs.YtpcohpkflkhfbaaDoor.Rx.S
open Go Go.RowKit Go.Proofs
set_option maxRecDepth 100000
noncomputable def c25:Code:=(Tryd.f25.body.getD .skip)
def an25:An:=⟨fun _=>⟨[],[]⟩,fun _ _=>none⟩
abbrev ps25:List PK:=[.val i64 false]
abbrev rs25:List RK:=[.val .str false]
abbrev R25:=retsD rs25 × outsD ps25
noncomputable def G25:Gam:=fun f=>match f with | 28=>some Sm28 | _=>none
theorem h0_25 (hg:GamOK Tryd.prog G25):Holds Tryd.prog 25 ⟨ps25,rs25,false,runF TT G25 an25 Tryd.f25 c25 ps25 rs25⟩:=holds_of tt_ok hg mixed Tryd.func25 (by kernel_rfl) (by rfl) (by decide +kernel)
noncomputable def st25_top (n:Nat) (a:Int):Option R25 :=
 (q28 n (a,())).bind fun r0=>some ((r0.1.1,()),())
theorem e25_top (n:Nat) (a:Int):runF TT G25 an25 Tryd.f25 c25 ps25 rs25 n (a,())=st25_top n a:=by kernel_rfl
noncomputable def p25 (n:Nat) (a:Int):Option R25:=st25_top n a
theorem F25_eq (n:Nat) (a:Int):runF TT G25 an25 Tryd.f25 c25 ps25 rs25 n (a,())=p25 n a:=by
 rw [e25_top]
 skip
 try rfl
noncomputable def q25 (n:Nat) (x:argsD ps25):Option R25:=p25 n x.1
noncomputable def Sm25:Sm:=⟨ps25,rs25,false,q25⟩
theorem holds25 (hg:GamOK Tryd.prog G25):Holds Tryd.prog 25 Sm25:=by
 have:=h0_25 hg
 have e:(runF TT G25 an25 Tryd.f25 c25 ps25 rs25)=q25:=by
  funext n x
  exact F25_eq n x.1
 rw [e] at this
 exact this
theorem gam25:GamOK Tryd.prog G25:=by
 intro f s h
 unfold G25 at h
 split at h
 ·injection h with h; subst h; exact ⟨⟨Tryd.f28,c28,Tryd.func28,by kernel_rfl,by decide +kernel⟩,hh28⟩
 ·cases h
theorem hh25:Holds Tryd.prog 25 Sm25:=holds25 gam25
end Go.Proofs.YtpcohpkflkhfbaaDoor.Rx.S

namespace Go.Proofs.YtpcohpkflkhfbaaDoor.Rx.S
open Go Go.RowKit Go.Proofs
set_option maxRecDepth 100000
noncomputable def c18:Code:=(Tryd.f18.body.getD .skip)
def an18:An:=⟨fun r=>match r with | 3=>⟨[1,3,12,13,14],[]⟩ | 11=>⟨[3,42,43,44],[]⟩ | _=>⟨[],[]⟩,fun _ _=>none⟩
abbrev ps18:List PK:=[.val tLk true]
abbrev rs18:List RK:=[.val .str false]
abbrev R18:=retsD rs18 × outsD ps18
noncomputable def G18:Gam:=fun f=>match f with | 25=>some Sm25 | _=>none
theorem h0_18 (hg:GamOK Tryd.prog G18):Holds Tryd.prog 18 ⟨ps18,rs18,false,runF TT G18 an18 Tryd.f18 c18 ps18 rs18⟩:=holds_of tt_ok hg mixed Tryd.func18 (by kernel_rfl) (by rfl) (by decide +kernel)
noncomputable def at18:Nat→Pt→List Nat→St→Option R18:=atF TT G18 an18 Tryd.f18 c18 _ _
def sh18_L11 (x0:ByteArray) (x1:List Int) (x2:Int) (x3:Int):St:=(St.mk (AV.undef :: (AV.undef :: (AV.undef :: ((AV.one (SV.str x0)) :: (AV.undef :: (AV.undef :: (AV.undef :: (AV.undef :: (AV.undef :: (AV.undef :: (AV.undef :: (AV.undef :: (AV.undef :: (AV.undef :: (AV.undef :: (AV.undef :: (AV.undef :: (AV.undef :: (AV.undef :: (AV.undef :: (AV.undef :: (AV.undef :: (AV.undef :: (AV.undef :: (AV.undef :: (AV.undef :: (AV.undef :: (AV.undef :: (AV.undef :: (AV.undef :: (AV.undef :: (AV.undef :: (AV.undef :: (AV.undef :: (AV.undef :: (AV.undef :: (AV.undef :: (AV.undef :: (AV.undef :: (AV.undef :: (AV.undef :: (AV.undef :: ((AV.one (SV.con (⟨3,Ty.int Go.IntKind.i64,x1⟩:Rw))) :: ((AV.one (SV.int (Go.IntKind.i64) x2)) :: ((AV.one (SV.int (Go.IntKind.i64) x3)) :: (AV.undef :: (AV.undef :: (AV.undef :: (AV.undef :: (AV.undef :: (AV.undef :: (AV.undef :: (AV.undef :: (AV.undef :: (AV.undef :: []))))))))))))))))))))))))))))))))))))))))))))))))))))))) [])
def sh18_L3 (x0:ByteArray) (x1:List (Int × Int × Int × Bool)) (x2:Int) (x3:Int) (x4:Int) (x5:List (Int × Int × Int × Bool)) (x6:List Int):St:=(St.mk (AV.undef :: ((AV.one (SV.bptr 1000000 0)) :: (AV.undef :: ((AV.one (SV.str x0)) :: (AV.undef :: (AV.undef :: (AV.undef :: (AV.undef :: (AV.undef :: (AV.undef :: (AV.undef :: (AV.undef :: ((AV.one (SV.con (⟨51,(Ty.int Go.IntKind.i64).pair ((Ty.int Go.IntKind.i64).pair ((Ty.int Go.IntKind.i64).pair Ty.bool)),x1⟩:Rw))) :: ((AV.one (SV.int (Go.IntKind.i64) x2)) :: ((AV.one (SV.int (Go.IntKind.i64) x3)) :: (AV.undef :: (AV.undef :: (AV.undef :: (AV.undef :: (AV.undef :: (AV.undef :: (AV.undef :: (AV.undef :: (AV.undef :: (AV.undef :: (AV.undef :: (AV.undef :: (AV.undef :: (AV.undef :: (AV.undef :: (AV.undef :: (AV.undef :: (AV.undef :: (AV.undef :: (AV.undef :: (AV.undef :: (AV.undef :: (AV.undef :: (AV.undef :: (AV.undef :: (AV.undef :: (AV.undef :: (AV.undef :: (AV.undef :: (AV.undef :: (AV.undef :: (AV.undef :: (AV.undef :: (AV.undef :: (AV.undef :: (AV.undef :: (AV.undef :: (AV.undef :: (AV.undef :: (AV.undef :: []))))))))))))))))))))))))))))))))))))))))))))))))))))))) ((1000000,(Ent.box ((SV.int (Go.IntKind.i64) x4) :: ((SV.con (⟨51,(Ty.int Go.IntKind.i64).pair ((Ty.int Go.IntKind.i64).pair ((Ty.int Go.IntKind.i64).pair Ty.bool)),x5⟩:Rw)) :: ((SV.con (⟨3,Ty.int Go.IntKind.i64,x6⟩:Rw)) :: []))))) :: []))
noncomputable def st18_top (n:Nat) (lL3:ByteArray→(List (Int × Int × Int × Bool))→Int→Int→Int→(List (Int × Int × Int × Bool))→(List Int)→Option R18) (a:Int × List (Int × Int × Int × Bool) × List Int):Option R18 :=
 (q25 n (a.1,())).bind fun r0=>lL3 (r0.1.1) (a.2.1) ((↑(List.length a.2.1):Int)) ((0:Int)) (a.1) (a.2.1) (a.2.2)
noncomputable def st18_L11 (n:Nat) (lL11:ByteArray→(List Int)→Int→Int→Option R18) (x0:ByteArray) (x1:List Int) (x2:Int) (x3:Int):Option R18 :=
 cond (decide (x3 < x2)) (cond (decide ((0:Int)≤x3)) (cond (decide (x3 < (↑x1.length:Int))) ((q25 n (x1.getD x3.toNat (0:Int),())).bind fun r6=>cond (decide (ByteArray.size r6.1.1 + (ByteArray.mk #[(44:UInt8)]).size≤(9223372036854775807:Nat))) (cond (decide (x0.size + (r6.1.1 ++ ByteArray.mk #[(44:UInt8)]).size≤(9223372036854775807:Nat))) (lL11 (x0 ++ (r6.1.1 ++ ByteArray.mk #[(44:UInt8)])) (x1) (x2) (Go.IntKind.i64.wrap (x3 + (1:Int)))) (none)) (none)) (none)) (none)) (some ((x0,()),()))
noncomputable def st18_L3 (n:Nat) (lL3:ByteArray→(List (Int × Int × Int × Bool))→Int→Int→Int→(List (Int × Int × Int × Bool))→(List Int)→Option R18) (lL11:ByteArray→(List Int)→Int→Int→Option R18) (x0:ByteArray) (x1:List (Int × Int × Int × Bool)) (x2:Int) (x3:Int) (x4:Int) (x5:List (Int × Int × Int × Bool)) (x6:List Int):Option R18 :=
 cond (decide (x3 < x2)) (cond (decide ((0:Int)≤x3)) (cond (decide (x3 < (↑x1.length:Int))) ((q25 n ((x1.getD x3.toNat ((0:Int),(0:Int),(0:Int),false)).1,())).bind fun r2=>cond (decide ((ByteArray.mk #[(32:UInt8)]).size + ByteArray.size r2.1.1≤(9223372036854775807:Nat))) (cond (decide ((ByteArray.mk #[(32:UInt8)] ++ r2.1.1).size + (ByteArray.mk #[(44:UInt8)]).size≤(9223372036854775807:Nat))) ((q25 n ((x1.getD x3.toNat ((0:Int),(0:Int),(0:Int),false)).2.1,())).bind fun r3=>cond (decide ((ByteArray.mk #[(32:UInt8)] ++ r2.1.1 ++ ByteArray.mk #[(44:UInt8)]).size + ByteArray.size r3.1.1≤(9223372036854775807:Nat))) (cond (decide ((ByteArray.mk #[(32:UInt8)] ++ r2.1.1 ++ ByteArray.mk #[(44:UInt8)] ++ r3.1.1).size + (ByteArray.mk #[(44:UInt8)]).size≤(9223372036854775807:Nat))) ((q25 n ((x1.getD x3.toNat ((0:Int),(0:Int),(0:Int),false)).2.2.1,())).bind fun r4=>cond (decide ((ByteArray.mk #[(32:UInt8)] ++ r2.1.1 ++ ByteArray.mk #[(44:UInt8)] ++ r3.1.1 ++ ByteArray.mk #[(44:UInt8)]).size + ByteArray.size r4.1.1≤(9223372036854775807:Nat))) (cond (decide (x0.size + (ByteArray.mk #[(32:UInt8)] ++ r2.1.1 ++ ByteArray.mk #[(44:UInt8)] ++ r3.1.1 ++ ByteArray.mk #[(44:UInt8)] ++ r4.1.1).size≤(9223372036854775807:Nat))) (cond ((x1.getD x3.toNat ((0:Int),(0:Int),(0:Int),false)).2.2.2) (cond (decide ((x0 ++ (ByteArray.mk #[(32:UInt8)] ++ r2.1.1 ++ ByteArray.mk #[(44:UInt8)] ++ r3.1.1 ++ ByteArray.mk #[(44:UInt8)] ++ r4.1.1)).size + (ByteArray.mk #[(122:UInt8)]).size≤(9223372036854775807:Nat))) (lL3 (x0 ++ (ByteArray.mk #[(32:UInt8)] ++ r2.1.1 ++ ByteArray.mk #[(44:UInt8)] ++ r3.1.1 ++ ByteArray.mk #[(44:UInt8)] ++ r4.1.1) ++ ByteArray.mk #[(122:UInt8)]) (x1) (x2) (Go.IntKind.i64.wrap (x3 + (1:Int))) (x4) (x5) (x6)) (none)) (lL3 (x0 ++ (ByteArray.mk #[(32:UInt8)] ++ r2.1.1 ++ ByteArray.mk #[(44:UInt8)] ++ r3.1.1 ++ ByteArray.mk #[(44:UInt8)] ++ r4.1.1)) (x1) (x2) (Go.IntKind.i64.wrap (x3 + (1:Int))) (x4) (x5) (x6))) (none)) (none)) (none)) (none)) (none)) (none)) (none)) (none)) (cond (decide (x0.size + (ByteArray.mk #[(58:UInt8)]).size≤(9223372036854775807:Nat))) (lL11 (x0 ++ ByteArray.mk #[(58:UInt8)]) (x6) ((↑x6.length:Int)) ((0:Int))) (none))
theorem e18_top (n:Nat) (a:Int × List (Int × Int × Int × Bool) × List Int):runF TT G18 an18 Tryd.f18 c18 ps18 rs18 n (a,())=st18_top n (fun x0 x1 x2 x3 x4 x5 x6=>at18 n (.head 3) [n] (sh18_L3 x0 x1 x2 x3 x4 x5 x6)) a:=by kernel_rfl
theorem e18_L11_0 (n:Nat) (x0:ByteArray) (x1:List Int) (x2:Int) (x3:Int):at18 n (.head 11) [0] (sh18_L11 x0 x1 x2 x3)=none:=by kernel_rfl
theorem e18_L11 (n:Nat) (m11:Nat) (x0:ByteArray) (x1:List Int) (x2:Int) (x3:Int):at18 n (.head 11) [m11 + 1] (sh18_L11 x0 x1 x2 x3)=st18_L11 n (fun x0 x1 x2 x3=>at18 n (.head 11) [m11] (sh18_L11 x0 x1 x2 x3)) x0 x1 x2 x3:=by kernel_rfl
theorem e18_L3_0 (n:Nat) (x0:ByteArray) (x1:List (Int × Int × Int × Bool)) (x2:Int) (x3:Int) (x4:Int) (x5:List (Int × Int × Int × Bool)) (x6:List Int):at18 n (.head 3) [0] (sh18_L3 x0 x1 x2 x3 x4 x5 x6)=none:=by kernel_rfl
theorem e18_L3 (n:Nat) (m3:Nat) (x0:ByteArray) (x1:List (Int × Int × Int × Bool)) (x2:Int) (x3:Int) (x4:Int) (x5:List (Int × Int × Int × Bool)) (x6:List Int):at18 n (.head 3) [m3 + 1] (sh18_L3 x0 x1 x2 x3 x4 x5 x6)=st18_L3 n (fun x0 x1 x2 x3 x4 x5 x6=>at18 n (.head 3) [m3] (sh18_L3 x0 x1 x2 x3 x4 x5 x6)) (fun x0 x1 x2 x3=>at18 n (.head 11) [n] (sh18_L11 x0 x1 x2 x3)) x0 x1 x2 x3 x4 x5 x6:=by kernel_rfl
noncomputable def p18_L11 (n:Nat):Nat→ByteArray→(List Int)→Int→Int→Option R18
 | 0,_,_,_,_=>none
 | m + 1,x0,x1,x2,x3=>st18_L11 n (p18_L11 n m) x0 x1 x2 x3
noncomputable def p18_L3 (n:Nat):Nat→ByteArray→(List (Int × Int × Int × Bool))→Int→Int→Int→(List (Int × Int × Int × Bool))→(List Int)→Option R18
 | 0,_,_,_,_,_,_,_=>none
 | m + 1,x0,x1,x2,x3,x4,x5,x6=>st18_L3 n (p18_L3 n m) (p18_L11 n n) x0 x1 x2 x3 x4 x5 x6
noncomputable def p18 (n:Nat) (a:Int × List (Int × Int × Int × Bool) × List Int):Option R18:=st18_top n (p18_L3 n n) a
theorem t18_L11 (n:Nat):∀ (m11:Nat) (x0:ByteArray) (x1:List Int) (x2:Int) (x3:Int),at18 n (.head 11) [m11] (sh18_L11 x0 x1 x2 x3)=p18_L11 n m11 x0 x1 x2 x3:=by
 intro m
 induction m with
 | zero=>intros; rw [e18_L11_0]; rfl
 | succ m ih =>
  intros
  rw [e18_L11]
  try simp only [ih]
  rfl
theorem t18_L3 (n:Nat):∀ (m3:Nat) (x0:ByteArray) (x1:List (Int × Int × Int × Bool)) (x2:Int) (x3:Int) (x4:Int) (x5:List (Int × Int × Int × Bool)) (x6:List Int),at18 n (.head 3) [m3] (sh18_L3 x0 x1 x2 x3 x4 x5 x6)=p18_L3 n m3 x0 x1 x2 x3 x4 x5 x6:=by
 intro m
 induction m with
 | zero=>intros; rw [e18_L3_0]; rfl
 | succ m ih =>
  intros
  rw [e18_L3]
  try simp only [t18_L11,ih]
  rfl
theorem F18_eq (n:Nat) (a:Int × List (Int × Int × Int × Bool) × List Int):runF TT G18 an18 Tryd.f18 c18 ps18 rs18 n (a,())=p18 n a:=by
 rw [e18_top]
 simp only [t18_L3]
 try rfl
noncomputable def q18 (n:Nat) (x:argsD ps18):Option R18:=p18 n x.1
noncomputable def Sm18:Sm:=⟨ps18,rs18,false,q18⟩
theorem holds18 (hg:GamOK Tryd.prog G18):Holds Tryd.prog 18 Sm18:=by
 have:=h0_18 hg
 have e:(runF TT G18 an18 Tryd.f18 c18 ps18 rs18)=q18:=by
  funext n x
  exact F18_eq n x.1
 rw [e] at this
 exact this
theorem gam18:GamOK Tryd.prog G18:=by
 intro f s h
 unfold G18 at h
 split at h
 ·injection h with h; subst h; exact ⟨⟨Tryd.f25,c25,Tryd.func25,by kernel_rfl,by decide +kernel⟩,hh25⟩
 ·cases h
theorem hh18:Holds Tryd.prog 18 Sm18:=holds18 gam18
end Go.Proofs.YtpcohpkflkhfbaaDoor.Rx.S

namespace Go.Proofs.YtpcohpkflkhfbaaDoor.Rx.S
open Go Go.RowKit Go.Proofs
set_option maxRecDepth 100000
noncomputable def c33:Code:=(Tryd.f33.body.getD .skip)
def an33:An:=⟨fun r=>match r with | 2=>⟨[0,1,7,8],[]⟩ | _=>⟨[],[]⟩,fun _ _=>none⟩
abbrev ps33:List PK:=[.val (.row 3 i64) false,.val i64 false]
abbrev rs33:List RK:=[.val i64 false]
abbrev R33:=retsD rs33 × outsD ps33
noncomputable def G33:Gam:=fun _=>none
theorem h0_33 (hg:GamOK Tryd.prog G33):Holds Tryd.prog 33 ⟨ps33,rs33,false,runF TT G33 an33 Tryd.f33 c33 ps33 rs33⟩:=holds_of tt_ok hg mixed Tryd.func33 (by kernel_rfl) (by rfl) (by decide +kernel)
noncomputable def at33:Nat→Pt→List Nat→St→Option R33:=atF TT G33 an33 Tryd.f33 c33 _ _
def sh33_L2 (x0:List Int) (x1:Int) (x2:Int) (x3:Int):St:=(St.mk ((AV.one (SV.con (⟨3,Ty.int Go.IntKind.i64,x0⟩:Rw))) :: ((AV.one (SV.int (Go.IntKind.i64) x1)) :: (AV.undef :: (AV.undef :: (AV.undef :: (AV.undef :: (AV.undef :: ((AV.one (SV.int (Go.IntKind.i64) x2)) :: ((AV.one (SV.int (Go.IntKind.i64) x3)) :: (AV.undef :: (AV.undef :: (AV.undef :: (AV.undef :: (AV.undef :: (AV.undef :: (AV.undef :: (AV.undef :: (AV.undef :: (AV.undef :: []))))))))))))))))))) [])
noncomputable def st33_top (n:Nat) (lL2:(List Int)→Int→Int→Int→Option R33) (a:List Int) (b:Int):Option R33 :=
 lL2 (a) (b) ((↑a.length:Int)) ((0:Int))
noncomputable def st33_L2 (n:Nat) (lL2:(List Int)→Int→Int→Int→Option R33) (x0:List Int) (x1:Int) (x2:Int) (x3:Int):Option R33 :=
 cond (decide (x3 < x2)) (cond (decide ((0:Int)≤x3)) (cond (decide (x3 < (↑x0.length:Int))) (cond (decide (x1=x0.getD x3.toNat (0:Int))) (some ((x3,()),())) (lL2 (x0) (x1) (x2) (Go.IntKind.i64.wrap (x3 + (1:Int))))) (none)) (none)) (some (((-1:Int),()),()))
theorem e33_top (n:Nat) (a:List Int) (b:Int):runF TT G33 an33 Tryd.f33 c33 ps33 rs33 n (a,b,())=st33_top n (fun x0 x1 x2 x3=>at33 n (.head 2) [n] (sh33_L2 x0 x1 x2 x3)) a b:=by kernel_rfl
theorem e33_L2_0 (n:Nat) (x0:List Int) (x1:Int) (x2:Int) (x3:Int):at33 n (.head 2) [0] (sh33_L2 x0 x1 x2 x3)=none:=by kernel_rfl
theorem e33_L2 (n:Nat) (m2:Nat) (x0:List Int) (x1:Int) (x2:Int) (x3:Int):at33 n (.head 2) [m2 + 1] (sh33_L2 x0 x1 x2 x3)=st33_L2 n (fun x0 x1 x2 x3=>at33 n (.head 2) [m2] (sh33_L2 x0 x1 x2 x3)) x0 x1 x2 x3:=by kernel_rfl
noncomputable def p33_L2 (n:Nat):Nat→(List Int)→Int→Int→Int→Option R33
 | 0,_,_,_,_=>none
 | m + 1,x0,x1,x2,x3=>st33_L2 n (p33_L2 n m) x0 x1 x2 x3
noncomputable def p33 (n:Nat) (a:List Int) (b:Int):Option R33:=st33_top n (p33_L2 n n) a b
theorem t33_L2 (n:Nat):∀ (m2:Nat) (x0:List Int) (x1:Int) (x2:Int) (x3:Int),at33 n (.head 2) [m2] (sh33_L2 x0 x1 x2 x3)=p33_L2 n m2 x0 x1 x2 x3:=by
 intro m
 induction m with
 | zero=>intros; rw [e33_L2_0]; rfl
 | succ m ih =>
  intros
  rw [e33_L2]
  try simp only [ih]
  rfl
theorem F33_eq (n:Nat) (a:List Int) (b:Int):runF TT G33 an33 Tryd.f33 c33 ps33 rs33 n (a,b,())=p33 n a b:=by
 rw [e33_top]
 simp only [t33_L2]
 try rfl
noncomputable def q33 (n:Nat) (x:argsD ps33):Option R33:=p33 n x.1 x.2.1
noncomputable def Sm33:Sm:=⟨ps33,rs33,false,q33⟩
theorem holds33 (hg:GamOK Tryd.prog G33):Holds Tryd.prog 33 Sm33:=by
 have:=h0_33 hg
 have e:(runF TT G33 an33 Tryd.f33 c33 ps33 rs33)=q33:=by
  funext n x
  exact F33_eq n x.1 x.2.1
 rw [e] at this
 exact this
theorem gam33:GamOK Tryd.prog G33:=fun _ _ h=>by cases h
theorem hh33:Holds Tryd.prog 33 Sm33:=holds33 gam33
end Go.Proofs.YtpcohpkflkhfbaaDoor.Rx.S

namespace Go.Proofs.YtpcohpkflkhfbaaDoor.Rx.S
open Go Go.RowKit Go.Proofs
set_option maxRecDepth 100000
noncomputable def c29:Code:=(Tryd.f29.body.getD .skip)
def an29:An:=⟨fun _=>⟨[],[]⟩,fun _ _=>none⟩
abbrev ps29:List PK:=[.val (.row 3 i64) false,.val i64 false]
abbrev rs29:List RK:=[.val .bool false]
abbrev R29:=retsD rs29 × outsD ps29
noncomputable def G29:Gam:=fun f=>match f with | 33=>some Sm33 | _=>none
theorem h0_29 (hg:GamOK Tryd.prog G29):Holds Tryd.prog 29 ⟨ps29,rs29,false,runF TT G29 an29 Tryd.f29 c29 ps29 rs29⟩:=holds_of tt_ok hg mixed Tryd.func29 (by kernel_rfl) (by rfl) (by decide +kernel)
noncomputable def st29_top (n:Nat) (a:List Int) (b:Int):Option R29 :=
 (q33 n (a,b,())).bind fun r0=>some ((decide ((0:Int)≤r0.1.1),()),())
theorem e29_top (n:Nat) (a:List Int) (b:Int):runF TT G29 an29 Tryd.f29 c29 ps29 rs29 n (a,b,())=st29_top n a b:=by kernel_rfl
noncomputable def p29 (n:Nat) (a:List Int) (b:Int):Option R29:=st29_top n a b
theorem F29_eq (n:Nat) (a:List Int) (b:Int):runF TT G29 an29 Tryd.f29 c29 ps29 rs29 n (a,b,())=p29 n a b:=by
 rw [e29_top]
 skip
 try rfl
noncomputable def q29 (n:Nat) (x:argsD ps29):Option R29:=p29 n x.1 x.2.1
noncomputable def Sm29:Sm:=⟨ps29,rs29,false,q29⟩
theorem holds29 (hg:GamOK Tryd.prog G29):Holds Tryd.prog 29 Sm29:=by
 have:=h0_29 hg
 have e:(runF TT G29 an29 Tryd.f29 c29 ps29 rs29)=q29:=by
  funext n x
  exact F29_eq n x.1 x.2.1
 rw [e] at this
 exact this
theorem gam29:GamOK Tryd.prog G29:=by
 intro f s h
 unfold G29 at h
 split at h
 ·injection h with h; subst h; exact ⟨⟨Tryd.f33,c33,Tryd.func33,by kernel_rfl,by decide +kernel⟩,hh33⟩
 ·cases h
theorem hh29:Holds Tryd.prog 29 Sm29:=holds29 gam29
end Go.Proofs.YtpcohpkflkhfbaaDoor.Rx.S

namespace Go.Proofs.YtpcohpkflkhfbaaDoor.Rx.S
open Go Go.RowKit Go.Proofs
set_option maxRecDepth 100000
noncomputable def c26:Code:=(Tryd.f26.body.getD .skip)
def an26:An:=⟨fun r=>match r with | 5=>⟨[1,3,18,19,20],[]⟩ | _=>⟨[],[]⟩,fun _ _=>none⟩
abbrev ps26:List PK:=[.val tLk true]
abbrev rs26:List RK:=[.val .bool false]
abbrev R26:=retsD rs26 × outsD ps26
noncomputable def G26:Gam:=fun f=>match f with | 16=>some Sm16 | 29=>some Sm29 | _=>none
theorem h0_26 (hg:GamOK Tryd.prog G26):Holds Tryd.prog 26 ⟨ps26,rs26,false,runF TT G26 an26 Tryd.f26 c26 ps26 rs26⟩:=holds_of tt_ok hg mixed Tryd.func26 (by kernel_rfl) (by rfl) (by decide +kernel)
noncomputable def at26:Nat→Pt→List Nat→St→Option R26:=atF TT G26 an26 Tryd.f26 c26 _ _
def sh26_L5 (x0:Int) (x1:List (Int × Int × Int × Bool)) (x2:Int) (x3:Int) (x4:Int) (x5:List (Int × Int × Int × Bool)) (x6:List Int):St:=(St.mk (AV.undef :: ((AV.one (SV.bptr 1000000 0)) :: (AV.undef :: ((AV.one (SV.int (Go.IntKind.i64) x0)) :: (AV.undef :: (AV.undef :: (AV.undef :: (AV.undef :: (AV.undef :: (AV.undef :: (AV.undef :: (AV.undef :: (AV.undef :: (AV.undef :: (AV.undef :: (AV.undef :: (AV.undef :: (AV.undef :: ((AV.one (SV.con (⟨51,(Ty.int Go.IntKind.i64).pair ((Ty.int Go.IntKind.i64).pair ((Ty.int Go.IntKind.i64).pair Ty.bool)),x1⟩:Rw))) :: ((AV.one (SV.int (Go.IntKind.i64) x2)) :: ((AV.one (SV.int (Go.IntKind.i64) x3)) :: (AV.undef :: (AV.undef :: (AV.undef :: (AV.undef :: (AV.undef :: (AV.undef :: (AV.undef :: (AV.undef :: (AV.undef :: (AV.undef :: (AV.undef :: (AV.undef :: (AV.undef :: (AV.undef :: (AV.undef :: (AV.undef :: (AV.undef :: (AV.undef :: (AV.undef :: (AV.undef :: (AV.undef :: (AV.undef :: (AV.undef :: (AV.undef :: (AV.undef :: (AV.undef :: (AV.undef :: (AV.undef :: (AV.undef :: (AV.undef :: (AV.undef :: (AV.undef :: (AV.undef :: (AV.undef :: (AV.undef :: (AV.undef :: (AV.undef :: (AV.undef :: (AV.undef :: (AV.undef :: (AV.undef :: (AV.undef :: (AV.undef :: (AV.undef :: (AV.undef :: (AV.undef :: (AV.undef :: (AV.undef :: (AV.undef :: (AV.undef :: (AV.undef :: (AV.undef :: (AV.undef :: (AV.undef :: (AV.undef :: (AV.undef :: (AV.undef :: (AV.undef :: (AV.undef :: (AV.undef :: (AV.undef :: (AV.undef :: (AV.undef :: (AV.undef :: (AV.undef :: (AV.undef :: []))))))))))))))))))))))))))))))))))))))))))))))))))))))))))))))))))))))))))))))))))))))) ((1000000,(Ent.box ((SV.int (Go.IntKind.i64) x4) :: ((SV.con (⟨51,(Ty.int Go.IntKind.i64).pair ((Ty.int Go.IntKind.i64).pair ((Ty.int Go.IntKind.i64).pair Ty.bool)),x5⟩:Rw)) :: ((SV.con (⟨3,Ty.int Go.IntKind.i64,x6⟩:Rw)) :: []))))) :: []))
noncomputable def st26_top (n:Nat) (lL5:Int→(List (Int × Int × Int × Bool))→Int→Int→Int→(List (Int × Int × Int × Bool))→(List Int)→Option R26) (a:Int × List (Int × Int × Int × Bool) × List Int):Option R26 :=
 (q16 n (a.1,(0:Int),(2:Int),())).bind fun r0=>cond (!r0.1.1) (some ((false,()),())) ((q16 n ((↑(List.length a.2.1):Int),(1:Int),(4:Int),())).bind fun r1=>cond (!r1.1.1) (some ((false,()),())) (lL5 ((0:Int)) (a.2.1) ((↑(List.length a.2.1):Int)) ((0:Int)) (a.1) (a.2.1) (a.2.2)))
noncomputable def st26_L5 (n:Nat) (lL5:Int→(List (Int × Int × Int × Bool))→Int→Int→Int→(List (Int × Int × Int × Bool))→(List Int)→Option R26) (x0:Int) (x1:List (Int × Int × Int × Bool)) (x2:Int) (x3:Int) (x4:Int) (x5:List (Int × Int × Int × Bool)) (x6:List Int):Option R26 :=
 cond (decide (x3 < x2)) (cond (decide ((0:Int)≤x3)) (cond (decide (x3 < (↑x1.length:Int))) ((q16 n ((x1.getD x3.toNat ((0:Int),(0:Int),(0:Int),false)).1,(0:Int),(6:Int),())).bind fun r3=>cond (!r3.1.1) (some ((false,()),())) ((q16 n ((x1.getD x3.toNat ((0:Int),(0:Int),(0:Int),false)).2.1,(0:Int),(2:Int),())).bind fun r4=>cond (!r4.1.1) (some ((false,()),())) (cond (decide ((0:Int) < (x1.getD x3.toNat ((0:Int),(0:Int),(0:Int),false)).2.1)) (cond (!decide ((x1.getD x3.toNat ((0:Int),(0:Int),(0:Int),false)).1=(1:Int))) (some ((false,()),())) ((q16 n ((x1.getD x3.toNat ((0:Int),(0:Int),(0:Int),false)).2.2.1,(0:Int),(3:Int),())).bind fun r5=>cond (!r5.1.1) (some ((false,()),())) (cond (decide ((0:Int) < (x1.getD x3.toNat ((0:Int),(0:Int),(0:Int),false)).1)) (cond (decide ((x1.getD x3.toNat ((0:Int),(0:Int),(0:Int),false)).2.2.1=(0:Int))) (some ((false,()),())) (cond ((x1.getD x3.toNat ((0:Int),(0:Int),(0:Int),false)).2.2.2) (cond (!decide ((x1.getD x3.toNat ((0:Int),(0:Int),(0:Int),false)).1=(3:Int))) (some ((false,()),())) (cond ((x1.getD x3.toNat ((0:Int),(0:Int),(0:Int),false)).2.2.2) ((q29 n (x6,x3,())).bind fun r6=>cond (!(x1.getD x3.toNat ((0:Int),(0:Int),(0:Int),false)).2.2.2 == r6.1.1) (some ((false,()),())) (lL5 (Go.IntKind.i64.wrap (x0 + (1:Int))) (x1) (x2) (Go.IntKind.i64.wrap (x3 + (1:Int))) (x4) (x5) (x6))) ((q29 n (x6,x3,())).bind fun r7=>cond (!(x1.getD x3.toNat ((0:Int),(0:Int),(0:Int),false)).2.2.2 == r7.1.1) (some ((false,()),())) (lL5 (x0) (x1) (x2) (Go.IntKind.i64.wrap (x3 + (1:Int))) (x4) (x5) (x6))))) (cond ((x1.getD x3.toNat ((0:Int),(0:Int),(0:Int),false)).2.2.2) ((q29 n (x6,x3,())).bind fun r8=>cond (!(x1.getD x3.toNat ((0:Int),(0:Int),(0:Int),false)).2.2.2 == r8.1.1) (some ((false,()),())) (lL5 (Go.IntKind.i64.wrap (x0 + (1:Int))) (x1) (x2) (Go.IntKind.i64.wrap (x3 + (1:Int))) (x4) (x5) (x6))) ((q29 n (x6,x3,())).bind fun r9=>cond (!(x1.getD x3.toNat ((0:Int),(0:Int),(0:Int),false)).2.2.2 == r9.1.1) (some ((false,()),())) (lL5 (x0) (x1) (x2) (Go.IntKind.i64.wrap (x3 + (1:Int))) (x4) (x5) (x6)))))) (cond ((x1.getD x3.toNat ((0:Int),(0:Int),(0:Int),false)).2.2.2) (cond (!decide ((x1.getD x3.toNat ((0:Int),(0:Int),(0:Int),false)).1=(3:Int))) (some ((false,()),())) (cond ((x1.getD x3.toNat ((0:Int),(0:Int),(0:Int),false)).2.2.2) ((q29 n (x6,x3,())).bind fun r10=>cond (!(x1.getD x3.toNat ((0:Int),(0:Int),(0:Int),false)).2.2.2 == r10.1.1) (some ((false,()),())) (lL5 (Go.IntKind.i64.wrap (x0 + (1:Int))) (x1) (x2) (Go.IntKind.i64.wrap (x3 + (1:Int))) (x4) (x5) (x6))) ((q29 n (x6,x3,())).bind fun r11=>cond (!(x1.getD x3.toNat ((0:Int),(0:Int),(0:Int),false)).2.2.2 == r11.1.1) (some ((false,()),())) (lL5 (x0) (x1) (x2) (Go.IntKind.i64.wrap (x3 + (1:Int))) (x4) (x5) (x6))))) (cond ((x1.getD x3.toNat ((0:Int),(0:Int),(0:Int),false)).2.2.2) ((q29 n (x6,x3,())).bind fun r12=>cond (!(x1.getD x3.toNat ((0:Int),(0:Int),(0:Int),false)).2.2.2 == r12.1.1) (some ((false,()),())) (lL5 (Go.IntKind.i64.wrap (x0 + (1:Int))) (x1) (x2) (Go.IntKind.i64.wrap (x3 + (1:Int))) (x4) (x5) (x6))) ((q29 n (x6,x3,())).bind fun r13=>cond (!(x1.getD x3.toNat ((0:Int),(0:Int),(0:Int),false)).2.2.2 == r13.1.1) (some ((false,()),())) (lL5 (x0) (x1) (x2) (Go.IntKind.i64.wrap (x3 + (1:Int))) (x4) (x5) (x6)))))))) ((q16 n ((x1.getD x3.toNat ((0:Int),(0:Int),(0:Int),false)).2.2.1,(0:Int),(3:Int),())).bind fun r14=>cond (!r14.1.1) (some ((false,()),())) (cond (decide ((0:Int) < (x1.getD x3.toNat ((0:Int),(0:Int),(0:Int),false)).1)) (cond (decide ((x1.getD x3.toNat ((0:Int),(0:Int),(0:Int),false)).2.2.1=(0:Int))) (some ((false,()),())) (cond ((x1.getD x3.toNat ((0:Int),(0:Int),(0:Int),false)).2.2.2) (cond (!decide ((x1.getD x3.toNat ((0:Int),(0:Int),(0:Int),false)).1=(3:Int))) (some ((false,()),())) (cond ((x1.getD x3.toNat ((0:Int),(0:Int),(0:Int),false)).2.2.2) ((q29 n (x6,x3,())).bind fun r15=>cond (!(x1.getD x3.toNat ((0:Int),(0:Int),(0:Int),false)).2.2.2 == r15.1.1) (some ((false,()),())) (lL5 (Go.IntKind.i64.wrap (x0 + (1:Int))) (x1) (x2) (Go.IntKind.i64.wrap (x3 + (1:Int))) (x4) (x5) (x6))) ((q29 n (x6,x3,())).bind fun r16=>cond (!(x1.getD x3.toNat ((0:Int),(0:Int),(0:Int),false)).2.2.2 == r16.1.1) (some ((false,()),())) (lL5 (x0) (x1) (x2) (Go.IntKind.i64.wrap (x3 + (1:Int))) (x4) (x5) (x6))))) (cond ((x1.getD x3.toNat ((0:Int),(0:Int),(0:Int),false)).2.2.2) ((q29 n (x6,x3,())).bind fun r17=>cond (!(x1.getD x3.toNat ((0:Int),(0:Int),(0:Int),false)).2.2.2 == r17.1.1) (some ((false,()),())) (lL5 (Go.IntKind.i64.wrap (x0 + (1:Int))) (x1) (x2) (Go.IntKind.i64.wrap (x3 + (1:Int))) (x4) (x5) (x6))) ((q29 n (x6,x3,())).bind fun r18=>cond (!(x1.getD x3.toNat ((0:Int),(0:Int),(0:Int),false)).2.2.2 == r18.1.1) (some ((false,()),())) (lL5 (x0) (x1) (x2) (Go.IntKind.i64.wrap (x3 + (1:Int))) (x4) (x5) (x6)))))) (cond ((x1.getD x3.toNat ((0:Int),(0:Int),(0:Int),false)).2.2.2) (cond (!decide ((x1.getD x3.toNat ((0:Int),(0:Int),(0:Int),false)).1=(3:Int))) (some ((false,()),())) (cond ((x1.getD x3.toNat ((0:Int),(0:Int),(0:Int),false)).2.2.2) ((q29 n (x6,x3,())).bind fun r19=>cond (!(x1.getD x3.toNat ((0:Int),(0:Int),(0:Int),false)).2.2.2 == r19.1.1) (some ((false,()),())) (lL5 (Go.IntKind.i64.wrap (x0 + (1:Int))) (x1) (x2) (Go.IntKind.i64.wrap (x3 + (1:Int))) (x4) (x5) (x6))) ((q29 n (x6,x3,())).bind fun r20=>cond (!(x1.getD x3.toNat ((0:Int),(0:Int),(0:Int),false)).2.2.2 == r20.1.1) (some ((false,()),())) (lL5 (x0) (x1) (x2) (Go.IntKind.i64.wrap (x3 + (1:Int))) (x4) (x5) (x6))))) (cond ((x1.getD x3.toNat ((0:Int),(0:Int),(0:Int),false)).2.2.2) ((q29 n (x6,x3,())).bind fun r21=>cond (!(x1.getD x3.toNat ((0:Int),(0:Int),(0:Int),false)).2.2.2 == r21.1.1) (some ((false,()),())) (lL5 (Go.IntKind.i64.wrap (x0 + (1:Int))) (x1) (x2) (Go.IntKind.i64.wrap (x3 + (1:Int))) (x4) (x5) (x6))) ((q29 n (x6,x3,())).bind fun r22=>cond (!(x1.getD x3.toNat ((0:Int),(0:Int),(0:Int),false)).2.2.2 == r22.1.1) (some ((false,()),())) (lL5 (x0) (x1) (x2) (Go.IntKind.i64.wrap (x3 + (1:Int))) (x4) (x5) (x6)))))))))) (none)) (none)) (some ((decide (x0=(↑x6.length:Int)),()),()))
theorem e26_top (n:Nat) (a:Int × List (Int × Int × Int × Bool) × List Int):runF TT G26 an26 Tryd.f26 c26 ps26 rs26 n (a,())=st26_top n (fun x0 x1 x2 x3 x4 x5 x6=>at26 n (.head 5) [n] (sh26_L5 x0 x1 x2 x3 x4 x5 x6)) a:=by kernel_rfl
theorem e26_L5_0 (n:Nat) (x0:Int) (x1:List (Int × Int × Int × Bool)) (x2:Int) (x3:Int) (x4:Int) (x5:List (Int × Int × Int × Bool)) (x6:List Int):at26 n (.head 5) [0] (sh26_L5 x0 x1 x2 x3 x4 x5 x6)=none:=by kernel_rfl
theorem e26_L5 (n:Nat) (m5:Nat) (x0:Int) (x1:List (Int × Int × Int × Bool)) (x2:Int) (x3:Int) (x4:Int) (x5:List (Int × Int × Int × Bool)) (x6:List Int):at26 n (.head 5) [m5 + 1] (sh26_L5 x0 x1 x2 x3 x4 x5 x6)=st26_L5 n (fun x0 x1 x2 x3 x4 x5 x6=>at26 n (.head 5) [m5] (sh26_L5 x0 x1 x2 x3 x4 x5 x6)) x0 x1 x2 x3 x4 x5 x6:=by kernel_rfl
noncomputable def p26_L5 (n:Nat):Nat→Int→(List (Int × Int × Int × Bool))→Int→Int→Int→(List (Int × Int × Int × Bool))→(List Int)→Option R26
 | 0,_,_,_,_,_,_,_=>none
 | m + 1,x0,x1,x2,x3,x4,x5,x6=>st26_L5 n (p26_L5 n m) x0 x1 x2 x3 x4 x5 x6
noncomputable def p26 (n:Nat) (a:Int × List (Int × Int × Int × Bool) × List Int):Option R26:=st26_top n (p26_L5 n n) a
theorem t26_L5 (n:Nat):∀ (m5:Nat) (x0:Int) (x1:List (Int × Int × Int × Bool)) (x2:Int) (x3:Int) (x4:Int) (x5:List (Int × Int × Int × Bool)) (x6:List Int),at26 n (.head 5) [m5] (sh26_L5 x0 x1 x2 x3 x4 x5 x6)=p26_L5 n m5 x0 x1 x2 x3 x4 x5 x6:=by
 intro m
 induction m with
 | zero=>intros; rw [e26_L5_0]; rfl
 | succ m ih =>
  intros
  rw [e26_L5]
  try simp only [ih]
  rfl
theorem F26_eq (n:Nat) (a:Int × List (Int × Int × Int × Bool) × List Int):runF TT G26 an26 Tryd.f26 c26 ps26 rs26 n (a,())=p26 n a:=by
 rw [e26_top]
 simp only [t26_L5]
 try rfl
noncomputable def q26 (n:Nat) (x:argsD ps26):Option R26:=p26 n x.1
noncomputable def Sm26:Sm:=⟨ps26,rs26,false,q26⟩
theorem holds26 (hg:GamOK Tryd.prog G26):Holds Tryd.prog 26 Sm26:=by
 have:=h0_26 hg
 have e:(runF TT G26 an26 Tryd.f26 c26 ps26 rs26)=q26:=by
  funext n x
  exact F26_eq n x.1
 rw [e] at this
 exact this
theorem gam26:GamOK Tryd.prog G26:=by
 intro f s h
 unfold G26 at h
 split at h
 ·injection h with h; subst h; exact ⟨⟨Tryd.f16,c16,Tryd.func16,by kernel_rfl,by decide +kernel⟩,hh16⟩
 ·injection h with h; subst h; exact ⟨⟨Tryd.f29,c29,Tryd.func29,by kernel_rfl,by decide +kernel⟩,hh29⟩
 ·cases h
theorem hh26:Holds Tryd.prog 26 Sm26:=holds26 gam26
end Go.Proofs.YtpcohpkflkhfbaaDoor.Rx.S

namespace Go.Proofs.YtpcohpkflkhfbaaDoor.Rx.S
open Go Go.RowKit Go.Proofs
set_option maxRecDepth 100000
noncomputable def c19:Code:=(Tryd.f19.body.getD .skip)
def an19:An:=⟨fun r=>match r with | 5=>⟨[3,10,11,12],[]⟩ | _=>⟨[],[]⟩,fun _ _=>none⟩
abbrev ps19:List PK:=[.val tLk true]
abbrev rs19:List RK:=[.val i64 false]
abbrev R19:=retsD rs19 × outsD ps19
noncomputable def G19:Gam:=fun f=>match f with | 26=>some Sm26 | _=>none
theorem h0_19 (hg:GamOK Tryd.prog G19):Holds Tryd.prog 19 ⟨ps19,rs19,false,runF TT G19 an19 Tryd.f19 c19 ps19 rs19⟩:=holds_of tt_ok hg mixed Tryd.func19 (by kernel_rfl) (by rfl) (by decide +kernel)
noncomputable def at19:Nat→Pt→List Nat→St→Option R19:=atF TT G19 an19 Tryd.f19 c19 _ _
def sh19_L5 (x0:Int) (x1:List (Int × Int × Int × Bool)) (x2:Int) (x3:Int):St:=(St.mk (AV.undef :: (AV.undef :: (AV.undef :: ((AV.one (SV.int (Go.IntKind.i64) x0)) :: (AV.undef :: (AV.undef :: (AV.undef :: (AV.undef :: (AV.undef :: (AV.undef :: ((AV.one (SV.con (⟨51,(Ty.int Go.IntKind.i64).pair ((Ty.int Go.IntKind.i64).pair ((Ty.int Go.IntKind.i64).pair Ty.bool)),x1⟩:Rw))) :: ((AV.one (SV.int (Go.IntKind.i64) x2)) :: ((AV.one (SV.int (Go.IntKind.i64) x3)) :: (AV.undef :: (AV.undef :: (AV.undef :: (AV.undef :: (AV.undef :: (AV.undef :: (AV.undef :: (AV.undef :: (AV.undef :: (AV.undef :: []))))))))))))))))))))))) [])
noncomputable def st19_top (n:Nat) (lL5:Int→(List (Int × Int × Int × Bool))→Int→Int→Option R19) (a:Int × List (Int × Int × Int × Bool) × List Int):Option R19 :=
 (q26 n ((a.1,a.2.1,a.2.2),())).bind fun r0=>cond (!r0.1.1) (some (((-1:Int),()),())) (lL5 ((0:Int)) (a.2.1) ((↑(List.length a.2.1):Int)) ((0:Int)))
noncomputable def st19_L5 (n:Nat) (lL5:Int→(List (Int × Int × Int × Bool))→Int→Int→Option R19) (x0:Int) (x1:List (Int × Int × Int × Bool)) (x2:Int) (x3:Int):Option R19 :=
 cond (decide (x3 < x2)) (cond (decide ((0:Int)≤x3)) (cond (decide (x3 < (↑x1.length:Int))) (cond (decide ((x1.getD x3.toNat ((0:Int),(0:Int),(0:Int),false)).1=(4:Int))) (lL5 (Go.IntKind.i64.wrap (x0 + (1:Int))) (x1) (x2) (Go.IntKind.i64.wrap (x3 + (1:Int)))) (lL5 (x0) (x1) (x2) (Go.IntKind.i64.wrap (x3 + (1:Int))))) (none)) (none)) (some ((x0,()),()))
theorem e19_top (n:Nat) (a:Int × List (Int × Int × Int × Bool) × List Int):runF TT G19 an19 Tryd.f19 c19 ps19 rs19 n (a,())=st19_top n (fun x0 x1 x2 x3=>at19 n (.head 5) [n] (sh19_L5 x0 x1 x2 x3)) a:=by kernel_rfl
theorem e19_L5_0 (n:Nat) (x0:Int) (x1:List (Int × Int × Int × Bool)) (x2:Int) (x3:Int):at19 n (.head 5) [0] (sh19_L5 x0 x1 x2 x3)=none:=by kernel_rfl
theorem e19_L5 (n:Nat) (m5:Nat) (x0:Int) (x1:List (Int × Int × Int × Bool)) (x2:Int) (x3:Int):at19 n (.head 5) [m5 + 1] (sh19_L5 x0 x1 x2 x3)=st19_L5 n (fun x0 x1 x2 x3=>at19 n (.head 5) [m5] (sh19_L5 x0 x1 x2 x3)) x0 x1 x2 x3:=by kernel_rfl
noncomputable def p19_L5 (n:Nat):Nat→Int→(List (Int × Int × Int × Bool))→Int→Int→Option R19
 | 0,_,_,_,_=>none
 | m + 1,x0,x1,x2,x3=>st19_L5 n (p19_L5 n m) x0 x1 x2 x3
noncomputable def p19 (n:Nat) (a:Int × List (Int × Int × Int × Bool) × List Int):Option R19:=st19_top n (p19_L5 n n) a
theorem t19_L5 (n:Nat):∀ (m5:Nat) (x0:Int) (x1:List (Int × Int × Int × Bool)) (x2:Int) (x3:Int),at19 n (.head 5) [m5] (sh19_L5 x0 x1 x2 x3)=p19_L5 n m5 x0 x1 x2 x3:=by
 intro m
 induction m with
 | zero=>intros; rw [e19_L5_0]; rfl
 | succ m ih =>
  intros
  rw [e19_L5]
  try simp only [ih]
  rfl
theorem F19_eq (n:Nat) (a:Int × List (Int × Int × Int × Bool) × List Int):runF TT G19 an19 Tryd.f19 c19 ps19 rs19 n (a,())=p19 n a:=by
 rw [e19_top]
 simp only [t19_L5]
 try rfl
noncomputable def q19 (n:Nat) (x:argsD ps19):Option R19:=p19 n x.1
noncomputable def Sm19:Sm:=⟨ps19,rs19,false,q19⟩
theorem holds19 (hg:GamOK Tryd.prog G19):Holds Tryd.prog 19 Sm19:=by
 have:=h0_19 hg
 have e:(runF TT G19 an19 Tryd.f19 c19 ps19 rs19)=q19:=by
  funext n x
  exact F19_eq n x.1
 rw [e] at this
 exact this
theorem gam19:GamOK Tryd.prog G19:=by
 intro f s h
 unfold G19 at h
 split at h
 ·injection h with h; subst h; exact ⟨⟨Tryd.f26,c26,Tryd.func26,by kernel_rfl,by decide +kernel⟩,hh26⟩
 ·cases h
theorem hh19:Holds Tryd.prog 19 Sm19:=holds19 gam19
end Go.Proofs.YtpcohpkflkhfbaaDoor.Rx.S

namespace Go.Proofs.YtpcohpkflkhfbaaDoor.Rx.S
open Go Go.RowKit Go.Proofs
set_option maxRecDepth 100000
noncomputable def c21:Code:=(Tryd.f21.body.getD .skip)
def an21:An:=⟨fun _=>⟨[],[]⟩,fun _ _=>none⟩
abbrev ps21:List PK:=[.val tLk true,.val i64 false]
abbrev rs21:List RK:=[.val .bool false]
abbrev R21:=retsD rs21 × outsD ps21
noncomputable def G21:Gam:=fun _=>none
theorem h0_21 (hg:GamOK Tryd.prog G21):Holds Tryd.prog 21 ⟨ps21,rs21,false,runF TT G21 an21 Tryd.f21 c21 ps21 rs21⟩:=holds_of tt_ok hg mixed Tryd.func21 (by kernel_rfl) (by rfl) (by decide +kernel)
noncomputable def st21_top (n:Nat) (a:Int × List (Int × Int × Int × Bool) × List Int) (b:Int):Option R21 :=
 cond (decide ((0:Int)≤b)) (cond (decide (b < (↑(List.length a.2.1):Int))) (cond (!(List.getD a.2.1 b.toNat ((0:Int),(0:Int),(0:Int),false)).2.2.2) (cond (decide ((0:Int) < (List.getD a.2.1 b.toNat ((0:Int),(0:Int),(0:Int),false)).1)) (some ((true,()),())) (some ((decide ((0:Int) < (List.getD a.2.1 b.toNat ((0:Int),(0:Int),(0:Int),false)).2.2.1),()),()))) (some ((false,()),()))) (none)) (none)
theorem e21_top (n:Nat) (a:Int × List (Int × Int × Int × Bool) × List Int) (b:Int):runF TT G21 an21 Tryd.f21 c21 ps21 rs21 n (a,b,())=st21_top n a b:=by kernel_rfl
noncomputable def p21 (n:Nat) (a:Int × List (Int × Int × Int × Bool) × List Int) (b:Int):Option R21:=st21_top n a b
theorem F21_eq (n:Nat) (a:Int × List (Int × Int × Int × Bool) × List Int) (b:Int):runF TT G21 an21 Tryd.f21 c21 ps21 rs21 n (a,b,())=p21 n a b:=by
 rw [e21_top]
 skip
 try rfl
noncomputable def q21 (n:Nat) (x:argsD ps21):Option R21:=p21 n x.1 x.2.1
noncomputable def Sm21:Sm:=⟨ps21,rs21,false,q21⟩
theorem holds21 (hg:GamOK Tryd.prog G21):Holds Tryd.prog 21 Sm21:=by
 have:=h0_21 hg
 have e:(runF TT G21 an21 Tryd.f21 c21 ps21 rs21)=q21:=by
  funext n x
  exact F21_eq n x.1 x.2.1
 rw [e] at this
 exact this
theorem gam21:GamOK Tryd.prog G21:=fun _ _ h=>by cases h
theorem hh21:Holds Tryd.prog 21 Sm21:=holds21 gam21
end Go.Proofs.YtpcohpkflkhfbaaDoor.Rx.S

namespace Go.Proofs.YtpcohpkflkhfbaaDoor.Rx.S
open Go Go.RowKit Go.Proofs
set_option maxRecDepth 100000
noncomputable def c20:Code:=(Tryd.f20.body.getD .skip)
def an20:An:=⟨fun r=>match r with | 4=>⟨[1,15,16],[]⟩ | _=>⟨[],[]⟩,fun _ _=>none⟩
abbrev ps20:List PK:=[.val tLk true]
abbrev rs20:List RK:=[.val .bool false]
abbrev R20:=retsD rs20 × outsD ps20
noncomputable def G20:Gam:=fun f=>match f with | 21=>some Sm21 | 26=>some Sm26 | _=>none
theorem h0_20 (hg:GamOK Tryd.prog G20):Holds Tryd.prog 20 ⟨ps20,rs20,false,runF TT G20 an20 Tryd.f20 c20 ps20 rs20⟩:=holds_of tt_ok hg mixed Tryd.func20 (by kernel_rfl) (by rfl) (by decide +kernel)
noncomputable def at20:Nat→Pt→List Nat→St→Option R20:=atF TT G20 an20 Tryd.f20 c20 _ _
def sh20_L4 (x0:Int) (x1:Int) (x2:Int) (x3:List (Int × Int × Int × Bool)) (x4:List Int):St:=(St.mk (AV.undef :: ((AV.one (SV.bptr 1000000 0)) :: (AV.undef :: (AV.undef :: (AV.undef :: (AV.undef :: (AV.undef :: (AV.undef :: (AV.undef :: (AV.undef :: (AV.undef :: (AV.undef :: (AV.undef :: (AV.undef :: (AV.undef :: ((AV.one (SV.int (Go.IntKind.i64) x0)) :: ((AV.one (SV.int (Go.IntKind.i64) x1)) :: (AV.undef :: (AV.undef :: (AV.undef :: (AV.undef :: (AV.undef :: (AV.undef :: []))))))))))))))))))))))) ((1000000,(Ent.box ((SV.int (Go.IntKind.i64) x2) :: ((SV.con (⟨51,(Ty.int Go.IntKind.i64).pair ((Ty.int Go.IntKind.i64).pair ((Ty.int Go.IntKind.i64).pair Ty.bool)),x3⟩:Rw)) :: ((SV.con (⟨3,Ty.int Go.IntKind.i64,x4⟩:Rw)) :: []))))) :: []))
noncomputable def st20_top (n:Nat) (lL4:Int→Int→Int→(List (Int × Int × Int × Bool))→(List Int)→Option R20) (a:Int × List (Int × Int × Int × Bool) × List Int):Option R20 :=
 (q26 n ((a.1,a.2.1,a.2.2),())).bind fun r0=>cond (!r0.1.1) (some ((false,()),())) (cond (decide ((↑(List.length a.2.2):Int)=(0:Int))) (some ((false,()),())) (lL4 ((↑(List.length a.2.1):Int)) ((0:Int)) (a.1) (a.2.1) (a.2.2)))
noncomputable def st20_L4 (n:Nat) (lL4:Int→Int→Int→(List (Int × Int × Int × Bool))→(List Int)→Option R20) (x0:Int) (x1:Int) (x2:Int) (x3:List (Int × Int × Int × Bool)) (x4:List Int):Option R20 :=
 cond (decide (x1 < x0)) ((q21 n ((x2,x3,x4),x1,())).bind fun r2=>cond (r2.1.1) (some ((false,()),())) (lL4 (x0) (Go.IntKind.i64.wrap (x1 + (1:Int))) (x2) (x3) (x4))) (some ((true,()),()))
theorem e20_top (n:Nat) (a:Int × List (Int × Int × Int × Bool) × List Int):runF TT G20 an20 Tryd.f20 c20 ps20 rs20 n (a,())=st20_top n (fun x0 x1 x2 x3 x4=>at20 n (.head 4) [n] (sh20_L4 x0 x1 x2 x3 x4)) a:=by kernel_rfl
theorem e20_L4_0 (n:Nat) (x0:Int) (x1:Int) (x2:Int) (x3:List (Int × Int × Int × Bool)) (x4:List Int):at20 n (.head 4) [0] (sh20_L4 x0 x1 x2 x3 x4)=none:=by kernel_rfl
theorem e20_L4 (n:Nat) (m4:Nat) (x0:Int) (x1:Int) (x2:Int) (x3:List (Int × Int × Int × Bool)) (x4:List Int):at20 n (.head 4) [m4 + 1] (sh20_L4 x0 x1 x2 x3 x4)=st20_L4 n (fun x0 x1 x2 x3 x4=>at20 n (.head 4) [m4] (sh20_L4 x0 x1 x2 x3 x4)) x0 x1 x2 x3 x4:=by kernel_rfl
noncomputable def p20_L4 (n:Nat):Nat→Int→Int→Int→(List (Int × Int × Int × Bool))→(List Int)→Option R20
 | 0,_,_,_,_,_=>none
 | m + 1,x0,x1,x2,x3,x4=>st20_L4 n (p20_L4 n m) x0 x1 x2 x3 x4
noncomputable def p20 (n:Nat) (a:Int × List (Int × Int × Int × Bool) × List Int):Option R20:=st20_top n (p20_L4 n n) a
theorem t20_L4 (n:Nat):∀ (m4:Nat) (x0:Int) (x1:Int) (x2:Int) (x3:List (Int × Int × Int × Bool)) (x4:List Int),at20 n (.head 4) [m4] (sh20_L4 x0 x1 x2 x3 x4)=p20_L4 n m4 x0 x1 x2 x3 x4:=by
 intro m
 induction m with
 | zero=>intros; rw [e20_L4_0]; rfl
 | succ m ih =>
  intros
  rw [e20_L4]
  try simp only [ih]
  rfl
theorem F20_eq (n:Nat) (a:Int × List (Int × Int × Int × Bool) × List Int):runF TT G20 an20 Tryd.f20 c20 ps20 rs20 n (a,())=p20 n a:=by
 rw [e20_top]
 simp only [t20_L4]
 try rfl
noncomputable def q20 (n:Nat) (x:argsD ps20):Option R20:=p20 n x.1
noncomputable def Sm20:Sm:=⟨ps20,rs20,false,q20⟩
theorem holds20 (hg:GamOK Tryd.prog G20):Holds Tryd.prog 20 Sm20:=by
 have:=h0_20 hg
 have e:(runF TT G20 an20 Tryd.f20 c20 ps20 rs20)=q20:=by
  funext n x
  exact F20_eq n x.1
 rw [e] at this
 exact this
theorem gam20:GamOK Tryd.prog G20:=by
 intro f s h
 unfold G20 at h
 split at h
 ·injection h with h; subst h; exact ⟨⟨Tryd.f21,c21,Tryd.func21,by kernel_rfl,by decide +kernel⟩,hh21⟩
 ·injection h with h; subst h; exact ⟨⟨Tryd.f26,c26,Tryd.func26,by kernel_rfl,by decide +kernel⟩,hh26⟩
 ·cases h
theorem hh20:Holds Tryd.prog 20 Sm20:=holds20 gam20
end Go.Proofs.YtpcohpkflkhfbaaDoor.Rx.S

namespace Go.Proofs.YtpcohpkflkhfbaaDoor.Rx.S
open Go Go.RowKit Go.Proofs
set_option maxRecDepth 100000
noncomputable def c30:Code:=(Tryd.f30.body.getD .skip)
abbrev ps30:List PK:=[.val (.row 51 tTh) false]
abbrev rs30:List RK:=[.own (.row 51 tTh) false]
abbrev R30:=retsD rs30 × outsD ps30
noncomputable def p30 (n:Nat) (a:List (Int × Int × Int × Bool)):Option R30:=cond (decide ((0 + a.length) * (32:Nat)≤(140737488355328:Nat))) (some ((a,()),())) none
noncomputable def q30 (n:Nat) (x:argsD ps30):Option R30:=p30 n x.1
noncomputable def Sm30:Sm:=⟨ps30,rs30,false,q30⟩
noncomputable def S0_30 (n:Nat) (xs:List (Int × Int × Int × Bool)):St:=(initS Tryd.f30.ntmps ps30 (xs,())).put (some 2) (.one .nil)
noncomputable def S1_30 (n:Nat) (xs:List (Int × Int × Int × Bool)):St:=(S0_30 n xs).put (some 3) (.one (.con ⟨51,tTh,xs⟩))
theorem gam0_30:GamOK Tryd.prog (fun _=>none):=fun f s h=>by cases h
theorem hh30:Holds Tryd.prog 30 Sm30:=by
 refine holds_nilq tt_ok gam0_30 mixed (an:=⟨fun _=>⟨[],[]⟩,fun _ _=>none⟩) Tryd.func30 (by rfl) rfl (by first | exact Tryd.underlying30 | kernel_rfl) (by decide +kernel) S0_30 (fun n xs=>by kernel_rfl) S1_30 (fun n xs=>by kernel_rfl) (fun n xs=>rfl) (fun n xs b=>by kernel_rfl) (fun n y h=>?_) (fun n xs y h=>?_)
 ·have h':some (([],()),())=some y:=h
  refine Eq.trans ?_ h'
  kernel_rfl
 ·have h':cond (decide ((0 + xs.length) * (32:Nat)≤(140737488355328:Nat))) (some ((xs,()),())) none=some y:=h
  refine Eq.trans ?_ h'
  kernel_rfl
end Go.Proofs.YtpcohpkflkhfbaaDoor.Rx.S

namespace Go.Proofs.YtpcohpkflkhfbaaDoor.Rx.S
open Go Go.RowKit Go.Proofs
set_option maxRecDepth 100000
noncomputable def c31:Code:=(Tryd.f31.body.getD .skip)
abbrev ps31:List PK:=[.val (.row 3 i64) false]
abbrev rs31:List RK:=[.own (.row 3 i64) false]
abbrev R31:=retsD rs31 × outsD ps31
noncomputable def p31 (n:Nat) (a:List (Int)):Option R31:=cond (decide ((0 + a.length) * (8:Nat)≤(140737488355328:Nat))) (some ((a,()),())) none
noncomputable def q31 (n:Nat) (x:argsD ps31):Option R31:=p31 n x.1
noncomputable def Sm31:Sm:=⟨ps31,rs31,false,q31⟩
noncomputable def S0_31 (n:Nat) (xs:List (Int)):St:=(initS Tryd.f31.ntmps ps31 (xs,())).put (some 2) (.one .nil)
noncomputable def S1_31 (n:Nat) (xs:List (Int)):St:=(S0_31 n xs).put (some 3) (.one (.con ⟨3,i64,xs⟩))
theorem gam0_31:GamOK Tryd.prog (fun _=>none):=fun f s h=>by cases h
theorem hh31:Holds Tryd.prog 31 Sm31:=by
 refine holds_nilq tt_ok gam0_31 mixed (an:=⟨fun _=>⟨[],[]⟩,fun _ _=>none⟩) Tryd.func31 (by rfl) rfl (by first | exact Tryd.underlying31 | kernel_rfl) (by decide +kernel) S0_31 (fun n xs=>by kernel_rfl) S1_31 (fun n xs=>by kernel_rfl) (fun n xs=>rfl) (fun n xs b=>by kernel_rfl) (fun n y h=>?_) (fun n xs y h=>?_)
 ·have h':some (([],()),())=some y:=h
  refine Eq.trans ?_ h'
  kernel_rfl
 ·have h':cond (decide ((0 + xs.length) * (8:Nat)≤(140737488355328:Nat))) (some ((xs,()),())) none=some y:=h
  refine Eq.trans ?_ h'
  kernel_rfl
end Go.Proofs.YtpcohpkflkhfbaaDoor.Rx.S

namespace Go.Proofs.YtpcohpkflkhfbaaDoor.Rx.S
open Go Go.RowKit Go.Proofs
set_option maxRecDepth 100000
noncomputable def c27:Code:=(Tryd.f27.body.getD .skip)
def an27:An:=⟨fun _=>⟨[],[]⟩,fun _ _=>none⟩
abbrev ps27:List PK:=[.val tLk true]
abbrev rs27:List RK:=[.own tLk true]
abbrev R27:=retsD rs27 × outsD ps27
noncomputable def G27:Gam:=fun f=>match f with | 30=>some Sm30 | 31=>some Sm31 | _=>none
theorem h0_27 (hg:GamOK Tryd.prog G27):Holds Tryd.prog 27 ⟨ps27,rs27,false,runF TT G27 an27 Tryd.f27 c27 ps27 rs27⟩:=holds_of tt_ok hg mixed Tryd.func27 (by kernel_rfl) (by rfl) (by decide +kernel)
noncomputable def st27_top (n:Nat) (a:Int × List (Int × Int × Int × Bool) × List Int):Option R27 :=
 (q30 n (a.2.1,())).bind fun r0=>(q31 n (a.2.2,())).bind fun r1=>some (((a.1,(r0.1.1,r1.1.1)),()),())
theorem e27_top (n:Nat) (a:Int × List (Int × Int × Int × Bool) × List Int):runF TT G27 an27 Tryd.f27 c27 ps27 rs27 n (a,())=st27_top n a:=by kernel_rfl
noncomputable def p27 (n:Nat) (a:Int × List (Int × Int × Int × Bool) × List Int):Option R27:=st27_top n a
theorem F27_eq (n:Nat) (a:Int × List (Int × Int × Int × Bool) × List Int):runF TT G27 an27 Tryd.f27 c27 ps27 rs27 n (a,())=p27 n a:=by
 rw [e27_top]
 skip
 try rfl
noncomputable def q27 (n:Nat) (x:argsD ps27):Option R27:=p27 n x.1
noncomputable def Sm27:Sm:=⟨ps27,rs27,false,q27⟩
theorem holds27 (hg:GamOK Tryd.prog G27):Holds Tryd.prog 27 Sm27:=by
 have:=h0_27 hg
 have e:(runF TT G27 an27 Tryd.f27 c27 ps27 rs27)=q27:=by
  funext n x
  exact F27_eq n x.1
 rw [e] at this
 exact this
theorem gam27:GamOK Tryd.prog G27:=by
 intro f s h
 unfold G27 at h
 split at h
 ·injection h with h; subst h; exact ⟨⟨Tryd.f30,c30,Tryd.func30,by kernel_rfl,by decide +kernel⟩,hh30⟩
 ·injection h with h; subst h; exact ⟨⟨Tryd.f31,c31,Tryd.func31,by kernel_rfl,by decide +kernel⟩,hh31⟩
 ·cases h
theorem hh27:Holds Tryd.prog 27 Sm27:=holds27 gam27
end Go.Proofs.YtpcohpkflkhfbaaDoor.Rx.S

namespace Go.Proofs.YtpcohpkflkhfbaaDoor.Rx.S
open Go Go.RowKit Go.Proofs
set_option maxRecDepth 100000
noncomputable def c22:Code:=(Tryd.f22.body.getD .skip)
def an22:An:=⟨fun _=>⟨[],[]⟩,fun _ _=>none⟩
abbrev ps22:List PK:=[.val tLk true,.val i64 false]
abbrev rs22:List RK:=[.own tLk true]
abbrev R22:=retsD rs22 × outsD ps22
noncomputable def G22:Gam:=fun f=>match f with | 27=>some Sm27 | _=>none
theorem h0_22 (hg:GamOK Tryd.prog G22):Holds Tryd.prog 22 ⟨ps22,rs22,false,runF TT G22 an22 Tryd.f22 c22 ps22 rs22⟩:=holds_of tt_ok hg mixed Tryd.func22 (by kernel_rfl) (by rfl) (by decide +kernel)
noncomputable def st22_top (n:Nat) (a:Int × List (Int × Int × Int × Bool) × List Int) (b:Int):Option R22 :=
 (q27 n ((a.1,a.2.1,a.2.2),())).bind fun r0=>cond (decide ((0:Int)≤b)) (cond (decide (b < (↑(List.length r0.1.1.2.1):Int))) (cond (decide ((List.getD r0.1.1.2.1 b.toNat ((0:Int),(0:Int),(0:Int),false)).1=(0:Int))) (cond (decide (r0.1.1.1=(0:Int))) (some ((((1:Int),(List.set r0.1.1.2.1 b.toNat ((4:Int),(List.getD r0.1.1.2.1 b.toNat ((0:Int),(0:Int),(0:Int),false)).2),r0.1.1.2.2)),()),())) (some (((r0.1.1.1,((List.set r0.1.1.2.1 b.toNat ((List.getD r0.1.1.2.1 b.toNat ((0:Int),(0:Int),(0:Int),false)).1,r0.1.1.1,(List.getD r0.1.1.2.1 b.toNat ((0:Int),(0:Int),(0:Int),false)).2.2)).set b.toNat ((1:Int),((List.set r0.1.1.2.1 b.toNat ((List.getD r0.1.1.2.1 b.toNat ((0:Int),(0:Int),(0:Int),false)).1,r0.1.1.1,(List.getD r0.1.1.2.1 b.toNat ((0:Int),(0:Int),(0:Int),false)).2.2)).getD b.toNat ((0:Int),(0:Int),(0:Int),false)).2),r0.1.1.2.2)),()),()))) (cond (decide ((List.getD r0.1.1.2.1 b.toNat ((0:Int),(0:Int),(0:Int),false)).1=(1:Int))) (cond (decide ((List.getD r0.1.1.2.1 b.toNat ((0:Int),(0:Int),(0:Int),false)).2.1=(2:Int))) (some (((r0.1.1.1,((List.set r0.1.1.2.1 b.toNat ((2:Int),(List.getD r0.1.1.2.1 b.toNat ((0:Int),(0:Int),(0:Int),false)).2)).set b.toNat (((List.set r0.1.1.2.1 b.toNat ((2:Int),(List.getD r0.1.1.2.1 b.toNat ((0:Int),(0:Int),(0:Int),false)).2)).getD b.toNat ((0:Int),(0:Int),(0:Int),false)).1,(0:Int),((List.set r0.1.1.2.1 b.toNat ((2:Int),(List.getD r0.1.1.2.1 b.toNat ((0:Int),(0:Int),(0:Int),false)).2)).getD b.toNat ((0:Int),(0:Int),(0:Int),false)).2.2),r0.1.1.2.2)),()),())) (cond (decide (r0.1.1.1=(0:Int))) (some (((r0.1.1.1,((List.set r0.1.1.2.1 b.toNat ((3:Int),(List.getD r0.1.1.2.1 b.toNat ((0:Int),(0:Int),(0:Int),false)).2)).set b.toNat (((List.set r0.1.1.2.1 b.toNat ((3:Int),(List.getD r0.1.1.2.1 b.toNat ((0:Int),(0:Int),(0:Int),false)).2)).getD b.toNat ((0:Int),(0:Int),(0:Int),false)).1,(0:Int),((List.set r0.1.1.2.1 b.toNat ((3:Int),(List.getD r0.1.1.2.1 b.toNat ((0:Int),(0:Int),(0:Int),false)).2)).getD b.toNat ((0:Int),(0:Int),(0:Int),false)).2.2),r0.1.1.2.2)),()),())) (some ((((2:Int),((List.set r0.1.1.2.1 b.toNat ((2:Int),(List.getD r0.1.1.2.1 b.toNat ((0:Int),(0:Int),(0:Int),false)).2)).set b.toNat (((List.set r0.1.1.2.1 b.toNat ((2:Int),(List.getD r0.1.1.2.1 b.toNat ((0:Int),(0:Int),(0:Int),false)).2)).getD b.toNat ((0:Int),(0:Int),(0:Int),false)).1,(0:Int),((List.set r0.1.1.2.1 b.toNat ((2:Int),(List.getD r0.1.1.2.1 b.toNat ((0:Int),(0:Int),(0:Int),false)).2)).getD b.toNat ((0:Int),(0:Int),(0:Int),false)).2.2),r0.1.1.2.2)),()),())))) (cond (decide ((List.getD r0.1.1.2.1 b.toNat ((0:Int),(0:Int),(0:Int),false)).1=(2:Int))) (cond (decide (r0.1.1.1=(2:Int))) (cond (decide ((List.length r0.1.1.2.2 + [b].length) * (8:Nat)≤(140737488355328:Nat))) (some (((r0.1.1.1,((List.set r0.1.1.2.1 b.toNat ((List.getD r0.1.1.2.1 b.toNat ((0:Int),(0:Int),(0:Int),false)).1,(List.getD r0.1.1.2.1 b.toNat ((0:Int),(0:Int),(0:Int),false)).2.1,(List.getD r0.1.1.2.1 b.toNat ((0:Int),(0:Int),(0:Int),false)).2.2.1,true)).set b.toNat ((3:Int),((List.set r0.1.1.2.1 b.toNat ((List.getD r0.1.1.2.1 b.toNat ((0:Int),(0:Int),(0:Int),false)).1,(List.getD r0.1.1.2.1 b.toNat ((0:Int),(0:Int),(0:Int),false)).2.1,(List.getD r0.1.1.2.1 b.toNat ((0:Int),(0:Int),(0:Int),false)).2.2.1,true)).getD b.toNat ((0:Int),(0:Int),(0:Int),false)).2),r0.1.1.2.2 ++ [b])),()),())) (none)) (some (((r0.1.1.1,(List.set r0.1.1.2.1 b.toNat ((3:Int),(List.getD r0.1.1.2.1 b.toNat ((0:Int),(0:Int),(0:Int),false)).2),r0.1.1.2.2)),()),()))) (cond (decide ((List.getD r0.1.1.2.1 b.toNat ((0:Int),(0:Int),(0:Int),false)).1=(3:Int))) (cond (decide (r0.1.1.1=(0:Int))) (some ((((2:Int),(List.set r0.1.1.2.1 b.toNat ((4:Int),(List.getD r0.1.1.2.1 b.toNat ((0:Int),(0:Int),(0:Int),false)).2),r0.1.1.2.2)),()),())) (some (((r0.1.1.1,((List.set r0.1.1.2.1 b.toNat ((List.getD r0.1.1.2.1 b.toNat ((0:Int),(0:Int),(0:Int),false)).1,r0.1.1.1,(List.getD r0.1.1.2.1 b.toNat ((0:Int),(0:Int),(0:Int),false)).2.2)).set b.toNat ((1:Int),((List.set r0.1.1.2.1 b.toNat ((List.getD r0.1.1.2.1 b.toNat ((0:Int),(0:Int),(0:Int),false)).1,r0.1.1.1,(List.getD r0.1.1.2.1 b.toNat ((0:Int),(0:Int),(0:Int),false)).2.2)).getD b.toNat ((0:Int),(0:Int),(0:Int),false)).2),r0.1.1.2.2)),()),()))) (cond (decide ((List.getD r0.1.1.2.1 b.toNat ((0:Int),(0:Int),(0:Int),false)).1=(4:Int))) (cond (decide (r0.1.1.1 < (2:Int))) (some ((((0:Int),((List.set r0.1.1.2.1 b.toNat ((0:Int),(List.getD r0.1.1.2.1 b.toNat ((0:Int),(0:Int),(0:Int),false)).2)).set b.toNat (((List.set r0.1.1.2.1 b.toNat ((0:Int),(List.getD r0.1.1.2.1 b.toNat ((0:Int),(0:Int),(0:Int),false)).2)).getD b.toNat ((0:Int),(0:Int),(0:Int),false)).1,((List.set r0.1.1.2.1 b.toNat ((0:Int),(List.getD r0.1.1.2.1 b.toNat ((0:Int),(0:Int),(0:Int),false)).2)).getD b.toNat ((0:Int),(0:Int),(0:Int),false)).2.1,Go.IntKind.i64.wrap (((List.set r0.1.1.2.1 b.toNat ((0:Int),(List.getD r0.1.1.2.1 b.toNat ((0:Int),(0:Int),(0:Int),false)).2)).getD b.toNat ((0:Int),(0:Int),(0:Int),false)).2.2.1 - (1:Int)),((List.set r0.1.1.2.1 b.toNat ((0:Int),(List.getD r0.1.1.2.1 b.toNat ((0:Int),(0:Int),(0:Int),false)).2)).getD b.toNat ((0:Int),(0:Int),(0:Int),false)).2.2.2),r0.1.1.2.2)),()),())) (some ((((1:Int),(List.set r0.1.1.2.1 b.toNat ((5:Int),(List.getD r0.1.1.2.1 b.toNat ((0:Int),(0:Int),(0:Int),false)).2),r0.1.1.2.2)),()),()))) (cond (decide ((List.getD r0.1.1.2.1 b.toNat ((0:Int),(0:Int),(0:Int),false)).1=(5:Int))) (some ((((0:Int),(List.set r0.1.1.2.1 b.toNat ((6:Int),(List.getD r0.1.1.2.1 b.toNat ((0:Int),(0:Int),(0:Int),false)).2),r0.1.1.2.2)),()),())) (cond (decide ((List.getD r0.1.1.2.1 b.toNat ((0:Int),(0:Int),(0:Int),false)).1=(6:Int))) (cond (decide ((0:Int) < (↑(List.length r0.1.1.2.2):Int))) (cond (decide ((0:Int) < (↑(List.length r0.1.1.2.2):Int))) (cond (decide ((0:Int)≤List.getD r0.1.1.2.2 (Int.toNat (0:Int)) (0:Int))) (cond (decide (List.getD r0.1.1.2.2 (Int.toNat (0:Int)) (0:Int) < (↑(List.length r0.1.1.2.1):Int))) (cond (decide ((1:Int)≤(↑(List.length r0.1.1.2.2):Int))) (some (((r0.1.1.1,(((List.set r0.1.1.2.1 (Int.toNat (List.getD r0.1.1.2.2 (Int.toNat (0:Int)) (0:Int))) ((List.getD r0.1.1.2.1 (Int.toNat (List.getD r0.1.1.2.2 (Int.toNat (0:Int)) (0:Int))) ((0:Int),(0:Int),(0:Int),false)).1,(List.getD r0.1.1.2.1 (Int.toNat (List.getD r0.1.1.2.2 (Int.toNat (0:Int)) (0:Int))) ((0:Int),(0:Int),(0:Int),false)).2.1,(List.getD r0.1.1.2.1 (Int.toNat (List.getD r0.1.1.2.2 (Int.toNat (0:Int)) (0:Int))) ((0:Int),(0:Int),(0:Int),false)).2.2.1,false)).set b.toNat ((0:Int),((List.set r0.1.1.2.1 (Int.toNat (List.getD r0.1.1.2.2 (Int.toNat (0:Int)) (0:Int))) ((List.getD r0.1.1.2.1 (Int.toNat (List.getD r0.1.1.2.2 (Int.toNat (0:Int)) (0:Int))) ((0:Int),(0:Int),(0:Int),false)).1,(List.getD r0.1.1.2.1 (Int.toNat (List.getD r0.1.1.2.2 (Int.toNat (0:Int)) (0:Int))) ((0:Int),(0:Int),(0:Int),false)).2.1,(List.getD r0.1.1.2.1 (Int.toNat (List.getD r0.1.1.2.2 (Int.toNat (0:Int)) (0:Int))) ((0:Int),(0:Int),(0:Int),false)).2.2.1,false)).getD b.toNat ((0:Int),(0:Int),(0:Int),false)).2)).set b.toNat ((((List.set r0.1.1.2.1 (Int.toNat (List.getD r0.1.1.2.2 (Int.toNat (0:Int)) (0:Int))) ((List.getD r0.1.1.2.1 (Int.toNat (List.getD r0.1.1.2.2 (Int.toNat (0:Int)) (0:Int))) ((0:Int),(0:Int),(0:Int),false)).1,(List.getD r0.1.1.2.1 (Int.toNat (List.getD r0.1.1.2.2 (Int.toNat (0:Int)) (0:Int))) ((0:Int),(0:Int),(0:Int),false)).2.1,(List.getD r0.1.1.2.1 (Int.toNat (List.getD r0.1.1.2.2 (Int.toNat (0:Int)) (0:Int))) ((0:Int),(0:Int),(0:Int),false)).2.2.1,false)).set b.toNat ((0:Int),((List.set r0.1.1.2.1 (Int.toNat (List.getD r0.1.1.2.2 (Int.toNat (0:Int)) (0:Int))) ((List.getD r0.1.1.2.1 (Int.toNat (List.getD r0.1.1.2.2 (Int.toNat (0:Int)) (0:Int))) ((0:Int),(0:Int),(0:Int),false)).1,(List.getD r0.1.1.2.1 (Int.toNat (List.getD r0.1.1.2.2 (Int.toNat (0:Int)) (0:Int))) ((0:Int),(0:Int),(0:Int),false)).2.1,(List.getD r0.1.1.2.1 (Int.toNat (List.getD r0.1.1.2.2 (Int.toNat (0:Int)) (0:Int))) ((0:Int),(0:Int),(0:Int),false)).2.2.1,false)).getD b.toNat ((0:Int),(0:Int),(0:Int),false)).2)).getD b.toNat ((0:Int),(0:Int),(0:Int),false)).1,(((List.set r0.1.1.2.1 (Int.toNat (List.getD r0.1.1.2.2 (Int.toNat (0:Int)) (0:Int))) ((List.getD r0.1.1.2.1 (Int.toNat (List.getD r0.1.1.2.2 (Int.toNat (0:Int)) (0:Int))) ((0:Int),(0:Int),(0:Int),false)).1,(List.getD r0.1.1.2.1 (Int.toNat (List.getD r0.1.1.2.2 (Int.toNat (0:Int)) (0:Int))) ((0:Int),(0:Int),(0:Int),false)).2.1,(List.getD r0.1.1.2.1 (Int.toNat (List.getD r0.1.1.2.2 (Int.toNat (0:Int)) (0:Int))) ((0:Int),(0:Int),(0:Int),false)).2.2.1,false)).set b.toNat ((0:Int),((List.set r0.1.1.2.1 (Int.toNat (List.getD r0.1.1.2.2 (Int.toNat (0:Int)) (0:Int))) ((List.getD r0.1.1.2.1 (Int.toNat (List.getD r0.1.1.2.2 (Int.toNat (0:Int)) (0:Int))) ((0:Int),(0:Int),(0:Int),false)).1,(List.getD r0.1.1.2.1 (Int.toNat (List.getD r0.1.1.2.2 (Int.toNat (0:Int)) (0:Int))) ((0:Int),(0:Int),(0:Int),false)).2.1,(List.getD r0.1.1.2.1 (Int.toNat (List.getD r0.1.1.2.2 (Int.toNat (0:Int)) (0:Int))) ((0:Int),(0:Int),(0:Int),false)).2.2.1,false)).getD b.toNat ((0:Int),(0:Int),(0:Int),false)).2)).getD b.toNat ((0:Int),(0:Int),(0:Int),false)).2.1,Go.IntKind.i64.wrap ((((List.set r0.1.1.2.1 (Int.toNat (List.getD r0.1.1.2.2 (Int.toNat (0:Int)) (0:Int))) ((List.getD r0.1.1.2.1 (Int.toNat (List.getD r0.1.1.2.2 (Int.toNat (0:Int)) (0:Int))) ((0:Int),(0:Int),(0:Int),false)).1,(List.getD r0.1.1.2.1 (Int.toNat (List.getD r0.1.1.2.2 (Int.toNat (0:Int)) (0:Int))) ((0:Int),(0:Int),(0:Int),false)).2.1,(List.getD r0.1.1.2.1 (Int.toNat (List.getD r0.1.1.2.2 (Int.toNat (0:Int)) (0:Int))) ((0:Int),(0:Int),(0:Int),false)).2.2.1,false)).set b.toNat ((0:Int),((List.set r0.1.1.2.1 (Int.toNat (List.getD r0.1.1.2.2 (Int.toNat (0:Int)) (0:Int))) ((List.getD r0.1.1.2.1 (Int.toNat (List.getD r0.1.1.2.2 (Int.toNat (0:Int)) (0:Int))) ((0:Int),(0:Int),(0:Int),false)).1,(List.getD r0.1.1.2.1 (Int.toNat (List.getD r0.1.1.2.2 (Int.toNat (0:Int)) (0:Int))) ((0:Int),(0:Int),(0:Int),false)).2.1,(List.getD r0.1.1.2.1 (Int.toNat (List.getD r0.1.1.2.2 (Int.toNat (0:Int)) (0:Int))) ((0:Int),(0:Int),(0:Int),false)).2.2.1,false)).getD b.toNat ((0:Int),(0:Int),(0:Int),false)).2)).getD b.toNat ((0:Int),(0:Int),(0:Int),false)).2.2.1 - (1:Int)),(((List.set r0.1.1.2.1 (Int.toNat (List.getD r0.1.1.2.2 (Int.toNat (0:Int)) (0:Int))) ((List.getD r0.1.1.2.1 (Int.toNat (List.getD r0.1.1.2.2 (Int.toNat (0:Int)) (0:Int))) ((0:Int),(0:Int),(0:Int),false)).1,(List.getD r0.1.1.2.1 (Int.toNat (List.getD r0.1.1.2.2 (Int.toNat (0:Int)) (0:Int))) ((0:Int),(0:Int),(0:Int),false)).2.1,(List.getD r0.1.1.2.1 (Int.toNat (List.getD r0.1.1.2.2 (Int.toNat (0:Int)) (0:Int))) ((0:Int),(0:Int),(0:Int),false)).2.2.1,false)).set b.toNat ((0:Int),((List.set r0.1.1.2.1 (Int.toNat (List.getD r0.1.1.2.2 (Int.toNat (0:Int)) (0:Int))) ((List.getD r0.1.1.2.1 (Int.toNat (List.getD r0.1.1.2.2 (Int.toNat (0:Int)) (0:Int))) ((0:Int),(0:Int),(0:Int),false)).1,(List.getD r0.1.1.2.1 (Int.toNat (List.getD r0.1.1.2.2 (Int.toNat (0:Int)) (0:Int))) ((0:Int),(0:Int),(0:Int),false)).2.1,(List.getD r0.1.1.2.1 (Int.toNat (List.getD r0.1.1.2.2 (Int.toNat (0:Int)) (0:Int))) ((0:Int),(0:Int),(0:Int),false)).2.2.1,false)).getD b.toNat ((0:Int),(0:Int),(0:Int),false)).2)).getD b.toNat ((0:Int),(0:Int),(0:Int),false)).2.2.2),List.take ((↑(List.length r0.1.1.2.2):Int) - (1:Int)).toNat (List.drop ((0:Nat) + Int.toNat (1:Int)) r0.1.1.2.2))),()),())) (none)) (none)) (none)) (none)) (some (((r0.1.1.1,((List.set r0.1.1.2.1 b.toNat ((0:Int),(List.getD r0.1.1.2.1 b.toNat ((0:Int),(0:Int),(0:Int),false)).2)).set b.toNat (((List.set r0.1.1.2.1 b.toNat ((0:Int),(List.getD r0.1.1.2.1 b.toNat ((0:Int),(0:Int),(0:Int),false)).2)).getD b.toNat ((0:Int),(0:Int),(0:Int),false)).1,((List.set r0.1.1.2.1 b.toNat ((0:Int),(List.getD r0.1.1.2.1 b.toNat ((0:Int),(0:Int),(0:Int),false)).2)).getD b.toNat ((0:Int),(0:Int),(0:Int),false)).2.1,Go.IntKind.i64.wrap (((List.set r0.1.1.2.1 b.toNat ((0:Int),(List.getD r0.1.1.2.1 b.toNat ((0:Int),(0:Int),(0:Int),false)).2)).getD b.toNat ((0:Int),(0:Int),(0:Int),false)).2.2.1 - (1:Int)),((List.set r0.1.1.2.1 b.toNat ((0:Int),(List.getD r0.1.1.2.1 b.toNat ((0:Int),(0:Int),(0:Int),false)).2)).getD b.toNat ((0:Int),(0:Int),(0:Int),false)).2.2.2),r0.1.1.2.2)),()),()))) (some (((r0.1.1.1,(r0.1.1.2.1,r0.1.1.2.2)),()),()))))))))) (none)) (none)
theorem e22_top (n:Nat) (a:Int × List (Int × Int × Int × Bool) × List Int) (b:Int):runF TT G22 an22 Tryd.f22 c22 ps22 rs22 n (a,b,())=st22_top n a b:=by kernel_rfl
noncomputable def p22 (n:Nat) (a:Int × List (Int × Int × Int × Bool) × List Int) (b:Int):Option R22:=st22_top n a b
theorem F22_eq (n:Nat) (a:Int × List (Int × Int × Int × Bool) × List Int) (b:Int):runF TT G22 an22 Tryd.f22 c22 ps22 rs22 n (a,b,())=p22 n a b:=by
 rw [e22_top]
 skip
 try rfl
noncomputable def q22 (n:Nat) (x:argsD ps22):Option R22:=p22 n x.1 x.2.1
noncomputable def Sm22:Sm:=⟨ps22,rs22,false,q22⟩
theorem holds22 (hg:GamOK Tryd.prog G22):Holds Tryd.prog 22 Sm22:=by
 have:=h0_22 hg
 have e:(runF TT G22 an22 Tryd.f22 c22 ps22 rs22)=q22:=by
  funext n x
  exact F22_eq n x.1 x.2.1
 rw [e] at this
 exact this
theorem gam22:GamOK Tryd.prog G22:=by
 intro f s h
 unfold G22 at h
 split at h
 ·injection h with h; subst h; exact ⟨⟨Tryd.f27,c27,Tryd.func27,by kernel_rfl,by decide +kernel⟩,hh27⟩
 ·cases h
theorem hh22:Holds Tryd.prog 22 Sm22:=holds22 gam22
end Go.Proofs.YtpcohpkflkhfbaaDoor.Rx.S

namespace Go.Proofs.YtpcohpkflkhfbaaDoor.Rx.S
open Go Go.RowKit Go.Proofs
set_option maxRecDepth 100000
noncomputable def c6:Code:=(Tryd.f6.body.getD .skip)
def an6:An:=⟨fun r=>match r with | 7=>⟨[10,11,12,13],[]⟩ | 13=>⟨[10,11,12,13,14,71,72],[]⟩ | _=>⟨[],[]⟩,fun r i=>match r,i with | 10,1=>some ⟨[10,11,12,13,14,60],[(9013014,0,.bool)]⟩ | _,_=>none⟩
abbrev ps6:List PK:=[.val i64 false,.val i64 false]
abbrev rs6:List RK:=[.val i64 false,.val i64 false,.val .bool false,.val .bool false]
abbrev R6:=retsD rs6 × outsD ps6
noncomputable def G6:Gam:=fun f=>match f with | 16=>some Sm16 | 17=>some Sm17 | 18=>some Sm18 | 19=>some Sm19 | 20=>some Sm20 | 21=>some Sm21 | 22=>some Sm22 | _=>none
theorem ateq6 {β:Type} (t:Nat) (f:St→Option β) (S:St):at_ t f S=f S:=rfl
theorem h0_6 (hg:GamOK Tryd.prog G6):Holds Tryd.prog 6 ⟨ps6,rs6,false,runF TT G6 an6 Tryd.f6 c6 ps6 rs6⟩:=holds_of tt_ok hg mixed Tryd.func6 (by kernel_rfl) (by rfl) (by decide +kernel)
noncomputable def at6:Nat→Pt→List Nat→St→Option R6:=atF TT G6 an6 Tryd.f6 c6 _ _
def sh6_L13 (x0:Int) (x1:Bool) (x2:Int) (x3:Int) (x4:List (ByteArray × Bool)) (x5:List (Int × List (Int × Int × Int × Bool) × List Int)) (x6:Int) (x7:List (Int × Int × Int × Bool)) (x8:List Int):St:=(St.mk (AV.undef :: (AV.undef :: (AV.undef :: (AV.undef :: (AV.undef :: (AV.undef :: (AV.undef :: (AV.undef :: (AV.undef :: (AV.undef :: ((AV.one (SV.mapr 1000000)) :: ((AV.one (SV.int (Go.IntKind.i64) x0)) :: ((AV.one (SV.bool x1)) :: ((AV.one (SV.ref 1000001 0 [] Option.none)) :: ((AV.one (SV.bptr 1000002 0)) :: (AV.undef :: (AV.undef :: (AV.undef :: (AV.undef :: (AV.undef :: (AV.undef :: (AV.undef :: (AV.undef :: (AV.undef :: (AV.undef :: (AV.undef :: (AV.undef :: (AV.undef :: (AV.undef :: (AV.undef :: (AV.undef :: (AV.undef :: (AV.undef :: (AV.undef :: (AV.undef :: (AV.undef :: (AV.undef :: (AV.undef :: (AV.undef :: (AV.undef :: (AV.undef :: (AV.undef :: (AV.undef :: (AV.undef :: (AV.undef :: (AV.undef :: (AV.undef :: (AV.undef :: (AV.undef :: (AV.undef :: (AV.undef :: (AV.undef :: (AV.undef :: (AV.undef :: (AV.undef :: (AV.undef :: (AV.undef :: (AV.undef :: (AV.undef :: (AV.undef :: (AV.undef :: (AV.undef :: (AV.undef :: (AV.undef :: (AV.undef :: (AV.undef :: (AV.undef :: (AV.undef :: (AV.undef :: (AV.undef :: (AV.undef :: ((AV.one (SV.int (Go.IntKind.i64) x2)) :: ((AV.one (SV.int (Go.IntKind.i64) x3)) :: (AV.undef :: (AV.undef :: (AV.undef :: (AV.undef :: (AV.undef :: (AV.undef :: (AV.undef :: (AV.undef :: (AV.undef :: (AV.undef :: (AV.undef :: (AV.undef :: (AV.undef :: (AV.undef :: (AV.undef :: (AV.undef :: (AV.undef :: (AV.undef :: (AV.undef :: (AV.undef :: (AV.undef :: (AV.undef :: (AV.undef :: (AV.undef :: (AV.undef :: (AV.undef :: []))))))))))))))))))))))))))))))))))))))))))))))))))))))))))))))))))))))))))))))))))))))))))))))))))) ((1000000,(Ent.map x4)) :: ((1000001,(Ent.row (⟨33,(Ty.int Go.IntKind.i64).pair ((Ty.row (nat_lit 51) ((Ty.int Go.IntKind.i64).pair ((Ty.int Go.IntKind.i64).pair ((Ty.int Go.IntKind.i64).pair Ty.bool)))).pair (Ty.row (nat_lit 3) (Ty.int Go.IntKind.i64))),x5⟩:Rw) 0 Option.none)) :: ((1000002,(Ent.box ((SV.int (Go.IntKind.i64) x6) :: ((SV.ref 1000003 0 [] Option.none) :: ((SV.ref 1000004 0 [] Option.none) :: []))))) :: ((1000003,(Ent.row (⟨51,(Ty.int Go.IntKind.i64).pair ((Ty.int Go.IntKind.i64).pair ((Ty.int Go.IntKind.i64).pair Ty.bool)),x7⟩:Rw) 0 Option.none)) :: ((1000004,(Ent.row (⟨3,Ty.int Go.IntKind.i64,x8⟩:Rw) 0 Option.none)) :: []))))))
def sh6_C10_1 (x0:Int) (x1:Bool) (x2:Int) (x3:List (ByteArray × Bool)) (x4:List (Int × List (Int × Int × Int × Bool) × List Int)) (x5:Int) (x6:List (Int × Int × Int × Bool)) (x7:List Int):St:=(St.mk (AV.undef :: (AV.undef :: (AV.undef :: (AV.undef :: (AV.undef :: (AV.undef :: (AV.undef :: (AV.undef :: (AV.undef :: (AV.undef :: ((AV.one (SV.mapr 1000000)) :: ((AV.one (SV.int (Go.IntKind.i64) x0)) :: ((AV.one (SV.bool x1)) :: ((AV.one (SV.ref 1000001 0 [] Option.none)) :: ((AV.one (SV.bptr 1000002 0)) :: (AV.undef :: (AV.undef :: (AV.undef :: (AV.undef :: (AV.undef :: (AV.undef :: (AV.undef :: (AV.undef :: (AV.undef :: (AV.undef :: (AV.undef :: (AV.undef :: (AV.undef :: (AV.undef :: (AV.undef :: (AV.undef :: (AV.undef :: (AV.undef :: (AV.undef :: (AV.undef :: (AV.undef :: (AV.undef :: (AV.undef :: (AV.undef :: (AV.undef :: (AV.undef :: (AV.undef :: (AV.undef :: (AV.undef :: (AV.undef :: (AV.undef :: (AV.undef :: (AV.undef :: (AV.undef :: (AV.undef :: (AV.undef :: (AV.undef :: (AV.undef :: (AV.undef :: (AV.undef :: (AV.undef :: (AV.undef :: (AV.undef :: (AV.undef :: (AV.undef :: ((AV.one (SV.int (Go.IntKind.i64) x2)) :: (AV.undef :: (AV.undef :: (AV.undef :: (AV.undef :: (AV.undef :: (AV.undef :: (AV.undef :: (AV.undef :: (AV.undef :: (AV.undef :: (AV.undef :: (AV.undef :: (AV.undef :: (AV.undef :: (AV.undef :: (AV.undef :: (AV.undef :: (AV.undef :: (AV.undef :: (AV.undef :: (AV.undef :: (AV.undef :: (AV.undef :: (AV.undef :: (AV.undef :: (AV.undef :: (AV.undef :: (AV.undef :: (AV.undef :: (AV.undef :: (AV.undef :: (AV.undef :: (AV.undef :: (AV.undef :: (AV.undef :: (AV.undef :: (AV.undef :: (AV.undef :: []))))))))))))))))))))))))))))))))))))))))))))))))))))))))))))))))))))))))))))))))))))))))))))))))))) ((1000000,(Ent.map x3)) :: ((1000001,(Ent.row (⟨33,(Ty.int Go.IntKind.i64).pair ((Ty.row (nat_lit 51) ((Ty.int Go.IntKind.i64).pair ((Ty.int Go.IntKind.i64).pair ((Ty.int Go.IntKind.i64).pair Ty.bool)))).pair (Ty.row (nat_lit 3) (Ty.int Go.IntKind.i64))),x4⟩:Rw) 0 Option.none)) :: ((1000002,(Ent.box ((SV.int (Go.IntKind.i64) x5) :: ((SV.ref 1000003 0 [] Option.none) :: ((SV.ref 1000004 0 [] Option.none) :: []))))) :: ((1000003,(Ent.row (⟨51,(Ty.int Go.IntKind.i64).pair ((Ty.int Go.IntKind.i64).pair ((Ty.int Go.IntKind.i64).pair Ty.bool)),x6⟩:Rw) 0 Option.none)) :: ((1000004,(Ent.row (⟨3,Ty.int Go.IntKind.i64,x7⟩:Rw) 0 Option.none)) :: []))))))
def sh6_L7 (x0:Int) (x1:Bool) (x2:List (ByteArray × Bool)) (x3:List (Int × List (Int × Int × Int × Bool) × List Int)):St:=(St.mk (AV.undef :: (AV.undef :: (AV.undef :: (AV.undef :: (AV.undef :: (AV.undef :: (AV.undef :: (AV.undef :: (AV.undef :: (AV.undef :: ((AV.one (SV.mapr 1000000)) :: ((AV.one (SV.int (Go.IntKind.i64) x0)) :: ((AV.one (SV.bool x1)) :: ((AV.one (SV.ref 1000001 0 [] Option.none)) :: (AV.undef :: (AV.undef :: (AV.undef :: (AV.undef :: (AV.undef :: (AV.undef :: (AV.undef :: (AV.undef :: (AV.undef :: (AV.undef :: (AV.undef :: (AV.undef :: (AV.undef :: (AV.undef :: (AV.undef :: (AV.undef :: (AV.undef :: (AV.undef :: (AV.undef :: (AV.undef :: (AV.undef :: (AV.undef :: (AV.undef :: (AV.undef :: (AV.undef :: (AV.undef :: (AV.undef :: (AV.undef :: (AV.undef :: (AV.undef :: (AV.undef :: (AV.undef :: (AV.undef :: (AV.undef :: (AV.undef :: (AV.undef :: (AV.undef :: (AV.undef :: (AV.undef :: (AV.undef :: (AV.undef :: (AV.undef :: (AV.undef :: (AV.undef :: (AV.undef :: (AV.undef :: (AV.undef :: (AV.undef :: (AV.undef :: (AV.undef :: (AV.undef :: (AV.undef :: (AV.undef :: (AV.undef :: (AV.undef :: (AV.undef :: (AV.undef :: (AV.undef :: (AV.undef :: (AV.undef :: (AV.undef :: (AV.undef :: (AV.undef :: (AV.undef :: (AV.undef :: (AV.undef :: (AV.undef :: (AV.undef :: (AV.undef :: (AV.undef :: (AV.undef :: (AV.undef :: (AV.undef :: (AV.undef :: (AV.undef :: (AV.undef :: (AV.undef :: (AV.undef :: (AV.undef :: (AV.undef :: (AV.undef :: (AV.undef :: (AV.undef :: (AV.undef :: (AV.undef :: []))))))))))))))))))))))))))))))))))))))))))))))))))))))))))))))))))))))))))))))))))))))))))))))))))) ((1000000,(Ent.map x2)) :: ((1000001,(Ent.row (⟨33,(Ty.int Go.IntKind.i64).pair ((Ty.row (nat_lit 51) ((Ty.int Go.IntKind.i64).pair ((Ty.int Go.IntKind.i64).pair ((Ty.int Go.IntKind.i64).pair Ty.bool)))).pair (Ty.row (nat_lit 3) (Ty.int Go.IntKind.i64))),x3⟩:Rw) 0 Option.none)) :: [])))
noncomputable def st6_top (n:Nat) (lL7:Int→Bool→(List (ByteArray × Bool))→(List (Int × List (Int × Int × Int × Bool) × List Int))→Option R6) (a:Int) (b:Int):Option R6 :=
 (q16 n (a,(1:Int),(3:Int),())).bind fun r0=>cond (!r0.1.1) (some (((0:Int),((0:Int),(false,(false,())))),())) ((q16 n (b,(1:Int),(2:Int),())).bind fun r1=>cond (!r1.1.1) (some (((0:Int),((0:Int),(false,(false,())))),())) (cond (decide (a=(3:Int))) (cond (decide (b=(2:Int))) (some (((0:Int),((0:Int),(false,(false,())))),())) ((q17 n (a,b,())).bind fun r2=>(q18 n ((r2.1.1.1,r2.1.1.2.1,r2.1.1.2.2),())).bind fun r3=>lL7 ((0:Int)) (false) ([(r3.1.1,true)]) ([(r2.1.1.1,r2.1.1.2.1,r2.1.1.2.2)]))) ((q17 n (a,b,())).bind fun r12=>(q18 n ((r12.1.1.1,r12.1.1.2.1,r12.1.1.2.2),())).bind fun r13=>lL7 ((0:Int)) (false) ([(r13.1.1,true)]) ([(r12.1.1.1,r12.1.1.2.1,r12.1.1.2.2)]))))
noncomputable def st6_L13 (n:Nat) (lL13:Int→Bool→Int→Int→(List (ByteArray × Bool))→(List (Int × List (Int × Int × Int × Bool) × List Int))→Int→(List (Int × Int × Int × Bool))→(List Int)→Option R6) (lL7:Int→Bool→(List (ByteArray × Bool))→(List (Int × List (Int × Int × Int × Bool) × List Int))→Option R6) (x0:Int) (x1:Bool) (x2:Int) (x3:Int) (x4:List (ByteArray × Bool)) (x5:List (Int × List (Int × Int × Int × Bool) × List Int)) (x6:Int) (x7:List (Int × Int × Int × Bool)) (x8:List Int):Option R6 :=
 cond (decide (x3 < x2)) ((q21 n ((x6,x7,x8),x3,())).bind fun r8=>cond (!r8.1.1) (lL13 (x0) (x1) (x2) (Go.IntKind.i64.wrap (x3 + (1:Int))) (x4) (x5) (x6) (x7) (x8)) ((q22 n ((x6,x7,x8),x3,())).bind fun r9=>(q18 n ((r9.1.1.1,r9.1.1.2.1,r9.1.1.2.2),())).bind fun r10=>cond (!mget x4 r10.1.1) (cond (decide ((x5.length + [(r9.1.1.1,r9.1.1.2.1,r9.1.1.2.2)].length) * (56:Nat)≤(140737488355328:Nat))) (lL13 (x0) (x1) (x2) (Go.IntKind.i64.wrap (x3 + (1:Int))) (mput x4 r10.1.1 true) (x5 ++ [(r9.1.1.1,r9.1.1.2.1,r9.1.1.2.2)]) (x6) (x7) (x8)) (none)) (lL13 (x0) (x1) (x2) (Go.IntKind.i64.wrap (x3 + (1:Int))) (x4) (x5) (x6) (x7) (x8)))) (lL7 (x0) (x1) (x4) (x5))
noncomputable def st6_C10_1 (n:Nat) (lL13:Int→Bool→Int→Int→(List (ByteArray × Bool))→(List (Int × List (Int × Int × Int × Bool) × List Int))→Int→(List (Int × Int × Int × Bool))→(List Int)→Option R6) (x0:Int) (x1:Bool) (x2:Int) (x3:List (ByteArray × Bool)) (x4:List (Int × List (Int × Int × Int × Bool) × List Int)) (x5:Int) (x6:List (Int × Int × Int × Bool)) (x7:List Int):Option R6 :=
 (q19 n ((x5,x6,x7),())).bind fun r6=>cond (x1) (lL13 (if r6.1.1 > x2 then r6.1.1 else x2) (true) ((↑x6.length:Int)) ((0:Int)) (x3) (x4) (x5) (x6) (x7)) ((q20 n ((x5,x6,x7),())).bind fun r11=>lL13 (if r6.1.1 > x2 then r6.1.1 else x2) (r11.1.1) ((↑x6.length:Int)) ((0:Int)) (x3) (x4) (x5) (x6) (x7))
noncomputable def st6_L7 (n:Nat) (lC10_1:Int→Bool→Int→(List (ByteArray × Bool))→(List (Int × List (Int × Int × Int × Bool) × List Int))→Int→(List (Int × Int × Int × Bool))→(List Int)→Option R6) (x0:Int) (x1:Bool) (x2:List (ByteArray × Bool)) (x3:List (Int × List (Int × Int × Int × Bool) × List Int)):Option R6 :=
 cond (decide ((0:Int) < (↑x3.length:Int))) (cond (decide ((0:Int)≤Go.IntKind.i64.wrap ((↑x3.length:Int) - (1:Int)))) (cond (decide (Go.IntKind.i64.wrap ((↑x3.length:Int) - (1:Int)) < (↑x3.length:Int))) (cond (decide ((0:Int)≤Go.IntKind.i64.wrap ((↑x3.length:Int) - (1:Int)))) (cond (decide (Go.IntKind.i64.wrap ((↑x3.length:Int) - (1:Int))≤(↑x3.length:Int))) (cond (decide ((↑(Go.IntKind.i64.wrap ((↑x3.length:Int) - (1:Int)) - (0:Int)).toNat:Int)≤(↑(Go.IntKind.i64.wrap ((↑x3.length:Int) - (1:Int))).toNat:Int))) (cond (decide ((↑(Go.IntKind.i64.wrap ((↑x3.length:Int) - (1:Int))).toNat:Int) < (↑x3.length:Int))) (cond (decide ((↑(Go.IntKind.i64.wrap ((↑x3.length:Int) - (1:Int))).toNat:Int)=(↑(Go.IntKind.i64.wrap ((↑x3.length:Int) - (1:Int))).toNat:Int))) (cond (decide ((↑(Go.IntKind.i64.wrap ((↑x3.length:Int) - (1:Int))).toNat:Int)=(↑(Go.IntKind.i64.wrap ((↑x3.length:Int) - (1:Int))).toNat:Int))) (lC10_1 (x0) (x1) (x0) (x2) (List.take (Go.IntKind.i64.wrap ((↑x3.length:Int) - (1:Int)) - (0:Int)).toNat x3) ((x3.getD (Go.IntKind.i64.wrap ((↑x3.length:Int) - (1:Int))).toNat ((0:Int),[],[])).1) ((x3.getD (Go.IntKind.i64.wrap ((↑x3.length:Int) - (1:Int))).toNat ((0:Int),[],[])).2.1) ((x3.getD (Go.IntKind.i64.wrap ((↑x3.length:Int) - (1:Int))).toNat ((0:Int),[],[])).2.2)) (none)) (none)) (none)) (none)) (none)) (none)) (none)) (none)) (some (((↑x2.length:Int),(x0,(x1,(true,())))),()))
theorem e6_top (n:Nat) (a:Int) (b:Int):runF TT G6 an6 Tryd.f6 c6 ps6 rs6 n (a,b,())=st6_top n (fun x0 x1 x2 x3=>at6 n (.head 7) [n] (sh6_L7 x0 x1 x2 x3)) a b:=by kernel_rfl
theorem e6_L13_0 (n:Nat) (m7:Nat) (x0:Int) (x1:Bool) (x2:Int) (x3:Int) (x4:List (ByteArray × Bool)) (x5:List (Int × List (Int × Int × Int × Bool) × List Int)) (x6:Int) (x7:List (Int × Int × Int × Bool)) (x8:List Int):at6 n (.head 13) [m7,0] (sh6_L13 x0 x1 x2 x3 x4 x5 x6 x7 x8)=none:=by kernel_rfl
theorem e6_L13 (n:Nat) (m7:Nat) (m13:Nat) (x0:Int) (x1:Bool) (x2:Int) (x3:Int) (x4:List (ByteArray × Bool)) (x5:List (Int × List (Int × Int × Int × Bool) × List Int)) (x6:Int) (x7:List (Int × Int × Int × Bool)) (x8:List Int):at6 n (.head 13) [m7,m13 + 1] (sh6_L13 x0 x1 x2 x3 x4 x5 x6 x7 x8)=st6_L13 n (fun x0 x1 x2 x3 x4 x5 x6 x7 x8=>at6 n (.head 13) [m7,m13] (sh6_L13 x0 x1 x2 x3 x4 x5 x6 x7 x8)) (fun x0 x1 x2 x3=>at6 n (.head 7) [m7] (sh6_L7 x0 x1 x2 x3)) x0 x1 x2 x3 x4 x5 x6 x7 x8:=by kernel_rfl
theorem e6_C10_1 (n:Nat) (m7:Nat) (x0:Int) (x1:Bool) (x2:Int) (x3:List (ByteArray × Bool)) (x4:List (Int × List (Int × Int × Int × Bool) × List Int)) (x5:Int) (x6:List (Int × Int × Int × Bool)) (x7:List Int):at6 n (.op 10 1) [m7] (sh6_C10_1 x0 x1 x2 x3 x4 x5 x6 x7)=st6_C10_1 n (fun x0 x1 x2 x3 x4 x5 x6 x7 x8=>at6 n (.head 13) [m7,n] (sh6_L13 x0 x1 x2 x3 x4 x5 x6 x7 x8)) x0 x1 x2 x3 x4 x5 x6 x7:=by kernel_rfl
theorem e6_L7_0 (n:Nat) (x0:Int) (x1:Bool) (x2:List (ByteArray × Bool)) (x3:List (Int × List (Int × Int × Int × Bool) × List Int)):at6 n (.head 7) [0] (sh6_L7 x0 x1 x2 x3)=none:=by kernel_rfl
theorem e6_L7 (n:Nat) (m7:Nat) (x0:Int) (x1:Bool) (x2:List (ByteArray × Bool)) (x3:List (Int × List (Int × Int × Int × Bool) × List Int)):at6 n (.head 7) [m7 + 1] (sh6_L7 x0 x1 x2 x3)=st6_L7 n (fun x0 x1 x2 x3 x4 x5 x6 x7=>at_ 10001 (at6 n (.op 10 1) [m7]) (sh6_C10_1 x0 x1 x2 x3 x4 x5 x6 x7)) x0 x1 x2 x3:=by kernel_rfl
noncomputable def p6_L13 (g7:Int→Bool→(List (ByteArray × Bool))→(List (Int × List (Int × Int × Int × Bool) × List Int))→Option R6) (n:Nat):Nat→Int→Bool→Int→Int→(List (ByteArray × Bool))→(List (Int × List (Int × Int × Int × Bool) × List Int))→Int→(List (Int × Int × Int × Bool))→(List Int)→Option R6
 | 0,_,_,_,_,_,_,_,_,_=>none
 | m + 1,x0,x1,x2,x3,x4,x5,x6,x7,x8=>st6_L13 n (p6_L13 g7 n m) g7 x0 x1 x2 x3 x4 x5 x6 x7 x8
noncomputable def p6_C10_1 (g7:Int→Bool→(List (ByteArray × Bool))→(List (Int × List (Int × Int × Int × Bool) × List Int))→Option R6) (n:Nat) (x0:Int) (x1:Bool) (x2:Int) (x3:List (ByteArray × Bool)) (x4:List (Int × List (Int × Int × Int × Bool) × List Int)) (x5:Int) (x6:List (Int × Int × Int × Bool)) (x7:List Int):Option R6:=st6_C10_1 n (p6_L13 g7 n n) x0 x1 x2 x3 x4 x5 x6 x7
noncomputable def p6_L7 (n:Nat):Nat→Int→Bool→(List (ByteArray × Bool))→(List (Int × List (Int × Int × Int × Bool) × List Int))→Option R6
 | 0,_,_,_,_=>none
 | m + 1,x0,x1,x2,x3=>st6_L7 n (p6_C10_1 (p6_L7 n m) n) x0 x1 x2 x3
noncomputable def p6 (n:Nat) (a:Int) (b:Int):Option R6:=st6_top n (p6_L7 n n) a b
theorem t6_L13 (n:Nat) (m7:Nat):∀ (m13:Nat) (x0:Int) (x1:Bool) (x2:Int) (x3:Int) (x4:List (ByteArray × Bool)) (x5:List (Int × List (Int × Int × Int × Bool) × List Int)) (x6:Int) (x7:List (Int × Int × Int × Bool)) (x8:List Int),at6 n (.head 13) [m7,m13] (sh6_L13 x0 x1 x2 x3 x4 x5 x6 x7 x8)=p6_L13 (fun x0 x1 x2 x3=>at6 n (.head 7) [m7] (sh6_L7 x0 x1 x2 x3)) n m13 x0 x1 x2 x3 x4 x5 x6 x7 x8:=by
 intro m
 induction m with
 | zero=>intros; rw [e6_L13_0]; rfl
 | succ m ih =>
  intros
  rw [e6_L13]
  try simp only [ih]
  rfl
theorem t6_C10_1 (n:Nat) (m7:Nat) (x0:Int) (x1:Bool) (x2:Int) (x3:List (ByteArray × Bool)) (x4:List (Int × List (Int × Int × Int × Bool) × List Int)) (x5:Int) (x6:List (Int × Int × Int × Bool)) (x7:List Int):at6 n (.op 10 1) [m7] (sh6_C10_1 x0 x1 x2 x3 x4 x5 x6 x7)=p6_C10_1 (fun x0 x1 x2 x3=>at6 n (.head 7) [m7] (sh6_L7 x0 x1 x2 x3)) n x0 x1 x2 x3 x4 x5 x6 x7:=by
 rw [e6_C10_1]
 simp only [t6_L13]
 try rfl
theorem t6_L7 (n:Nat):∀ (m7:Nat) (x0:Int) (x1:Bool) (x2:List (ByteArray × Bool)) (x3:List (Int × List (Int × Int × Int × Bool) × List Int)),at6 n (.head 7) [m7] (sh6_L7 x0 x1 x2 x3)=p6_L7 n m7 x0 x1 x2 x3:=by
 intro m
 induction m with
 | zero=>intros; rw [e6_L7_0]; rfl
 | succ m ih =>
  intros
  rw [e6_L7]
  try simp only [ateq6,t6_C10_1,ih]
  rfl
theorem F6_eq (n:Nat) (a:Int) (b:Int):runF TT G6 an6 Tryd.f6 c6 ps6 rs6 n (a,b,())=p6 n a b:=by
 rw [e6_top]
 simp only [t6_L7]
 try rfl
noncomputable def q6 (n:Nat) (x:argsD ps6):Option R6:=p6 n x.1 x.2.1
noncomputable def Sm6:Sm:=⟨ps6,rs6,false,q6⟩
theorem holds6 (hg:GamOK Tryd.prog G6):Holds Tryd.prog 6 Sm6:=by
 have:=h0_6 hg
 have e:(runF TT G6 an6 Tryd.f6 c6 ps6 rs6)=q6:=by
  funext n x
  exact F6_eq n x.1 x.2.1
 rw [e] at this
 exact this
theorem gam6:GamOK Tryd.prog G6:=by
 intro f s h
 unfold G6 at h
 split at h
 ·injection h with h; subst h; exact ⟨⟨Tryd.f16,c16,Tryd.func16,by kernel_rfl,by decide +kernel⟩,hh16⟩
 ·injection h with h; subst h; exact ⟨⟨Tryd.f17,c17,Tryd.func17,by kernel_rfl,by decide +kernel⟩,hh17⟩
 ·injection h with h; subst h; exact ⟨⟨Tryd.f18,c18,Tryd.func18,by kernel_rfl,by decide +kernel⟩,hh18⟩
 ·injection h with h; subst h; exact ⟨⟨Tryd.f19,c19,Tryd.func19,by kernel_rfl,by decide +kernel⟩,hh19⟩
 ·injection h with h; subst h; exact ⟨⟨Tryd.f20,c20,Tryd.func20,by kernel_rfl,by decide +kernel⟩,hh20⟩
 ·injection h with h; subst h; exact ⟨⟨Tryd.f21,c21,Tryd.func21,by kernel_rfl,by decide +kernel⟩,hh21⟩
 ·injection h with h; subst h; exact ⟨⟨Tryd.f22,c22,Tryd.func22,by kernel_rfl,by decide +kernel⟩,hh22⟩
 ·cases h
theorem hh6:Holds Tryd.prog 6 Sm6:=holds6 gam6
end Go.Proofs.YtpcohpkflkhfbaaDoor.Rx.S

namespace Go.Proofs.YtpcohpkflkhfbaaDoor.Rx.S
open Go Go.RowKit Go.Proofs
set_option maxRecDepth 100000
noncomputable def c3:Code:=(Tryd.f3.body.getD .skip)
def an3:An:=⟨fun _=>⟨[],[]⟩,fun _ _=>none⟩
abbrev ps3:List PK:=[.val i64 false,.val i64 false]
abbrev rs3:List RK:=[.val .bool false]
abbrev R3:=retsD rs3 × outsD ps3
noncomputable def G3:Gam:=fun f=>match f with | 5=>some Sm5 | 6=>some Sm6 | _=>none
theorem h0_3 (hg:GamOK Tryd.prog G3):Holds Tryd.prog 3 ⟨ps3,rs3,false,runF TT G3 an3 Tryd.f3 c3 ps3 rs3⟩:=holds_of tt_ok hg mixed Tryd.func3 (by kernel_rfl) (by rfl) (by decide +kernel)
noncomputable def st3_top (n:Nat) (a:Int) (b:Int):Option R3 :=
 (q5 n (a,b,())).bind fun r0=>(q6 n (a,b,())).bind fun r1=>cond (!decide (r1.1.1=r0.1.1)) (some ((false,()),())) (cond (!decide (r1.1.2.1=r0.1.2.1)) (some ((false,()),())) (cond (!r1.1.2.2.1 == r0.1.2.2.1) (some ((false,()),())) (cond (!r1.1.2.2.2.1 == r0.1.2.2.2.1) (some ((false,()),())) (some ((true,()),())))))
theorem e3_top (n:Nat) (a:Int) (b:Int):runF TT G3 an3 Tryd.f3 c3 ps3 rs3 n (a,b,())=st3_top n a b:=by kernel_rfl
noncomputable def p3 (n:Nat) (a:Int) (b:Int):Option R3:=st3_top n a b
theorem F3_eq (n:Nat) (a:Int) (b:Int):runF TT G3 an3 Tryd.f3 c3 ps3 rs3 n (a,b,())=p3 n a b:=by
 rw [e3_top]
 skip
 try rfl
noncomputable def q3 (n:Nat) (x:argsD ps3):Option R3:=p3 n x.1 x.2.1
noncomputable def Sm3:Sm:=⟨ps3,rs3,false,q3⟩
theorem holds3 (hg:GamOK Tryd.prog G3):Holds Tryd.prog 3 Sm3:=by
 have:=h0_3 hg
 have e:(runF TT G3 an3 Tryd.f3 c3 ps3 rs3)=q3:=by
  funext n x
  exact F3_eq n x.1 x.2.1
 rw [e] at this
 exact this
theorem gam3:GamOK Tryd.prog G3:=by
 intro f s h
 unfold G3 at h
 split at h
 ·injection h with h; subst h; exact ⟨⟨Tryd.f5,c5,Tryd.func5,by kernel_rfl,by decide +kernel⟩,hh5⟩
 ·injection h with h; subst h; exact ⟨⟨Tryd.f6,c6,Tryd.func6,by kernel_rfl,by decide +kernel⟩,hh6⟩
 ·cases h
theorem hh3:Holds Tryd.prog 3 Sm3:=holds3 gam3
end Go.Proofs.YtpcohpkflkhfbaaDoor.Rx.S

namespace Go.Proofs.YtpcohpkflkhfbaaDoor.Rx.S
open Go Go.RowKit Go.Proofs
set_option maxRecDepth 100000
noncomputable def c23:Code:=(Tryd.f23.body.getD .skip)
def an23:An:=⟨fun _=>⟨[],[]⟩,fun _ _=>none⟩
abbrev ps23:List PK:=[.val (.row 5 (.int .u8)) false]
abbrev rs23:List RK:=[.bx tRd]
abbrev R23:=retsD rs23 × outsD ps23
noncomputable def G23:Gam:=fun _=>none
theorem h0_23 (hg:GamOK Tryd.prog G23):Holds Tryd.prog 23 ⟨ps23,rs23,true,runF TT G23 an23 Tryd.f23 c23 ps23 rs23⟩:=holds_of tt_ok hg mixed Tryd.func23 (by kernel_rfl) (by rfl) (by decide +kernel)
noncomputable def st23_top (n:Nat) (a:List Int):Option R23 :=
 cond (decide ((2000:Int) < (↑a.length:Int))) (cond (decide ((2000:Int)≤(↑a.length:Int))) (some (((List.take (Int.toNat (2000:Int)) a,(0:Int)),()),())) (none)) (some (((a,(0:Int)),()),()))
theorem e23_top (n:Nat) (a:List Int):runF TT G23 an23 Tryd.f23 c23 ps23 rs23 n (a,())=st23_top n a:=by kernel_rfl
noncomputable def p23 (n:Nat) (a:List Int):Option R23:=st23_top n a
theorem F23_eq (n:Nat) (a:List Int):runF TT G23 an23 Tryd.f23 c23 ps23 rs23 n (a,())=p23 n a:=by
 rw [e23_top]
 skip
 try rfl
noncomputable def q23 (n:Nat) (x:argsD ps23):Option R23:=p23 n x.1
noncomputable def Sm23:Sm:=⟨ps23,rs23,true,q23⟩
theorem holds23 (hg:GamOK Tryd.prog G23):Holds Tryd.prog 23 Sm23:=by
 have:=h0_23 hg
 have e:(runF TT G23 an23 Tryd.f23 c23 ps23 rs23)=q23:=by
  funext n x
  exact F23_eq n x.1
 rw [e] at this
 exact this
theorem gam23:GamOK Tryd.prog G23:=fun _ _ h=>by cases h
theorem hh23:Holds Tryd.prog 23 Sm23:=holds23 gam23
end Go.Proofs.YtpcohpkflkhfbaaDoor.Rx.S

namespace Go.Proofs.YtpcohpkflkhfbaaDoor.Rx.S
open Go Go.RowKit Go.Proofs
set_option maxRecDepth 100000
noncomputable def c24:Code:=(Tryd.f24.body.getD .skip)
def an24:An:=⟨fun _=>⟨[],[]⟩,fun _ _=>none⟩
abbrev ps24:List PK:=[.bx tRd,.val i64 false]
abbrev rs24:List RK:=[.val i64 false]
abbrev R24:=retsD rs24 × outsD ps24
noncomputable def G24:Gam:=fun _=>none
theorem h0_24 (hg:GamOK Tryd.prog G24):Holds Tryd.prog 24 ⟨ps24,rs24,true,runF TT G24 an24 Tryd.f24 c24 ps24 rs24⟩:=holds_of tt_ok hg mixed Tryd.func24 (by kernel_rfl) (by rfl) (by decide +kernel)
noncomputable def st24_top (n:Nat) (a:List Int × Int) (b:Int):Option R24 :=
 cond (decide (b < (1:Int))) (some (((0:Int),()),((a.1,Go.IntKind.i64.wrap (a.2 + (1:Int))),()))) (cond (decide ((↑(List.length a.1):Int)=(0:Int))) (some (((0:Int),()),((a.1,Go.IntKind.i64.wrap (a.2 + (1:Int))),()))) (cond (decide (Go.IntKind.i64.wrap (Go.IntKind.i64.wrap (a.2 + (1:Int)) - (1:Int)) < (↑(List.length a.1):Int))) (cond (decide ((0:Int)≤Go.IntKind.i64.wrap (Go.IntKind.i64.wrap (a.2 + (1:Int)) - (1:Int)))) (cond (decide (Go.IntKind.i64.wrap (Go.IntKind.i64.wrap (a.2 + (1:Int)) - (1:Int)) < (↑(List.length a.1):Int))) (cond (!decide (b=(0:Int))) (some (((Go.IntKind.i64.wrap (List.getD a.1 (Go.IntKind.i64.wrap (Go.IntKind.i64.wrap (a.2 + (1:Int)) - (1:Int))).toNat (0:Int))).tmod b,()),((a.1,Go.IntKind.i64.wrap (a.2 + (1:Int))),()))) (none)) (none)) (none)) (cond (!decide ((↑(List.length a.1):Int)=(0:Int))) (cond (decide ((0:Int)≤(Go.IntKind.i64.wrap (Go.IntKind.i64.wrap (a.2 + (1:Int)) - (1:Int))).tmod (↑(List.length a.1):Int))) (cond (decide ((Go.IntKind.i64.wrap (Go.IntKind.i64.wrap (a.2 + (1:Int)) - (1:Int))).tmod (↑(List.length a.1):Int) < (↑(List.length a.1):Int))) (cond (!decide ((↑(List.length a.1):Int)=(0:Int))) (cond (decide ((0:Int)≤(Go.IntKind.i64.wrap (Go.IntKind.i64.wrap (Go.IntKind.i64.wrap (Go.IntKind.i64.wrap (a.2 + (1:Int)) - (1:Int)) * (7:Int)) + (3:Int))).tmod (↑(List.length a.1):Int))) (cond (decide ((Go.IntKind.i64.wrap (Go.IntKind.i64.wrap (Go.IntKind.i64.wrap (Go.IntKind.i64.wrap (a.2 + (1:Int)) - (1:Int)) * (7:Int)) + (3:Int))).tmod (↑(List.length a.1):Int) < (↑(List.length a.1):Int))) (cond (!decide ((↑(List.length a.1):Int)=(0:Int))) (cond (!decide (b=(0:Int))) (some (((Go.IntKind.i64.wrap (↑(BitVec.ofInt Go.IntKind.i64.bits (Go.IntKind.i64.wrap (Go.IntKind.i64.wrap (Go.IntKind.i64.wrap (Go.IntKind.i64.wrap (Go.IntKind.i64.wrap (List.getD a.1 ((Go.IntKind.i64.wrap (Go.IntKind.i64.wrap (a.2 + (1:Int)) - (1:Int))).tmod (↑(List.length a.1):Int)).toNat (0:Int)) * (131:Int)) + Go.IntKind.i64.wrap (Go.IntKind.i64.wrap (List.getD a.1 ((Go.IntKind.i64.wrap (Go.IntKind.i64.wrap (Go.IntKind.i64.wrap (Go.IntKind.i64.wrap (a.2 + (1:Int)) - (1:Int)) * (7:Int)) + (3:Int))).tmod (↑(List.length a.1):Int)).toNat (0:Int)) * (1117:Int))) + Go.IntKind.i64.wrap (Go.IntKind.i64.wrap (Go.IntKind.i64.wrap (a.2 + (1:Int)) - (1:Int)) * (29:Int))) + Go.IntKind.i64.wrap (Go.IntKind.i64.wrap ((Go.IntKind.i64.wrap (Go.IntKind.i64.wrap (a.2 + (1:Int)) - (1:Int))).tdiv (↑(List.length a.1):Int)) * (53:Int)))) ^^^ BitVec.ofInt Go.IntKind.i64.bits (Go.IntKind.i64.wrap ((Go.IntKind.i64.wrap (Go.IntKind.i64.wrap (Go.IntKind.i64.wrap (Go.IntKind.i64.wrap (Go.IntKind.i64.wrap (List.getD a.1 ((Go.IntKind.i64.wrap (Go.IntKind.i64.wrap (a.2 + (1:Int)) - (1:Int))).tmod (↑(List.length a.1):Int)).toNat (0:Int)) * (131:Int)) + Go.IntKind.i64.wrap (Go.IntKind.i64.wrap (List.getD a.1 ((Go.IntKind.i64.wrap (Go.IntKind.i64.wrap (Go.IntKind.i64.wrap (Go.IntKind.i64.wrap (a.2 + (1:Int)) - (1:Int)) * (7:Int)) + (3:Int))).tmod (↑(List.length a.1):Int)).toNat (0:Int)) * (1117:Int))) + Go.IntKind.i64.wrap (Go.IntKind.i64.wrap (Go.IntKind.i64.wrap (a.2 + (1:Int)) - (1:Int)) * (29:Int))) + Go.IntKind.i64.wrap (Go.IntKind.i64.wrap ((Go.IntKind.i64.wrap (Go.IntKind.i64.wrap (a.2 + (1:Int)) - (1:Int))).tdiv (↑(List.length a.1):Int)) * (53:Int)))).tdiv (64:Int)))).toNat:Int)).tmod b,()),((a.1,Go.IntKind.i64.wrap (a.2 + (1:Int))),()))) (none)) (none)) (none)) (none)) (none)) (none)) (none)) (none))))
theorem e24_top (n:Nat) (a:List Int × Int) (b:Int):runF TT G24 an24 Tryd.f24 c24 ps24 rs24 n (a,b,())=st24_top n a b:=by kernel_rfl
noncomputable def p24 (n:Nat) (a:List Int × Int) (b:Int):Option R24:=st24_top n a b
theorem F24_eq (n:Nat) (a:List Int × Int) (b:Int):runF TT G24 an24 Tryd.f24 c24 ps24 rs24 n (a,b,())=p24 n a b:=by
 rw [e24_top]
 skip
 try rfl
noncomputable def q24 (n:Nat) (x:argsD ps24):Option R24:=p24 n x.1 x.2.1
noncomputable def Sm24:Sm:=⟨ps24,rs24,true,q24⟩
theorem holds24 (hg:GamOK Tryd.prog G24):Holds Tryd.prog 24 Sm24:=by
 have:=h0_24 hg
 have e:(runF TT G24 an24 Tryd.f24 c24 ps24 rs24)=q24:=by
  funext n x
  exact F24_eq n x.1 x.2.1
 rw [e] at this
 exact this
theorem gam24:GamOK Tryd.prog G24:=fun _ _ h=>by cases h
theorem hh24:Holds Tryd.prog 24 Sm24:=holds24 gam24
end Go.Proofs.YtpcohpkflkhfbaaDoor.Rx.S

namespace Go.Proofs.YtpcohpkflkhfbaaDoor.Rx.S
open Go Go.RowKit Go.Proofs
set_option maxRecDepth 100000
noncomputable def c7:Code:=(Tryd.f7.body.getD .skip)
def an7:An:=⟨fun _=>⟨[],[]⟩,fun _ _=>none⟩
abbrev ps7:List PK:=[.val (.row 5 (.int .u8)) false]
abbrev rs7:List RK:=[.val i64 false,.val i64 false]
abbrev R7:=retsD rs7 × outsD ps7
noncomputable def G7:Gam:=fun f=>match f with | 23=>some Sm23 | 24=>some Sm24 | _=>none
theorem h0_7 (hg:GamOK Tryd.prog G7):Holds Tryd.prog 7 ⟨ps7,rs7,true,runF TT G7 an7 Tryd.f7 c7 ps7 rs7⟩:=holds_of tt_ok hg mixed Tryd.func7 (by kernel_rfl) (by rfl) (by decide +kernel)
noncomputable def st7_top (n:Nat) (a:List Int):Option R7 :=
 (q23 n (a,())).bind fun r0=>(q24 n ((r0.1.1.1,r0.1.1.2),(5:Int),())).bind fun r1=>(q24 n ((r1.2.1.1,r1.2.1.2),(4:Int),())).bind fun r2=>some ((r1.1.1,(r2.1.1,())),())
theorem e7_top (n:Nat) (a:List Int):runF TT G7 an7 Tryd.f7 c7 ps7 rs7 n (a,())=st7_top n a:=by kernel_rfl
noncomputable def p7 (n:Nat) (a:List Int):Option R7:=st7_top n a
theorem F7_eq (n:Nat) (a:List Int):runF TT G7 an7 Tryd.f7 c7 ps7 rs7 n (a,())=p7 n a:=by
 rw [e7_top]
 skip
 try rfl
noncomputable def q7 (n:Nat) (x:argsD ps7):Option R7:=p7 n x.1
noncomputable def Sm7:Sm:=⟨ps7,rs7,true,q7⟩
theorem holds7 (hg:GamOK Tryd.prog G7):Holds Tryd.prog 7 Sm7:=by
 have:=h0_7 hg
 have e:(runF TT G7 an7 Tryd.f7 c7 ps7 rs7)=q7:=by
  funext n x
  exact F7_eq n x.1
 rw [e] at this
 exact this
theorem gam7:GamOK Tryd.prog G7:=by
 intro f s h
 unfold G7 at h
 split at h
 ·injection h with h; subst h; exact ⟨⟨Tryd.f23,c23,Tryd.func23,by kernel_rfl,by decide +kernel⟩,hh23⟩
 ·injection h with h; subst h; exact ⟨⟨Tryd.f24,c24,Tryd.func24,by kernel_rfl,by decide +kernel⟩,hh24⟩
 ·cases h
theorem hh7:Holds Tryd.prog 7 Sm7:=holds7 gam7
end Go.Proofs.YtpcohpkflkhfbaaDoor.Rx.S

namespace Go.Proofs.YtpcohpkflkhfbaaDoor.Rx.S
open Go Go.RowKit Go.Proofs
set_option maxRecDepth 100000
noncomputable def c4:Code:=(Tryd.f4.body.getD .skip)
def an4:An:=⟨fun _=>⟨[],[]⟩,fun _ _=>none⟩
abbrev ps4:List PK:=[.val (.row 5 (.int .u8)) false]
abbrev rs4:List RK:=[.val .bool false]
abbrev R4:=retsD rs4 × outsD ps4
noncomputable def G4:Gam:=fun f=>match f with | 5=>some Sm5 | 6=>some Sm6 | 7=>some Sm7 | _=>none
theorem h0_4 (hg:GamOK Tryd.prog G4):Holds Tryd.prog 4 ⟨ps4,rs4,false,runF TT G4 an4 Tryd.f4 c4 ps4 rs4⟩:=holds_of tt_ok hg mixed Tryd.func4 (by kernel_rfl) (by rfl) (by decide +kernel)
noncomputable def st4_top (n:Nat) (a:List Int):Option R4 :=
 cond (decide ((1048576:Int) < (↑a.length:Int))) (some ((true,()),())) ((q7 n (a,())).bind fun r0=>(q6 n (r0.1.1,r0.1.2.1,())).bind fun r1=>(q5 n (r0.1.1,r0.1.2.1,())).bind fun r2=>cond (decide (r1.1.1=r2.1.1)) (cond (decide (r1.1.2.1=r2.1.2.1)) (cond (r1.1.2.2.1 == r2.1.2.2.1) (cond (!r1.1.2.2.2.1 == r2.1.2.2.2.1) (some ((r1.1.2.2.2.1 == r2.1.2.2.2.1,()),())) (cond (!r1.1.2.2.2.1) (some ((r1.1.2.2.2.1 == r2.1.2.2.2.1,()),())) (cond (decide (r1.1.2.1=(1:Int))) (cond (!r1.1.2.2.1) (some ((decide (r0.1.1 < r1.1.1),()),())) (some ((false,()),()))) (some ((false,()),()))))) (some ((false,()),()))) (some ((false,()),()))) (some ((false,()),())))
theorem e4_top (n:Nat) (a:List Int):runF TT G4 an4 Tryd.f4 c4 ps4 rs4 n (a,())=st4_top n a:=by kernel_rfl
noncomputable def p4 (n:Nat) (a:List Int):Option R4:=st4_top n a
theorem F4_eq (n:Nat) (a:List Int):runF TT G4 an4 Tryd.f4 c4 ps4 rs4 n (a,())=p4 n a:=by
 rw [e4_top]
 skip
 try rfl
noncomputable def q4 (n:Nat) (x:argsD ps4):Option R4:=p4 n x.1
noncomputable def Sm4:Sm:=⟨ps4,rs4,false,q4⟩
theorem holds4 (hg:GamOK Tryd.prog G4):Holds Tryd.prog 4 Sm4:=by
 have:=h0_4 hg
 have e:(runF TT G4 an4 Tryd.f4 c4 ps4 rs4)=q4:=by
  funext n x
  exact F4_eq n x.1
 rw [e] at this
 exact this
theorem gam4:GamOK Tryd.prog G4:=by
 intro f s h
 unfold G4 at h
 split at h
 ·injection h with h; subst h; exact ⟨⟨Tryd.f5,c5,Tryd.func5,by kernel_rfl,by decide +kernel⟩,hh5⟩
 ·injection h with h; subst h; exact ⟨⟨Tryd.f6,c6,Tryd.func6,by kernel_rfl,by decide +kernel⟩,hh6⟩
 ·injection h with h; subst h; exact ⟨⟨Tryd.f7,c7,Tryd.func7,by kernel_rfl,by decide +kernel⟩,hh7⟩
 ·cases h
theorem hh4:Holds Tryd.prog 4 Sm4:=holds4 gam4
end Go.Proofs.YtpcohpkflkhfbaaDoor.Rx.S

