/- What the functions of this seat compute, each as a plain function on lists and numbers, with the proof that a call answers so. No condition. -/
import Derived.Test.YthhopbicmaipgaaProg
import Derived.KernelRfl
import Derived.Test.YthhopbicmaipgaaRxK3
set_option linter.unusedVariables false
set_option linter.unusedSimpArgs false
namespace Go.Proofs.Ythhopbicmaipgaa.Rx
abbrev NT:Type:=Int × Int × Int × Int × Int × Int × Bool × ByteArray × List (ByteArray × Int)
abbrev ZN:NT:=((0:Int),(0:Int),(0:Int),(0:Int),(0:Int),(0:Int),false,ByteArray.empty,[])
end Go.Proofs.Ythhopbicmaipgaa.Rx
namespace Go.Proofs.Ythhopbicmaipgaa.Rx.S
open Go Go.RowKit Go.Proofs
def tbl:List (TypeId × TI):=[
(2,⟨.int .i64,1,8,[.int .i64],some (.int .i64),false⟩),
(3,⟨.int .i64,1,8,[.int .i64],some (.int .i64),false⟩),
(4,⟨.bool,1,1,[.bool],some .bool,false⟩),
(5,⟨.int .u8,1,1,[.int .u8],some (.int .u8),false⟩),
(6,⟨.int .u8,1,1,[.int .u8],some (.int .u8),false⟩),
(7,⟨.struct [(0,1),(1,1),(2,1),(3,1)],4,24,[.int .i64,.int .i64,.bool,.int .u8],some (.pair (.int .i64) (.pair (.int .i64) (.pair .bool (.int .u8)))),true⟩),
(8,⟨.struct [(0,1),(1,1),(2,1),(3,1)],4,24,[.int .i64,.int .i64,.bool,.int .u8],some (.pair (.int .i64) (.pair (.int .i64) (.pair .bool (.int .u8)))),true⟩),
(9,⟨.str,1,16,[.str],some .str,false⟩),
(10,⟨.str,1,16,[.str],some .str,false⟩),
(11,⟨.str,1,16,[.str],some .str,false⟩),
(12,⟨.int .u64,1,8,[.int .u64],some (.int .u64),false⟩),
(13,⟨.struct [(0,1),(1,1)],2,24,[.str,.int .u64],some (.pair .str (.int .u64)),false⟩),
(14,⟨.struct [(0,1),(1,1)],2,24,[.str,.int .u64],some (.pair .str (.int .u64)),false⟩),
(15,⟨.ptr,1,8,[.ptr],none,false⟩),
(16,⟨.ptr,1,8,[.ptr],none,false⟩),
(17,⟨.ptr,1,8,[.ptr],none,false⟩),
(18,⟨.struct [(0,1)],1,8,[.ptr],none,false⟩),
(19,⟨.struct [(0,1)],1,8,[.ptr],none,false⟩),
(21,⟨.int .i32,1,4,[.int .i32],some (.int .i32),false⟩),
(22,⟨.slice 5,1,24,[.slice],some (.row 5 (.int .u8)),false⟩),
(23,⟨.slice 39,1,24,[.slice],some (.row 39 (.pair (.int .i64) (.pair (.int .i64) (.pair (.int .i64) (.pair (.int .i64) (.pair (.int .i64) (.pair (.int .i64) (.pair .bool (.pair .str (.row 95 (.pair .str (.int .i64)))))))))))),false⟩),
(24,⟨.struct [(0,1)],1,24,[.slice],some (.row 39 (.pair (.int .i64) (.pair (.int .i64) (.pair (.int .i64) (.pair (.int .i64) (.pair (.int .i64) (.pair (.int .i64) (.pair .bool (.pair .str (.row 95 (.pair .str (.int .i64)))))))))))),false⟩),
(25,⟨.struct [(0,1)],1,24,[.slice],some (.row 39 (.pair (.int .i64) (.pair (.int .i64) (.pair (.int .i64) (.pair (.int .i64) (.pair (.int .i64) (.pair (.int .i64) (.pair .bool (.pair .str (.row 95 (.pair .str (.int .i64)))))))))))),false⟩),
(26,⟨.slice 3,1,24,[.slice],some (.row 3 (.int .i64)),false⟩),
(27,⟨.struct [(0,1),(1,1),(2,1)],3,40,[.int .i64,.int .i64,.slice],some (.pair (.int .i64) (.pair (.int .i64) (.row 3 (.int .i64)))),false⟩),
(28,⟨.struct [(0,1),(1,1),(2,1)],3,40,[.int .i64,.int .i64,.slice],some (.pair (.int .i64) (.pair (.int .i64) (.row 3 (.int .i64)))),false⟩),
(37,⟨.slice 95,1,24,[.slice],some (.row 95 (.pair .str (.int .i64))),false⟩),
(38,⟨.struct [(0,1),(1,1),(2,1),(3,1),(4,1),(5,1),(6,1),(7,1),(8,1)],9,96,[.int .i64,.int .i64,.int .i64,.int .i64,.int .i64,.int .i64,.bool,.str,.slice],some (.pair (.int .i64) (.pair (.int .i64) (.pair (.int .i64) (.pair (.int .i64) (.pair (.int .i64) (.pair (.int .i64) (.pair .bool (.pair .str (.row 95 (.pair .str (.int .i64))))))))))),false⟩),
(39,⟨.struct [(0,1),(1,1),(2,1),(3,1),(4,1),(5,1),(6,1),(7,1),(8,1)],9,96,[.int .i64,.int .i64,.int .i64,.int .i64,.int .i64,.int .i64,.bool,.str,.slice],some (.pair (.int .i64) (.pair (.int .i64) (.pair (.int .i64) (.pair (.int .i64) (.pair (.int .i64) (.pair (.int .i64) (.pair .bool (.pair .str (.row 95 (.pair .str (.int .i64))))))))))),false⟩),
(41,⟨.slice 136,1,24,[.slice],some (.row 136 (.pair (.int .i64) (.pair (.int .i64) (.pair (.int .i64) (.pair (.int .i64) (.pair (.int .i64) (.pair (.int .i64) (.pair .bool (.pair .str (.row 154 (.pair .str (.int .i64)))))))))))),false⟩),
(42,⟨.struct [(0,1)],1,24,[.slice],some (.row 136 (.pair (.int .i64) (.pair (.int .i64) (.pair (.int .i64) (.pair (.int .i64) (.pair (.int .i64) (.pair (.int .i64) (.pair .bool (.pair .str (.row 154 (.pair .str (.int .i64)))))))))))),false⟩),
(43,⟨.struct [(0,1)],1,24,[.slice],some (.row 136 (.pair (.int .i64) (.pair (.int .i64) (.pair (.int .i64) (.pair (.int .i64) (.pair (.int .i64) (.pair (.int .i64) (.pair .bool (.pair .str (.row 154 (.pair .str (.int .i64)))))))))))),false⟩),
(44,⟨.struct [(0,1),(1,1),(2,1)],3,40,[.int .i64,.int .i64,.slice],some (.pair (.int .i64) (.pair (.int .i64) (.row 3 (.int .i64)))),false⟩),
(73,⟨.ptr,1,8,[.ptr],none,false⟩),
(94,⟨.struct [(0,1),(1,1)],2,24,[.str,.int .i64],some (.pair .str (.int .i64)),true⟩),
(95,⟨.struct [(0,1),(1,1)],2,24,[.str,.int .i64],some (.pair .str (.int .i64)),true⟩),
(106,⟨.ptr,1,8,[.ptr],none,false⟩),
(110,⟨.struct [(0,1),(1,1)],2,32,[.slice,.int .i64],some (.pair (.row 5 (.int .u8)) (.int .i64)),false⟩),
(111,⟨.struct [(0,1),(1,1)],2,32,[.slice,.int .i64],some (.pair (.row 5 (.int .u8)) (.int .i64)),false⟩),
(115,⟨.slice 9,1,24,[.slice],some (.row 9 .str),false⟩),
(124,⟨.ptr,1,8,[.ptr],none,false⟩),
(126,⟨.slice 4,1,24,[.slice],some (.row 4 .bool),false⟩),
(134,⟨.slice 154,1,24,[.slice],some (.row 154 (.pair .str (.int .i64))),false⟩),
(135,⟨.struct [(0,1),(1,1),(2,1),(3,1),(4,1),(5,1),(6,1),(7,1),(8,1)],9,96,[.int .i64,.int .i64,.int .i64,.int .i64,.int .i64,.int .i64,.bool,.str,.slice],some (.pair (.int .i64) (.pair (.int .i64) (.pair (.int .i64) (.pair (.int .i64) (.pair (.int .i64) (.pair (.int .i64) (.pair .bool (.pair .str (.row 154 (.pair .str (.int .i64))))))))))),false⟩),
(136,⟨.struct [(0,1),(1,1),(2,1),(3,1),(4,1),(5,1),(6,1),(7,1),(8,1)],9,96,[.int .i64,.int .i64,.int .i64,.int .i64,.int .i64,.int .i64,.bool,.str,.slice],some (.pair (.int .i64) (.pair (.int .i64) (.pair (.int .i64) (.pair (.int .i64) (.pair (.int .i64) (.pair (.int .i64) (.pair .bool (.pair .str (.row 154 (.pair .str (.int .i64))))))))))),false⟩),
(143,⟨.int .u64,1,8,[.int .u64],some (.int .u64),false⟩),
(144,⟨.int .i64,1,8,[.int .i64],some (.int .i64),false⟩),
(154,⟨.struct [(0,1),(1,1)],2,24,[.str,.int .i64],some (.pair .str (.int .i64)),true⟩),
(159,⟨.struct [(0,1),(1,1),(2,1),(3,1)],4,40,[.ptr,.ptr,.ptr,.str],none,false⟩),
(160,⟨.struct [(0,1),(1,1),(2,1),(3,1)],4,40,[.ptr,.ptr,.ptr,.str],none,false⟩),
(162,⟨.struct [(0,0)],0,0,[],none,false⟩),
(163,⟨.struct [(0,0)],0,0,[],none,false⟩),
(165,⟨.int .u32,1,4,[.int .u32],some (.int .u32),false⟩),
(166,⟨.int .u8,1,1,[.int .u8],some (.int .u8),false⟩),
(167,⟨.int .u8,1,1,[.int .u8],some (.int .u8),false⟩),
(169,⟨.ptr,1,8,[.ptr],none,false⟩),
(170,⟨.int .i32,1,4,[.int .i32],some (.int .i32),false⟩),
(171,⟨.int .i32,1,4,[.int .i32],some (.int .i32),false⟩),
(175,⟨.other,1,8,[.ptr],none,false⟩)]
def TT:TB:=tbOf tbl
theorem tt_ok:TBok Try.prog TT:=tbOk (by decide +kernel)
abbrev i64:Ty:=.int .i64
abbrev tEn:Ty:=.pair .str i64
abbrev tRd:Ty:=.pair (.row 5 (.int .u8)) i64
abbrev tIn (a:TypeId):Ty:=.pair i64 (.pair i64 (.pair i64 (.pair i64 (.pair i64 (.pair i64 (.pair .bool (.pair .str (.row a tEn))))))))
abbrev tFs:Ty:=.row 39 (tIn 95)
abbrev tLf:Ty:=.row 136 (tIn 154)
abbrev tCr:Ty:=.pair i64 (.pair i64 (.row 3 i64))
theorem mixed:Try.prog.follows .mixedOrders=true:=by kernel_rfl
end Go.Proofs.Ythhopbicmaipgaa.Rx.S

namespace Go.Proofs.Ythhopbicmaipgaa.Rx.S
open Go Go.RowKit Go.Proofs
set_option maxRecDepth 100000
noncomputable def c55:Code:=(Try.f55.body.getD .skip)
def an55:An:=⟨fun _=>⟨[],[]⟩,fun _ _=>none⟩
abbrev ps55:List PK:=[.val i64 false,.val i64 false,.val i64 false]
abbrev rs55:List RK:=[.val .bool false]
abbrev R55:=retsD rs55 × outsD ps55
noncomputable def G55:Gam:=fun _=>none
theorem h0_55 (hg:GamOK Try.prog G55):Holds Try.prog 55 ⟨ps55,rs55,false,runF TT G55 an55 Try.f55 c55 ps55 rs55⟩:=holds_of tt_ok hg mixed Try.func55 (by kernel_rfl) (by rfl) (by decide +kernel)
noncomputable def st55_top (n:Nat) (a:Int) (b:Int) (c:Int):Option R55 :=
 cond (decide (b≤a)) (some ((decide (a≤c),()),())) (some ((false,()),()))
theorem e55_top (n:Nat) (a:Int) (b:Int) (c:Int):runF TT G55 an55 Try.f55 c55 ps55 rs55 n (a,b,c,())=st55_top n a b c:=by kernel_rfl
noncomputable def p55 (n:Nat) (a:Int) (b:Int) (c:Int):Option R55:=st55_top n a b c
theorem F55_eq (n:Nat) (a:Int) (b:Int) (c:Int):runF TT G55 an55 Try.f55 c55 ps55 rs55 n (a,b,c,())=p55 n a b c:=by
 rw [e55_top]
 skip
 try rfl
noncomputable def q55 (n:Nat) (x:argsD ps55):Option R55:=p55 n x.1 x.2.1 x.2.2.1
noncomputable def Sm55:Sm:=⟨ps55,rs55,false,q55⟩
theorem holds55 (hg:GamOK Try.prog G55):Holds Try.prog 55 Sm55:=by
 have:=h0_55 hg
 have e:(runF TT G55 an55 Try.f55 c55 ps55 rs55)=q55:=by
  funext n x
  exact F55_eq n x.1 x.2.1 x.2.2.1
 rw [e] at this
 exact this
theorem gam55:GamOK Try.prog G55:=fun _ _ h=>by cases h
theorem hh55:Holds Try.prog 55 Sm55:=holds55 gam55
end Go.Proofs.Ythhopbicmaipgaa.Rx.S

namespace Go.Proofs.Ythhopbicmaipgaa.Rx.S
open Go Go.RowKit Go.Proofs
set_option maxRecDepth 100000
noncomputable def c92:Code:=(Try.f92.body.getD .skip)
def an92:An:=⟨fun _=>⟨[],[]⟩,fun _ _=>none⟩
abbrev ps92:List PK:=[.val (.int .i32) false]
abbrev rs92:List RK:=[.val .bool false]
abbrev R92:=retsD rs92 × outsD ps92
noncomputable def G92:Gam:=fun _=>none
theorem h0_92 (hg:GamOK Try.prog G92):Holds Try.prog 92 ⟨ps92,rs92,false,runF TT G92 an92 Try.f92 c92 ps92 rs92⟩:=holds_of tt_ok hg mixed Try.func92 (by kernel_rfl) (by rfl) (by decide +kernel)
noncomputable def st92_top (n:Nat) (a:Int):Option R92 :=
 cond (decide (a < (97:Int))) (some ((true,()),())) (some ((decide ((122:Int) < a),()),()))
theorem e92_top (n:Nat) (a:Int):runF TT G92 an92 Try.f92 c92 ps92 rs92 n (a,())=st92_top n a:=by kernel_rfl
noncomputable def p92 (n:Nat) (a:Int):Option R92:=st92_top n a
theorem F92_eq (n:Nat) (a:Int):runF TT G92 an92 Try.f92 c92 ps92 rs92 n (a,())=p92 n a:=by
 rw [e92_top]
 skip
 try rfl
noncomputable def q92 (n:Nat) (x:argsD ps92):Option R92:=p92 n x.1
noncomputable def Sm92:Sm:=⟨ps92,rs92,false,q92⟩
theorem holds92 (hg:GamOK Try.prog G92):Holds Try.prog 92 Sm92:=by
 have:=h0_92 hg
 have e:(runF TT G92 an92 Try.f92 c92 ps92 rs92)=q92:=by
  funext n x
  exact F92_eq n x.1
 rw [e] at this
 exact this
theorem gam92:GamOK Try.prog G92:=fun _ _ h=>by cases h
theorem hh92:Holds Try.prog 92 Sm92:=holds92 gam92
end Go.Proofs.Ythhopbicmaipgaa.Rx.S

namespace Go.Proofs.Ythhopbicmaipgaa.Rx.S
open Go Go.RowKit Go.Proofs
set_option maxRecDepth 100000
noncomputable def c116:Code:=(Try.f116.body.getD .skip)
def an116:An:=⟨fun r=>match r with | 2=>⟨[1,2,10],[]⟩ | _=>⟨[],[]⟩,fun _ _=>none⟩
abbrev ps116:List PK:=[.val .str false,.fn 92 [],.val .bool false]
abbrev rs116:List RK:=[.val i64 false]
abbrev R116:=retsD rs116 × outsD ps116
noncomputable def G116:Gam:=fun f=>match f with | 92=>some Sm92 | _=>none
theorem h0_116 (hg:GamOK Try.prog G116):Holds Try.prog 116 ⟨ps116,rs116,false,runF TT G116 an116 Try.f116 c116 ps116 rs116⟩:=holds_of tt_ok hg mixed Try.func116 (by kernel_rfl) (by rfl) (by decide +kernel)
noncomputable def at116:Nat→Pt→List Nat→St→Option R116:=atF TT G116 an116 Try.f116 c116 _ _
def sh116_L2 (x0:Bool) (x1:ByteArray) (x2:Int):St:=(St.mk (AV.undef :: ((AV.fn 92 []) :: ((AV.one (SV.bool x0)) :: (AV.undef :: (AV.undef :: (AV.undef :: (AV.undef :: (AV.undef :: (AV.undef :: (AV.undef :: ((AV.one (SV.bptr 1000000 0)) :: (AV.undef :: (AV.undef :: (AV.undef :: (AV.undef :: (AV.undef :: (AV.undef :: (AV.undef :: (AV.undef :: (AV.undef :: (AV.undef :: []))))))))))))))))))))) ((1000000,(Ent.iter x1 x2)) :: []))
noncomputable def st116_top (n:Nat) (lL2:Bool→ByteArray→Int→Option R116) (a:ByteArray) (b:Unit) (c:Bool):Option R116 :=
 lL2 (c) (a) ((0:Int))
noncomputable def st116_L2 (n:Nat) (lL2:Bool→ByteArray→Int→Option R116) (x0:Bool) (x1:ByteArray) (x2:Int):Option R116 :=
 cond (decide (x2.toNat < x1.size)) ((q92 n ((↑(Go.Utf8.decode x1 x2.toNat).1:Int),())).bind fun r1=>cond (r1.1.1 == x0) (some (((↑x2.toNat:Int),()),())) (lL2 (x0) (x1) ((↑(x2.toNat + (Go.Utf8.decode x1 x2.toNat).2):Int)))) (some (((-1:Int),()),()))
theorem e116_top (n:Nat) (a:ByteArray) (b:Unit) (c:Bool):runF TT G116 an116 Try.f116 c116 ps116 rs116 n (a,b,c,())=st116_top n (fun x0 x1 x2=>at116 n (.head 2) [n] (sh116_L2 x0 x1 x2)) a b c:=by kernel_rfl
theorem e116_L2_0 (n:Nat) (x0:Bool) (x1:ByteArray) (x2:Int):at116 n (.head 2) [0] (sh116_L2 x0 x1 x2)=none:=by kernel_rfl
theorem e116_L2 (n:Nat) (m2:Nat) (x0:Bool) (x1:ByteArray) (x2:Int):at116 n (.head 2) [m2 + 1] (sh116_L2 x0 x1 x2)=st116_L2 n (fun x0 x1 x2=>at116 n (.head 2) [m2] (sh116_L2 x0 x1 x2)) x0 x1 x2:=by kernel_rfl
noncomputable def p116_L2 (n:Nat):Nat→Bool→ByteArray→Int→Option R116
 | 0,_,_,_=>none
 | m + 1,x0,x1,x2=>st116_L2 n (p116_L2 n m) x0 x1 x2
noncomputable def p116 (n:Nat) (a:ByteArray) (b:Unit) (c:Bool):Option R116:=st116_top n (p116_L2 n n) a b c
theorem t116_L2 (n:Nat):∀ (m2:Nat) (x0:Bool) (x1:ByteArray) (x2:Int),at116 n (.head 2) [m2] (sh116_L2 x0 x1 x2)=p116_L2 n m2 x0 x1 x2:=by
 intro m
 induction m with
 | zero=>intros; rw [e116_L2_0]; rfl
 | succ m ih =>
  intros
  rw [e116_L2]
  try simp only [ih]
  rfl
theorem F116_eq (n:Nat) (a:ByteArray) (b:Unit) (c:Bool):runF TT G116 an116 Try.f116 c116 ps116 rs116 n (a,b,c,())=p116 n a b c:=by
 rw [e116_top]
 simp only [t116_L2]
 try rfl
noncomputable def q116 (n:Nat) (x:argsD ps116):Option R116:=p116 n x.1 x.2.1 x.2.2.1
noncomputable def Sm116:Sm:=⟨ps116,rs116,false,q116⟩
theorem holds116 (hg:GamOK Try.prog G116):Holds Try.prog 116 Sm116:=by
 have:=h0_116 hg
 have e:(runF TT G116 an116 Try.f116 c116 ps116 rs116)=q116:=by
  funext n x
  exact F116_eq n x.1 x.2.1 x.2.2.1
 rw [e] at this
 exact this
theorem gam116:GamOK Try.prog G116:=by
 intro f s h
 unfold G116 at h
 split at h
 ·injection h with h; subst h; exact ⟨⟨Try.f92,c92,Try.func92,by kernel_rfl,by decide +kernel⟩,hh92⟩
 ·cases h
theorem hh116:Holds Try.prog 116 Sm116:=holds116 gam116
end Go.Proofs.Ythhopbicmaipgaa.Rx.S

namespace Go.Proofs.Ythhopbicmaipgaa.Rx.S
open Go Go.RowKit Go.Proofs
set_option maxRecDepth 100000
noncomputable def c91:Code:=(Try.f91.body.getD .skip)
def an91:An:=⟨fun _=>⟨[],[]⟩,fun _ _=>none⟩
abbrev ps91:List PK:=[.val .str false,.fn 92 []]
abbrev rs91:List RK:=[.val i64 false]
abbrev R91:=retsD rs91 × outsD ps91
noncomputable def G91:Gam:=fun f=>match f with | 116=>some Sm116 | _=>none
theorem h0_91 (hg:GamOK Try.prog G91):Holds Try.prog 91 ⟨ps91,rs91,false,runF TT G91 an91 Try.f91 c91 ps91 rs91⟩:=holds_of tt_ok hg mixed Try.func91 (by kernel_rfl) (by rfl) (by decide +kernel)
noncomputable def st91_top (n:Nat) (a:ByteArray) (b:Unit):Option R91 :=
 (q116 n (a,(),true,())).bind fun r0=>some ((r0.1.1,()),())
theorem e91_top (n:Nat) (a:ByteArray) (b:Unit):runF TT G91 an91 Try.f91 c91 ps91 rs91 n (a,b,())=st91_top n a b:=by kernel_rfl
noncomputable def p91 (n:Nat) (a:ByteArray) (b:Unit):Option R91:=st91_top n a b
theorem F91_eq (n:Nat) (a:ByteArray) (b:Unit):runF TT G91 an91 Try.f91 c91 ps91 rs91 n (a,b,())=p91 n a b:=by
 rw [e91_top]
 skip
 try rfl
noncomputable def q91 (n:Nat) (x:argsD ps91):Option R91:=p91 n x.1 x.2.1
noncomputable def Sm91:Sm:=⟨ps91,rs91,false,q91⟩
theorem holds91 (hg:GamOK Try.prog G91):Holds Try.prog 91 Sm91:=by
 have:=h0_91 hg
 have e:(runF TT G91 an91 Try.f91 c91 ps91 rs91)=q91:=by
  funext n x
  exact F91_eq n x.1 x.2.1
 rw [e] at this
 exact this
theorem gam91:GamOK Try.prog G91:=by
 intro f s h
 unfold G91 at h
 split at h
 ·injection h with h; subst h; exact ⟨⟨Try.f116,c116,Try.func116,by kernel_rfl,by decide +kernel⟩,hh116⟩
 ·cases h
theorem hh91:Holds Try.prog 91 Sm91:=holds91 gam91
end Go.Proofs.Ythhopbicmaipgaa.Rx.S

namespace Go.Proofs.Ythhopbicmaipgaa.Rx.S
open Go Go.RowKit Go.Proofs
set_option maxRecDepth 100000
noncomputable def c54:Code:=(Try.f54.body.getD .skip)
def an54:An:=⟨fun _=>⟨[],[]⟩,fun _ _=>none⟩
abbrev ps54:List PK:=[.val .str false]
abbrev rs54:List RK:=[.val .bool false]
abbrev R54:=retsD rs54 × outsD ps54
noncomputable def G54:Gam:=fun f=>match f with | 55=>some Sm55 | 91=>some Sm91 | _=>none
theorem h0_54 (hg:GamOK Try.prog G54):Holds Try.prog 54 ⟨ps54,rs54,false,runF TT G54 an54 Try.f54 c54 ps54 rs54⟩:=holds_of tt_ok hg mixed Try.func54 (by kernel_rfl) (by rfl) (by decide +kernel)
noncomputable def st54_top (n:Nat) (a:ByteArray):Option R54 :=
 (q55 n ((↑a.size:Int),(1:Int),(3:Int),())).bind fun r0=>cond (r0.1.1) ((q91 n (a,(),())).bind fun r1=>some ((decide (r1.1.1 < (0:Int)),()),())) (some ((false,()),()))
theorem e54_top (n:Nat) (a:ByteArray):runF TT G54 an54 Try.f54 c54 ps54 rs54 n (a,())=st54_top n a:=by kernel_rfl
noncomputable def p54 (n:Nat) (a:ByteArray):Option R54:=st54_top n a
theorem F54_eq (n:Nat) (a:ByteArray):runF TT G54 an54 Try.f54 c54 ps54 rs54 n (a,())=p54 n a:=by
 rw [e54_top]
 skip
 try rfl
noncomputable def q54 (n:Nat) (x:argsD ps54):Option R54:=p54 n x.1
noncomputable def Sm54:Sm:=⟨ps54,rs54,false,q54⟩
theorem holds54 (hg:GamOK Try.prog G54):Holds Try.prog 54 Sm54:=by
 have:=h0_54 hg
 have e:(runF TT G54 an54 Try.f54 c54 ps54 rs54)=q54:=by
  funext n x
  exact F54_eq n x.1
 rw [e] at this
 exact this
theorem gam54:GamOK Try.prog G54:=by
 intro f s h
 unfold G54 at h
 split at h
 ·injection h with h; subst h; exact ⟨⟨Try.f55,c55,Try.func55,by kernel_rfl,by decide +kernel⟩,hh55⟩
 ·injection h with h; subst h; exact ⟨⟨Try.f91,c91,Try.func91,by kernel_rfl,by decide +kernel⟩,hh91⟩
 ·cases h
theorem hh54:Holds Try.prog 54 Sm54:=holds54 gam54
end Go.Proofs.Ythhopbicmaipgaa.Rx.S

namespace Go.Proofs.Ythhopbicmaipgaa.Rx.S
open Go Go.RowKit Go.Proofs
set_option maxRecDepth 100000
noncomputable def c86:Code:=(Try.f86.body.getD .skip)
def an86:An:=⟨fun _=>⟨[],[]⟩,fun _ _=>none⟩
abbrev ps86:List PK:=[.val (tIn 95) true]
abbrev rs86:List RK:=[.val .bool false]
abbrev R86:=retsD rs86 × outsD ps86
noncomputable def G86:Gam:=fun _=>none
theorem h0_86 (hg:GamOK Try.prog G86):Holds Try.prog 86 ⟨ps86,rs86,false,runF TT G86 an86 Try.f86 c86 ps86 rs86⟩:=holds_of tt_ok hg mixed Try.func86 (by kernel_rfl) (by rfl) (by decide +kernel)
noncomputable def st86_top (n:Nat) (a:NT):Option R86 :=
 cond (decide (a.1=(0:Int))) (cond (decide (a.2.1=(0:Int))) (cond (decide (a.2.2.1=(0:Int))) (cond (decide (a.2.2.2.1=(0:Int))) (cond (decide (a.2.2.2.2.1=(0:Int))) (cond (decide (a.2.2.2.2.2.1=(0:Int))) (cond (!a.2.2.2.2.2.2.1) (cond (ByteArray.toList a.2.2.2.2.2.2.2.1 == (ByteArray.mk #[]).toList) (some ((decide ((↑(List.length a.2.2.2.2.2.2.2.2):Int)=(0:Int)),()),())) (some ((false,()),()))) (some ((false,()),()))) (some ((false,()),()))) (some ((false,()),()))) (some ((false,()),()))) (some ((false,()),()))) (some ((false,()),()))) (some ((false,()),()))
theorem e86_top (n:Nat) (a:NT):runF TT G86 an86 Try.f86 c86 ps86 rs86 n (a,())=st86_top n a:=by kernel_rfl
noncomputable def p86 (n:Nat) (a:NT):Option R86:=st86_top n a
theorem F86_eq (n:Nat) (a:NT):runF TT G86 an86 Try.f86 c86 ps86 rs86 n (a,())=p86 n a:=by
 rw [e86_top]
 skip
 try rfl
noncomputable def q86 (n:Nat) (x:argsD ps86):Option R86:=p86 n x.1
noncomputable def Sm86:Sm:=⟨ps86,rs86,false,q86⟩
theorem holds86 (hg:GamOK Try.prog G86):Holds Try.prog 86 Sm86:=by
 have:=h0_86 hg
 have e:(runF TT G86 an86 Try.f86 c86 ps86 rs86)=q86:=by
  funext n x
  exact F86_eq n x.1
 rw [e] at this
 exact this
theorem gam86:GamOK Try.prog G86:=fun _ _ h=>by cases h
theorem hh86:Holds Try.prog 86 Sm86:=holds86 gam86
end Go.Proofs.Ythhopbicmaipgaa.Rx.S

namespace Go.Proofs.Ythhopbicmaipgaa.Rx.S
open Go Go.RowKit Go.Proofs
set_option maxRecDepth 100000
noncomputable def c36:Code:=(Try.f36.body.getD .skip)
def an36:An:=⟨fun r=>match r with | 6=>⟨[1,3,4,28,29,30],[]⟩ | 16=>⟨[1,3,4,5,6,28,29,30,105,106,107],[]⟩ | 25=>⟨[3,4,163,164,165],[]⟩ | 36=>⟨[3,4,11,12,163,164,165],[]⟩ | _=>⟨[],[]⟩,fun _ _=>none⟩
abbrev ps36:List PK:=[.val tFs true]
abbrev rs36:List RK:=[.val .bool false]
abbrev R36:=retsD rs36 × outsD ps36
noncomputable def G36:Gam:=fun f=>match f with | 54=>some Sm54 | 55=>some Sm55 | 86=>some Sm86 | _=>none
theorem h0_36 (hg:GamOK Try.prog G36):Holds Try.prog 36 ⟨ps36,rs36,false,runF TT G36 an36 Try.f36 c36 ps36 rs36⟩:=holds_of tt_ok hg mixed Try.func36 (by kernel_rfl) (by rfl) (by decide +kernel)
noncomputable def at36:Nat→Pt→List Nat→St→Option R36:=atF TT G36 an36 Try.f36 c36 _ _
def sh36_L16 (x0:Int) (x1:List NT) (x2:Int) (x3:Int) (x4:List (ByteArray × Int)) (x5:Int) (x6:Int) (x7:List NT) (x8:List Int) (x9:List Int) (x10:Int) (x11:Int) (x12:Int) (x13:Int) (x14:Int) (x15:Int) (x16:Bool) (x17:ByteArray) (x18:List (ByteArray × Int)):St:=(St.mk (AV.undef :: ((AV.one (SV.bptr 1000000 0)) :: (AV.undef :: ((AV.one (SV.ref 1000001 0 [] Option.none)) :: ((AV.one (SV.ref 1000002 0 [] Option.none)) :: ((AV.one (SV.int (Go.IntKind.i64) x0)) :: ((AV.one (SV.bptr 1000003 0)) :: (AV.undef :: (AV.undef :: (AV.undef :: (AV.undef :: (AV.undef :: (AV.undef :: (AV.undef :: (AV.undef :: (AV.undef :: (AV.undef :: (AV.undef :: (AV.undef :: (AV.undef :: (AV.undef :: (AV.undef :: (AV.undef :: (AV.undef :: (AV.undef :: (AV.undef :: (AV.undef :: (AV.undef :: ((AV.one (SV.con (⟨39,(Ty.int Go.IntKind.i64).pair ((Ty.int Go.IntKind.i64).pair ((Ty.int Go.IntKind.i64).pair ((Ty.int Go.IntKind.i64).pair ((Ty.int Go.IntKind.i64).pair ((Ty.int Go.IntKind.i64).pair (Ty.bool.pair (Ty.str.pair (Ty.row (nat_lit 95) (Ty.str.pair (Ty.int Go.IntKind.i64)))))))))),x1⟩:Rw))) :: ((AV.one (SV.int (Go.IntKind.i64) x2)) :: ((AV.one (SV.int (Go.IntKind.i64) x3)) :: (AV.undef :: (AV.undef :: (AV.undef :: (AV.undef :: (AV.undef :: (AV.undef :: (AV.undef :: (AV.undef :: (AV.undef :: (AV.undef :: (AV.undef :: (AV.undef :: (AV.undef :: (AV.undef :: (AV.undef :: (AV.undef :: (AV.undef :: (AV.undef :: (AV.undef :: (AV.undef :: (AV.undef :: (AV.undef :: (AV.undef :: (AV.undef :: (AV.undef :: (AV.undef :: (AV.undef :: (AV.undef :: (AV.undef :: (AV.undef :: (AV.undef :: (AV.undef :: (AV.undef :: (AV.undef :: (AV.undef :: (AV.undef :: (AV.undef :: (AV.undef :: (AV.undef :: (AV.undef :: (AV.undef :: (AV.undef :: (AV.undef :: (AV.undef :: (AV.undef :: (AV.undef :: (AV.undef :: (AV.undef :: (AV.undef :: (AV.undef :: (AV.undef :: (AV.undef :: (AV.undef :: (AV.undef :: (AV.undef :: (AV.undef :: (AV.undef :: (AV.undef :: (AV.undef :: (AV.undef :: (AV.undef :: (AV.undef :: (AV.undef :: (AV.undef :: (AV.undef :: (AV.undef :: (AV.undef :: (AV.undef :: (AV.undef :: (AV.undef :: (AV.undef :: (AV.undef :: (AV.undef :: (AV.undef :: ((AV.one (SV.con (⟨95,Ty.str.pair (Ty.int Go.IntKind.i64),x4⟩:Rw))) :: ((AV.one (SV.int (Go.IntKind.i64) x5)) :: ((AV.one (SV.int (Go.IntKind.i64) x6)) :: (AV.undef :: (AV.undef :: (AV.undef :: (AV.undef :: (AV.undef :: (AV.undef :: (AV.undef :: (AV.undef :: (AV.undef :: (AV.undef :: (AV.undef :: (AV.undef :: (AV.undef :: (AV.undef :: (AV.undef :: (AV.undef :: (AV.undef :: (AV.undef :: (AV.undef :: (AV.undef :: (AV.undef :: (AV.undef :: (AV.undef :: (AV.undef :: (AV.undef :: (AV.undef :: (AV.undef :: (AV.undef :: (AV.undef :: (AV.undef :: (AV.undef :: (AV.undef :: (AV.undef :: (AV.undef :: (AV.undef :: (AV.undef :: (AV.undef :: (AV.undef :: (AV.undef :: (AV.undef :: (AV.undef :: (AV.undef :: (AV.undef :: (AV.undef :: (AV.undef :: (AV.undef :: (AV.undef :: (AV.undef :: (AV.undef :: (AV.undef :: (AV.undef :: (AV.undef :: (AV.undef :: (AV.undef :: (AV.undef :: (AV.undef :: (AV.undef :: (AV.undef :: (AV.undef :: (AV.undef :: (AV.undef :: (AV.undef :: (AV.undef :: (AV.undef :: (AV.undef :: (AV.undef :: (AV.undef :: (AV.undef :: (AV.undef :: (AV.undef :: (AV.undef :: (AV.undef :: (AV.undef :: (AV.undef :: (AV.undef :: (AV.undef :: (AV.undef :: (AV.undef :: (AV.undef :: (AV.undef :: (AV.undef :: (AV.undef :: (AV.undef :: (AV.undef :: (AV.undef :: (AV.undef :: (AV.undef :: (AV.undef :: (AV.undef :: (AV.undef :: (AV.undef :: (AV.undef :: (AV.undef :: (AV.undef :: (AV.undef :: (AV.undef :: (AV.undef :: (AV.undef :: (AV.undef :: (AV.undef :: (AV.undef :: (AV.undef :: (AV.undef :: (AV.undef :: (AV.undef :: (AV.undef :: (AV.undef :: (AV.undef :: (AV.undef :: (AV.undef :: (AV.undef :: (AV.undef :: (AV.undef :: (AV.undef :: (AV.undef :: (AV.undef :: (AV.undef :: (AV.undef :: (AV.undef :: (AV.undef :: (AV.undef :: (AV.undef :: [])))))))))))))))))))))))))))))))))))))))))))))))))))))))))))))))))))))))))))))))))))))))))))))))))))))))))))))))))))))))))))))))))))))))))))))))))))))))))))))))))))))))))))))))))))))))))))))))))))))))))))))))))))))))))))))))))))))) ((1000000,(Ent.box ((SV.con (⟨39,(Ty.int Go.IntKind.i64).pair ((Ty.int Go.IntKind.i64).pair ((Ty.int Go.IntKind.i64).pair ((Ty.int Go.IntKind.i64).pair ((Ty.int Go.IntKind.i64).pair ((Ty.int Go.IntKind.i64).pair (Ty.bool.pair (Ty.str.pair (Ty.row (nat_lit 95) (Ty.str.pair (Ty.int Go.IntKind.i64)))))))))),x7⟩:Rw)) :: []))) :: ((1000001,(Ent.row (⟨3,Ty.int Go.IntKind.i64,x8⟩:Rw) 0 Option.none)) :: ((1000002,(Ent.row (⟨3,Ty.int Go.IntKind.i64,x9⟩:Rw) 0 Option.none)) :: ((1000003,(Ent.box ((SV.int (Go.IntKind.i64) x10) :: ((SV.int (Go.IntKind.i64) x11) :: ((SV.int (Go.IntKind.i64) x12) :: ((SV.int (Go.IntKind.i64) x13) :: ((SV.int (Go.IntKind.i64) x14) :: ((SV.int (Go.IntKind.i64) x15) :: ((SV.bool x16) :: ((SV.str x17) :: ((SV.con (⟨95,Ty.str.pair (Ty.int Go.IntKind.i64),x18⟩:Rw)) :: []))))))))))) :: [])))))
def sh36_L36 (x0:Int) (x1:Int) (x2:List NT) (x3:Int) (x4:Int) (x5:List Int) (x6:List Int):St:=(St.mk (AV.undef :: (AV.undef :: (AV.undef :: ((AV.one (SV.ref 1000000 0 [] Option.none)) :: ((AV.one (SV.ref 1000001 0 [] Option.none)) :: (AV.undef :: (AV.undef :: (AV.undef :: (AV.undef :: (AV.undef :: (AV.undef :: ((AV.one (SV.int (Go.IntKind.i64) x0)) :: ((AV.one (SV.int (Go.IntKind.i64) x1)) :: (AV.undef :: (AV.undef :: (AV.undef :: (AV.undef :: (AV.undef :: (AV.undef :: (AV.undef :: (AV.undef :: (AV.undef :: (AV.undef :: (AV.undef :: (AV.undef :: (AV.undef :: (AV.undef :: (AV.undef :: (AV.undef :: (AV.undef :: (AV.undef :: (AV.undef :: (AV.undef :: (AV.undef :: (AV.undef :: (AV.undef :: (AV.undef :: (AV.undef :: (AV.undef :: (AV.undef :: (AV.undef :: (AV.undef :: (AV.undef :: (AV.undef :: (AV.undef :: (AV.undef :: (AV.undef :: (AV.undef :: (AV.undef :: (AV.undef :: (AV.undef :: (AV.undef :: (AV.undef :: (AV.undef :: (AV.undef :: (AV.undef :: (AV.undef :: (AV.undef :: (AV.undef :: (AV.undef :: (AV.undef :: (AV.undef :: (AV.undef :: (AV.undef :: (AV.undef :: (AV.undef :: (AV.undef :: (AV.undef :: (AV.undef :: (AV.undef :: (AV.undef :: (AV.undef :: (AV.undef :: (AV.undef :: (AV.undef :: (AV.undef :: (AV.undef :: (AV.undef :: (AV.undef :: (AV.undef :: (AV.undef :: (AV.undef :: (AV.undef :: (AV.undef :: (AV.undef :: (AV.undef :: (AV.undef :: (AV.undef :: (AV.undef :: (AV.undef :: (AV.undef :: (AV.undef :: (AV.undef :: (AV.undef :: (AV.undef :: (AV.undef :: (AV.undef :: (AV.undef :: (AV.undef :: (AV.undef :: (AV.undef :: (AV.undef :: (AV.undef :: (AV.undef :: (AV.undef :: (AV.undef :: (AV.undef :: (AV.undef :: (AV.undef :: (AV.undef :: (AV.undef :: (AV.undef :: (AV.undef :: (AV.undef :: (AV.undef :: (AV.undef :: (AV.undef :: (AV.undef :: (AV.undef :: (AV.undef :: (AV.undef :: (AV.undef :: (AV.undef :: (AV.undef :: (AV.undef :: (AV.undef :: (AV.undef :: (AV.undef :: (AV.undef :: (AV.undef :: (AV.undef :: (AV.undef :: (AV.undef :: (AV.undef :: (AV.undef :: (AV.undef :: (AV.undef :: (AV.undef :: (AV.undef :: (AV.undef :: (AV.undef :: (AV.undef :: (AV.undef :: (AV.undef :: (AV.undef :: (AV.undef :: (AV.undef :: (AV.undef :: (AV.undef :: (AV.undef :: (AV.undef :: (AV.undef :: (AV.undef :: (AV.undef :: (AV.undef :: (AV.undef :: (AV.undef :: (AV.undef :: (AV.undef :: (AV.undef :: (AV.undef :: (AV.undef :: (AV.undef :: ((AV.one (SV.con (⟨39,(Ty.int Go.IntKind.i64).pair ((Ty.int Go.IntKind.i64).pair ((Ty.int Go.IntKind.i64).pair ((Ty.int Go.IntKind.i64).pair ((Ty.int Go.IntKind.i64).pair ((Ty.int Go.IntKind.i64).pair (Ty.bool.pair (Ty.str.pair (Ty.row (nat_lit 95) (Ty.str.pair (Ty.int Go.IntKind.i64)))))))))),x2⟩:Rw))) :: ((AV.one (SV.int (Go.IntKind.i64) x3)) :: ((AV.one (SV.int (Go.IntKind.i64) x4)) :: (AV.undef :: (AV.undef :: (AV.undef :: (AV.undef :: (AV.undef :: (AV.undef :: (AV.undef :: (AV.undef :: (AV.undef :: (AV.undef :: (AV.undef :: (AV.undef :: (AV.undef :: (AV.undef :: (AV.undef :: (AV.undef :: (AV.undef :: (AV.undef :: (AV.undef :: (AV.undef :: (AV.undef :: (AV.undef :: (AV.undef :: (AV.undef :: (AV.undef :: (AV.undef :: (AV.undef :: (AV.undef :: (AV.undef :: (AV.undef :: (AV.undef :: (AV.undef :: (AV.undef :: (AV.undef :: (AV.undef :: (AV.undef :: (AV.undef :: (AV.undef :: (AV.undef :: (AV.undef :: (AV.undef :: (AV.undef :: (AV.undef :: (AV.undef :: (AV.undef :: (AV.undef :: (AV.undef :: (AV.undef :: (AV.undef :: (AV.undef :: (AV.undef :: (AV.undef :: (AV.undef :: (AV.undef :: (AV.undef :: (AV.undef :: (AV.undef :: (AV.undef :: (AV.undef :: (AV.undef :: (AV.undef :: (AV.undef :: (AV.undef :: (AV.undef :: [])))))))))))))))))))))))))))))))))))))))))))))))))))))))))))))))))))))))))))))))))))))))))))))))))))))))))))))))))))))))))))))))))))))))))))))))))))))))))))))))))))))))))))))))))))))))))))))))))))))))))))))))))))))))))))))))))))))) ((1000000,(Ent.row (⟨3,Ty.int Go.IntKind.i64,x5⟩:Rw) 0 Option.none)) :: ((1000001,(Ent.row (⟨3,Ty.int Go.IntKind.i64,x6⟩:Rw) 0 Option.none)) :: [])))
def sh36_L25 (x0:List NT) (x1:Int) (x2:Int) (x3:List Int) (x4:List Int):St:=(St.mk (AV.undef :: (AV.undef :: (AV.undef :: ((AV.one (SV.ref 1000000 0 [] Option.none)) :: ((AV.one (SV.ref 1000001 0 [] Option.none)) :: (AV.undef :: (AV.undef :: (AV.undef :: (AV.undef :: (AV.undef :: (AV.undef :: (AV.undef :: (AV.undef :: (AV.undef :: (AV.undef :: (AV.undef :: (AV.undef :: (AV.undef :: (AV.undef :: (AV.undef :: (AV.undef :: (AV.undef :: (AV.undef :: (AV.undef :: (AV.undef :: (AV.undef :: (AV.undef :: (AV.undef :: (AV.undef :: (AV.undef :: (AV.undef :: (AV.undef :: (AV.undef :: (AV.undef :: (AV.undef :: (AV.undef :: (AV.undef :: (AV.undef :: (AV.undef :: (AV.undef :: (AV.undef :: (AV.undef :: (AV.undef :: (AV.undef :: (AV.undef :: (AV.undef :: (AV.undef :: (AV.undef :: (AV.undef :: (AV.undef :: (AV.undef :: (AV.undef :: (AV.undef :: (AV.undef :: (AV.undef :: (AV.undef :: (AV.undef :: (AV.undef :: (AV.undef :: (AV.undef :: (AV.undef :: (AV.undef :: (AV.undef :: (AV.undef :: (AV.undef :: (AV.undef :: (AV.undef :: (AV.undef :: (AV.undef :: (AV.undef :: (AV.undef :: (AV.undef :: (AV.undef :: (AV.undef :: (AV.undef :: (AV.undef :: (AV.undef :: (AV.undef :: (AV.undef :: (AV.undef :: (AV.undef :: (AV.undef :: (AV.undef :: (AV.undef :: (AV.undef :: (AV.undef :: (AV.undef :: (AV.undef :: (AV.undef :: (AV.undef :: (AV.undef :: (AV.undef :: (AV.undef :: (AV.undef :: (AV.undef :: (AV.undef :: (AV.undef :: (AV.undef :: (AV.undef :: (AV.undef :: (AV.undef :: (AV.undef :: (AV.undef :: (AV.undef :: (AV.undef :: (AV.undef :: (AV.undef :: (AV.undef :: (AV.undef :: (AV.undef :: (AV.undef :: (AV.undef :: (AV.undef :: (AV.undef :: (AV.undef :: (AV.undef :: (AV.undef :: (AV.undef :: (AV.undef :: (AV.undef :: (AV.undef :: (AV.undef :: (AV.undef :: (AV.undef :: (AV.undef :: (AV.undef :: (AV.undef :: (AV.undef :: (AV.undef :: (AV.undef :: (AV.undef :: (AV.undef :: (AV.undef :: (AV.undef :: (AV.undef :: (AV.undef :: (AV.undef :: (AV.undef :: (AV.undef :: (AV.undef :: (AV.undef :: (AV.undef :: (AV.undef :: (AV.undef :: (AV.undef :: (AV.undef :: (AV.undef :: (AV.undef :: (AV.undef :: (AV.undef :: (AV.undef :: (AV.undef :: (AV.undef :: (AV.undef :: (AV.undef :: (AV.undef :: (AV.undef :: (AV.undef :: (AV.undef :: (AV.undef :: (AV.undef :: (AV.undef :: (AV.undef :: ((AV.one (SV.con (⟨39,(Ty.int Go.IntKind.i64).pair ((Ty.int Go.IntKind.i64).pair ((Ty.int Go.IntKind.i64).pair ((Ty.int Go.IntKind.i64).pair ((Ty.int Go.IntKind.i64).pair ((Ty.int Go.IntKind.i64).pair (Ty.bool.pair (Ty.str.pair (Ty.row (nat_lit 95) (Ty.str.pair (Ty.int Go.IntKind.i64)))))))))),x0⟩:Rw))) :: ((AV.one (SV.int (Go.IntKind.i64) x1)) :: ((AV.one (SV.int (Go.IntKind.i64) x2)) :: (AV.undef :: (AV.undef :: (AV.undef :: (AV.undef :: (AV.undef :: (AV.undef :: (AV.undef :: (AV.undef :: (AV.undef :: (AV.undef :: (AV.undef :: (AV.undef :: (AV.undef :: (AV.undef :: (AV.undef :: (AV.undef :: (AV.undef :: (AV.undef :: (AV.undef :: (AV.undef :: (AV.undef :: (AV.undef :: (AV.undef :: (AV.undef :: (AV.undef :: (AV.undef :: (AV.undef :: (AV.undef :: (AV.undef :: (AV.undef :: (AV.undef :: (AV.undef :: (AV.undef :: (AV.undef :: (AV.undef :: (AV.undef :: (AV.undef :: (AV.undef :: (AV.undef :: (AV.undef :: (AV.undef :: (AV.undef :: (AV.undef :: (AV.undef :: (AV.undef :: (AV.undef :: (AV.undef :: (AV.undef :: (AV.undef :: (AV.undef :: (AV.undef :: (AV.undef :: (AV.undef :: (AV.undef :: (AV.undef :: (AV.undef :: (AV.undef :: (AV.undef :: (AV.undef :: (AV.undef :: (AV.undef :: (AV.undef :: (AV.undef :: (AV.undef :: [])))))))))))))))))))))))))))))))))))))))))))))))))))))))))))))))))))))))))))))))))))))))))))))))))))))))))))))))))))))))))))))))))))))))))))))))))))))))))))))))))))))))))))))))))))))))))))))))))))))))))))))))))))))))))))))))))))))) ((1000000,(Ent.row (⟨3,Ty.int Go.IntKind.i64,x3⟩:Rw) 0 Option.none)) :: ((1000001,(Ent.row (⟨3,Ty.int Go.IntKind.i64,x4⟩:Rw) 0 Option.none)) :: [])))
def sh36_L6 (x0:List NT) (x1:Int) (x2:Int) (x3:List NT) (x4:List Int) (x5:List Int):St:=(St.mk (AV.undef :: ((AV.one (SV.bptr 1000000 0)) :: (AV.undef :: ((AV.one (SV.ref 1000001 0 [] Option.none)) :: ((AV.one (SV.ref 1000002 0 [] Option.none)) :: (AV.undef :: (AV.undef :: (AV.undef :: (AV.undef :: (AV.undef :: (AV.undef :: (AV.undef :: (AV.undef :: (AV.undef :: (AV.undef :: (AV.undef :: (AV.undef :: (AV.undef :: (AV.undef :: (AV.undef :: (AV.undef :: (AV.undef :: (AV.undef :: (AV.undef :: (AV.undef :: (AV.undef :: (AV.undef :: (AV.undef :: ((AV.one (SV.con (⟨39,(Ty.int Go.IntKind.i64).pair ((Ty.int Go.IntKind.i64).pair ((Ty.int Go.IntKind.i64).pair ((Ty.int Go.IntKind.i64).pair ((Ty.int Go.IntKind.i64).pair ((Ty.int Go.IntKind.i64).pair (Ty.bool.pair (Ty.str.pair (Ty.row (nat_lit 95) (Ty.str.pair (Ty.int Go.IntKind.i64)))))))))),x0⟩:Rw))) :: ((AV.one (SV.int (Go.IntKind.i64) x1)) :: ((AV.one (SV.int (Go.IntKind.i64) x2)) :: (AV.undef :: (AV.undef :: (AV.undef :: (AV.undef :: (AV.undef :: (AV.undef :: (AV.undef :: (AV.undef :: (AV.undef :: (AV.undef :: (AV.undef :: (AV.undef :: (AV.undef :: (AV.undef :: (AV.undef :: (AV.undef :: (AV.undef :: (AV.undef :: (AV.undef :: (AV.undef :: (AV.undef :: (AV.undef :: (AV.undef :: (AV.undef :: (AV.undef :: (AV.undef :: (AV.undef :: (AV.undef :: (AV.undef :: (AV.undef :: (AV.undef :: (AV.undef :: (AV.undef :: (AV.undef :: (AV.undef :: (AV.undef :: (AV.undef :: (AV.undef :: (AV.undef :: (AV.undef :: (AV.undef :: (AV.undef :: (AV.undef :: (AV.undef :: (AV.undef :: (AV.undef :: (AV.undef :: (AV.undef :: (AV.undef :: (AV.undef :: (AV.undef :: (AV.undef :: (AV.undef :: (AV.undef :: (AV.undef :: (AV.undef :: (AV.undef :: (AV.undef :: (AV.undef :: (AV.undef :: (AV.undef :: (AV.undef :: (AV.undef :: (AV.undef :: (AV.undef :: (AV.undef :: (AV.undef :: (AV.undef :: (AV.undef :: (AV.undef :: (AV.undef :: (AV.undef :: (AV.undef :: (AV.undef :: (AV.undef :: (AV.undef :: (AV.undef :: (AV.undef :: (AV.undef :: (AV.undef :: (AV.undef :: (AV.undef :: (AV.undef :: (AV.undef :: (AV.undef :: (AV.undef :: (AV.undef :: (AV.undef :: (AV.undef :: (AV.undef :: (AV.undef :: (AV.undef :: (AV.undef :: (AV.undef :: (AV.undef :: (AV.undef :: (AV.undef :: (AV.undef :: (AV.undef :: (AV.undef :: (AV.undef :: (AV.undef :: (AV.undef :: (AV.undef :: (AV.undef :: (AV.undef :: (AV.undef :: (AV.undef :: (AV.undef :: (AV.undef :: (AV.undef :: (AV.undef :: (AV.undef :: (AV.undef :: (AV.undef :: (AV.undef :: (AV.undef :: (AV.undef :: (AV.undef :: (AV.undef :: (AV.undef :: (AV.undef :: (AV.undef :: (AV.undef :: (AV.undef :: (AV.undef :: (AV.undef :: (AV.undef :: (AV.undef :: (AV.undef :: (AV.undef :: (AV.undef :: (AV.undef :: (AV.undef :: (AV.undef :: (AV.undef :: (AV.undef :: (AV.undef :: (AV.undef :: (AV.undef :: (AV.undef :: (AV.undef :: (AV.undef :: (AV.undef :: (AV.undef :: (AV.undef :: (AV.undef :: (AV.undef :: (AV.undef :: (AV.undef :: (AV.undef :: (AV.undef :: (AV.undef :: (AV.undef :: (AV.undef :: (AV.undef :: (AV.undef :: (AV.undef :: (AV.undef :: (AV.undef :: (AV.undef :: (AV.undef :: (AV.undef :: (AV.undef :: (AV.undef :: (AV.undef :: (AV.undef :: (AV.undef :: (AV.undef :: (AV.undef :: (AV.undef :: (AV.undef :: (AV.undef :: (AV.undef :: (AV.undef :: (AV.undef :: (AV.undef :: (AV.undef :: (AV.undef :: (AV.undef :: (AV.undef :: (AV.undef :: (AV.undef :: (AV.undef :: (AV.undef :: (AV.undef :: (AV.undef :: (AV.undef :: (AV.undef :: (AV.undef :: (AV.undef :: (AV.undef :: (AV.undef :: (AV.undef :: (AV.undef :: (AV.undef :: (AV.undef :: (AV.undef :: (AV.undef :: [])))))))))))))))))))))))))))))))))))))))))))))))))))))))))))))))))))))))))))))))))))))))))))))))))))))))))))))))))))))))))))))))))))))))))))))))))))))))))))))))))))))))))))))))))))))))))))))))))))))))))))))))))))))))))))))))))))))) ((1000000,(Ent.box ((SV.con (⟨39,(Ty.int Go.IntKind.i64).pair ((Ty.int Go.IntKind.i64).pair ((Ty.int Go.IntKind.i64).pair ((Ty.int Go.IntKind.i64).pair ((Ty.int Go.IntKind.i64).pair ((Ty.int Go.IntKind.i64).pair (Ty.bool.pair (Ty.str.pair (Ty.row (nat_lit 95) (Ty.str.pair (Ty.int Go.IntKind.i64)))))))))),x3⟩:Rw)) :: []))) :: ((1000001,(Ent.row (⟨3,Ty.int Go.IntKind.i64,x4⟩:Rw) 0 Option.none)) :: ((1000002,(Ent.row (⟨3,Ty.int Go.IntKind.i64,x5⟩:Rw) 0 Option.none)) :: []))))
noncomputable def st36_top (n:Nat) (lL6:(List NT)→Int→Int→(List NT)→(List Int)→(List Int)→Option R36) (a:List NT):Option R36 :=
 cond (!decide ((↑a.length:Int)=(10:Int))) (some ((false,()),())) (cond (decide ((0:Int) < (↑a.length:Int))) (cond (!decide ((a.getD (Int.toNat (0:Int)) ZN).1=(2:Int))) (some ((false,()),())) (lL6 (a) ((↑a.length:Int)) ((0:Int)) (a) (List.replicate (Int.toNat (10:Int)) (0:Int)) (List.replicate (Int.toNat (10:Int)) (0:Int)))) (none))
noncomputable def st36_L16 (n:Nat) (lL16:Int→(List NT)→Int→Int→(List (ByteArray × Int))→Int→Int→(List NT)→(List Int)→(List Int)→Int→Int→Int→Int→Int→Int→Bool→ByteArray→(List (ByteArray × Int))→Option R36) (lL6:(List NT)→Int→Int→(List NT)→(List Int)→(List Int)→Option R36) (x0:Int) (x1:List NT) (x2:Int) (x3:Int) (x4:List (ByteArray × Int)) (x5:Int) (x6:Int) (x7:List NT) (x8:List Int) (x9:List Int) (x10:Int) (x11:Int) (x12:Int) (x13:Int) (x14:Int) (x15:Int) (x16:Bool) (x17:ByteArray) (x18:List (ByteArray × Int)):Option R36 :=
 cond (decide (x6 < x5)) (cond (decide ((0:Int)≤x6)) (cond (decide (x6 < (↑x4.length:Int))) ((q54 n ((x4.getD x6.toNat (ByteArray.empty,(0:Int))).1,())).bind fun r8=>cond (!r8.1.1) (some ((false,()),())) ((q55 n ((x4.getD x6.toNat (ByteArray.empty,(0:Int))).2,(0:Int),(9:Int),())).bind fun r9=>cond (!r9.1.1) (some ((false,()),())) (cond (decide ((0:Int)≤(x4.getD x6.toNat (ByteArray.empty,(0:Int))).2)) (cond (decide ((x4.getD x6.toNat (ByteArray.empty,(0:Int))).2 < (↑x7.length:Int))) (cond (decide ((x7.getD (Int.toNat (x4.getD x6.toNat (ByteArray.empty,(0:Int))).2) ZN).1=(0:Int))) (some ((false,()),())) (cond (decide ((0:Int) < x6)) (cond (decide ((0:Int)≤Go.IntKind.i64.wrap (x6 - (1:Int)))) (cond (decide (Go.IntKind.i64.wrap (x6 - (1:Int)) < (↑x18.length:Int))) (cond (!Go.Op.bytesLess (ByteArray.toList (x18.getD (Go.IntKind.i64.wrap (x6 - (1:Int))).toNat (ByteArray.empty,(0:Int))).1) (ByteArray.toList (x4.getD x6.toNat (ByteArray.empty,(0:Int))).1)) (some ((false,()),())) (cond (decide ((0:Int)≤(x4.getD x6.toNat (ByteArray.empty,(0:Int))).2)) (cond (decide ((x4.getD x6.toNat (ByteArray.empty,(0:Int))).2 < (↑x8.length:Int))) (cond (decide ((0:Int)≤(x4.getD x6.toNat (ByteArray.empty,(0:Int))).2)) (cond (decide ((x4.getD x6.toNat (ByteArray.empty,(0:Int))).2 < (↑x8.length:Int))) (cond (decide ((0:Int)≤(x4.getD x6.toNat (ByteArray.empty,(0:Int))).2)) (cond (decide ((x4.getD x6.toNat (ByteArray.empty,(0:Int))).2 < (↑x9.length:Int))) (lL16 (x0) (x1) (x2) (x3) (x4) (x5) (Go.IntKind.i64.wrap (x6 + (1:Int))) (x7) (x8.set (Int.toNat (x4.getD x6.toNat (ByteArray.empty,(0:Int))).2) (Go.IntKind.i64.wrap (x8.getD (Int.toNat (x4.getD x6.toNat (ByteArray.empty,(0:Int))).2) (0:Int) + (1:Int)))) (x9.set (Int.toNat (x4.getD x6.toNat (ByteArray.empty,(0:Int))).2) x0) (x10) (x11) (x12) (x13) (x14) (x15) (x16) (x17) (x18)) (none)) (none)) (none)) (none)) (none)) (none))) (none)) (none)) (cond (decide ((0:Int)≤(x4.getD x6.toNat (ByteArray.empty,(0:Int))).2)) (cond (decide ((x4.getD x6.toNat (ByteArray.empty,(0:Int))).2 < (↑x8.length:Int))) (cond (decide ((0:Int)≤(x4.getD x6.toNat (ByteArray.empty,(0:Int))).2)) (cond (decide ((x4.getD x6.toNat (ByteArray.empty,(0:Int))).2 < (↑x8.length:Int))) (cond (decide ((0:Int)≤(x4.getD x6.toNat (ByteArray.empty,(0:Int))).2)) (cond (decide ((x4.getD x6.toNat (ByteArray.empty,(0:Int))).2 < (↑x9.length:Int))) (lL16 (x0) (x1) (x2) (x3) (x4) (x5) (Go.IntKind.i64.wrap (x6 + (1:Int))) (x7) (x8.set (Int.toNat (x4.getD x6.toNat (ByteArray.empty,(0:Int))).2) (Go.IntKind.i64.wrap (x8.getD (Int.toNat (x4.getD x6.toNat (ByteArray.empty,(0:Int))).2) (0:Int) + (1:Int)))) (x9.set (Int.toNat (x4.getD x6.toNat (ByteArray.empty,(0:Int))).2) x0) (x10) (x11) (x12) (x13) (x14) (x15) (x16) (x17) (x18)) (none)) (none)) (none)) (none)) (none)) (none)))) (none)) (none)))) (none)) (none)) (lL6 (x1) (x2) (Go.IntKind.i64.wrap (x3 + (1:Int))) (x7) (x8) (x9))
noncomputable def st36_L36 (n:Nat) (lL36:Int→Int→(List NT)→Int→Int→(List Int)→(List Int)→Option R36) (lL25:(List NT)→Int→Int→(List Int)→(List Int)→Option R36) (x0:Int) (x1:Int) (x2:List NT) (x3:Int) (x4:Int) (x5:List Int) (x6:List Int):Option R36 :=
 cond (!decide (x0=(0:Int))) (cond (decide ((10:Int) < x1)) (some ((false,()),())) (cond (decide ((0:Int)≤x0)) (cond (decide (x0 < (↑x6.length:Int))) (lL36 (x6.getD x0.toNat (0:Int)) (Go.IntKind.i64.wrap (x1 + (1:Int))) (x2) (x3) (x4) (x5) (x6)) (none)) (none))) (lL25 (x2) (x3) (Go.IntKind.i64.wrap (x4 + (1:Int))) (x5) (x6))
noncomputable def st36_L25 (n:Nat) (lL25:(List NT)→Int→Int→(List Int)→(List Int)→Option R36) (lL36:Int→Int→(List NT)→Int→Int→(List Int)→(List Int)→Option R36) (x0:List NT) (x1:Int) (x2:Int) (x3:List Int) (x4:List Int):Option R36 :=
 cond (decide (x2 < x1)) (cond (decide ((0:Int)≤x2)) (cond (decide (x2 < (↑x0.length:Int))) (cond (decide ((x0.getD x2.toNat ZN).1=(0:Int))) (lL25 (x0) (x1) (Go.IntKind.i64.wrap (x2 + (1:Int))) (x3) (x4)) (cond (decide ((0:Int)≤x2)) (cond (decide (x2 < (↑x3.length:Int))) (cond (!decide ((x0.getD x2.toNat ZN).2.2.2.2.1=x3.getD x2.toNat (0:Int))) (some ((false,()),())) (cond (decide ((x0.getD x2.toNat ZN).1=(1:Int))) (cond (decide ((x0.getD x2.toNat ZN).2.2.2.2.1=(0:Int))) (cond (decide ((x0.getD x2.toNat ZN).2.2.2.2.2.1=(0:Int))) (some ((false,()),())) (cond (decide ((x0.getD x2.toNat ZN).1=(2:Int))) (cond (decide ((0:Int) < x2)) (cond (!decide ((x0.getD x2.toNat ZN).2.2.2.2.1=(1:Int))) (some ((false,()),())) (cond (decide (x2=(0:Int))) (cond (!decide ((x0.getD x2.toNat ZN).2.2.2.2.1=(0:Int))) (some ((false,()),())) (cond (decide ((x0.getD x2.toNat ZN).1=(2:Int))) (lL36 (x2) ((0:Int)) (x0) (x1) (x2) (x3) (x4)) (lL25 (x0) (x1) (Go.IntKind.i64.wrap (x2 + (1:Int))) (x3) (x4)))) (cond (decide ((x0.getD x2.toNat ZN).1=(2:Int))) (lL36 (x2) ((0:Int)) (x0) (x1) (x2) (x3) (x4)) (lL25 (x0) (x1) (Go.IntKind.i64.wrap (x2 + (1:Int))) (x3) (x4))))) (cond (decide (x2=(0:Int))) (cond (!decide ((x0.getD x2.toNat ZN).2.2.2.2.1=(0:Int))) (some ((false,()),())) (cond (decide ((x0.getD x2.toNat ZN).1=(2:Int))) (lL36 (x2) ((0:Int)) (x0) (x1) (x2) (x3) (x4)) (lL25 (x0) (x1) (Go.IntKind.i64.wrap (x2 + (1:Int))) (x3) (x4)))) (cond (decide ((x0.getD x2.toNat ZN).1=(2:Int))) (lL36 (x2) ((0:Int)) (x0) (x1) (x2) (x3) (x4)) (lL25 (x0) (x1) (Go.IntKind.i64.wrap (x2 + (1:Int))) (x3) (x4))))) (cond (decide (x2=(0:Int))) (cond (!decide ((x0.getD x2.toNat ZN).2.2.2.2.1=(0:Int))) (some ((false,()),())) (cond (decide ((x0.getD x2.toNat ZN).1=(2:Int))) (lL36 (x2) ((0:Int)) (x0) (x1) (x2) (x3) (x4)) (lL25 (x0) (x1) (Go.IntKind.i64.wrap (x2 + (1:Int))) (x3) (x4)))) (cond (decide ((x0.getD x2.toNat ZN).1=(2:Int))) (lL36 (x2) ((0:Int)) (x0) (x1) (x2) (x3) (x4)) (lL25 (x0) (x1) (Go.IntKind.i64.wrap (x2 + (1:Int))) (x3) (x4)))))) (cond (decide ((x0.getD x2.toNat ZN).1=(2:Int))) (cond (decide ((0:Int) < x2)) (cond (!decide ((x0.getD x2.toNat ZN).2.2.2.2.1=(1:Int))) (some ((false,()),())) (cond (decide (x2=(0:Int))) (cond (!decide ((x0.getD x2.toNat ZN).2.2.2.2.1=(0:Int))) (some ((false,()),())) (cond (decide ((x0.getD x2.toNat ZN).1=(2:Int))) (lL36 (x2) ((0:Int)) (x0) (x1) (x2) (x3) (x4)) (lL25 (x0) (x1) (Go.IntKind.i64.wrap (x2 + (1:Int))) (x3) (x4)))) (cond (decide ((x0.getD x2.toNat ZN).1=(2:Int))) (lL36 (x2) ((0:Int)) (x0) (x1) (x2) (x3) (x4)) (lL25 (x0) (x1) (Go.IntKind.i64.wrap (x2 + (1:Int))) (x3) (x4))))) (cond (decide (x2=(0:Int))) (cond (!decide ((x0.getD x2.toNat ZN).2.2.2.2.1=(0:Int))) (some ((false,()),())) (cond (decide ((x0.getD x2.toNat ZN).1=(2:Int))) (lL36 (x2) ((0:Int)) (x0) (x1) (x2) (x3) (x4)) (lL25 (x0) (x1) (Go.IntKind.i64.wrap (x2 + (1:Int))) (x3) (x4)))) (cond (decide ((x0.getD x2.toNat ZN).1=(2:Int))) (lL36 (x2) ((0:Int)) (x0) (x1) (x2) (x3) (x4)) (lL25 (x0) (x1) (Go.IntKind.i64.wrap (x2 + (1:Int))) (x3) (x4))))) (cond (decide (x2=(0:Int))) (cond (!decide ((x0.getD x2.toNat ZN).2.2.2.2.1=(0:Int))) (some ((false,()),())) (cond (decide ((x0.getD x2.toNat ZN).1=(2:Int))) (lL36 (x2) ((0:Int)) (x0) (x1) (x2) (x3) (x4)) (lL25 (x0) (x1) (Go.IntKind.i64.wrap (x2 + (1:Int))) (x3) (x4)))) (cond (decide ((x0.getD x2.toNat ZN).1=(2:Int))) (lL36 (x2) ((0:Int)) (x0) (x1) (x2) (x3) (x4)) (lL25 (x0) (x1) (Go.IntKind.i64.wrap (x2 + (1:Int))) (x3) (x4)))))) (cond (decide ((x0.getD x2.toNat ZN).1=(2:Int))) (cond (decide ((0:Int) < x2)) (cond (!decide ((x0.getD x2.toNat ZN).2.2.2.2.1=(1:Int))) (some ((false,()),())) (cond (decide (x2=(0:Int))) (cond (!decide ((x0.getD x2.toNat ZN).2.2.2.2.1=(0:Int))) (some ((false,()),())) (cond (decide ((x0.getD x2.toNat ZN).1=(2:Int))) (lL36 (x2) ((0:Int)) (x0) (x1) (x2) (x3) (x4)) (lL25 (x0) (x1) (Go.IntKind.i64.wrap (x2 + (1:Int))) (x3) (x4)))) (cond (decide ((x0.getD x2.toNat ZN).1=(2:Int))) (lL36 (x2) ((0:Int)) (x0) (x1) (x2) (x3) (x4)) (lL25 (x0) (x1) (Go.IntKind.i64.wrap (x2 + (1:Int))) (x3) (x4))))) (cond (decide (x2=(0:Int))) (cond (!decide ((x0.getD x2.toNat ZN).2.2.2.2.1=(0:Int))) (some ((false,()),())) (cond (decide ((x0.getD x2.toNat ZN).1=(2:Int))) (lL36 (x2) ((0:Int)) (x0) (x1) (x2) (x3) (x4)) (lL25 (x0) (x1) (Go.IntKind.i64.wrap (x2 + (1:Int))) (x3) (x4)))) (cond (decide ((x0.getD x2.toNat ZN).1=(2:Int))) (lL36 (x2) ((0:Int)) (x0) (x1) (x2) (x3) (x4)) (lL25 (x0) (x1) (Go.IntKind.i64.wrap (x2 + (1:Int))) (x3) (x4))))) (cond (decide (x2=(0:Int))) (cond (!decide ((x0.getD x2.toNat ZN).2.2.2.2.1=(0:Int))) (some ((false,()),())) (cond (decide ((x0.getD x2.toNat ZN).1=(2:Int))) (lL36 (x2) ((0:Int)) (x0) (x1) (x2) (x3) (x4)) (lL25 (x0) (x1) (Go.IntKind.i64.wrap (x2 + (1:Int))) (x3) (x4)))) (cond (decide ((x0.getD x2.toNat ZN).1=(2:Int))) (lL36 (x2) ((0:Int)) (x0) (x1) (x2) (x3) (x4)) (lL25 (x0) (x1) (Go.IntKind.i64.wrap (x2 + (1:Int))) (x3) (x4))))))) (none)) (none))) (none)) (none)) (some ((true,()),()))
noncomputable def st36_L6 (n:Nat) (lL6:(List NT)→Int→Int→(List NT)→(List Int)→(List Int)→Option R36) (lL16:Int→(List NT)→Int→Int→(List (ByteArray × Int))→Int→Int→(List NT)→(List Int)→(List Int)→Int→Int→Int→Int→Int→Int→Bool→ByteArray→(List (ByteArray × Int))→Option R36) (lL25:(List NT)→Int→Int→(List Int)→(List Int)→Option R36) (x0:List NT) (x1:Int) (x2:Int) (x3:List NT) (x4:List Int) (x5:List Int):Option R36 :=
 cond (decide (x2 < x1)) (cond (decide ((0:Int)≤x2)) (cond (decide (x2 < (↑x0.length:Int))) (cond (decide ((x0.getD x2.toNat ZN).1=(0:Int))) ((q86 n (((x0.getD x2.toNat ZN).1,(x0.getD x2.toNat ZN).2.1,(x0.getD x2.toNat ZN).2.2.1,(x0.getD x2.toNat ZN).2.2.2.1,(x0.getD x2.toNat ZN).2.2.2.2.1,(x0.getD x2.toNat ZN).2.2.2.2.2.1,(x0.getD x2.toNat ZN).2.2.2.2.2.2.1,(x0.getD x2.toNat ZN).2.2.2.2.2.2.2.1,(x0.getD x2.toNat ZN).2.2.2.2.2.2.2.2),())).bind fun r1=>cond (!r1.1.1) (some ((false,()),())) (lL6 (x0) (x1) (Go.IntKind.i64.wrap (x2 + (1:Int))) (x3) (x4) (x5))) ((q55 n ((x0.getD x2.toNat ZN).1,(1:Int),(2:Int),())).bind fun r2=>cond (!r2.1.1) (some ((false,()),())) ((q55 n ((x0.getD x2.toNat ZN).2.1,(0:Int),(511:Int),())).bind fun r3=>cond (!r3.1.1) (some ((false,()),())) ((q55 n ((x0.getD x2.toNat ZN).2.2.1,(0:Int),(9:Int),())).bind fun r4=>cond (!r4.1.1) (some ((false,()),())) ((q55 n ((x0.getD x2.toNat ZN).2.2.2.1,(0:Int),(9:Int),())).bind fun r5=>cond (!r5.1.1) (some ((false,()),())) ((q55 n ((x0.getD x2.toNat ZN).2.2.2.2.2.1,(0:Int),(99:Int),())).bind fun r6=>cond (!r6.1.1) (some ((false,()),())) (cond (decide ((x0.getD x2.toNat ZN).1=(1:Int))) (cond (decide ((40:Int) < (↑(ByteArray.size (x0.getD x2.toNat ZN).2.2.2.2.2.2.2.1):Int))) (some ((false,()),())) (cond (decide ((0:Int) < (↑(List.length (x0.getD x2.toNat ZN).2.2.2.2.2.2.2.2):Int))) (some ((false,()),())) (cond (decide ((x0.getD x2.toNat ZN).1=(2:Int))) (cond (!ByteArray.toList (x0.getD x2.toNat ZN).2.2.2.2.2.2.2.1 == (ByteArray.mk #[]).toList) (some ((false,()),())) (cond ((x0.getD x2.toNat ZN).2.2.2.2.2.2.1) (some ((false,()),())) (cond (decide ((6:Int) < (↑(List.length (x0.getD x2.toNat ZN).2.2.2.2.2.2.2.2):Int))) (some ((false,()),())) (lL16 (x2) (x0) (x1) (x2) ((x0.getD x2.toNat ZN).2.2.2.2.2.2.2.2) ((↑(List.length (x0.getD x2.toNat ZN).2.2.2.2.2.2.2.2):Int)) ((0:Int)) (x3) (x4) (x5) ((x0.getD x2.toNat ZN).1) ((x0.getD x2.toNat ZN).2.1) ((x0.getD x2.toNat ZN).2.2.1) ((x0.getD x2.toNat ZN).2.2.2.1) ((x0.getD x2.toNat ZN).2.2.2.2.1) ((x0.getD x2.toNat ZN).2.2.2.2.2.1) ((x0.getD x2.toNat ZN).2.2.2.2.2.2.1) ((x0.getD x2.toNat ZN).2.2.2.2.2.2.2.1) ((x0.getD x2.toNat ZN).2.2.2.2.2.2.2.2))))) (lL16 (x2) (x0) (x1) (x2) ((x0.getD x2.toNat ZN).2.2.2.2.2.2.2.2) ((↑(List.length (x0.getD x2.toNat ZN).2.2.2.2.2.2.2.2):Int)) ((0:Int)) (x3) (x4) (x5) ((x0.getD x2.toNat ZN).1) ((x0.getD x2.toNat ZN).2.1) ((x0.getD x2.toNat ZN).2.2.1) ((x0.getD x2.toNat ZN).2.2.2.1) ((x0.getD x2.toNat ZN).2.2.2.2.1) ((x0.getD x2.toNat ZN).2.2.2.2.2.1) ((x0.getD x2.toNat ZN).2.2.2.2.2.2.1) ((x0.getD x2.toNat ZN).2.2.2.2.2.2.2.1) ((x0.getD x2.toNat ZN).2.2.2.2.2.2.2.2))))) (cond (decide ((x0.getD x2.toNat ZN).1=(2:Int))) (cond (!ByteArray.toList (x0.getD x2.toNat ZN).2.2.2.2.2.2.2.1 == (ByteArray.mk #[]).toList) (some ((false,()),())) (cond ((x0.getD x2.toNat ZN).2.2.2.2.2.2.1) (some ((false,()),())) (cond (decide ((6:Int) < (↑(List.length (x0.getD x2.toNat ZN).2.2.2.2.2.2.2.2):Int))) (some ((false,()),())) (lL16 (x2) (x0) (x1) (x2) ((x0.getD x2.toNat ZN).2.2.2.2.2.2.2.2) ((↑(List.length (x0.getD x2.toNat ZN).2.2.2.2.2.2.2.2):Int)) ((0:Int)) (x3) (x4) (x5) ((x0.getD x2.toNat ZN).1) ((x0.getD x2.toNat ZN).2.1) ((x0.getD x2.toNat ZN).2.2.1) ((x0.getD x2.toNat ZN).2.2.2.1) ((x0.getD x2.toNat ZN).2.2.2.2.1) ((x0.getD x2.toNat ZN).2.2.2.2.2.1) ((x0.getD x2.toNat ZN).2.2.2.2.2.2.1) ((x0.getD x2.toNat ZN).2.2.2.2.2.2.2.1) ((x0.getD x2.toNat ZN).2.2.2.2.2.2.2.2))))) (lL16 (x2) (x0) (x1) (x2) ((x0.getD x2.toNat ZN).2.2.2.2.2.2.2.2) ((↑(List.length (x0.getD x2.toNat ZN).2.2.2.2.2.2.2.2):Int)) ((0:Int)) (x3) (x4) (x5) ((x0.getD x2.toNat ZN).1) ((x0.getD x2.toNat ZN).2.1) ((x0.getD x2.toNat ZN).2.2.1) ((x0.getD x2.toNat ZN).2.2.2.1) ((x0.getD x2.toNat ZN).2.2.2.2.1) ((x0.getD x2.toNat ZN).2.2.2.2.2.1) ((x0.getD x2.toNat ZN).2.2.2.2.2.2.1) ((x0.getD x2.toNat ZN).2.2.2.2.2.2.2.1) ((x0.getD x2.toNat ZN).2.2.2.2.2.2.2.2)))))))))) (none)) (none)) (lL25 (x3) ((↑x3.length:Int)) ((0:Int)) (x4) (x5))
theorem e36_top (n:Nat) (a:List NT):runF TT G36 an36 Try.f36 c36 ps36 rs36 n (a,())=st36_top n (fun x0 x1 x2 x3 x4 x5=>at36 n (.head 6) [n] (sh36_L6 x0 x1 x2 x3 x4 x5)) a:=by kernel_rfl
theorem e36_L16_0 (n:Nat) (m6:Nat) (x0:Int) (x1:List NT) (x2:Int) (x3:Int) (x4:List (ByteArray × Int)) (x5:Int) (x6:Int) (x7:List NT) (x8:List Int) (x9:List Int) (x10:Int) (x11:Int) (x12:Int) (x13:Int) (x14:Int) (x15:Int) (x16:Bool) (x17:ByteArray) (x18:List (ByteArray × Int)):at36 n (.head 16) [m6,0] (sh36_L16 x0 x1 x2 x3 x4 x5 x6 x7 x8 x9 x10 x11 x12 x13 x14 x15 x16 x17 x18)=none:=by kernel_rfl
theorem e36_L16 (n:Nat) (m6:Nat) (m16:Nat) (x0:Int) (x1:List NT) (x2:Int) (x3:Int) (x4:List (ByteArray × Int)) (x5:Int) (x6:Int) (x7:List NT) (x8:List Int) (x9:List Int) (x10:Int) (x11:Int) (x12:Int) (x13:Int) (x14:Int) (x15:Int) (x16:Bool) (x17:ByteArray) (x18:List (ByteArray × Int)):at36 n (.head 16) [m6,m16 + 1] (sh36_L16 x0 x1 x2 x3 x4 x5 x6 x7 x8 x9 x10 x11 x12 x13 x14 x15 x16 x17 x18)=st36_L16 n (fun x0 x1 x2 x3 x4 x5 x6 x7 x8 x9 x10 x11 x12 x13 x14 x15 x16 x17 x18=>at36 n (.head 16) [m6,m16] (sh36_L16 x0 x1 x2 x3 x4 x5 x6 x7 x8 x9 x10 x11 x12 x13 x14 x15 x16 x17 x18)) (fun x0 x1 x2 x3 x4 x5=>at36 n (.head 6) [m6] (sh36_L6 x0 x1 x2 x3 x4 x5)) x0 x1 x2 x3 x4 x5 x6 x7 x8 x9 x10 x11 x12 x13 x14 x15 x16 x17 x18:=by kernel_rfl
theorem e36_L36_0 (n:Nat) (m25:Nat) (x0:Int) (x1:Int) (x2:List NT) (x3:Int) (x4:Int) (x5:List Int) (x6:List Int):at36 n (.head 36) [m25,0] (sh36_L36 x0 x1 x2 x3 x4 x5 x6)=none:=by kernel_rfl
theorem e36_L36 (n:Nat) (m25:Nat) (m36:Nat) (x0:Int) (x1:Int) (x2:List NT) (x3:Int) (x4:Int) (x5:List Int) (x6:List Int):at36 n (.head 36) [m25,m36 + 1] (sh36_L36 x0 x1 x2 x3 x4 x5 x6)=st36_L36 n (fun x0 x1 x2 x3 x4 x5 x6=>at36 n (.head 36) [m25,m36] (sh36_L36 x0 x1 x2 x3 x4 x5 x6)) (fun x0 x1 x2 x3 x4=>at36 n (.head 25) [m25] (sh36_L25 x0 x1 x2 x3 x4)) x0 x1 x2 x3 x4 x5 x6:=by kernel_rfl
theorem e36_L25_0 (n:Nat) (x0:List NT) (x1:Int) (x2:Int) (x3:List Int) (x4:List Int):at36 n (.head 25) [0] (sh36_L25 x0 x1 x2 x3 x4)=none:=by kernel_rfl
theorem e36_L25 (n:Nat) (m25:Nat) (x0:List NT) (x1:Int) (x2:Int) (x3:List Int) (x4:List Int):at36 n (.head 25) [m25 + 1] (sh36_L25 x0 x1 x2 x3 x4)=st36_L25 n (fun x0 x1 x2 x3 x4=>at36 n (.head 25) [m25] (sh36_L25 x0 x1 x2 x3 x4)) (fun x0 x1 x2 x3 x4 x5 x6=>at36 n (.head 36) [m25,n] (sh36_L36 x0 x1 x2 x3 x4 x5 x6)) x0 x1 x2 x3 x4:=by kernel_rfl
theorem e36_L6_0 (n:Nat) (x0:List NT) (x1:Int) (x2:Int) (x3:List NT) (x4:List Int) (x5:List Int):at36 n (.head 6) [0] (sh36_L6 x0 x1 x2 x3 x4 x5)=none:=by kernel_rfl
theorem e36_L6 (n:Nat) (m6:Nat) (x0:List NT) (x1:Int) (x2:Int) (x3:List NT) (x4:List Int) (x5:List Int):at36 n (.head 6) [m6 + 1] (sh36_L6 x0 x1 x2 x3 x4 x5)=st36_L6 n (fun x0 x1 x2 x3 x4 x5=>at36 n (.head 6) [m6] (sh36_L6 x0 x1 x2 x3 x4 x5)) (fun x0 x1 x2 x3 x4 x5 x6 x7 x8 x9 x10 x11 x12 x13 x14 x15 x16 x17 x18=>at36 n (.head 16) [m6,n] (sh36_L16 x0 x1 x2 x3 x4 x5 x6 x7 x8 x9 x10 x11 x12 x13 x14 x15 x16 x17 x18)) (fun x0 x1 x2 x3 x4=>at36 n (.head 25) [n] (sh36_L25 x0 x1 x2 x3 x4)) x0 x1 x2 x3 x4 x5:=by kernel_rfl
noncomputable def p36_L16 (g6:(List NT)→Int→Int→(List NT)→(List Int)→(List Int)→Option R36) (n:Nat):Nat→Int→(List NT)→Int→Int→(List (ByteArray × Int))→Int→Int→(List NT)→(List Int)→(List Int)→Int→Int→Int→Int→Int→Int→Bool→ByteArray→(List (ByteArray × Int))→Option R36
 | 0,_,_,_,_,_,_,_,_,_,_,_,_,_,_,_,_,_,_,_=>none
 | m + 1,x0,x1,x2,x3,x4,x5,x6,x7,x8,x9,x10,x11,x12,x13,x14,x15,x16,x17,x18=>st36_L16 n (p36_L16 g6 n m) g6 x0 x1 x2 x3 x4 x5 x6 x7 x8 x9 x10 x11 x12 x13 x14 x15 x16 x17 x18
noncomputable def p36_L36 (g25:(List NT)→Int→Int→(List Int)→(List Int)→Option R36) (n:Nat):Nat→Int→Int→(List NT)→Int→Int→(List Int)→(List Int)→Option R36
 | 0,_,_,_,_,_,_,_=>none
 | m + 1,x0,x1,x2,x3,x4,x5,x6=>st36_L36 n (p36_L36 g25 n m) g25 x0 x1 x2 x3 x4 x5 x6
noncomputable def p36_L25 (n:Nat):Nat→(List NT)→Int→Int→(List Int)→(List Int)→Option R36
 | 0,_,_,_,_,_=>none
 | m + 1,x0,x1,x2,x3,x4=>st36_L25 n (p36_L25 n m) (p36_L36 (p36_L25 n m) n n) x0 x1 x2 x3 x4
noncomputable def p36_L6 (n:Nat):Nat→(List NT)→Int→Int→(List NT)→(List Int)→(List Int)→Option R36
 | 0,_,_,_,_,_,_=>none
 | m + 1,x0,x1,x2,x3,x4,x5=>st36_L6 n (p36_L6 n m) (p36_L16 (p36_L6 n m) n n) (p36_L25 n n) x0 x1 x2 x3 x4 x5
noncomputable def p36 (n:Nat) (a:List NT):Option R36:=st36_top n (p36_L6 n n) a
theorem t36_L16 (n:Nat) (m6:Nat):∀ (m16:Nat) (x0:Int) (x1:List NT) (x2:Int) (x3:Int) (x4:List (ByteArray × Int)) (x5:Int) (x6:Int) (x7:List NT) (x8:List Int) (x9:List Int) (x10:Int) (x11:Int) (x12:Int) (x13:Int) (x14:Int) (x15:Int) (x16:Bool) (x17:ByteArray) (x18:List (ByteArray × Int)),at36 n (.head 16) [m6,m16] (sh36_L16 x0 x1 x2 x3 x4 x5 x6 x7 x8 x9 x10 x11 x12 x13 x14 x15 x16 x17 x18)=p36_L16 (fun x0 x1 x2 x3 x4 x5=>at36 n (.head 6) [m6] (sh36_L6 x0 x1 x2 x3 x4 x5)) n m16 x0 x1 x2 x3 x4 x5 x6 x7 x8 x9 x10 x11 x12 x13 x14 x15 x16 x17 x18:=by
 intro m
 induction m with
 | zero=>intros; rw [e36_L16_0]; rfl
 | succ m ih =>
  intros
  rw [e36_L16]
  try simp only [ih]
  rfl
theorem t36_L36 (n:Nat) (m25:Nat):∀ (m36:Nat) (x0:Int) (x1:Int) (x2:List NT) (x3:Int) (x4:Int) (x5:List Int) (x6:List Int),at36 n (.head 36) [m25,m36] (sh36_L36 x0 x1 x2 x3 x4 x5 x6)=p36_L36 (fun x0 x1 x2 x3 x4=>at36 n (.head 25) [m25] (sh36_L25 x0 x1 x2 x3 x4)) n m36 x0 x1 x2 x3 x4 x5 x6:=by
 intro m
 induction m with
 | zero=>intros; rw [e36_L36_0]; rfl
 | succ m ih =>
  intros
  rw [e36_L36]
  try simp only [ih]
  rfl
theorem t36_L25 (n:Nat):∀ (m25:Nat) (x0:List NT) (x1:Int) (x2:Int) (x3:List Int) (x4:List Int),at36 n (.head 25) [m25] (sh36_L25 x0 x1 x2 x3 x4)=p36_L25 n m25 x0 x1 x2 x3 x4:=by
 intro m
 induction m with
 | zero=>intros; rw [e36_L25_0]; rfl
 | succ m ih =>
  intros
  rw [e36_L25]
  try simp only [t36_L36,ih]
  rfl
theorem t36_L6 (n:Nat):∀ (m6:Nat) (x0:List NT) (x1:Int) (x2:Int) (x3:List NT) (x4:List Int) (x5:List Int),at36 n (.head 6) [m6] (sh36_L6 x0 x1 x2 x3 x4 x5)=p36_L6 n m6 x0 x1 x2 x3 x4 x5:=by
 intro m
 induction m with
 | zero=>intros; rw [e36_L6_0]; rfl
 | succ m ih =>
  intros
  rw [e36_L6]
  try simp only [t36_L16,t36_L25,ih]
  rfl
theorem F36_eq (n:Nat) (a:List NT):runF TT G36 an36 Try.f36 c36 ps36 rs36 n (a,())=p36 n a:=by
 rw [e36_top]
 simp only [t36_L6]
 try rfl
noncomputable def q36 (n:Nat) (x:argsD ps36):Option R36:=p36 n x.1
noncomputable def Sm36:Sm:=⟨ps36,rs36,false,q36⟩
theorem holds36 (hg:GamOK Try.prog G36):Holds Try.prog 36 Sm36:=by
 have:=h0_36 hg
 have e:(runF TT G36 an36 Try.f36 c36 ps36 rs36)=q36:=by
  funext n x
  exact F36_eq n x.1
 rw [e] at this
 exact this
theorem gam36:GamOK Try.prog G36:=by
 intro f s h
 unfold G36 at h
 split at h
 ·injection h with h; subst h; exact ⟨⟨Try.f54,c54,Try.func54,by kernel_rfl,by decide +kernel⟩,hh54⟩
 ·injection h with h; subst h; exact ⟨⟨Try.f55,c55,Try.func55,by kernel_rfl,by decide +kernel⟩,hh55⟩
 ·injection h with h; subst h; exact ⟨⟨Try.f86,c86,Try.func86,by kernel_rfl,by decide +kernel⟩,hh86⟩
 ·cases h
theorem hh36:Holds Try.prog 36 Sm36:=holds36 gam36
end Go.Proofs.Ythhopbicmaipgaa.Rx.S

namespace Go.Proofs.Ythhopbicmaipgaa.Rx.S
open Go Go.RowKit Go.Proofs
set_option maxRecDepth 100000
noncomputable def c66:Code:=(Try.f66.body.getD .skip)
def an66:An:=⟨fun _=>⟨[],[]⟩,fun _ _=>none⟩
abbrev ps66:List PK:=[.val i64 false,.val i64 false,.val i64 false]
abbrev rs66:List RK:=[.val .bool false]
abbrev R66:=retsD rs66 × outsD ps66
noncomputable def G66:Gam:=fun _=>none
theorem h0_66 (hg:GamOK Try.prog G66):Holds Try.prog 66 ⟨ps66,rs66,false,runF TT G66 an66 Try.f66 c66 ps66 rs66⟩:=holds_of tt_ok hg mixed Try.func66 (by kernel_rfl) (by rfl) (by decide +kernel)
noncomputable def st66_top (n:Nat) (a:Int) (b:Int) (c:Int):Option R66 :=
 cond (decide (b≤a)) (some ((decide (a≤c),()),())) (some ((false,()),()))
theorem e66_top (n:Nat) (a:Int) (b:Int) (c:Int):runF TT G66 an66 Try.f66 c66 ps66 rs66 n (a,b,c,())=st66_top n a b c:=by kernel_rfl
noncomputable def p66 (n:Nat) (a:Int) (b:Int) (c:Int):Option R66:=st66_top n a b c
theorem F66_eq (n:Nat) (a:Int) (b:Int) (c:Int):runF TT G66 an66 Try.f66 c66 ps66 rs66 n (a,b,c,())=p66 n a b c:=by
 rw [e66_top]
 skip
 try rfl
noncomputable def q66 (n:Nat) (x:argsD ps66):Option R66:=p66 n x.1 x.2.1 x.2.2.1
noncomputable def Sm66:Sm:=⟨ps66,rs66,false,q66⟩
theorem holds66 (hg:GamOK Try.prog G66):Holds Try.prog 66 Sm66:=by
 have:=h0_66 hg
 have e:(runF TT G66 an66 Try.f66 c66 ps66 rs66)=q66:=by
  funext n x
  exact F66_eq n x.1 x.2.1 x.2.2.1
 rw [e] at this
 exact this
theorem gam66:GamOK Try.prog G66:=fun _ _ h=>by cases h
theorem hh66:Holds Try.prog 66 Sm66:=holds66 gam66
end Go.Proofs.Ythhopbicmaipgaa.Rx.S

namespace Go.Proofs.Ythhopbicmaipgaa.Rx.S
open Go Go.RowKit Go.Proofs
set_option maxRecDepth 100000
noncomputable def c65:Code:=(Try.f65.body.getD .skip)
def an65:An:=⟨fun r=>match r with | 2=>⟨[0,3],[]⟩ | _=>⟨[],[]⟩,fun _ _=>none⟩
abbrev ps65:List PK:=[.val .str false]
abbrev rs65:List RK:=[.val .bool false]
abbrev R65:=retsD rs65 × outsD ps65
noncomputable def G65:Gam:=fun f=>match f with | 66=>some Sm66 | _=>none
theorem h0_65 (hg:GamOK Try.prog G65):Holds Try.prog 65 ⟨ps65,rs65,false,runF TT G65 an65 Try.f65 c65 ps65 rs65⟩:=holds_of tt_ok hg mixed Try.func65 (by kernel_rfl) (by rfl) (by decide +kernel)
noncomputable def at65:Nat→Pt→List Nat→St→Option R65:=atF TT G65 an65 Try.f65 c65 _ _
def sh65_L2 (x0:ByteArray) (x1:Int):St:=(St.mk ((AV.one (SV.str x0)) :: (AV.undef :: (AV.undef :: ((AV.one (SV.int (Go.IntKind.i64) x1)) :: (AV.undef :: (AV.undef :: (AV.undef :: (AV.undef :: (AV.undef :: (AV.undef :: (AV.undef :: (AV.undef :: (AV.undef :: (AV.undef :: (AV.undef :: (AV.undef :: (AV.undef :: (AV.undef :: (AV.undef :: (AV.undef :: (AV.undef :: (AV.undef :: (AV.undef :: []))))))))))))))))))))))) [])
noncomputable def st65_top (n:Nat) (lL2:ByteArray→Int→Option R65) (a:ByteArray):Option R65 :=
 lL2 (a) ((0:Int))
noncomputable def st65_L2 (n:Nat) (lL2:ByteArray→Int→Option R65) (x0:ByteArray) (x1:Int):Option R65 :=
 cond (decide (x1 < (↑x0.size:Int))) (cond (decide ((0:Int)≤x1)) (cond (decide (x1 < (↑x0.size:Int))) (cond (decide ((↑(x0.data.toList.getD x1.toNat (0:UInt8)).toNat:Int) < (97:Int))) (some ((false,()),())) (cond (decide ((0:Int)≤x1)) (cond (decide (x1 < (↑x0.size:Int))) (cond (decide ((122:Int) < (↑(x0.data.toList.getD x1.toNat (0:UInt8)).toNat:Int))) (some ((false,()),())) (lL2 (x0) (Go.IntKind.i64.wrap (x1 + (1:Int))))) (none)) (none))) (none)) (none)) ((q66 n ((↑x0.size:Int),(1:Int),(3:Int),())).bind fun r1=>some ((r1.1.1,()),()))
theorem e65_top (n:Nat) (a:ByteArray):runF TT G65 an65 Try.f65 c65 ps65 rs65 n (a,())=st65_top n (fun x0 x1=>at65 n (.head 2) [n] (sh65_L2 x0 x1)) a:=by kernel_rfl
theorem e65_L2_0 (n:Nat) (x0:ByteArray) (x1:Int):at65 n (.head 2) [0] (sh65_L2 x0 x1)=none:=by kernel_rfl
theorem e65_L2 (n:Nat) (m2:Nat) (x0:ByteArray) (x1:Int):at65 n (.head 2) [m2 + 1] (sh65_L2 x0 x1)=st65_L2 n (fun x0 x1=>at65 n (.head 2) [m2] (sh65_L2 x0 x1)) x0 x1:=by kernel_rfl
noncomputable def p65_L2 (n:Nat):Nat→ByteArray→Int→Option R65
 | 0,_,_=>none
 | m + 1,x0,x1=>st65_L2 n (p65_L2 n m) x0 x1
noncomputable def p65 (n:Nat) (a:ByteArray):Option R65:=st65_top n (p65_L2 n n) a
theorem t65_L2 (n:Nat):∀ (m2:Nat) (x0:ByteArray) (x1:Int),at65 n (.head 2) [m2] (sh65_L2 x0 x1)=p65_L2 n m2 x0 x1:=by
 intro m
 induction m with
 | zero=>intros; rw [e65_L2_0]; rfl
 | succ m ih =>
  intros
  rw [e65_L2]
  try simp only [ih]
  rfl
theorem F65_eq (n:Nat) (a:ByteArray):runF TT G65 an65 Try.f65 c65 ps65 rs65 n (a,())=p65 n a:=by
 rw [e65_top]
 simp only [t65_L2]
 try rfl
noncomputable def q65 (n:Nat) (x:argsD ps65):Option R65:=p65 n x.1
noncomputable def Sm65:Sm:=⟨ps65,rs65,false,q65⟩
theorem holds65 (hg:GamOK Try.prog G65):Holds Try.prog 65 Sm65:=by
 have:=h0_65 hg
 have e:(runF TT G65 an65 Try.f65 c65 ps65 rs65)=q65:=by
  funext n x
  exact F65_eq n x.1
 rw [e] at this
 exact this
theorem gam65:GamOK Try.prog G65:=by
 intro f s h
 unfold G65 at h
 split at h
 ·injection h with h; subst h; exact ⟨⟨Try.f66,c66,Try.func66,by kernel_rfl,by decide +kernel⟩,hh66⟩
 ·cases h
theorem hh65:Holds Try.prog 65 Sm65:=holds65 gam65
end Go.Proofs.Ythhopbicmaipgaa.Rx.S

namespace Go.Proofs.Ythhopbicmaipgaa.Rx.S
open Go Go.RowKit Go.Proofs
set_option maxRecDepth 100000
noncomputable def c87:Code:=(Try.f87.body.getD .skip)
def an87:An:=⟨fun _=>⟨[],[]⟩,fun _ _=>none⟩
abbrev ps87:List PK:=[.val i64 false]
abbrev rs87:List RK:=[.val .bool false]
abbrev R87:=retsD rs87 × outsD ps87
noncomputable def G87:Gam:=fun f=>match f with | 66=>some Sm66 | _=>none
theorem h0_87 (hg:GamOK Try.prog G87):Holds Try.prog 87 ⟨ps87,rs87,false,runF TT G87 an87 Try.f87 c87 ps87 rs87⟩:=holds_of tt_ok hg mixed Try.func87 (by kernel_rfl) (by rfl) (by decide +kernel)
noncomputable def st87_top (n:Nat) (a:Int):Option R87 :=
 (q66 n (a,(0:Int),(9:Int),())).bind fun r0=>some ((r0.1.1,()),())
theorem e87_top (n:Nat) (a:Int):runF TT G87 an87 Try.f87 c87 ps87 rs87 n (a,())=st87_top n a:=by kernel_rfl
noncomputable def p87 (n:Nat) (a:Int):Option R87:=st87_top n a
theorem F87_eq (n:Nat) (a:Int):runF TT G87 an87 Try.f87 c87 ps87 rs87 n (a,())=p87 n a:=by
 rw [e87_top]
 skip
 try rfl
noncomputable def q87 (n:Nat) (x:argsD ps87):Option R87:=p87 n x.1
noncomputable def Sm87:Sm:=⟨ps87,rs87,false,q87⟩
theorem holds87 (hg:GamOK Try.prog G87):Holds Try.prog 87 Sm87:=by
 have:=h0_87 hg
 have e:(runF TT G87 an87 Try.f87 c87 ps87 rs87)=q87:=by
  funext n x
  exact F87_eq n x.1
 rw [e] at this
 exact this
theorem gam87:GamOK Try.prog G87:=by
 intro f s h
 unfold G87 at h
 split at h
 ·injection h with h; subst h; exact ⟨⟨Try.f66,c66,Try.func66,by kernel_rfl,by decide +kernel⟩,hh66⟩
 ·cases h
theorem hh87:Holds Try.prog 87 Sm87:=holds87 gam87
end Go.Proofs.Ythhopbicmaipgaa.Rx.S

namespace Go.Proofs.Ythhopbicmaipgaa.Rx.S
open Go Go.RowKit Go.Proofs
set_option maxRecDepth 100000
noncomputable def c122:Code:=(Try.f122.body.getD .skip)
def an122:An:=⟨fun _=>⟨[],[]⟩,fun _ _=>none⟩
abbrev ps122:List PK:=[.val (tIn 95) true]
abbrev rs122:List RK:=[.val .bool false]
abbrev R122:=retsD rs122 × outsD ps122
noncomputable def G122:Gam:=fun _=>none
theorem h0_122 (hg:GamOK Try.prog G122):Holds Try.prog 122 ⟨ps122,rs122,false,runF TT G122 an122 Try.f122 c122 ps122 rs122⟩:=holds_of tt_ok hg mixed Try.func122 (by kernel_rfl) (by rfl) (by decide +kernel)
noncomputable def st122_top (n:Nat) (a:NT):Option R122 :=
 cond (decide (a.1=(0:Int))) (cond (decide (a.2.1=(0:Int))) (cond (decide (a.2.2.1=(0:Int))) (cond (decide (a.2.2.2.1=(0:Int))) (cond (decide (a.2.2.2.2.1=(0:Int))) (cond (decide (a.2.2.2.2.2.1=(0:Int))) (cond (!a.2.2.2.2.2.2.1) (cond (ByteArray.toList a.2.2.2.2.2.2.2.1 == (ByteArray.mk #[]).toList) (some ((decide ((↑(List.length a.2.2.2.2.2.2.2.2):Int)=(0:Int)),()),())) (some ((false,()),()))) (some ((false,()),()))) (some ((false,()),()))) (some ((false,()),()))) (some ((false,()),()))) (some ((false,()),()))) (some ((false,()),()))) (some ((false,()),()))
theorem e122_top (n:Nat) (a:NT):runF TT G122 an122 Try.f122 c122 ps122 rs122 n (a,())=st122_top n a:=by kernel_rfl
noncomputable def p122 (n:Nat) (a:NT):Option R122:=st122_top n a
theorem F122_eq (n:Nat) (a:NT):runF TT G122 an122 Try.f122 c122 ps122 rs122 n (a,())=p122 n a:=by
 rw [e122_top]
 skip
 try rfl
noncomputable def q122 (n:Nat) (x:argsD ps122):Option R122:=p122 n x.1
noncomputable def Sm122:Sm:=⟨ps122,rs122,false,q122⟩
theorem holds122 (hg:GamOK Try.prog G122):Holds Try.prog 122 Sm122:=by
 have:=h0_122 hg
 have e:(runF TT G122 an122 Try.f122 c122 ps122 rs122)=q122:=by
  funext n x
  exact F122_eq n x.1
 rw [e] at this
 exact this
theorem gam122:GamOK Try.prog G122:=fun _ _ h=>by cases h
theorem hh122:Holds Try.prog 122 Sm122:=holds122 gam122
end Go.Proofs.Ythhopbicmaipgaa.Rx.S

namespace Go.Proofs.Ythhopbicmaipgaa.Rx.S
open Go Go.RowKit Go.Proofs
set_option maxRecDepth 100000
noncomputable def c100:Code:=(Try.f100.body.getD .skip)
def an100:An:=⟨fun r=>match r with | 8=>⟨[1,3],[]⟩ | _=>⟨[],[]⟩,fun _ _=>none⟩
abbrev ps100:List PK:=[.val (tIn 95) true]
abbrev rs100:List RK:=[.val .bool false]
abbrev R100:=retsD rs100 × outsD ps100
noncomputable def G100:Gam:=fun f=>match f with | 65=>some Sm65 | 66=>some Sm66 | 87=>some Sm87 | 122=>some Sm122 | _=>none
theorem h0_100 (hg:GamOK Try.prog G100):Holds Try.prog 100 ⟨ps100,rs100,false,runF TT G100 an100 Try.f100 c100 ps100 rs100⟩:=holds_of tt_ok hg mixed Try.func100 (by kernel_rfl) (by rfl) (by decide +kernel)
noncomputable def at100:Nat→Pt→List Nat→St→Option R100:=atF TT G100 an100 Try.f100 c100 _ _
def sh100_L8 (x0:Int) (x1:Int) (x2:Int) (x3:Int) (x4:Int) (x5:Int) (x6:Int) (x7:Bool) (x8:ByteArray) (x9:List (ByteArray × Int)):St:=(St.mk (AV.undef :: ((AV.one (SV.bptr 1000000 0)) :: (AV.undef :: ((AV.one (SV.int (Go.IntKind.i64) x0)) :: (AV.undef :: (AV.undef :: (AV.undef :: (AV.undef :: (AV.undef :: (AV.undef :: (AV.undef :: (AV.undef :: (AV.undef :: (AV.undef :: (AV.undef :: (AV.undef :: (AV.undef :: (AV.undef :: (AV.undef :: (AV.undef :: (AV.undef :: (AV.undef :: (AV.undef :: (AV.undef :: (AV.undef :: (AV.undef :: (AV.undef :: (AV.undef :: (AV.undef :: (AV.undef :: (AV.undef :: (AV.undef :: (AV.undef :: (AV.undef :: (AV.undef :: (AV.undef :: (AV.undef :: (AV.undef :: (AV.undef :: (AV.undef :: (AV.undef :: (AV.undef :: (AV.undef :: (AV.undef :: (AV.undef :: (AV.undef :: (AV.undef :: (AV.undef :: (AV.undef :: (AV.undef :: (AV.undef :: (AV.undef :: (AV.undef :: (AV.undef :: (AV.undef :: (AV.undef :: (AV.undef :: (AV.undef :: (AV.undef :: (AV.undef :: (AV.undef :: (AV.undef :: (AV.undef :: (AV.undef :: (AV.undef :: (AV.undef :: (AV.undef :: (AV.undef :: (AV.undef :: (AV.undef :: (AV.undef :: (AV.undef :: (AV.undef :: (AV.undef :: (AV.undef :: (AV.undef :: (AV.undef :: (AV.undef :: (AV.undef :: (AV.undef :: (AV.undef :: (AV.undef :: (AV.undef :: (AV.undef :: (AV.undef :: (AV.undef :: (AV.undef :: (AV.undef :: (AV.undef :: (AV.undef :: (AV.undef :: (AV.undef :: (AV.undef :: (AV.undef :: (AV.undef :: (AV.undef :: (AV.undef :: (AV.undef :: (AV.undef :: (AV.undef :: (AV.undef :: (AV.undef :: (AV.undef :: (AV.undef :: (AV.undef :: (AV.undef :: (AV.undef :: (AV.undef :: (AV.undef :: (AV.undef :: (AV.undef :: (AV.undef :: (AV.undef :: (AV.undef :: (AV.undef :: (AV.undef :: (AV.undef :: []))))))))))))))))))))))))))))))))))))))))))))))))))))))))))))))))))))))))))))))))))))))))))))))))))))))))))))))))))))) ((1000000,(Ent.box ((SV.int (Go.IntKind.i64) x1) :: ((SV.int (Go.IntKind.i64) x2) :: ((SV.int (Go.IntKind.i64) x3) :: ((SV.int (Go.IntKind.i64) x4) :: ((SV.int (Go.IntKind.i64) x5) :: ((SV.int (Go.IntKind.i64) x6) :: ((SV.bool x7) :: ((SV.str x8) :: ((SV.con (⟨95,Ty.str.pair (Ty.int Go.IntKind.i64),x9⟩:Rw)) :: []))))))))))) :: []))
noncomputable def st100_top (n:Nat) (lL8:Int→Int→Int→Int→Int→Int→Int→Bool→ByteArray→(List (ByteArray × Int))→Option R100) (a:NT):Option R100 :=
 cond (decide (a.1=(0:Int))) ((q122 n ((a.1,a.2.1,a.2.2.1,a.2.2.2.1,a.2.2.2.2.1,a.2.2.2.2.2.1,a.2.2.2.2.2.2.1,a.2.2.2.2.2.2.2.1,a.2.2.2.2.2.2.2.2),())).bind fun r0=>some ((r0.1.1,()),())) ((q66 n (a.1,(1:Int),(2:Int),())).bind fun r1=>cond (!r1.1.1) (some ((false,()),())) ((q66 n (a.2.1,(0:Int),(511:Int),())).bind fun r2=>cond (!r2.1.1) (some ((false,()),())) ((q87 n (a.2.2.1,())).bind fun r3=>cond (!r3.1.1) (some ((false,()),())) ((q87 n (a.2.2.2.1,())).bind fun r4=>cond (!r4.1.1) (some ((false,()),())) ((q66 n (a.2.2.2.2.2.1,(0:Int),(99:Int),())).bind fun r5=>cond (!r5.1.1) (some ((false,()),())) ((q66 n (a.2.2.2.2.1,(0:Int),(99:Int),())).bind fun r6=>cond (!r6.1.1) (some ((false,()),())) (cond (decide ((40:Int) < (↑(ByteArray.size a.2.2.2.2.2.2.2.1):Int))) (some ((false,()),())) (cond (decide ((6:Int) < (↑(List.length a.2.2.2.2.2.2.2.2):Int))) (some ((false,()),())) (cond (decide (a.1=(2:Int))) (cond (!ByteArray.toList a.2.2.2.2.2.2.2.1 == (ByteArray.mk #[]).toList) (some ((false,()),())) (cond (a.2.2.2.2.2.2.1) (some ((false,()),())) (cond (decide (a.1=(1:Int))) (cond (decide ((0:Int) < (↑(List.length a.2.2.2.2.2.2.2.2):Int))) (some ((false,()),())) (lL8 ((0:Int)) (a.1) (a.2.1) (a.2.2.1) (a.2.2.2.1) (a.2.2.2.2.1) (a.2.2.2.2.2.1) (a.2.2.2.2.2.2.1) (a.2.2.2.2.2.2.2.1) (a.2.2.2.2.2.2.2.2))) (lL8 ((0:Int)) (a.1) (a.2.1) (a.2.2.1) (a.2.2.2.1) (a.2.2.2.2.1) (a.2.2.2.2.2.1) (a.2.2.2.2.2.2.1) (a.2.2.2.2.2.2.2.1) (a.2.2.2.2.2.2.2.2))))) (cond (decide (a.1=(1:Int))) (cond (decide ((0:Int) < (↑(List.length a.2.2.2.2.2.2.2.2):Int))) (some ((false,()),())) (lL8 ((0:Int)) (a.1) (a.2.1) (a.2.2.1) (a.2.2.2.1) (a.2.2.2.2.1) (a.2.2.2.2.2.1) (a.2.2.2.2.2.2.1) (a.2.2.2.2.2.2.2.1) (a.2.2.2.2.2.2.2.2))) (lL8 ((0:Int)) (a.1) (a.2.1) (a.2.2.1) (a.2.2.2.1) (a.2.2.2.2.1) (a.2.2.2.2.2.1) (a.2.2.2.2.2.2.1) (a.2.2.2.2.2.2.2.1) (a.2.2.2.2.2.2.2.2))))))))))))
noncomputable def st100_L8 (n:Nat) (lL8:Int→Int→Int→Int→Int→Int→Int→Bool→ByteArray→(List (ByteArray × Int))→Option R100) (x0:Int) (x1:Int) (x2:Int) (x3:Int) (x4:Int) (x5:Int) (x6:Int) (x7:Bool) (x8:ByteArray) (x9:List (ByteArray × Int)):Option R100 :=
 cond (decide (x0 < (↑x9.length:Int))) (cond (decide ((0:Int)≤x0)) (cond (decide (x0 < (↑x9.length:Int))) ((q65 n ((x9.getD x0.toNat (ByteArray.empty,(0:Int))).1,())).bind fun r8=>cond (!r8.1.1) (some ((false,()),())) ((q66 n ((x9.getD x0.toNat (ByteArray.empty,(0:Int))).2,(1:Int),(9:Int),())).bind fun r9=>cond (!r9.1.1) (some ((false,()),())) (cond (decide ((0:Int) < x0)) (cond (decide ((0:Int)≤Go.IntKind.i64.wrap (x0 - (1:Int)))) (cond (decide (Go.IntKind.i64.wrap (x0 - (1:Int)) < (↑x9.length:Int))) (cond (!Go.Op.bytesLess (ByteArray.toList (x9.getD (Go.IntKind.i64.wrap (x0 - (1:Int))).toNat (ByteArray.empty,(0:Int))).1) (ByteArray.toList (x9.getD x0.toNat (ByteArray.empty,(0:Int))).1)) (some ((false,()),())) (lL8 (Go.IntKind.i64.wrap (x0 + (1:Int))) (x1) (x2) (x3) (x4) (x5) (x6) (x7) (x8) (x9))) (none)) (none)) (lL8 (Go.IntKind.i64.wrap (x0 + (1:Int))) (x1) (x2) (x3) (x4) (x5) (x6) (x7) (x8) (x9))))) (none)) (none)) (some ((true,()),()))
theorem e100_top (n:Nat) (a:NT):runF TT G100 an100 Try.f100 c100 ps100 rs100 n (a,())=st100_top n (fun x0 x1 x2 x3 x4 x5 x6 x7 x8 x9=>at100 n (.head 8) [n] (sh100_L8 x0 x1 x2 x3 x4 x5 x6 x7 x8 x9)) a:=by kernel_rfl
theorem e100_L8_0 (n:Nat) (x0:Int) (x1:Int) (x2:Int) (x3:Int) (x4:Int) (x5:Int) (x6:Int) (x7:Bool) (x8:ByteArray) (x9:List (ByteArray × Int)):at100 n (.head 8) [0] (sh100_L8 x0 x1 x2 x3 x4 x5 x6 x7 x8 x9)=none:=by kernel_rfl
theorem e100_L8 (n:Nat) (m8:Nat) (x0:Int) (x1:Int) (x2:Int) (x3:Int) (x4:Int) (x5:Int) (x6:Int) (x7:Bool) (x8:ByteArray) (x9:List (ByteArray × Int)):at100 n (.head 8) [m8 + 1] (sh100_L8 x0 x1 x2 x3 x4 x5 x6 x7 x8 x9)=st100_L8 n (fun x0 x1 x2 x3 x4 x5 x6 x7 x8 x9=>at100 n (.head 8) [m8] (sh100_L8 x0 x1 x2 x3 x4 x5 x6 x7 x8 x9)) x0 x1 x2 x3 x4 x5 x6 x7 x8 x9:=by kernel_rfl
noncomputable def p100_L8 (n:Nat):Nat→Int→Int→Int→Int→Int→Int→Int→Bool→ByteArray→(List (ByteArray × Int))→Option R100
 | 0,_,_,_,_,_,_,_,_,_,_=>none
 | m + 1,x0,x1,x2,x3,x4,x5,x6,x7,x8,x9=>st100_L8 n (p100_L8 n m) x0 x1 x2 x3 x4 x5 x6 x7 x8 x9
noncomputable def p100 (n:Nat) (a:NT):Option R100:=st100_top n (p100_L8 n n) a
theorem t100_L8 (n:Nat):∀ (m8:Nat) (x0:Int) (x1:Int) (x2:Int) (x3:Int) (x4:Int) (x5:Int) (x6:Int) (x7:Bool) (x8:ByteArray) (x9:List (ByteArray × Int)),at100 n (.head 8) [m8] (sh100_L8 x0 x1 x2 x3 x4 x5 x6 x7 x8 x9)=p100_L8 n m8 x0 x1 x2 x3 x4 x5 x6 x7 x8 x9:=by
 intro m
 induction m with
 | zero=>intros; rw [e100_L8_0]; rfl
 | succ m ih =>
  intros
  rw [e100_L8]
  try simp only [ih]
  rfl
theorem F100_eq (n:Nat) (a:NT):runF TT G100 an100 Try.f100 c100 ps100 rs100 n (a,())=p100 n a:=by
 rw [e100_top]
 simp only [t100_L8]
 try rfl
noncomputable def q100 (n:Nat) (x:argsD ps100):Option R100:=p100 n x.1
noncomputable def Sm100:Sm:=⟨ps100,rs100,false,q100⟩
theorem holds100 (hg:GamOK Try.prog G100):Holds Try.prog 100 Sm100:=by
 have:=h0_100 hg
 have e:(runF TT G100 an100 Try.f100 c100 ps100 rs100)=q100:=by
  funext n x
  exact F100_eq n x.1
 rw [e] at this
 exact this
theorem gam100:GamOK Try.prog G100:=by
 intro f s h
 unfold G100 at h
 split at h
 ·injection h with h; subst h; exact ⟨⟨Try.f65,c65,Try.func65,by kernel_rfl,by decide +kernel⟩,hh65⟩
 ·injection h with h; subst h; exact ⟨⟨Try.f66,c66,Try.func66,by kernel_rfl,by decide +kernel⟩,hh66⟩
 ·injection h with h; subst h; exact ⟨⟨Try.f87,c87,Try.func87,by kernel_rfl,by decide +kernel⟩,hh87⟩
 ·injection h with h; subst h; exact ⟨⟨Try.f122,c122,Try.func122,by kernel_rfl,by decide +kernel⟩,hh122⟩
 ·cases h
theorem hh100:Holds Try.prog 100 Sm100:=holds100 gam100
end Go.Proofs.Ythhopbicmaipgaa.Rx.S

namespace Go.Proofs.Ythhopbicmaipgaa.Rx.S
open Go Go.RowKit Go.Proofs
set_option maxRecDepth 100000
noncomputable def c101:Code:=(Try.f101.body.getD .skip)
def an101:An:=⟨fun r=>match r with | 3=>⟨[1,4,5],[]⟩ | 10=>⟨[1,4,5,6,7],[]⟩ | _=>⟨[],[]⟩,fun _ _=>none⟩
abbrev ps101:List PK:=[.val tFs true]
abbrev rs101:List RK:=[.own (.row 4 .bool) false,.val .bool false]
abbrev R101:=retsD rs101 × outsD ps101
noncomputable def G101:Gam:=fun _=>none
theorem h0_101 (hg:GamOK Try.prog G101):Holds Try.prog 101 ⟨ps101,rs101,false,runF TT G101 an101 Try.f101 c101 ps101 rs101⟩:=holds_of tt_ok hg mixed Try.func101 (by kernel_rfl) (by rfl) (by decide +kernel)
noncomputable def at101:Nat→Pt→List Nat→St→Option R101:=atF TT G101 an101 Try.f101 c101 _ _
def sh101_L10 (x0:Int) (x1:Int) (x2:List NT) (x3:List Bool) (x4:List Int):St:=(St.mk (AV.undef :: ((AV.one (SV.bptr 1000000 0)) :: (AV.undef :: (AV.undef :: ((AV.one (SV.ref 1000001 0 [] Option.none)) :: ((AV.one (SV.ref 1000002 0 [] Option.none)) :: ((AV.one (SV.int (Go.IntKind.i64) x0)) :: ((AV.one (SV.int (Go.IntKind.i64) x1)) :: (AV.undef :: (AV.undef :: (AV.undef :: (AV.undef :: (AV.undef :: (AV.undef :: (AV.undef :: (AV.undef :: (AV.undef :: (AV.undef :: (AV.undef :: (AV.undef :: (AV.undef :: (AV.undef :: (AV.undef :: (AV.undef :: (AV.undef :: (AV.undef :: (AV.undef :: (AV.undef :: (AV.undef :: (AV.undef :: (AV.undef :: (AV.undef :: (AV.undef :: (AV.undef :: (AV.undef :: (AV.undef :: (AV.undef :: (AV.undef :: (AV.undef :: (AV.undef :: (AV.undef :: (AV.undef :: (AV.undef :: (AV.undef :: (AV.undef :: (AV.undef :: (AV.undef :: (AV.undef :: (AV.undef :: (AV.undef :: (AV.undef :: (AV.undef :: (AV.undef :: (AV.undef :: (AV.undef :: (AV.undef :: (AV.undef :: (AV.undef :: (AV.undef :: (AV.undef :: (AV.undef :: (AV.undef :: (AV.undef :: (AV.undef :: (AV.undef :: []))))))))))))))))))))))))))))))))))))))))))))))))))))))))))))))))) ((1000000,(Ent.box ((SV.con (⟨39,(Ty.int Go.IntKind.i64).pair ((Ty.int Go.IntKind.i64).pair ((Ty.int Go.IntKind.i64).pair ((Ty.int Go.IntKind.i64).pair ((Ty.int Go.IntKind.i64).pair ((Ty.int Go.IntKind.i64).pair (Ty.bool.pair (Ty.str.pair (Ty.row (nat_lit 95) (Ty.str.pair (Ty.int Go.IntKind.i64)))))))))),x2⟩:Rw)) :: []))) :: ((1000001,(Ent.row (⟨4,Ty.bool,x3⟩:Rw) 0 Option.none)) :: ((1000002,(Ent.row (⟨3,Ty.int Go.IntKind.i64,x4⟩:Rw) 0 Option.none)) :: []))))
def sh101_L3 (x0:List NT) (x1:List Bool) (x2:List Int):St:=(St.mk (AV.undef :: ((AV.one (SV.bptr 1000000 0)) :: (AV.undef :: (AV.undef :: ((AV.one (SV.ref 1000001 0 [] Option.none)) :: ((AV.one (SV.ref 1000002 0 [] Option.none)) :: (AV.undef :: (AV.undef :: (AV.undef :: (AV.undef :: (AV.undef :: (AV.undef :: (AV.undef :: (AV.undef :: (AV.undef :: (AV.undef :: (AV.undef :: (AV.undef :: (AV.undef :: (AV.undef :: (AV.undef :: (AV.undef :: (AV.undef :: (AV.undef :: (AV.undef :: (AV.undef :: (AV.undef :: (AV.undef :: (AV.undef :: (AV.undef :: (AV.undef :: (AV.undef :: (AV.undef :: (AV.undef :: (AV.undef :: (AV.undef :: (AV.undef :: (AV.undef :: (AV.undef :: (AV.undef :: (AV.undef :: (AV.undef :: (AV.undef :: (AV.undef :: (AV.undef :: (AV.undef :: (AV.undef :: (AV.undef :: (AV.undef :: (AV.undef :: (AV.undef :: (AV.undef :: (AV.undef :: (AV.undef :: (AV.undef :: (AV.undef :: (AV.undef :: (AV.undef :: (AV.undef :: (AV.undef :: (AV.undef :: (AV.undef :: (AV.undef :: (AV.undef :: (AV.undef :: []))))))))))))))))))))))))))))))))))))))))))))))))))))))))))))))))) ((1000000,(Ent.box ((SV.con (⟨39,(Ty.int Go.IntKind.i64).pair ((Ty.int Go.IntKind.i64).pair ((Ty.int Go.IntKind.i64).pair ((Ty.int Go.IntKind.i64).pair ((Ty.int Go.IntKind.i64).pair ((Ty.int Go.IntKind.i64).pair (Ty.bool.pair (Ty.str.pair (Ty.row (nat_lit 95) (Ty.str.pair (Ty.int Go.IntKind.i64)))))))))),x0⟩:Rw)) :: []))) :: ((1000001,(Ent.row (⟨4,Ty.bool,x1⟩:Rw) 0 Option.none)) :: ((1000002,(Ent.row (⟨3,Ty.int Go.IntKind.i64,x2⟩:Rw) 0 Option.none)) :: []))))
noncomputable def st101_top (n:Nat) (lL3:(List NT)→(List Bool)→(List Int)→Option R101) (a:List NT):Option R101 :=
 cond (decide ((↑a.length:Int) * (↑(1:Nat):Int)≤(140737488355328:Int))) (lL3 (a) (List.replicate (↑a.length:Int).toNat false) ([(0:Int)])) (none)
noncomputable def st101_L10 (n:Nat) (lL10:Int→Int→(List NT)→(List Bool)→(List Int)→Option R101) (lL3:(List NT)→(List Bool)→(List Int)→Option R101) (x0:Int) (x1:Int) (x2:List NT) (x3:List Bool) (x4:List Int):Option R101 :=
 cond (decide ((0:Int)≤x0)) (cond (decide (x0 < (↑x2.length:Int))) (cond (decide (x1 < (↑(List.length (x2.getD x0.toNat ZN).2.2.2.2.2.2.2.2):Int))) (cond (decide ((0:Int)≤x0)) (cond (decide (x0 < (↑x2.length:Int))) (cond (decide ((0:Int)≤x1)) (cond (decide (x1 < (↑(List.length (x2.getD x0.toNat ZN).2.2.2.2.2.2.2.2):Int))) (cond (decide ((0:Int)≤(List.getD (x2.getD x0.toNat ZN).2.2.2.2.2.2.2.2 x1.toNat (ByteArray.empty,(0:Int))).2)) (cond (decide ((List.getD (x2.getD x0.toNat ZN).2.2.2.2.2.2.2.2 x1.toNat (ByteArray.empty,(0:Int))).2 < (↑x2.length:Int))) (cond (decide ((x2.getD (Int.toNat (List.getD (x2.getD x0.toNat ZN).2.2.2.2.2.2.2.2 x1.toNat (ByteArray.empty,(0:Int))).2) ZN).1=(2:Int))) (cond (decide ((x4.length + [(List.getD (x2.getD x0.toNat ZN).2.2.2.2.2.2.2.2 x1.toNat (ByteArray.empty,(0:Int))).2].length) * (8:Nat)≤(140737488355328:Nat))) (lL10 (x0) (Go.IntKind.i64.wrap (x1 + (1:Int))) (x2) (x3) (x4 ++ [(List.getD (x2.getD x0.toNat ZN).2.2.2.2.2.2.2.2 x1.toNat (ByteArray.empty,(0:Int))).2])) (none)) (lL10 (x0) (Go.IntKind.i64.wrap (x1 + (1:Int))) (x2) (x3) (x4))) (none)) (none)) (none)) (none)) (none)) (none)) (lL3 (x2) (x3) (x4))) (none)) (none)
noncomputable def st101_L3 (n:Nat) (lL10:Int→Int→(List NT)→(List Bool)→(List Int)→Option R101) (x0:List NT) (x1:List Bool) (x2:List Int):Option R101 :=
 cond (decide ((0:Int) < (↑x2.length:Int))) (cond (decide ((0:Int) < (↑x2.length:Int))) (cond (decide ((1:Int)≤(↑x2.length:Int))) (cond (decide (((0:Nat) + (List.take ((↑x2.length:Int) - (1:Int)).toNat (List.drop ((0:Nat) + Int.toNat (1:Int)) x2)).length) * (8:Nat)≤(140737488355328:Nat))) (cond (decide ((0:Int)≤x2.getD (Int.toNat (0:Int)) (0:Int))) (cond (decide (x2.getD (Int.toNat (0:Int)) (0:Int) < (↑x1.length:Int))) (cond (x1.getD (Int.toNat (x2.getD (Int.toNat (0:Int)) (0:Int))) false) (some ((x1,(false,())),())) (cond (decide ((0:Int)≤x2.getD (Int.toNat (0:Int)) (0:Int))) (cond (decide (x2.getD (Int.toNat (0:Int)) (0:Int) < (↑x1.length:Int))) (lL10 (x2.getD (Int.toNat (0:Int)) (0:Int)) ((0:Int)) (x0) (x1.set (Int.toNat (x2.getD (Int.toNat (0:Int)) (0:Int))) true) (List.take ((↑x2.length:Int) - (1:Int)).toNat (List.drop ((0:Nat) + Int.toNat (1:Int)) x2))) (none)) (none))) (none)) (none)) (none)) (none)) (none)) (some ((x1,(true,())),()))
theorem e101_top (n:Nat) (a:List NT):runF TT G101 an101 Try.f101 c101 ps101 rs101 n (a,())=st101_top n (fun x0 x1 x2=>at101 n (.head 3) [n] (sh101_L3 x0 x1 x2)) a:=by kernel_rfl
theorem e101_L10_0 (n:Nat) (m3:Nat) (x0:Int) (x1:Int) (x2:List NT) (x3:List Bool) (x4:List Int):at101 n (.head 10) [m3,0] (sh101_L10 x0 x1 x2 x3 x4)=none:=by kernel_rfl
theorem e101_L10 (n:Nat) (m3:Nat) (m10:Nat) (x0:Int) (x1:Int) (x2:List NT) (x3:List Bool) (x4:List Int):at101 n (.head 10) [m3,m10 + 1] (sh101_L10 x0 x1 x2 x3 x4)=st101_L10 n (fun x0 x1 x2 x3 x4=>at101 n (.head 10) [m3,m10] (sh101_L10 x0 x1 x2 x3 x4)) (fun x0 x1 x2=>at101 n (.head 3) [m3] (sh101_L3 x0 x1 x2)) x0 x1 x2 x3 x4:=by kernel_rfl
theorem e101_L3_0 (n:Nat) (x0:List NT) (x1:List Bool) (x2:List Int):at101 n (.head 3) [0] (sh101_L3 x0 x1 x2)=none:=by kernel_rfl
theorem e101_L3 (n:Nat) (m3:Nat) (x0:List NT) (x1:List Bool) (x2:List Int):at101 n (.head 3) [m3 + 1] (sh101_L3 x0 x1 x2)=st101_L3 n (fun x0 x1 x2 x3 x4=>at101 n (.head 10) [m3,n] (sh101_L10 x0 x1 x2 x3 x4)) x0 x1 x2:=by kernel_rfl
noncomputable def p101_L10 (g3:(List NT)→(List Bool)→(List Int)→Option R101) (n:Nat):Nat→Int→Int→(List NT)→(List Bool)→(List Int)→Option R101
 | 0,_,_,_,_,_=>none
 | m + 1,x0,x1,x2,x3,x4=>st101_L10 n (p101_L10 g3 n m) g3 x0 x1 x2 x3 x4
noncomputable def p101_L3 (n:Nat):Nat→(List NT)→(List Bool)→(List Int)→Option R101
 | 0,_,_,_=>none
 | m + 1,x0,x1,x2=>st101_L3 n (p101_L10 (p101_L3 n m) n n) x0 x1 x2
noncomputable def p101 (n:Nat) (a:List NT):Option R101:=st101_top n (p101_L3 n n) a
theorem t101_L10 (n:Nat) (m3:Nat):∀ (m10:Nat) (x0:Int) (x1:Int) (x2:List NT) (x3:List Bool) (x4:List Int),at101 n (.head 10) [m3,m10] (sh101_L10 x0 x1 x2 x3 x4)=p101_L10 (fun x0 x1 x2=>at101 n (.head 3) [m3] (sh101_L3 x0 x1 x2)) n m10 x0 x1 x2 x3 x4:=by
 intro m
 induction m with
 | zero=>intros; rw [e101_L10_0]; rfl
 | succ m ih =>
  intros
  rw [e101_L10]
  try simp only [ih]
  rfl
theorem t101_L3 (n:Nat):∀ (m3:Nat) (x0:List NT) (x1:List Bool) (x2:List Int),at101 n (.head 3) [m3] (sh101_L3 x0 x1 x2)=p101_L3 n m3 x0 x1 x2:=by
 intro m
 induction m with
 | zero=>intros; rw [e101_L3_0]; rfl
 | succ m ih =>
  intros
  rw [e101_L3]
  try simp only [t101_L10,ih]
  rfl
theorem F101_eq (n:Nat) (a:List NT):runF TT G101 an101 Try.f101 c101 ps101 rs101 n (a,())=p101 n a:=by
 rw [e101_top]
 simp only [t101_L3]
 try rfl
noncomputable def q101 (n:Nat) (x:argsD ps101):Option R101:=p101 n x.1
noncomputable def Sm101:Sm:=⟨ps101,rs101,false,q101⟩
theorem holds101 (hg:GamOK Try.prog G101):Holds Try.prog 101 Sm101:=by
 have:=h0_101 hg
 have e:(runF TT G101 an101 Try.f101 c101 ps101 rs101)=q101:=by
  funext n x
  exact F101_eq n x.1
 rw [e] at this
 exact this
theorem gam101:GamOK Try.prog G101:=fun _ _ h=>by cases h
theorem hh101:Holds Try.prog 101 Sm101:=holds101 gam101
end Go.Proofs.Ythhopbicmaipgaa.Rx.S

namespace Go.Proofs.Ythhopbicmaipgaa.Rx.S
open Go Go.RowKit Go.Proofs
set_option maxRecDepth 100000
noncomputable def c62:Code:=(Try.f62.body.getD .skip)
def an62:An:=⟨fun r=>match r with | 5=>⟨[1,3,4],[]⟩ | 10=>⟨[1,3,4,5],[]⟩ | 17=>⟨[1,3,6,7,8],[]⟩ | _=>⟨[],[]⟩,fun _ _=>none⟩
abbrev ps62:List PK:=[.val tFs true]
abbrev rs62:List RK:=[.val .bool false]
abbrev R62:=retsD rs62 × outsD ps62
noncomputable def G62:Gam:=fun f=>match f with | 100=>some Sm100 | 101=>some Sm101 | _=>none
theorem h0_62 (hg:GamOK Try.prog G62):Holds Try.prog 62 ⟨ps62,rs62,false,runF TT G62 an62 Try.f62 c62 ps62 rs62⟩:=holds_of tt_ok hg mixed Try.func62 (by kernel_rfl) (by rfl) (by decide +kernel)
noncomputable def at62:Nat→Pt→List Nat→St→Option R62:=atF TT G62 an62 Try.f62 c62 _ _
def sh62_L10 (x0:Int) (x1:Int) (x2:List NT) (x3:List Int):St:=(St.mk (AV.undef :: ((AV.one (SV.bptr 1000000 0)) :: (AV.undef :: ((AV.one (SV.ref 1000001 0 [] Option.none)) :: ((AV.one (SV.int (Go.IntKind.i64) x0)) :: ((AV.one (SV.int (Go.IntKind.i64) x1)) :: (AV.undef :: (AV.undef :: (AV.undef :: (AV.undef :: (AV.undef :: (AV.undef :: (AV.undef :: (AV.undef :: (AV.undef :: (AV.undef :: (AV.undef :: (AV.undef :: (AV.undef :: (AV.undef :: (AV.undef :: (AV.undef :: (AV.undef :: (AV.undef :: (AV.undef :: (AV.undef :: (AV.undef :: (AV.undef :: (AV.undef :: (AV.undef :: (AV.undef :: (AV.undef :: (AV.undef :: (AV.undef :: (AV.undef :: (AV.undef :: (AV.undef :: (AV.undef :: (AV.undef :: (AV.undef :: (AV.undef :: (AV.undef :: (AV.undef :: (AV.undef :: (AV.undef :: (AV.undef :: (AV.undef :: (AV.undef :: (AV.undef :: (AV.undef :: (AV.undef :: (AV.undef :: (AV.undef :: (AV.undef :: (AV.undef :: (AV.undef :: (AV.undef :: (AV.undef :: (AV.undef :: (AV.undef :: (AV.undef :: (AV.undef :: (AV.undef :: (AV.undef :: (AV.undef :: (AV.undef :: (AV.undef :: (AV.undef :: (AV.undef :: (AV.undef :: (AV.undef :: (AV.undef :: (AV.undef :: (AV.undef :: (AV.undef :: (AV.undef :: (AV.undef :: (AV.undef :: (AV.undef :: (AV.undef :: (AV.undef :: (AV.undef :: (AV.undef :: (AV.undef :: (AV.undef :: (AV.undef :: (AV.undef :: (AV.undef :: (AV.undef :: (AV.undef :: (AV.undef :: (AV.undef :: (AV.undef :: (AV.undef :: (AV.undef :: (AV.undef :: (AV.undef :: (AV.undef :: (AV.undef :: (AV.undef :: (AV.undef :: (AV.undef :: (AV.undef :: (AV.undef :: (AV.undef :: (AV.undef :: (AV.undef :: (AV.undef :: (AV.undef :: (AV.undef :: (AV.undef :: (AV.undef :: (AV.undef :: (AV.undef :: (AV.undef :: (AV.undef :: (AV.undef :: (AV.undef :: (AV.undef :: (AV.undef :: (AV.undef :: (AV.undef :: (AV.undef :: (AV.undef :: (AV.undef :: (AV.undef :: (AV.undef :: (AV.undef :: (AV.undef :: (AV.undef :: (AV.undef :: (AV.undef :: (AV.undef :: (AV.undef :: (AV.undef :: (AV.undef :: (AV.undef :: (AV.undef :: [])))))))))))))))))))))))))))))))))))))))))))))))))))))))))))))))))))))))))))))))))))))))))))))))))))))))))))))))))))))))))))))))))))))))))) ((1000000,(Ent.box ((SV.con (⟨39,(Ty.int Go.IntKind.i64).pair ((Ty.int Go.IntKind.i64).pair ((Ty.int Go.IntKind.i64).pair ((Ty.int Go.IntKind.i64).pair ((Ty.int Go.IntKind.i64).pair ((Ty.int Go.IntKind.i64).pair (Ty.bool.pair (Ty.str.pair (Ty.row (nat_lit 95) (Ty.str.pair (Ty.int Go.IntKind.i64)))))))))),x2⟩:Rw)) :: []))) :: ((1000001,(Ent.row (⟨3,Ty.int Go.IntKind.i64,x3⟩:Rw) 0 Option.none)) :: [])))
def sh62_L17 (x0:Bool) (x1:Int) (x2:List NT) (x3:List Int) (x4:List Bool):St:=(St.mk (AV.undef :: ((AV.one (SV.bptr 1000000 0)) :: (AV.undef :: ((AV.one (SV.ref 1000001 0 [] Option.none)) :: (AV.undef :: (AV.undef :: ((AV.one (SV.ref 1000002 0 [] Option.none)) :: ((AV.one (SV.bool x0)) :: ((AV.one (SV.int (Go.IntKind.i64) x1)) :: (AV.undef :: (AV.undef :: (AV.undef :: (AV.undef :: (AV.undef :: (AV.undef :: (AV.undef :: (AV.undef :: (AV.undef :: (AV.undef :: (AV.undef :: (AV.undef :: (AV.undef :: (AV.undef :: (AV.undef :: (AV.undef :: (AV.undef :: (AV.undef :: (AV.undef :: (AV.undef :: (AV.undef :: (AV.undef :: (AV.undef :: (AV.undef :: (AV.undef :: (AV.undef :: (AV.undef :: (AV.undef :: (AV.undef :: (AV.undef :: (AV.undef :: (AV.undef :: (AV.undef :: (AV.undef :: (AV.undef :: (AV.undef :: (AV.undef :: (AV.undef :: (AV.undef :: (AV.undef :: (AV.undef :: (AV.undef :: (AV.undef :: (AV.undef :: (AV.undef :: (AV.undef :: (AV.undef :: (AV.undef :: (AV.undef :: (AV.undef :: (AV.undef :: (AV.undef :: (AV.undef :: (AV.undef :: (AV.undef :: (AV.undef :: (AV.undef :: (AV.undef :: (AV.undef :: (AV.undef :: (AV.undef :: (AV.undef :: (AV.undef :: (AV.undef :: (AV.undef :: (AV.undef :: (AV.undef :: (AV.undef :: (AV.undef :: (AV.undef :: (AV.undef :: (AV.undef :: (AV.undef :: (AV.undef :: (AV.undef :: (AV.undef :: (AV.undef :: (AV.undef :: (AV.undef :: (AV.undef :: (AV.undef :: (AV.undef :: (AV.undef :: (AV.undef :: (AV.undef :: (AV.undef :: (AV.undef :: (AV.undef :: (AV.undef :: (AV.undef :: (AV.undef :: (AV.undef :: (AV.undef :: (AV.undef :: (AV.undef :: (AV.undef :: (AV.undef :: (AV.undef :: (AV.undef :: (AV.undef :: (AV.undef :: (AV.undef :: (AV.undef :: (AV.undef :: (AV.undef :: (AV.undef :: (AV.undef :: (AV.undef :: (AV.undef :: (AV.undef :: (AV.undef :: (AV.undef :: (AV.undef :: (AV.undef :: (AV.undef :: (AV.undef :: (AV.undef :: (AV.undef :: (AV.undef :: (AV.undef :: (AV.undef :: (AV.undef :: (AV.undef :: (AV.undef :: (AV.undef :: (AV.undef :: (AV.undef :: (AV.undef :: (AV.undef :: [])))))))))))))))))))))))))))))))))))))))))))))))))))))))))))))))))))))))))))))))))))))))))))))))))))))))))))))))))))))))))))))))))))))))))) ((1000000,(Ent.box ((SV.con (⟨39,(Ty.int Go.IntKind.i64).pair ((Ty.int Go.IntKind.i64).pair ((Ty.int Go.IntKind.i64).pair ((Ty.int Go.IntKind.i64).pair ((Ty.int Go.IntKind.i64).pair ((Ty.int Go.IntKind.i64).pair (Ty.bool.pair (Ty.str.pair (Ty.row (nat_lit 95) (Ty.str.pair (Ty.int Go.IntKind.i64)))))))))),x2⟩:Rw)) :: []))) :: ((1000001,(Ent.row (⟨3,Ty.int Go.IntKind.i64,x3⟩:Rw) 0 Option.none)) :: ((1000002,(Ent.row (⟨4,Ty.bool,x4⟩:Rw) 0 Option.none)) :: []))))
def sh62_L5 (x0:Int) (x1:List NT) (x2:List Int):St:=(St.mk (AV.undef :: ((AV.one (SV.bptr 1000000 0)) :: (AV.undef :: ((AV.one (SV.ref 1000001 0 [] Option.none)) :: ((AV.one (SV.int (Go.IntKind.i64) x0)) :: (AV.undef :: (AV.undef :: (AV.undef :: (AV.undef :: (AV.undef :: (AV.undef :: (AV.undef :: (AV.undef :: (AV.undef :: (AV.undef :: (AV.undef :: (AV.undef :: (AV.undef :: (AV.undef :: (AV.undef :: (AV.undef :: (AV.undef :: (AV.undef :: (AV.undef :: (AV.undef :: (AV.undef :: (AV.undef :: (AV.undef :: (AV.undef :: (AV.undef :: (AV.undef :: (AV.undef :: (AV.undef :: (AV.undef :: (AV.undef :: (AV.undef :: (AV.undef :: (AV.undef :: (AV.undef :: (AV.undef :: (AV.undef :: (AV.undef :: (AV.undef :: (AV.undef :: (AV.undef :: (AV.undef :: (AV.undef :: (AV.undef :: (AV.undef :: (AV.undef :: (AV.undef :: (AV.undef :: (AV.undef :: (AV.undef :: (AV.undef :: (AV.undef :: (AV.undef :: (AV.undef :: (AV.undef :: (AV.undef :: (AV.undef :: (AV.undef :: (AV.undef :: (AV.undef :: (AV.undef :: (AV.undef :: (AV.undef :: (AV.undef :: (AV.undef :: (AV.undef :: (AV.undef :: (AV.undef :: (AV.undef :: (AV.undef :: (AV.undef :: (AV.undef :: (AV.undef :: (AV.undef :: (AV.undef :: (AV.undef :: (AV.undef :: (AV.undef :: (AV.undef :: (AV.undef :: (AV.undef :: (AV.undef :: (AV.undef :: (AV.undef :: (AV.undef :: (AV.undef :: (AV.undef :: (AV.undef :: (AV.undef :: (AV.undef :: (AV.undef :: (AV.undef :: (AV.undef :: (AV.undef :: (AV.undef :: (AV.undef :: (AV.undef :: (AV.undef :: (AV.undef :: (AV.undef :: (AV.undef :: (AV.undef :: (AV.undef :: (AV.undef :: (AV.undef :: (AV.undef :: (AV.undef :: (AV.undef :: (AV.undef :: (AV.undef :: (AV.undef :: (AV.undef :: (AV.undef :: (AV.undef :: (AV.undef :: (AV.undef :: (AV.undef :: (AV.undef :: (AV.undef :: (AV.undef :: (AV.undef :: (AV.undef :: (AV.undef :: (AV.undef :: (AV.undef :: (AV.undef :: (AV.undef :: (AV.undef :: (AV.undef :: (AV.undef :: (AV.undef :: (AV.undef :: (AV.undef :: (AV.undef :: [])))))))))))))))))))))))))))))))))))))))))))))))))))))))))))))))))))))))))))))))))))))))))))))))))))))))))))))))))))))))))))))))))))))))))) ((1000000,(Ent.box ((SV.con (⟨39,(Ty.int Go.IntKind.i64).pair ((Ty.int Go.IntKind.i64).pair ((Ty.int Go.IntKind.i64).pair ((Ty.int Go.IntKind.i64).pair ((Ty.int Go.IntKind.i64).pair ((Ty.int Go.IntKind.i64).pair (Ty.bool.pair (Ty.str.pair (Ty.row (nat_lit 95) (Ty.str.pair (Ty.int Go.IntKind.i64)))))))))),x1⟩:Rw)) :: []))) :: ((1000001,(Ent.row (⟨3,Ty.int Go.IntKind.i64,x2⟩:Rw) 0 Option.none)) :: [])))
noncomputable def st62_top (n:Nat) (lL5:Int→(List NT)→(List Int)→Option R62) (a:List NT):Option R62 :=
 cond (!decide ((↑a.length:Int)=(10:Int))) (some ((false,()),())) (lL5 ((0:Int)) (a) (List.replicate (Int.toNat (10:Int)) (0:Int)))
noncomputable def st62_L10 (n:Nat) (lL10:Int→Int→(List NT)→(List Int)→Option R62) (lL5:Int→(List NT)→(List Int)→Option R62) (x0:Int) (x1:Int) (x2:List NT) (x3:List Int):Option R62 :=
 cond (decide ((0:Int)≤x0)) (cond (decide (x0 < (↑x2.length:Int))) (cond (decide (x1 < (↑(List.length (x2.getD x0.toNat ZN).2.2.2.2.2.2.2.2):Int))) (cond (decide ((0:Int)≤x0)) (cond (decide (x0 < (↑x2.length:Int))) (cond (decide ((0:Int)≤x1)) (cond (decide (x1 < (↑(List.length (x2.getD x0.toNat ZN).2.2.2.2.2.2.2.2):Int))) (cond (decide ((0:Int)≤x0)) (cond (decide (x0 < (↑x2.length:Int))) (cond (decide ((0:Int)≤x1)) (cond (decide (x1 < (↑(List.length (x2.getD x0.toNat ZN).2.2.2.2.2.2.2.2):Int))) (cond (decide ((0:Int)≤(List.getD (x2.getD x0.toNat ZN).2.2.2.2.2.2.2.2 x1.toNat (ByteArray.empty,(0:Int))).2)) (cond (decide ((List.getD (x2.getD x0.toNat ZN).2.2.2.2.2.2.2.2 x1.toNat (ByteArray.empty,(0:Int))).2 < (↑x3.length:Int))) (cond (decide ((0:Int)≤(List.getD (x2.getD x0.toNat ZN).2.2.2.2.2.2.2.2 x1.toNat (ByteArray.empty,(0:Int))).2)) (cond (decide ((List.getD (x2.getD x0.toNat ZN).2.2.2.2.2.2.2.2 x1.toNat (ByteArray.empty,(0:Int))).2 < (↑x3.length:Int))) (lL10 (x0) (Go.IntKind.i64.wrap (x1 + (1:Int))) (x2) (x3.set (Int.toNat (List.getD (x2.getD x0.toNat ZN).2.2.2.2.2.2.2.2 x1.toNat (ByteArray.empty,(0:Int))).2) (Go.IntKind.i64.wrap (x3.getD (Int.toNat (List.getD (x2.getD x0.toNat ZN).2.2.2.2.2.2.2.2 x1.toNat (ByteArray.empty,(0:Int))).2) (0:Int) + (1:Int))))) (none)) (none)) (none)) (none)) (none)) (none)) (none)) (none)) (none)) (none)) (none)) (none)) (lL5 (Go.IntKind.i64.wrap (x0 + (1:Int))) (x2) (x3))) (none)) (none)
noncomputable def st62_L17 (n:Nat) (lL17:Bool→Int→(List NT)→(List Int)→(List Bool)→Option R62) (x0:Bool) (x1:Int) (x2:List NT) (x3:List Int) (x4:List Bool):Option R62 :=
 cond (decide (x1 < (10:Int))) (cond (x0) (cond (decide ((0:Int)≤x1)) (cond (decide (x1 < (↑x2.length:Int))) (cond (decide ((0:Int)≤x1)) (cond (decide (x1 < (↑x3.length:Int))) (cond (decide ((0:Int) < x3.getD x1.toNat (0:Int))) (cond (decide ((x2.getD x1.toNat ZN).1=(0:Int))) (some ((false,()),())) (cond (!decide ((x2.getD x1.toNat ZN).1=(0:Int))) (cond (decide ((0:Int)≤x1)) (cond (decide (x1 < (↑x3.length:Int))) (cond (!decide ((x2.getD x1.toNat ZN).2.2.2.2.1=x3.getD x1.toNat (0:Int))) (some ((false,()),())) (cond (decide ((x2.getD x1.toNat ZN).1=(2:Int))) (cond (decide ((0:Int)≤x1)) (cond (decide (x1 < (↑x4.length:Int))) (cond (!x4.getD x1.toNat false) (some ((false,()),())) (cond (decide ((x2.getD x1.toNat ZN).1=(1:Int))) (cond (decide ((x2.getD x1.toNat ZN).2.2.2.2.1=(0:Int))) (cond (decide ((x2.getD x1.toNat ZN).2.2.2.2.2.1=(0:Int))) (some ((false,()),())) (lL17 (x0) (Go.IntKind.i64.wrap (x1 + (1:Int))) (x2) (x3) (x4))) (lL17 (x0) (Go.IntKind.i64.wrap (x1 + (1:Int))) (x2) (x3) (x4))) (lL17 (x0) (Go.IntKind.i64.wrap (x1 + (1:Int))) (x2) (x3) (x4)))) (none)) (none)) (cond (decide ((x2.getD x1.toNat ZN).1=(1:Int))) (cond (decide ((x2.getD x1.toNat ZN).2.2.2.2.1=(0:Int))) (cond (decide ((x2.getD x1.toNat ZN).2.2.2.2.2.1=(0:Int))) (some ((false,()),())) (lL17 (x0) (Go.IntKind.i64.wrap (x1 + (1:Int))) (x2) (x3) (x4))) (lL17 (x0) (Go.IntKind.i64.wrap (x1 + (1:Int))) (x2) (x3) (x4))) (lL17 (x0) (Go.IntKind.i64.wrap (x1 + (1:Int))) (x2) (x3) (x4))))) (none)) (none)) (cond (decide ((x2.getD x1.toNat ZN).1=(2:Int))) (cond (decide ((0:Int)≤x1)) (cond (decide (x1 < (↑x4.length:Int))) (cond (!x4.getD x1.toNat false) (some ((false,()),())) (cond (decide ((x2.getD x1.toNat ZN).1=(1:Int))) (cond (decide ((x2.getD x1.toNat ZN).2.2.2.2.1=(0:Int))) (cond (decide ((x2.getD x1.toNat ZN).2.2.2.2.2.1=(0:Int))) (some ((false,()),())) (lL17 (x0) (Go.IntKind.i64.wrap (x1 + (1:Int))) (x2) (x3) (x4))) (lL17 (x0) (Go.IntKind.i64.wrap (x1 + (1:Int))) (x2) (x3) (x4))) (lL17 (x0) (Go.IntKind.i64.wrap (x1 + (1:Int))) (x2) (x3) (x4)))) (none)) (none)) (cond (decide ((x2.getD x1.toNat ZN).1=(1:Int))) (cond (decide ((x2.getD x1.toNat ZN).2.2.2.2.1=(0:Int))) (cond (decide ((x2.getD x1.toNat ZN).2.2.2.2.2.1=(0:Int))) (some ((false,()),())) (lL17 (x0) (Go.IntKind.i64.wrap (x1 + (1:Int))) (x2) (x3) (x4))) (lL17 (x0) (Go.IntKind.i64.wrap (x1 + (1:Int))) (x2) (x3) (x4))) (lL17 (x0) (Go.IntKind.i64.wrap (x1 + (1:Int))) (x2) (x3) (x4)))))) (cond (!decide ((x2.getD x1.toNat ZN).1=(0:Int))) (cond (decide ((0:Int)≤x1)) (cond (decide (x1 < (↑x3.length:Int))) (cond (!decide ((x2.getD x1.toNat ZN).2.2.2.2.1=x3.getD x1.toNat (0:Int))) (some ((false,()),())) (cond (decide ((x2.getD x1.toNat ZN).1=(2:Int))) (cond (decide ((0:Int)≤x1)) (cond (decide (x1 < (↑x4.length:Int))) (cond (!x4.getD x1.toNat false) (some ((false,()),())) (cond (decide ((x2.getD x1.toNat ZN).1=(1:Int))) (cond (decide ((x2.getD x1.toNat ZN).2.2.2.2.1=(0:Int))) (cond (decide ((x2.getD x1.toNat ZN).2.2.2.2.2.1=(0:Int))) (some ((false,()),())) (lL17 (x0) (Go.IntKind.i64.wrap (x1 + (1:Int))) (x2) (x3) (x4))) (lL17 (x0) (Go.IntKind.i64.wrap (x1 + (1:Int))) (x2) (x3) (x4))) (lL17 (x0) (Go.IntKind.i64.wrap (x1 + (1:Int))) (x2) (x3) (x4)))) (none)) (none)) (cond (decide ((x2.getD x1.toNat ZN).1=(1:Int))) (cond (decide ((x2.getD x1.toNat ZN).2.2.2.2.1=(0:Int))) (cond (decide ((x2.getD x1.toNat ZN).2.2.2.2.2.1=(0:Int))) (some ((false,()),())) (lL17 (x0) (Go.IntKind.i64.wrap (x1 + (1:Int))) (x2) (x3) (x4))) (lL17 (x0) (Go.IntKind.i64.wrap (x1 + (1:Int))) (x2) (x3) (x4))) (lL17 (x0) (Go.IntKind.i64.wrap (x1 + (1:Int))) (x2) (x3) (x4))))) (none)) (none)) (cond (decide ((x2.getD x1.toNat ZN).1=(2:Int))) (cond (decide ((0:Int)≤x1)) (cond (decide (x1 < (↑x4.length:Int))) (cond (!x4.getD x1.toNat false) (some ((false,()),())) (cond (decide ((x2.getD x1.toNat ZN).1=(1:Int))) (cond (decide ((x2.getD x1.toNat ZN).2.2.2.2.1=(0:Int))) (cond (decide ((x2.getD x1.toNat ZN).2.2.2.2.2.1=(0:Int))) (some ((false,()),())) (lL17 (x0) (Go.IntKind.i64.wrap (x1 + (1:Int))) (x2) (x3) (x4))) (lL17 (x0) (Go.IntKind.i64.wrap (x1 + (1:Int))) (x2) (x3) (x4))) (lL17 (x0) (Go.IntKind.i64.wrap (x1 + (1:Int))) (x2) (x3) (x4)))) (none)) (none)) (cond (decide ((x2.getD x1.toNat ZN).1=(1:Int))) (cond (decide ((x2.getD x1.toNat ZN).2.2.2.2.1=(0:Int))) (cond (decide ((x2.getD x1.toNat ZN).2.2.2.2.2.1=(0:Int))) (some ((false,()),())) (lL17 (x0) (Go.IntKind.i64.wrap (x1 + (1:Int))) (x2) (x3) (x4))) (lL17 (x0) (Go.IntKind.i64.wrap (x1 + (1:Int))) (x2) (x3) (x4))) (lL17 (x0) (Go.IntKind.i64.wrap (x1 + (1:Int))) (x2) (x3) (x4)))))) (none)) (none)) (none)) (none)) (some ((x0,()),()))) (some ((x0,()),()))
noncomputable def st62_L5 (n:Nat) (lL10:Int→Int→(List NT)→(List Int)→Option R62) (lL17:Bool→Int→(List NT)→(List Int)→(List Bool)→Option R62) (x0:Int) (x1:List NT) (x2:List Int):Option R62 :=
 cond (decide (x0 < (10:Int))) (cond (decide ((0:Int)≤x0)) (cond (decide (x0 < (↑x1.length:Int))) ((q100 n (((x1.getD x0.toNat ZN).1,(x1.getD x0.toNat ZN).2.1,(x1.getD x0.toNat ZN).2.2.1,(x1.getD x0.toNat ZN).2.2.2.1,(x1.getD x0.toNat ZN).2.2.2.2.1,(x1.getD x0.toNat ZN).2.2.2.2.2.1,(x1.getD x0.toNat ZN).2.2.2.2.2.2.1,(x1.getD x0.toNat ZN).2.2.2.2.2.2.2.1,(x1.getD x0.toNat ZN).2.2.2.2.2.2.2.2),())).bind fun r1=>cond (!r1.1.1) (some ((false,()),())) (lL10 (x0) ((0:Int)) (x1) (x2))) (none)) (none)) (cond (decide ((0:Int) < (↑x1.length:Int))) (cond (!decide ((x1.getD (Int.toNat (0:Int)) ZN).1=(2:Int))) (some ((false,()),())) ((q101 n (x1,())).bind fun r3=>lL17 (r3.1.2.1) ((0:Int)) (x1) (x2) (r3.1.1))) (none))
theorem e62_top (n:Nat) (a:List NT):runF TT G62 an62 Try.f62 c62 ps62 rs62 n (a,())=st62_top n (fun x0 x1 x2=>at62 n (.head 5) [n] (sh62_L5 x0 x1 x2)) a:=by kernel_rfl
theorem e62_L10_0 (n:Nat) (m5:Nat) (x0:Int) (x1:Int) (x2:List NT) (x3:List Int):at62 n (.head 10) [m5,0] (sh62_L10 x0 x1 x2 x3)=none:=by kernel_rfl
theorem e62_L10 (n:Nat) (m5:Nat) (m10:Nat) (x0:Int) (x1:Int) (x2:List NT) (x3:List Int):at62 n (.head 10) [m5,m10 + 1] (sh62_L10 x0 x1 x2 x3)=st62_L10 n (fun x0 x1 x2 x3=>at62 n (.head 10) [m5,m10] (sh62_L10 x0 x1 x2 x3)) (fun x0 x1 x2=>at62 n (.head 5) [m5] (sh62_L5 x0 x1 x2)) x0 x1 x2 x3:=by kernel_rfl
theorem e62_L17_0 (n:Nat) (x0:Bool) (x1:Int) (x2:List NT) (x3:List Int) (x4:List Bool):at62 n (.head 17) [0] (sh62_L17 x0 x1 x2 x3 x4)=none:=by kernel_rfl
theorem e62_L17 (n:Nat) (m17:Nat) (x0:Bool) (x1:Int) (x2:List NT) (x3:List Int) (x4:List Bool):at62 n (.head 17) [m17 + 1] (sh62_L17 x0 x1 x2 x3 x4)=st62_L17 n (fun x0 x1 x2 x3 x4=>at62 n (.head 17) [m17] (sh62_L17 x0 x1 x2 x3 x4)) x0 x1 x2 x3 x4:=by kernel_rfl
theorem e62_L5_0 (n:Nat) (x0:Int) (x1:List NT) (x2:List Int):at62 n (.head 5) [0] (sh62_L5 x0 x1 x2)=none:=by kernel_rfl
theorem e62_L5 (n:Nat) (m5:Nat) (x0:Int) (x1:List NT) (x2:List Int):at62 n (.head 5) [m5 + 1] (sh62_L5 x0 x1 x2)=st62_L5 n (fun x0 x1 x2 x3=>at62 n (.head 10) [m5,n] (sh62_L10 x0 x1 x2 x3)) (fun x0 x1 x2 x3 x4=>at62 n (.head 17) [n] (sh62_L17 x0 x1 x2 x3 x4)) x0 x1 x2:=by kernel_rfl
noncomputable def p62_L10 (g5:Int→(List NT)→(List Int)→Option R62) (n:Nat):Nat→Int→Int→(List NT)→(List Int)→Option R62
 | 0,_,_,_,_=>none
 | m + 1,x0,x1,x2,x3=>st62_L10 n (p62_L10 g5 n m) g5 x0 x1 x2 x3
noncomputable def p62_L17 (n:Nat):Nat→Bool→Int→(List NT)→(List Int)→(List Bool)→Option R62
 | 0,_,_,_,_,_=>none
 | m + 1,x0,x1,x2,x3,x4=>st62_L17 n (p62_L17 n m) x0 x1 x2 x3 x4
noncomputable def p62_L5 (n:Nat):Nat→Int→(List NT)→(List Int)→Option R62
 | 0,_,_,_=>none
 | m + 1,x0,x1,x2=>st62_L5 n (p62_L10 (p62_L5 n m) n n) (p62_L17 n n) x0 x1 x2
noncomputable def p62 (n:Nat) (a:List NT):Option R62:=st62_top n (p62_L5 n n) a
theorem t62_L10 (n:Nat) (m5:Nat):∀ (m10:Nat) (x0:Int) (x1:Int) (x2:List NT) (x3:List Int),at62 n (.head 10) [m5,m10] (sh62_L10 x0 x1 x2 x3)=p62_L10 (fun x0 x1 x2=>at62 n (.head 5) [m5] (sh62_L5 x0 x1 x2)) n m10 x0 x1 x2 x3:=by
 intro m
 induction m with
 | zero=>intros; rw [e62_L10_0]; rfl
 | succ m ih =>
  intros
  rw [e62_L10]
  try simp only [ih]
  rfl
theorem t62_L17 (n:Nat):∀ (m17:Nat) (x0:Bool) (x1:Int) (x2:List NT) (x3:List Int) (x4:List Bool),at62 n (.head 17) [m17] (sh62_L17 x0 x1 x2 x3 x4)=p62_L17 n m17 x0 x1 x2 x3 x4:=by
 intro m
 induction m with
 | zero=>intros; rw [e62_L17_0]; rfl
 | succ m ih =>
  intros
  rw [e62_L17]
  try simp only [ih]
  rfl
theorem t62_L5 (n:Nat):∀ (m5:Nat) (x0:Int) (x1:List NT) (x2:List Int),at62 n (.head 5) [m5] (sh62_L5 x0 x1 x2)=p62_L5 n m5 x0 x1 x2:=by
 intro m
 induction m with
 | zero=>intros; rw [e62_L5_0]; rfl
 | succ m ih =>
  intros
  rw [e62_L5]
  try simp only [t62_L10,t62_L17,ih]
  rfl
theorem F62_eq (n:Nat) (a:List NT):runF TT G62 an62 Try.f62 c62 ps62 rs62 n (a,())=p62 n a:=by
 rw [e62_top]
 simp only [t62_L5]
 try rfl
noncomputable def q62 (n:Nat) (x:argsD ps62):Option R62:=p62 n x.1
noncomputable def Sm62:Sm:=⟨ps62,rs62,false,q62⟩
theorem holds62 (hg:GamOK Try.prog G62):Holds Try.prog 62 Sm62:=by
 have:=h0_62 hg
 have e:(runF TT G62 an62 Try.f62 c62 ps62 rs62)=q62:=by
  funext n x
  exact F62_eq n x.1
 rw [e] at this
 exact this
theorem gam62:GamOK Try.prog G62:=by
 intro f s h
 unfold G62 at h
 split at h
 ·injection h with h; subst h; exact ⟨⟨Try.f100,c100,Try.func100,by kernel_rfl,by decide +kernel⟩,hh100⟩
 ·injection h with h; subst h; exact ⟨⟨Try.f101,c101,Try.func101,by kernel_rfl,by decide +kernel⟩,hh101⟩
 ·cases h
theorem hh62:Holds Try.prog 62 Sm62:=holds62 gam62
end Go.Proofs.Ythhopbicmaipgaa.Rx.S

namespace Go.Proofs.Ythhopbicmaipgaa.Rx.S
open Go Go.RowKit Go.Proofs
set_option maxRecDepth 100000
noncomputable def c133:Code:=(Try.f133.body.getD .skip)
def an133:An:=⟨fun _=>⟨[],[]⟩,fun _ _=>none⟩
abbrev ps133:List PK:=[.val tEn true,.val i64 false]
abbrev rs133:List RK:=[.val i64 false]
abbrev R133:=retsD rs133 × outsD ps133
noncomputable def G133:Gam:=fun _=>none
theorem h0_133 (hg:GamOK Try.prog G133):Holds Try.prog 133 ⟨ps133,rs133,false,runF TT G133 an133 Try.f133 c133 ps133 rs133⟩:=holds_of tt_ok hg mixed Try.func133 (by kernel_rfl) (by rfl) (by decide +kernel)
noncomputable def st133_top (n:Nat) (a:ByteArray × Int) (b:Int):Option R133 :=
 cond (decide (Go.IntKind.i64.wrap (b - (↑(ByteArray.size a.1):Int)) < (0:Int))) (some (((-1:Int),()),())) (some ((Go.IntKind.i64.wrap (b - (↑(ByteArray.size a.1):Int)),()),()))
theorem e133_top (n:Nat) (a:ByteArray × Int) (b:Int):runF TT G133 an133 Try.f133 c133 ps133 rs133 n (a,b,())=st133_top n a b:=by kernel_rfl
noncomputable def p133 (n:Nat) (a:ByteArray × Int) (b:Int):Option R133:=st133_top n a b
theorem F133_eq (n:Nat) (a:ByteArray × Int) (b:Int):runF TT G133 an133 Try.f133 c133 ps133 rs133 n (a,b,())=p133 n a b:=by
 rw [e133_top]
 skip
 try rfl
noncomputable def q133 (n:Nat) (x:argsD ps133):Option R133:=p133 n x.1 x.2.1
noncomputable def Sm133:Sm:=⟨ps133,rs133,false,q133⟩
theorem holds133 (hg:GamOK Try.prog G133):Holds Try.prog 133 Sm133:=by
 have:=h0_133 hg
 have e:(runF TT G133 an133 Try.f133 c133 ps133 rs133)=q133:=by
  funext n x
  exact F133_eq n x.1 x.2.1
 rw [e] at this
 exact this
theorem gam133:GamOK Try.prog G133:=fun _ _ h=>by cases h
theorem hh133:Holds Try.prog 133 Sm133:=holds133 gam133
end Go.Proofs.Ythhopbicmaipgaa.Rx.S

namespace Go.Proofs.Ythhopbicmaipgaa.Rx.S
open Go Go.RowKit Go.Proofs
set_option maxRecDepth 100000
noncomputable def c124:Code:=(Try.f124.body.getD .skip)
def an124:An:=⟨fun r=>match r with | 5=>⟨[0,1,5],[]⟩ | _=>⟨[],[]⟩,fun _ _=>none⟩
abbrev ps124:List PK:=[.val (.row 154 tEn) false,.val i64 false]
abbrev rs124:List RK:=[.val i64 false]
abbrev R124:=retsD rs124 × outsD ps124
noncomputable def G124:Gam:=fun f=>match f with | 133=>some Sm133 | _=>none
theorem h0_124 (hg:GamOK Try.prog G124):Holds Try.prog 124 ⟨ps124,rs124,false,runF TT G124 an124 Try.f124 c124 ps124 rs124⟩:=holds_of tt_ok hg mixed Try.func124 (by kernel_rfl) (by rfl) (by decide +kernel)
noncomputable def at124:Nat→Pt→List Nat→St→Option R124:=atF TT G124 an124 Try.f124 c124 _ _
def sh124_L5 (x0:List (ByteArray × Int)) (x1:Int) (x2:Int):St:=(St.mk ((AV.one (SV.con (⟨154,Ty.str.pair (Ty.int Go.IntKind.i64),x0⟩:Rw))) :: ((AV.one (SV.int (Go.IntKind.i64) x1)) :: (AV.undef :: (AV.undef :: (AV.undef :: ((AV.one (SV.int (Go.IntKind.i64) x2)) :: (AV.undef :: (AV.undef :: (AV.undef :: (AV.undef :: (AV.undef :: (AV.undef :: (AV.undef :: (AV.undef :: (AV.undef :: (AV.undef :: (AV.undef :: (AV.undef :: (AV.undef :: (AV.undef :: (AV.undef :: (AV.undef :: (AV.undef :: (AV.undef :: (AV.undef :: (AV.undef :: (AV.undef :: []))))))))))))))))))))))))))) [])
noncomputable def st124_top (n:Nat) (lL5:(List (ByteArray × Int))→Int→Int→Option R124) (a:List (ByteArray × Int)) (b:Int):Option R124 :=
 cond (decide (Go.IntKind.i64.wrap (b - (↑a.length:Int)) < (0:Int))) (some (((-1:Int),()),())) (lL5 (a) (Go.IntKind.i64.wrap (b - (↑a.length:Int))) ((0:Int)))
noncomputable def st124_L5 (n:Nat) (lL5:(List (ByteArray × Int))→Int→Int→Option R124) (x0:List (ByteArray × Int)) (x1:Int) (x2:Int):Option R124 :=
 cond (decide (x2 < (↑x0.length:Int))) (cond (decide ((0:Int)≤x2)) (cond (decide (x2 < (↑x0.length:Int))) ((q133 n (((x0.getD x2.toNat (ByteArray.empty,(0:Int))).1,(x0.getD x2.toNat (ByteArray.empty,(0:Int))).2),x1,())).bind fun r1=>cond (decide (r1.1.1 < (0:Int))) (some (((-1:Int),()),())) (lL5 (x0) (r1.1.1) (Go.IntKind.i64.wrap (x2 + (1:Int))))) (none)) (none)) (some ((x1,()),()))
theorem e124_top (n:Nat) (a:List (ByteArray × Int)) (b:Int):runF TT G124 an124 Try.f124 c124 ps124 rs124 n (a,b,())=st124_top n (fun x0 x1 x2=>at124 n (.head 5) [n] (sh124_L5 x0 x1 x2)) a b:=by kernel_rfl
theorem e124_L5_0 (n:Nat) (x0:List (ByteArray × Int)) (x1:Int) (x2:Int):at124 n (.head 5) [0] (sh124_L5 x0 x1 x2)=none:=by kernel_rfl
theorem e124_L5 (n:Nat) (m5:Nat) (x0:List (ByteArray × Int)) (x1:Int) (x2:Int):at124 n (.head 5) [m5 + 1] (sh124_L5 x0 x1 x2)=st124_L5 n (fun x0 x1 x2=>at124 n (.head 5) [m5] (sh124_L5 x0 x1 x2)) x0 x1 x2:=by kernel_rfl
noncomputable def p124_L5 (n:Nat):Nat→(List (ByteArray × Int))→Int→Int→Option R124
 | 0,_,_,_=>none
 | m + 1,x0,x1,x2=>st124_L5 n (p124_L5 n m) x0 x1 x2
noncomputable def p124 (n:Nat) (a:List (ByteArray × Int)) (b:Int):Option R124:=st124_top n (p124_L5 n n) a b
theorem t124_L5 (n:Nat):∀ (m5:Nat) (x0:List (ByteArray × Int)) (x1:Int) (x2:Int),at124 n (.head 5) [m5] (sh124_L5 x0 x1 x2)=p124_L5 n m5 x0 x1 x2:=by
 intro m
 induction m with
 | zero=>intros; rw [e124_L5_0]; rfl
 | succ m ih =>
  intros
  rw [e124_L5]
  try simp only [ih]
  rfl
theorem F124_eq (n:Nat) (a:List (ByteArray × Int)) (b:Int):runF TT G124 an124 Try.f124 c124 ps124 rs124 n (a,b,())=p124 n a b:=by
 rw [e124_top]
 simp only [t124_L5]
 try rfl
noncomputable def q124 (n:Nat) (x:argsD ps124):Option R124:=p124 n x.1 x.2.1
noncomputable def Sm124:Sm:=⟨ps124,rs124,false,q124⟩
theorem holds124 (hg:GamOK Try.prog G124):Holds Try.prog 124 Sm124:=by
 have:=h0_124 hg
 have e:(runF TT G124 an124 Try.f124 c124 ps124 rs124)=q124:=by
  funext n x
  exact F124_eq n x.1 x.2.1
 rw [e] at this
 exact this
theorem gam124:GamOK Try.prog G124:=by
 intro f s h
 unfold G124 at h
 split at h
 ·injection h with h; subst h; exact ⟨⟨Try.f133,c133,Try.func133,by kernel_rfl,by decide +kernel⟩,hh133⟩
 ·cases h
theorem hh124:Holds Try.prog 124 Sm124:=holds124 gam124
end Go.Proofs.Ythhopbicmaipgaa.Rx.S

namespace Go.Proofs.Ythhopbicmaipgaa.Rx.S
open Go Go.RowKit Go.Proofs
set_option maxRecDepth 100000
noncomputable def c106:Code:=(Try.f106.body.getD .skip)
def an106:An:=⟨fun _=>⟨[],[]⟩,fun _ _=>none⟩
abbrev ps106:List PK:=[.val (tIn 154) true,.val i64 false]
abbrev rs106:List RK:=[.val i64 false]
abbrev R106:=retsD rs106 × outsD ps106
noncomputable def G106:Gam:=fun f=>match f with | 124=>some Sm124 | _=>none
theorem h0_106 (hg:GamOK Try.prog G106):Holds Try.prog 106 ⟨ps106,rs106,false,runF TT G106 an106 Try.f106 c106 ps106 rs106⟩:=holds_of tt_ok hg mixed Try.func106 (by kernel_rfl) (by rfl) (by decide +kernel)
noncomputable def st106_top (n:Nat) (a:NT) (b:Int):Option R106 :=
 cond (decide (Go.IntKind.i64.wrap (b - (↑(ByteArray.size a.2.2.2.2.2.2.2.1):Int)) < (0:Int))) (some (((-1:Int),()),())) ((q124 n (a.2.2.2.2.2.2.2.2,Go.IntKind.i64.wrap (b - (↑(ByteArray.size a.2.2.2.2.2.2.2.1):Int)),())).bind fun r0=>cond (decide (r0.1.1 < (0:Int))) (some (((-1:Int),()),())) (some ((r0.1.1,()),())))
theorem e106_top (n:Nat) (a:NT) (b:Int):runF TT G106 an106 Try.f106 c106 ps106 rs106 n (a,b,())=st106_top n a b:=by kernel_rfl
noncomputable def p106 (n:Nat) (a:NT) (b:Int):Option R106:=st106_top n a b
theorem F106_eq (n:Nat) (a:NT) (b:Int):runF TT G106 an106 Try.f106 c106 ps106 rs106 n (a,b,())=p106 n a b:=by
 rw [e106_top]
 skip
 try rfl
noncomputable def q106 (n:Nat) (x:argsD ps106):Option R106:=p106 n x.1 x.2.1
noncomputable def Sm106:Sm:=⟨ps106,rs106,false,q106⟩
theorem holds106 (hg:GamOK Try.prog G106):Holds Try.prog 106 Sm106:=by
 have:=h0_106 hg
 have e:(runF TT G106 an106 Try.f106 c106 ps106 rs106)=q106:=by
  funext n x
  exact F106_eq n x.1 x.2.1
 rw [e] at this
 exact this
theorem gam106:GamOK Try.prog G106:=by
 intro f s h
 unfold G106 at h
 split at h
 ·injection h with h; subst h; exact ⟨⟨Try.f124,c124,Try.func124,by kernel_rfl,by decide +kernel⟩,hh124⟩
 ·cases h
theorem hh106:Holds Try.prog 106 Sm106:=holds106 gam106
end Go.Proofs.Ythhopbicmaipgaa.Rx.S

namespace Go.Proofs.Ythhopbicmaipgaa.Rx.S
open Go Go.RowKit Go.Proofs
set_option maxRecDepth 100000
noncomputable def c72:Code:=(Try.f72.body.getD .skip)
def an72:An:=⟨fun r=>match r with | 5=>⟨[0,1,5],[]⟩ | _=>⟨[],[]⟩,fun _ _=>none⟩
abbrev ps72:List PK:=[.val tLf false,.val i64 false]
abbrev rs72:List RK:=[.val i64 false]
abbrev R72:=retsD rs72 × outsD ps72
noncomputable def G72:Gam:=fun f=>match f with | 106=>some Sm106 | _=>none
theorem h0_72 (hg:GamOK Try.prog G72):Holds Try.prog 72 ⟨ps72,rs72,false,runF TT G72 an72 Try.f72 c72 ps72 rs72⟩:=holds_of tt_ok hg mixed Try.func72 (by kernel_rfl) (by rfl) (by decide +kernel)
noncomputable def at72:Nat→Pt→List Nat→St→Option R72:=atF TT G72 an72 Try.f72 c72 _ _
def sh72_L5 (x0:List NT) (x1:Int) (x2:Int):St:=(St.mk ((AV.one (SV.con (⟨136,(Ty.int Go.IntKind.i64).pair ((Ty.int Go.IntKind.i64).pair ((Ty.int Go.IntKind.i64).pair ((Ty.int Go.IntKind.i64).pair ((Ty.int Go.IntKind.i64).pair ((Ty.int Go.IntKind.i64).pair (Ty.bool.pair (Ty.str.pair (Ty.row (nat_lit 154) (Ty.str.pair (Ty.int Go.IntKind.i64)))))))))),x0⟩:Rw))) :: ((AV.one (SV.int (Go.IntKind.i64) x1)) :: (AV.undef :: (AV.undef :: (AV.undef :: ((AV.one (SV.int (Go.IntKind.i64) x2)) :: (AV.undef :: (AV.undef :: (AV.undef :: (AV.undef :: (AV.undef :: (AV.undef :: (AV.undef :: (AV.undef :: (AV.undef :: (AV.undef :: (AV.undef :: (AV.undef :: (AV.undef :: (AV.undef :: (AV.undef :: (AV.undef :: (AV.undef :: (AV.undef :: (AV.undef :: (AV.undef :: (AV.undef :: []))))))))))))))))))))))))))) [])
noncomputable def st72_top (n:Nat) (lL5:(List NT)→Int→Int→Option R72) (a:List NT) (b:Int):Option R72 :=
 cond (decide (Go.IntKind.i64.wrap (b - (↑a.length:Int)) < (0:Int))) (some (((-1:Int),()),())) (lL5 (a) (Go.IntKind.i64.wrap (b - (↑a.length:Int))) ((0:Int)))
noncomputable def st72_L5 (n:Nat) (lL5:(List NT)→Int→Int→Option R72) (x0:List NT) (x1:Int) (x2:Int):Option R72 :=
 cond (decide (x2 < (↑x0.length:Int))) (cond (decide ((0:Int)≤x2)) (cond (decide (x2 < (↑x0.length:Int))) ((q106 n (((x0.getD x2.toNat ZN).1,(x0.getD x2.toNat ZN).2.1,(x0.getD x2.toNat ZN).2.2.1,(x0.getD x2.toNat ZN).2.2.2.1,(x0.getD x2.toNat ZN).2.2.2.2.1,(x0.getD x2.toNat ZN).2.2.2.2.2.1,(x0.getD x2.toNat ZN).2.2.2.2.2.2.1,(x0.getD x2.toNat ZN).2.2.2.2.2.2.2.1,(x0.getD x2.toNat ZN).2.2.2.2.2.2.2.2),x1,())).bind fun r1=>cond (decide (r1.1.1 < (0:Int))) (some (((-1:Int),()),())) (lL5 (x0) (r1.1.1) (Go.IntKind.i64.wrap (x2 + (1:Int))))) (none)) (none)) (some ((x1,()),()))
theorem e72_top (n:Nat) (a:List NT) (b:Int):runF TT G72 an72 Try.f72 c72 ps72 rs72 n (a,b,())=st72_top n (fun x0 x1 x2=>at72 n (.head 5) [n] (sh72_L5 x0 x1 x2)) a b:=by kernel_rfl
theorem e72_L5_0 (n:Nat) (x0:List NT) (x1:Int) (x2:Int):at72 n (.head 5) [0] (sh72_L5 x0 x1 x2)=none:=by kernel_rfl
theorem e72_L5 (n:Nat) (m5:Nat) (x0:List NT) (x1:Int) (x2:Int):at72 n (.head 5) [m5 + 1] (sh72_L5 x0 x1 x2)=st72_L5 n (fun x0 x1 x2=>at72 n (.head 5) [m5] (sh72_L5 x0 x1 x2)) x0 x1 x2:=by kernel_rfl
noncomputable def p72_L5 (n:Nat):Nat→(List NT)→Int→Int→Option R72
 | 0,_,_,_=>none
 | m + 1,x0,x1,x2=>st72_L5 n (p72_L5 n m) x0 x1 x2
noncomputable def p72 (n:Nat) (a:List NT) (b:Int):Option R72:=st72_top n (p72_L5 n n) a b
theorem t72_L5 (n:Nat):∀ (m5:Nat) (x0:List NT) (x1:Int) (x2:Int),at72 n (.head 5) [m5] (sh72_L5 x0 x1 x2)=p72_L5 n m5 x0 x1 x2:=by
 intro m
 induction m with
 | zero=>intros; rw [e72_L5_0]; rfl
 | succ m ih =>
  intros
  rw [e72_L5]
  try simp only [ih]
  rfl
theorem F72_eq (n:Nat) (a:List NT) (b:Int):runF TT G72 an72 Try.f72 c72 ps72 rs72 n (a,b,())=p72 n a b:=by
 rw [e72_top]
 simp only [t72_L5]
 try rfl
noncomputable def q72 (n:Nat) (x:argsD ps72):Option R72:=p72 n x.1 x.2.1
noncomputable def Sm72:Sm:=⟨ps72,rs72,false,q72⟩
theorem holds72 (hg:GamOK Try.prog G72):Holds Try.prog 72 Sm72:=by
 have:=h0_72 hg
 have e:(runF TT G72 an72 Try.f72 c72 ps72 rs72)=q72:=by
  funext n x
  exact F72_eq n x.1 x.2.1
 rw [e] at this
 exact this
theorem gam72:GamOK Try.prog G72:=by
 intro f s h
 unfold G72 at h
 split at h
 ·injection h with h; subst h; exact ⟨⟨Try.f106,c106,Try.func106,by kernel_rfl,by decide +kernel⟩,hh106⟩
 ·cases h
theorem hh72:Holds Try.prog 72 Sm72:=holds72 gam72
end Go.Proofs.Ythhopbicmaipgaa.Rx.S

namespace Go.Proofs.Ythhopbicmaipgaa.Rx.S
open Go Go.RowKit Go.Proofs
set_option maxRecDepth 100000
noncomputable def c21:Code:=(Try.f21.body.getD .skip)
def an21:An:=⟨fun _=>⟨[],[]⟩,fun _ _=>none⟩
abbrev ps21:List PK:=[.val tLf true,.val i64 false]
abbrev rs21:List RK:=[.val i64 false]
abbrev R21:=retsD rs21 × outsD ps21
noncomputable def G21:Gam:=fun f=>match f with | 72=>some Sm72 | _=>none
theorem h0_21 (hg:GamOK Try.prog G21):Holds Try.prog 21 ⟨ps21,rs21,false,runF TT G21 an21 Try.f21 c21 ps21 rs21⟩:=holds_of tt_ok hg mixed Try.func21 (by kernel_rfl) (by rfl) (by decide +kernel)
noncomputable def st21_top (n:Nat) (a:List NT) (b:Int):Option R21 :=
 (q72 n (a,b,())).bind fun r0=>cond (decide (r0.1.1 < (0:Int))) (some (((-1:Int),()),())) (some ((r0.1.1,()),()))
theorem e21_top (n:Nat) (a:List NT) (b:Int):runF TT G21 an21 Try.f21 c21 ps21 rs21 n (a,b,())=st21_top n a b:=by kernel_rfl
noncomputable def p21 (n:Nat) (a:List NT) (b:Int):Option R21:=st21_top n a b
theorem F21_eq (n:Nat) (a:List NT) (b:Int):runF TT G21 an21 Try.f21 c21 ps21 rs21 n (a,b,())=p21 n a b:=by
 rw [e21_top]
 skip
 try rfl
noncomputable def q21 (n:Nat) (x:argsD ps21):Option R21:=p21 n x.1 x.2.1
noncomputable def Sm21:Sm:=⟨ps21,rs21,false,q21⟩
theorem holds21 (hg:GamOK Try.prog G21):Holds Try.prog 21 Sm21:=by
 have:=h0_21 hg
 have e:(runF TT G21 an21 Try.f21 c21 ps21 rs21)=q21:=by
  funext n x
  exact F21_eq n x.1 x.2.1
 rw [e] at this
 exact this
theorem gam21:GamOK Try.prog G21:=by
 intro f s h
 unfold G21 at h
 split at h
 ·injection h with h; subst h; exact ⟨⟨Try.f72,c72,Try.func72,by kernel_rfl,by decide +kernel⟩,hh72⟩
 ·cases h
theorem hh21:Holds Try.prog 21 Sm21:=holds21 gam21
end Go.Proofs.Ythhopbicmaipgaa.Rx.S

namespace Go.Proofs.Ythhopbicmaipgaa.Rx.S
open Go Go.RowKit Go.Proofs
set_option maxRecDepth 100000
noncomputable def c134:Code:=(Try.f134.body.getD .skip)
def an134:An:=⟨fun _=>⟨[],[]⟩,fun _ _=>none⟩
abbrev ps134:List PK:=[.val tEn true]
abbrev rs134:List RK:=[.val tEn true]
abbrev R134:=retsD rs134 × outsD ps134
noncomputable def G134:Gam:=fun _=>none
theorem h0_134 (hg:GamOK Try.prog G134):Holds Try.prog 134 ⟨ps134,rs134,false,runF TT G134 an134 Try.f134 c134 ps134 rs134⟩:=holds_of tt_ok hg mixed Try.func134 (by kernel_rfl) (by rfl) (by decide +kernel)
noncomputable def st134_top (n:Nat) (a:ByteArray × Int):Option R134 :=
 some (((a.1,a.2),()),())
theorem e134_top (n:Nat) (a:ByteArray × Int):runF TT G134 an134 Try.f134 c134 ps134 rs134 n (a,())=st134_top n a:=by kernel_rfl
noncomputable def p134 (n:Nat) (a:ByteArray × Int):Option R134:=st134_top n a
theorem F134_eq (n:Nat) (a:ByteArray × Int):runF TT G134 an134 Try.f134 c134 ps134 rs134 n (a,())=p134 n a:=by
 rw [e134_top]
 skip
 try rfl
noncomputable def q134 (n:Nat) (x:argsD ps134):Option R134:=p134 n x.1
noncomputable def Sm134:Sm:=⟨ps134,rs134,false,q134⟩
theorem holds134 (hg:GamOK Try.prog G134):Holds Try.prog 134 Sm134:=by
 have:=h0_134 hg
 have e:(runF TT G134 an134 Try.f134 c134 ps134 rs134)=q134:=by
  funext n x
  exact F134_eq n x.1
 rw [e] at this
 exact this
theorem gam134:GamOK Try.prog G134:=fun _ _ h=>by cases h
theorem hh134:Holds Try.prog 134 Sm134:=holds134 gam134
end Go.Proofs.Ythhopbicmaipgaa.Rx.S

namespace Go.Proofs.Ythhopbicmaipgaa.Rx.S
open Go Go.RowKit Go.Proofs
set_option maxRecDepth 100000
noncomputable def c125:Code:=(Try.f125.body.getD .skip)
def an125:An:=⟨fun r=>match r with | 3=>⟨[0,3,4],[]⟩ | _=>⟨[],[]⟩,fun _ _=>none⟩
abbrev ps125:List PK:=[.val (.row 154 tEn) false]
abbrev rs125:List RK:=[.own (.row 95 tEn) false]
abbrev R125:=retsD rs125 × outsD ps125
noncomputable def G125:Gam:=fun f=>match f with | 134=>some Sm134 | _=>none
theorem h0_125 (hg:GamOK Try.prog G125):Holds Try.prog 125 ⟨ps125,rs125,false,runF TT G125 an125 Try.f125 c125 ps125 rs125⟩:=holds_of tt_ok hg mixed Try.func125 (by kernel_rfl) (by rfl) (by decide +kernel)
noncomputable def at125:Nat→Pt→List Nat→St→Option R125:=atF TT G125 an125 Try.f125 c125 _ _
def sh125_L3 (x0:List (ByteArray × Int)) (x1:Int) (x2:List (ByteArray × Int)):St:=(St.mk ((AV.one (SV.con (⟨154,Ty.str.pair (Ty.int Go.IntKind.i64),x0⟩:Rw))) :: (AV.undef :: (AV.undef :: ((AV.one (SV.ref 1000000 0 [] Option.none)) :: ((AV.one (SV.int (Go.IntKind.i64) x1)) :: (AV.undef :: (AV.undef :: (AV.undef :: (AV.undef :: (AV.undef :: (AV.undef :: (AV.undef :: (AV.undef :: (AV.undef :: (AV.undef :: (AV.undef :: (AV.undef :: (AV.undef :: (AV.undef :: (AV.undef :: (AV.undef :: (AV.undef :: (AV.undef :: []))))))))))))))))))))))) ((1000000,(Ent.row (⟨95,Ty.str.pair (Ty.int Go.IntKind.i64),x2⟩:Rw) 0 Option.none)) :: []))
noncomputable def st125_top (n:Nat) (lL3:(List (ByteArray × Int))→Int→(List (ByteArray × Int))→Option R125) (a:List (ByteArray × Int)):Option R125 :=
 cond (decide ((↑a.length:Int) * (↑(24:Nat):Int)≤(140737488355328:Int))) (lL3 (a) ((0:Int)) (List.replicate (↑a.length:Int).toNat (ByteArray.empty,(0:Int)))) (none)
noncomputable def st125_L3 (n:Nat) (lL3:(List (ByteArray × Int))→Int→(List (ByteArray × Int))→Option R125) (x0:List (ByteArray × Int)) (x1:Int) (x2:List (ByteArray × Int)):Option R125 :=
 cond (decide (x1 < (↑x0.length:Int))) (cond (decide ((0:Int)≤x1)) (cond (decide (x1 < (↑x0.length:Int))) ((q134 n (((x0.getD x1.toNat (ByteArray.empty,(0:Int))).1,(x0.getD x1.toNat (ByteArray.empty,(0:Int))).2),())).bind fun r1=>cond (decide ((0:Int)≤x1)) (cond (decide (x1 < (↑x2.length:Int))) (lL3 (x0) (Go.IntKind.i64.wrap (x1 + (1:Int))) (x2.set x1.toNat (r1.1.1.1,r1.1.1.2))) (none)) (none)) (none)) (none)) (some ((x2,()),()))
theorem e125_top (n:Nat) (a:List (ByteArray × Int)):runF TT G125 an125 Try.f125 c125 ps125 rs125 n (a,())=st125_top n (fun x0 x1 x2=>at125 n (.head 3) [n] (sh125_L3 x0 x1 x2)) a:=by kernel_rfl
theorem e125_L3_0 (n:Nat) (x0:List (ByteArray × Int)) (x1:Int) (x2:List (ByteArray × Int)):at125 n (.head 3) [0] (sh125_L3 x0 x1 x2)=none:=by kernel_rfl
theorem e125_L3 (n:Nat) (m3:Nat) (x0:List (ByteArray × Int)) (x1:Int) (x2:List (ByteArray × Int)):at125 n (.head 3) [m3 + 1] (sh125_L3 x0 x1 x2)=st125_L3 n (fun x0 x1 x2=>at125 n (.head 3) [m3] (sh125_L3 x0 x1 x2)) x0 x1 x2:=by kernel_rfl
noncomputable def p125_L3 (n:Nat):Nat→(List (ByteArray × Int))→Int→(List (ByteArray × Int))→Option R125
 | 0,_,_,_=>none
 | m + 1,x0,x1,x2=>st125_L3 n (p125_L3 n m) x0 x1 x2
noncomputable def p125 (n:Nat) (a:List (ByteArray × Int)):Option R125:=st125_top n (p125_L3 n n) a
theorem t125_L3 (n:Nat):∀ (m3:Nat) (x0:List (ByteArray × Int)) (x1:Int) (x2:List (ByteArray × Int)),at125 n (.head 3) [m3] (sh125_L3 x0 x1 x2)=p125_L3 n m3 x0 x1 x2:=by
 intro m
 induction m with
 | zero=>intros; rw [e125_L3_0]; rfl
 | succ m ih =>
  intros
  rw [e125_L3]
  try simp only [ih]
  rfl
theorem F125_eq (n:Nat) (a:List (ByteArray × Int)):runF TT G125 an125 Try.f125 c125 ps125 rs125 n (a,())=p125 n a:=by
 rw [e125_top]
 simp only [t125_L3]
 try rfl
noncomputable def q125 (n:Nat) (x:argsD ps125):Option R125:=p125 n x.1
noncomputable def Sm125:Sm:=⟨ps125,rs125,false,q125⟩
theorem holds125 (hg:GamOK Try.prog G125):Holds Try.prog 125 Sm125:=by
 have:=h0_125 hg
 have e:(runF TT G125 an125 Try.f125 c125 ps125 rs125)=q125:=by
  funext n x
  exact F125_eq n x.1
 rw [e] at this
 exact this
theorem gam125:GamOK Try.prog G125:=by
 intro f s h
 unfold G125 at h
 split at h
 ·injection h with h; subst h; exact ⟨⟨Try.f134,c134,Try.func134,by kernel_rfl,by decide +kernel⟩,hh134⟩
 ·cases h
theorem hh125:Holds Try.prog 125 Sm125:=holds125 gam125
end Go.Proofs.Ythhopbicmaipgaa.Rx.S

namespace Go.Proofs.Ythhopbicmaipgaa.Rx.S
open Go Go.RowKit Go.Proofs
set_option maxRecDepth 100000
noncomputable def c107:Code:=(Try.f107.body.getD .skip)
def an107:An:=⟨fun _=>⟨[],[]⟩,fun _ _=>none⟩
abbrev ps107:List PK:=[.val (tIn 154) true]
abbrev rs107:List RK:=[.own (tIn 95) true]
abbrev R107:=retsD rs107 × outsD ps107
noncomputable def G107:Gam:=fun f=>match f with | 125=>some Sm125 | _=>none
theorem h0_107 (hg:GamOK Try.prog G107):Holds Try.prog 107 ⟨ps107,rs107,false,runF TT G107 an107 Try.f107 c107 ps107 rs107⟩:=holds_of tt_ok hg mixed Try.func107 (by kernel_rfl) (by rfl) (by decide +kernel)
noncomputable def st107_top (n:Nat) (a:NT):Option R107 :=
 (q125 n (a.2.2.2.2.2.2.2.2,())).bind fun r0=>some (((a.1,(a.2.1,(a.2.2.1,(a.2.2.2.1,(a.2.2.2.2.1,(a.2.2.2.2.2.1,(a.2.2.2.2.2.2.1,(a.2.2.2.2.2.2.2.1,r0.1.1)))))))),()),())
theorem e107_top (n:Nat) (a:NT):runF TT G107 an107 Try.f107 c107 ps107 rs107 n (a,())=st107_top n a:=by kernel_rfl
noncomputable def p107 (n:Nat) (a:NT):Option R107:=st107_top n a
theorem F107_eq (n:Nat) (a:NT):runF TT G107 an107 Try.f107 c107 ps107 rs107 n (a,())=p107 n a:=by
 rw [e107_top]
 skip
 try rfl
noncomputable def q107 (n:Nat) (x:argsD ps107):Option R107:=p107 n x.1
noncomputable def Sm107:Sm:=⟨ps107,rs107,false,q107⟩
theorem holds107 (hg:GamOK Try.prog G107):Holds Try.prog 107 Sm107:=by
 have:=h0_107 hg
 have e:(runF TT G107 an107 Try.f107 c107 ps107 rs107)=q107:=by
  funext n x
  exact F107_eq n x.1
 rw [e] at this
 exact this
theorem gam107:GamOK Try.prog G107:=by
 intro f s h
 unfold G107 at h
 split at h
 ·injection h with h; subst h; exact ⟨⟨Try.f125,c125,Try.func125,by kernel_rfl,by decide +kernel⟩,hh125⟩
 ·cases h
theorem hh107:Holds Try.prog 107 Sm107:=holds107 gam107
end Go.Proofs.Ythhopbicmaipgaa.Rx.S

namespace Go.Proofs.Ythhopbicmaipgaa.Rx.S
open Go Go.RowKit Go.Proofs
set_option maxRecDepth 100000
noncomputable def c74:Code:=(Try.f74.body.getD .skip)
def an74:An:=⟨fun r=>match r with | 3=>⟨[0,3,4],[]⟩ | _=>⟨[],[]⟩,fun _ _=>none⟩
abbrev ps74:List PK:=[.val tLf false]
abbrev rs74:List RK:=[.own tFs false]
abbrev R74:=retsD rs74 × outsD ps74
noncomputable def G74:Gam:=fun f=>match f with | 107=>some Sm107 | _=>none
theorem h0_74 (hg:GamOK Try.prog G74):Holds Try.prog 74 ⟨ps74,rs74,false,runF TT G74 an74 Try.f74 c74 ps74 rs74⟩:=holds_of tt_ok hg mixed Try.func74 (by kernel_rfl) (by rfl) (by decide +kernel)
noncomputable def at74:Nat→Pt→List Nat→St→Option R74:=atF TT G74 an74 Try.f74 c74 _ _
def sh74_L3 (x0:List NT) (x1:Int) (x2:List NT):St:=(St.mk ((AV.one (SV.con (⟨136,(Ty.int Go.IntKind.i64).pair ((Ty.int Go.IntKind.i64).pair ((Ty.int Go.IntKind.i64).pair ((Ty.int Go.IntKind.i64).pair ((Ty.int Go.IntKind.i64).pair ((Ty.int Go.IntKind.i64).pair (Ty.bool.pair (Ty.str.pair (Ty.row (nat_lit 154) (Ty.str.pair (Ty.int Go.IntKind.i64)))))))))),x0⟩:Rw))) :: (AV.undef :: (AV.undef :: ((AV.one (SV.ref 1000000 0 [] Option.none)) :: ((AV.one (SV.int (Go.IntKind.i64) x1)) :: (AV.undef :: (AV.undef :: (AV.undef :: (AV.undef :: (AV.undef :: (AV.undef :: (AV.undef :: (AV.undef :: (AV.undef :: (AV.undef :: (AV.undef :: (AV.undef :: (AV.undef :: (AV.undef :: (AV.undef :: (AV.undef :: (AV.undef :: (AV.undef :: []))))))))))))))))))))))) ((1000000,(Ent.row (⟨39,(Ty.int Go.IntKind.i64).pair ((Ty.int Go.IntKind.i64).pair ((Ty.int Go.IntKind.i64).pair ((Ty.int Go.IntKind.i64).pair ((Ty.int Go.IntKind.i64).pair ((Ty.int Go.IntKind.i64).pair (Ty.bool.pair (Ty.str.pair (Ty.row (nat_lit 95) (Ty.str.pair (Ty.int Go.IntKind.i64)))))))))),x2⟩:Rw) 0 Option.none)) :: []))
noncomputable def st74_top (n:Nat) (lL3:(List NT)→Int→(List NT)→Option R74) (a:List NT):Option R74 :=
 cond (decide ((↑a.length:Int) * (↑(96:Nat):Int)≤(140737488355328:Int))) (lL3 (a) ((0:Int)) (List.replicate (↑a.length:Int).toNat ZN)) (none)
noncomputable def st74_L3 (n:Nat) (lL3:(List NT)→Int→(List NT)→Option R74) (x0:List NT) (x1:Int) (x2:List NT):Option R74 :=
 cond (decide (x1 < (↑x0.length:Int))) (cond (decide ((0:Int)≤x1)) (cond (decide (x1 < (↑x0.length:Int))) ((q107 n (((x0.getD x1.toNat ZN).1,(x0.getD x1.toNat ZN).2.1,(x0.getD x1.toNat ZN).2.2.1,(x0.getD x1.toNat ZN).2.2.2.1,(x0.getD x1.toNat ZN).2.2.2.2.1,(x0.getD x1.toNat ZN).2.2.2.2.2.1,(x0.getD x1.toNat ZN).2.2.2.2.2.2.1,(x0.getD x1.toNat ZN).2.2.2.2.2.2.2.1,(x0.getD x1.toNat ZN).2.2.2.2.2.2.2.2),())).bind fun r1=>cond (decide ((0:Int)≤x1)) (cond (decide (x1 < (↑x2.length:Int))) (lL3 (x0) (Go.IntKind.i64.wrap (x1 + (1:Int))) (x2.set x1.toNat (r1.1.1.1,r1.1.1.2.1,r1.1.1.2.2.1,r1.1.1.2.2.2.1,r1.1.1.2.2.2.2.1,r1.1.1.2.2.2.2.2.1,r1.1.1.2.2.2.2.2.2.1,r1.1.1.2.2.2.2.2.2.2.1,r1.1.1.2.2.2.2.2.2.2.2))) (none)) (none)) (none)) (none)) (some ((x2,()),()))
theorem e74_top (n:Nat) (a:List NT):runF TT G74 an74 Try.f74 c74 ps74 rs74 n (a,())=st74_top n (fun x0 x1 x2=>at74 n (.head 3) [n] (sh74_L3 x0 x1 x2)) a:=by kernel_rfl
theorem e74_L3_0 (n:Nat) (x0:List NT) (x1:Int) (x2:List NT):at74 n (.head 3) [0] (sh74_L3 x0 x1 x2)=none:=by kernel_rfl
theorem e74_L3 (n:Nat) (m3:Nat) (x0:List NT) (x1:Int) (x2:List NT):at74 n (.head 3) [m3 + 1] (sh74_L3 x0 x1 x2)=st74_L3 n (fun x0 x1 x2=>at74 n (.head 3) [m3] (sh74_L3 x0 x1 x2)) x0 x1 x2:=by kernel_rfl
noncomputable def p74_L3 (n:Nat):Nat→(List NT)→Int→(List NT)→Option R74
 | 0,_,_,_=>none
 | m + 1,x0,x1,x2=>st74_L3 n (p74_L3 n m) x0 x1 x2
noncomputable def p74 (n:Nat) (a:List NT):Option R74:=st74_top n (p74_L3 n n) a
theorem t74_L3 (n:Nat):∀ (m3:Nat) (x0:List NT) (x1:Int) (x2:List NT),at74 n (.head 3) [m3] (sh74_L3 x0 x1 x2)=p74_L3 n m3 x0 x1 x2:=by
 intro m
 induction m with
 | zero=>intros; rw [e74_L3_0]; rfl
 | succ m ih =>
  intros
  rw [e74_L3]
  try simp only [ih]
  rfl
theorem F74_eq (n:Nat) (a:List NT):runF TT G74 an74 Try.f74 c74 ps74 rs74 n (a,())=p74 n a:=by
 rw [e74_top]
 simp only [t74_L3]
 try rfl
noncomputable def q74 (n:Nat) (x:argsD ps74):Option R74:=p74 n x.1
noncomputable def Sm74:Sm:=⟨ps74,rs74,false,q74⟩
theorem holds74 (hg:GamOK Try.prog G74):Holds Try.prog 74 Sm74:=by
 have:=h0_74 hg
 have e:(runF TT G74 an74 Try.f74 c74 ps74 rs74)=q74:=by
  funext n x
  exact F74_eq n x.1
 rw [e] at this
 exact this
theorem gam74:GamOK Try.prog G74:=by
 intro f s h
 unfold G74 at h
 split at h
 ·injection h with h; subst h; exact ⟨⟨Try.f107,c107,Try.func107,by kernel_rfl,by decide +kernel⟩,hh107⟩
 ·cases h
theorem hh74:Holds Try.prog 74 Sm74:=holds74 gam74
end Go.Proofs.Ythhopbicmaipgaa.Rx.S

namespace Go.Proofs.Ythhopbicmaipgaa.Rx.S
open Go Go.RowKit Go.Proofs
set_option maxRecDepth 100000
noncomputable def c23:Code:=(Try.f23.body.getD .skip)
def an23:An:=⟨fun _=>⟨[],[]⟩,fun _ _=>none⟩
abbrev ps23:List PK:=[.val tLf true]
abbrev rs23:List RK:=[.own tFs true]
abbrev R23:=retsD rs23 × outsD ps23
noncomputable def G23:Gam:=fun f=>match f with | 74=>some Sm74 | _=>none
theorem h0_23 (hg:GamOK Try.prog G23):Holds Try.prog 23 ⟨ps23,rs23,false,runF TT G23 an23 Try.f23 c23 ps23 rs23⟩:=holds_of tt_ok hg mixed Try.func23 (by kernel_rfl) (by rfl) (by decide +kernel)
noncomputable def st23_top (n:Nat) (a:List NT):Option R23 :=
 (q74 n (a,())).bind fun r0=>some ((r0.1.1,()),())
theorem e23_top (n:Nat) (a:List NT):runF TT G23 an23 Try.f23 c23 ps23 rs23 n (a,())=st23_top n a:=by kernel_rfl
noncomputable def p23 (n:Nat) (a:List NT):Option R23:=st23_top n a
theorem F23_eq (n:Nat) (a:List NT):runF TT G23 an23 Try.f23 c23 ps23 rs23 n (a,())=p23 n a:=by
 rw [e23_top]
 skip
 try rfl
noncomputable def q23 (n:Nat) (x:argsD ps23):Option R23:=p23 n x.1
noncomputable def Sm23:Sm:=⟨ps23,rs23,false,q23⟩
theorem holds23 (hg:GamOK Try.prog G23):Holds Try.prog 23 Sm23:=by
 have:=h0_23 hg
 have e:(runF TT G23 an23 Try.f23 c23 ps23 rs23)=q23:=by
  funext n x
  exact F23_eq n x.1
 rw [e] at this
 exact this
theorem gam23:GamOK Try.prog G23:=by
 intro f s h
 unfold G23 at h
 split at h
 ·injection h with h; subst h; exact ⟨⟨Try.f74,c74,Try.func74,by kernel_rfl,by decide +kernel⟩,hh74⟩
 ·cases h
theorem hh23:Holds Try.prog 23 Sm23:=holds23 gam23
end Go.Proofs.Ythhopbicmaipgaa.Rx.S

namespace Go.Proofs.Ythhopbicmaipgaa.Rx.S
open Go Go.RowKit Go.Proofs
set_option maxRecDepth 100000
noncomputable def c135:Code:=(Try.f135.body.getD .skip)
def an135:An:=⟨fun _=>⟨[],[]⟩,fun _ _=>none⟩
abbrev ps135:List PK:=[.val tEn true,.val tEn true]
abbrev rs135:List RK:=[.val .bool false]
abbrev R135:=retsD rs135 × outsD ps135
noncomputable def G135:Gam:=fun _=>none
theorem h0_135 (hg:GamOK Try.prog G135):Holds Try.prog 135 ⟨ps135,rs135,false,runF TT G135 an135 Try.f135 c135 ps135 rs135⟩:=holds_of tt_ok hg mixed Try.func135 (by kernel_rfl) (by rfl) (by decide +kernel)
noncomputable def st135_top (n:Nat) (a:ByteArray × Int) (b:ByteArray × Int):Option R135 :=
 cond (!ByteArray.toList a.1 == ByteArray.toList b.1) (some ((false,()),())) (cond (!decide (a.2=b.2)) (some ((false,()),())) (some ((true,()),())))
theorem e135_top (n:Nat) (a:ByteArray × Int) (b:ByteArray × Int):runF TT G135 an135 Try.f135 c135 ps135 rs135 n (a,b,())=st135_top n a b:=by kernel_rfl
noncomputable def p135 (n:Nat) (a:ByteArray × Int) (b:ByteArray × Int):Option R135:=st135_top n a b
theorem F135_eq (n:Nat) (a:ByteArray × Int) (b:ByteArray × Int):runF TT G135 an135 Try.f135 c135 ps135 rs135 n (a,b,())=p135 n a b:=by
 rw [e135_top]
 skip
 try rfl
noncomputable def q135 (n:Nat) (x:argsD ps135):Option R135:=p135 n x.1 x.2.1
noncomputable def Sm135:Sm:=⟨ps135,rs135,false,q135⟩
theorem holds135 (hg:GamOK Try.prog G135):Holds Try.prog 135 Sm135:=by
 have:=h0_135 hg
 have e:(runF TT G135 an135 Try.f135 c135 ps135 rs135)=q135:=by
  funext n x
  exact F135_eq n x.1 x.2.1
 rw [e] at this
 exact this
theorem gam135:GamOK Try.prog G135:=fun _ _ h=>by cases h
theorem hh135:Holds Try.prog 135 Sm135:=holds135 gam135
end Go.Proofs.Ythhopbicmaipgaa.Rx.S

namespace Go.Proofs.Ythhopbicmaipgaa.Rx.S
open Go Go.RowKit Go.Proofs
set_option maxRecDepth 100000
noncomputable def c126:Code:=(Try.f126.body.getD .skip)
def an126:An:=⟨fun r=>match r with | 4=>⟨[0,1,5],[]⟩ | _=>⟨[],[]⟩,fun _ _=>none⟩
abbrev ps126:List PK:=[.val (.row 95 tEn) false,.val (.row 95 tEn) false]
abbrev rs126:List RK:=[.val .bool false]
abbrev R126:=retsD rs126 × outsD ps126
noncomputable def G126:Gam:=fun f=>match f with | 135=>some Sm135 | _=>none
theorem h0_126 (hg:GamOK Try.prog G126):Holds Try.prog 126 ⟨ps126,rs126,false,runF TT G126 an126 Try.f126 c126 ps126 rs126⟩:=holds_of tt_ok hg mixed Try.func126 (by kernel_rfl) (by rfl) (by decide +kernel)
noncomputable def at126:Nat→Pt→List Nat→St→Option R126:=atF TT G126 an126 Try.f126 c126 _ _
def sh126_L4 (x0:List (ByteArray × Int)) (x1:List (ByteArray × Int)) (x2:Int):St:=(St.mk ((AV.one (SV.con (⟨95,Ty.str.pair (Ty.int Go.IntKind.i64),x0⟩:Rw))) :: ((AV.one (SV.con (⟨95,Ty.str.pair (Ty.int Go.IntKind.i64),x1⟩:Rw))) :: (AV.undef :: (AV.undef :: (AV.undef :: ((AV.one (SV.int (Go.IntKind.i64) x2)) :: (AV.undef :: (AV.undef :: (AV.undef :: (AV.undef :: (AV.undef :: (AV.undef :: (AV.undef :: (AV.undef :: (AV.undef :: (AV.undef :: (AV.undef :: (AV.undef :: (AV.undef :: (AV.undef :: (AV.undef :: (AV.undef :: (AV.undef :: (AV.undef :: (AV.undef :: (AV.undef :: (AV.undef :: []))))))))))))))))))))))))))) [])
noncomputable def st126_top (n:Nat) (lL4:(List (ByteArray × Int))→(List (ByteArray × Int))→Int→Option R126) (a:List (ByteArray × Int)) (b:List (ByteArray × Int)):Option R126 :=
 cond (!decide ((↑a.length:Int)=(↑b.length:Int))) (some ((false,()),())) (lL4 (a) (b) ((0:Int)))
noncomputable def st126_L4 (n:Nat) (lL4:(List (ByteArray × Int))→(List (ByteArray × Int))→Int→Option R126) (x0:List (ByteArray × Int)) (x1:List (ByteArray × Int)) (x2:Int):Option R126 :=
 cond (decide (x2 < (↑x0.length:Int))) (cond (decide ((0:Int)≤x2)) (cond (decide (x2 < (↑x0.length:Int))) (cond (decide ((0:Int)≤x2)) (cond (decide (x2 < (↑x1.length:Int))) ((q135 n (((x0.getD x2.toNat (ByteArray.empty,(0:Int))).1,(x0.getD x2.toNat (ByteArray.empty,(0:Int))).2),((x1.getD x2.toNat (ByteArray.empty,(0:Int))).1,(x1.getD x2.toNat (ByteArray.empty,(0:Int))).2),())).bind fun r1=>cond (!r1.1.1) (some ((false,()),())) (lL4 (x0) (x1) (Go.IntKind.i64.wrap (x2 + (1:Int))))) (none)) (none)) (none)) (none)) (some ((true,()),()))
theorem e126_top (n:Nat) (a:List (ByteArray × Int)) (b:List (ByteArray × Int)):runF TT G126 an126 Try.f126 c126 ps126 rs126 n (a,b,())=st126_top n (fun x0 x1 x2=>at126 n (.head 4) [n] (sh126_L4 x0 x1 x2)) a b:=by kernel_rfl
theorem e126_L4_0 (n:Nat) (x0:List (ByteArray × Int)) (x1:List (ByteArray × Int)) (x2:Int):at126 n (.head 4) [0] (sh126_L4 x0 x1 x2)=none:=by kernel_rfl
theorem e126_L4 (n:Nat) (m4:Nat) (x0:List (ByteArray × Int)) (x1:List (ByteArray × Int)) (x2:Int):at126 n (.head 4) [m4 + 1] (sh126_L4 x0 x1 x2)=st126_L4 n (fun x0 x1 x2=>at126 n (.head 4) [m4] (sh126_L4 x0 x1 x2)) x0 x1 x2:=by kernel_rfl
noncomputable def p126_L4 (n:Nat):Nat→(List (ByteArray × Int))→(List (ByteArray × Int))→Int→Option R126
 | 0,_,_,_=>none
 | m + 1,x0,x1,x2=>st126_L4 n (p126_L4 n m) x0 x1 x2
noncomputable def p126 (n:Nat) (a:List (ByteArray × Int)) (b:List (ByteArray × Int)):Option R126:=st126_top n (p126_L4 n n) a b
theorem t126_L4 (n:Nat):∀ (m4:Nat) (x0:List (ByteArray × Int)) (x1:List (ByteArray × Int)) (x2:Int),at126 n (.head 4) [m4] (sh126_L4 x0 x1 x2)=p126_L4 n m4 x0 x1 x2:=by
 intro m
 induction m with
 | zero=>intros; rw [e126_L4_0]; rfl
 | succ m ih =>
  intros
  rw [e126_L4]
  try simp only [ih]
  rfl
theorem F126_eq (n:Nat) (a:List (ByteArray × Int)) (b:List (ByteArray × Int)):runF TT G126 an126 Try.f126 c126 ps126 rs126 n (a,b,())=p126 n a b:=by
 rw [e126_top]
 simp only [t126_L4]
 try rfl
noncomputable def q126 (n:Nat) (x:argsD ps126):Option R126:=p126 n x.1 x.2.1
noncomputable def Sm126:Sm:=⟨ps126,rs126,false,q126⟩
theorem holds126 (hg:GamOK Try.prog G126):Holds Try.prog 126 Sm126:=by
 have:=h0_126 hg
 have e:(runF TT G126 an126 Try.f126 c126 ps126 rs126)=q126:=by
  funext n x
  exact F126_eq n x.1 x.2.1
 rw [e] at this
 exact this
theorem gam126:GamOK Try.prog G126:=by
 intro f s h
 unfold G126 at h
 split at h
 ·injection h with h; subst h; exact ⟨⟨Try.f135,c135,Try.func135,by kernel_rfl,by decide +kernel⟩,hh135⟩
 ·cases h
theorem hh126:Holds Try.prog 126 Sm126:=holds126 gam126
end Go.Proofs.Ythhopbicmaipgaa.Rx.S

namespace Go.Proofs.Ythhopbicmaipgaa.Rx.S
open Go Go.RowKit Go.Proofs
set_option maxRecDepth 100000
noncomputable def c108:Code:=(Try.f108.body.getD .skip)
def an108:An:=⟨fun _=>⟨[],[]⟩,fun _ _=>none⟩
abbrev ps108:List PK:=[.val (tIn 95) true,.val (tIn 95) true]
abbrev rs108:List RK:=[.val .bool false]
abbrev R108:=retsD rs108 × outsD ps108
noncomputable def G108:Gam:=fun f=>match f with | 126=>some Sm126 | _=>none
theorem h0_108 (hg:GamOK Try.prog G108):Holds Try.prog 108 ⟨ps108,rs108,false,runF TT G108 an108 Try.f108 c108 ps108 rs108⟩:=holds_of tt_ok hg mixed Try.func108 (by kernel_rfl) (by rfl) (by decide +kernel)
noncomputable def st108_top (n:Nat) (a:NT) (b:NT):Option R108 :=
 cond (!decide (a.1=b.1)) (some ((false,()),())) (cond (!decide (a.2.1=b.2.1)) (some ((false,()),())) (cond (!decide (a.2.2.1=b.2.2.1)) (some ((false,()),())) (cond (!decide (a.2.2.2.1=b.2.2.2.1)) (some ((false,()),())) (cond (!decide (a.2.2.2.2.1=b.2.2.2.2.1)) (some ((false,()),())) (cond (!decide (a.2.2.2.2.2.1=b.2.2.2.2.2.1)) (some ((false,()),())) (cond (!a.2.2.2.2.2.2.1 == b.2.2.2.2.2.2.1) (some ((false,()),())) (cond (!ByteArray.toList a.2.2.2.2.2.2.2.1 == ByteArray.toList b.2.2.2.2.2.2.2.1) (some ((false,()),())) ((q126 n (a.2.2.2.2.2.2.2.2,b.2.2.2.2.2.2.2.2,())).bind fun r0=>cond (!r0.1.1) (some ((false,()),())) (some ((true,()),()))))))))))
theorem e108_top (n:Nat) (a:NT) (b:NT):runF TT G108 an108 Try.f108 c108 ps108 rs108 n (a,b,())=st108_top n a b:=by kernel_rfl
noncomputable def p108 (n:Nat) (a:NT) (b:NT):Option R108:=st108_top n a b
theorem F108_eq (n:Nat) (a:NT) (b:NT):runF TT G108 an108 Try.f108 c108 ps108 rs108 n (a,b,())=p108 n a b:=by
 rw [e108_top]
 skip
 try rfl
noncomputable def q108 (n:Nat) (x:argsD ps108):Option R108:=p108 n x.1 x.2.1
noncomputable def Sm108:Sm:=⟨ps108,rs108,false,q108⟩
theorem holds108 (hg:GamOK Try.prog G108):Holds Try.prog 108 Sm108:=by
 have:=h0_108 hg
 have e:(runF TT G108 an108 Try.f108 c108 ps108 rs108)=q108:=by
  funext n x
  exact F108_eq n x.1 x.2.1
 rw [e] at this
 exact this
theorem gam108:GamOK Try.prog G108:=by
 intro f s h
 unfold G108 at h
 split at h
 ·injection h with h; subst h; exact ⟨⟨Try.f126,c126,Try.func126,by kernel_rfl,by decide +kernel⟩,hh126⟩
 ·cases h
theorem hh108:Holds Try.prog 108 Sm108:=holds108 gam108
end Go.Proofs.Ythhopbicmaipgaa.Rx.S

namespace Go.Proofs.Ythhopbicmaipgaa.Rx.S
open Go Go.RowKit Go.Proofs
set_option maxRecDepth 100000
noncomputable def c76:Code:=(Try.f76.body.getD .skip)
def an76:An:=⟨fun r=>match r with | 4=>⟨[0,1,5],[]⟩ | _=>⟨[],[]⟩,fun _ _=>none⟩
abbrev ps76:List PK:=[.val tFs false,.val tFs false]
abbrev rs76:List RK:=[.val .bool false]
abbrev R76:=retsD rs76 × outsD ps76
noncomputable def G76:Gam:=fun f=>match f with | 108=>some Sm108 | _=>none
theorem h0_76 (hg:GamOK Try.prog G76):Holds Try.prog 76 ⟨ps76,rs76,false,runF TT G76 an76 Try.f76 c76 ps76 rs76⟩:=holds_of tt_ok hg mixed Try.func76 (by kernel_rfl) (by rfl) (by decide +kernel)
noncomputable def at76:Nat→Pt→List Nat→St→Option R76:=atF TT G76 an76 Try.f76 c76 _ _
def sh76_L4 (x0:List NT) (x1:List NT) (x2:Int):St:=(St.mk ((AV.one (SV.con (⟨39,(Ty.int Go.IntKind.i64).pair ((Ty.int Go.IntKind.i64).pair ((Ty.int Go.IntKind.i64).pair ((Ty.int Go.IntKind.i64).pair ((Ty.int Go.IntKind.i64).pair ((Ty.int Go.IntKind.i64).pair (Ty.bool.pair (Ty.str.pair (Ty.row (nat_lit 95) (Ty.str.pair (Ty.int Go.IntKind.i64)))))))))),x0⟩:Rw))) :: ((AV.one (SV.con (⟨39,(Ty.int Go.IntKind.i64).pair ((Ty.int Go.IntKind.i64).pair ((Ty.int Go.IntKind.i64).pair ((Ty.int Go.IntKind.i64).pair ((Ty.int Go.IntKind.i64).pair ((Ty.int Go.IntKind.i64).pair (Ty.bool.pair (Ty.str.pair (Ty.row (nat_lit 95) (Ty.str.pair (Ty.int Go.IntKind.i64)))))))))),x1⟩:Rw))) :: (AV.undef :: (AV.undef :: (AV.undef :: ((AV.one (SV.int (Go.IntKind.i64) x2)) :: (AV.undef :: (AV.undef :: (AV.undef :: (AV.undef :: (AV.undef :: (AV.undef :: (AV.undef :: (AV.undef :: (AV.undef :: (AV.undef :: (AV.undef :: (AV.undef :: (AV.undef :: (AV.undef :: (AV.undef :: (AV.undef :: (AV.undef :: (AV.undef :: (AV.undef :: (AV.undef :: (AV.undef :: []))))))))))))))))))))))))))) [])
noncomputable def st76_top (n:Nat) (lL4:(List NT)→(List NT)→Int→Option R76) (a:List NT) (b:List NT):Option R76 :=
 cond (!decide ((↑a.length:Int)=(↑b.length:Int))) (some ((false,()),())) (lL4 (a) (b) ((0:Int)))
noncomputable def st76_L4 (n:Nat) (lL4:(List NT)→(List NT)→Int→Option R76) (x0:List NT) (x1:List NT) (x2:Int):Option R76 :=
 cond (decide (x2 < (↑x0.length:Int))) (cond (decide ((0:Int)≤x2)) (cond (decide (x2 < (↑x0.length:Int))) (cond (decide ((0:Int)≤x2)) (cond (decide (x2 < (↑x1.length:Int))) ((q108 n (((x0.getD x2.toNat ZN).1,(x0.getD x2.toNat ZN).2.1,(x0.getD x2.toNat ZN).2.2.1,(x0.getD x2.toNat ZN).2.2.2.1,(x0.getD x2.toNat ZN).2.2.2.2.1,(x0.getD x2.toNat ZN).2.2.2.2.2.1,(x0.getD x2.toNat ZN).2.2.2.2.2.2.1,(x0.getD x2.toNat ZN).2.2.2.2.2.2.2.1,(x0.getD x2.toNat ZN).2.2.2.2.2.2.2.2),((x1.getD x2.toNat ZN).1,(x1.getD x2.toNat ZN).2.1,(x1.getD x2.toNat ZN).2.2.1,(x1.getD x2.toNat ZN).2.2.2.1,(x1.getD x2.toNat ZN).2.2.2.2.1,(x1.getD x2.toNat ZN).2.2.2.2.2.1,(x1.getD x2.toNat ZN).2.2.2.2.2.2.1,(x1.getD x2.toNat ZN).2.2.2.2.2.2.2.1,(x1.getD x2.toNat ZN).2.2.2.2.2.2.2.2),())).bind fun r1=>cond (!r1.1.1) (some ((false,()),())) (lL4 (x0) (x1) (Go.IntKind.i64.wrap (x2 + (1:Int))))) (none)) (none)) (none)) (none)) (some ((true,()),()))
theorem e76_top (n:Nat) (a:List NT) (b:List NT):runF TT G76 an76 Try.f76 c76 ps76 rs76 n (a,b,())=st76_top n (fun x0 x1 x2=>at76 n (.head 4) [n] (sh76_L4 x0 x1 x2)) a b:=by kernel_rfl
theorem e76_L4_0 (n:Nat) (x0:List NT) (x1:List NT) (x2:Int):at76 n (.head 4) [0] (sh76_L4 x0 x1 x2)=none:=by kernel_rfl
theorem e76_L4 (n:Nat) (m4:Nat) (x0:List NT) (x1:List NT) (x2:Int):at76 n (.head 4) [m4 + 1] (sh76_L4 x0 x1 x2)=st76_L4 n (fun x0 x1 x2=>at76 n (.head 4) [m4] (sh76_L4 x0 x1 x2)) x0 x1 x2:=by kernel_rfl
noncomputable def p76_L4 (n:Nat):Nat→(List NT)→(List NT)→Int→Option R76
 | 0,_,_,_=>none
 | m + 1,x0,x1,x2=>st76_L4 n (p76_L4 n m) x0 x1 x2
noncomputable def p76 (n:Nat) (a:List NT) (b:List NT):Option R76:=st76_top n (p76_L4 n n) a b
theorem t76_L4 (n:Nat):∀ (m4:Nat) (x0:List NT) (x1:List NT) (x2:Int),at76 n (.head 4) [m4] (sh76_L4 x0 x1 x2)=p76_L4 n m4 x0 x1 x2:=by
 intro m
 induction m with
 | zero=>intros; rw [e76_L4_0]; rfl
 | succ m ih =>
  intros
  rw [e76_L4]
  try simp only [ih]
  rfl
theorem F76_eq (n:Nat) (a:List NT) (b:List NT):runF TT G76 an76 Try.f76 c76 ps76 rs76 n (a,b,())=p76 n a b:=by
 rw [e76_top]
 simp only [t76_L4]
 try rfl
noncomputable def q76 (n:Nat) (x:argsD ps76):Option R76:=p76 n x.1 x.2.1
noncomputable def Sm76:Sm:=⟨ps76,rs76,false,q76⟩
theorem holds76 (hg:GamOK Try.prog G76):Holds Try.prog 76 Sm76:=by
 have:=h0_76 hg
 have e:(runF TT G76 an76 Try.f76 c76 ps76 rs76)=q76:=by
  funext n x
  exact F76_eq n x.1 x.2.1
 rw [e] at this
 exact this
theorem gam76:GamOK Try.prog G76:=by
 intro f s h
 unfold G76 at h
 split at h
 ·injection h with h; subst h; exact ⟨⟨Try.f108,c108,Try.func108,by kernel_rfl,by decide +kernel⟩,hh108⟩
 ·cases h
theorem hh76:Holds Try.prog 76 Sm76:=holds76 gam76
end Go.Proofs.Ythhopbicmaipgaa.Rx.S

namespace Go.Proofs.Ythhopbicmaipgaa.Rx.S
open Go Go.RowKit Go.Proofs
set_option maxRecDepth 100000
noncomputable def c25:Code:=(Try.f25.body.getD .skip)
def an25:An:=⟨fun _=>⟨[],[]⟩,fun _ _=>none⟩
abbrev ps25:List PK:=[.val tFs true,.val tFs true]
abbrev rs25:List RK:=[.val .bool false]
abbrev R25:=retsD rs25 × outsD ps25
noncomputable def G25:Gam:=fun f=>match f with | 76=>some Sm76 | _=>none
theorem h0_25 (hg:GamOK Try.prog G25):Holds Try.prog 25 ⟨ps25,rs25,false,runF TT G25 an25 Try.f25 c25 ps25 rs25⟩:=holds_of tt_ok hg mixed Try.func25 (by kernel_rfl) (by rfl) (by decide +kernel)
noncomputable def st25_top (n:Nat) (a:List NT) (b:List NT):Option R25 :=
 (q76 n (a,b,())).bind fun r0=>cond (!r0.1.1) (some ((false,()),())) (some ((true,()),()))
theorem e25_top (n:Nat) (a:List NT) (b:List NT):runF TT G25 an25 Try.f25 c25 ps25 rs25 n (a,b,())=st25_top n a b:=by kernel_rfl
noncomputable def p25 (n:Nat) (a:List NT) (b:List NT):Option R25:=st25_top n a b
theorem F25_eq (n:Nat) (a:List NT) (b:List NT):runF TT G25 an25 Try.f25 c25 ps25 rs25 n (a,b,())=p25 n a b:=by
 rw [e25_top]
 skip
 try rfl
noncomputable def q25 (n:Nat) (x:argsD ps25):Option R25:=p25 n x.1 x.2.1
noncomputable def Sm25:Sm:=⟨ps25,rs25,false,q25⟩
theorem holds25 (hg:GamOK Try.prog G25):Holds Try.prog 25 Sm25:=by
 have:=h0_25 hg
 have e:(runF TT G25 an25 Try.f25 c25 ps25 rs25)=q25:=by
  funext n x
  exact F25_eq n x.1 x.2.1
 rw [e] at this
 exact this
theorem gam25:GamOK Try.prog G25:=by
 intro f s h
 unfold G25 at h
 split at h
 ·injection h with h; subst h; exact ⟨⟨Try.f76,c76,Try.func76,by kernel_rfl,by decide +kernel⟩,hh76⟩
 ·cases h
theorem hh25:Holds Try.prog 25 Sm25:=holds25 gam25
end Go.Proofs.Ythhopbicmaipgaa.Rx.S

namespace Go.Proofs.Ythhopbicmaipgaa.Rx.S
open Go Go.RowKit Go.Proofs
set_option maxRecDepth 100000
noncomputable def c109:Code:=(Try.f109.body.getD .skip)
def an109:An:=⟨fun r=>match r with | 4=>⟨[0,3],[]⟩ | _=>⟨[],[]⟩,fun _ _=>none⟩
abbrev ps109:List PK:=[.val i64 false]
abbrev rs109:List RK:=[.val .str false]
abbrev R109:=retsD rs109 × outsD ps109
noncomputable def G109:Gam:=fun _=>none
theorem h0_109 (hg:GamOK Try.prog G109):Holds Try.prog 109 ⟨ps109,rs109,false,runF TT G109 an109 Try.f109 c109 ps109 rs109⟩:=holds_of tt_ok hg mixed Try.func109 (by kernel_rfl) (by rfl) (by decide +kernel)
noncomputable def at109:Nat→Pt→List Nat→St→Option R109:=atF TT G109 an109 Try.f109 c109 _ _
def sh109_L4 (x0:Int) (x1:ByteArray):St:=(St.mk ((AV.one (SV.int (Go.IntKind.i64) x0)) :: (AV.undef :: (AV.undef :: ((AV.one (SV.str x1)) :: (AV.undef :: (AV.undef :: (AV.undef :: (AV.undef :: (AV.undef :: (AV.undef :: (AV.undef :: (AV.undef :: (AV.undef :: (AV.undef :: (AV.undef :: (AV.undef :: (AV.undef :: (AV.undef :: (AV.undef :: (AV.undef :: [])))))))))))))))))))) [])
noncomputable def st109_top (n:Nat) (lL4:Int→ByteArray→Option R109) (a:Int):Option R109 :=
 cond (decide (a≤(0:Int))) (some ((ByteArray.mk #[(109:UInt8),(48:UInt8)],()),())) (lL4 (a) (ByteArray.mk #[]))
noncomputable def st109_L4 (n:Nat) (lL4:Int→ByteArray→Option R109) (x0:Int) (x1:ByteArray):Option R109 :=
 cond (decide ((0:Int) < x0)) (cond (decide ((List.foldl (fun r n=>r.push (UInt8.ofNat n.toNat)) ByteArray.empty [Go.IntKind.u8.wrap (Go.IntKind.i64.wrap ((48:Int) + x0.tmod (10:Int)))]).size + x1.size≤(9223372036854775807:Nat))) (lL4 (Go.IntKind.i64.wrap (x0.tdiv (10:Int))) (List.foldl (fun r n=>r.push (UInt8.ofNat n.toNat)) ByteArray.empty [Go.IntKind.u8.wrap (Go.IntKind.i64.wrap ((48:Int) + x0.tmod (10:Int)))] ++ x1)) (none)) (cond (decide ((ByteArray.mk #[(109:UInt8)]).size + x1.size≤(9223372036854775807:Nat))) (some ((ByteArray.mk #[(109:UInt8)] ++ x1,()),())) (none))
theorem e109_top (n:Nat) (a:Int):runF TT G109 an109 Try.f109 c109 ps109 rs109 n (a,())=st109_top n (fun x0 x1=>at109 n (.head 4) [n] (sh109_L4 x0 x1)) a:=by kernel_rfl
theorem e109_L4_0 (n:Nat) (x0:Int) (x1:ByteArray):at109 n (.head 4) [0] (sh109_L4 x0 x1)=none:=by kernel_rfl
theorem e109_L4 (n:Nat) (m4:Nat) (x0:Int) (x1:ByteArray):at109 n (.head 4) [m4 + 1] (sh109_L4 x0 x1)=st109_L4 n (fun x0 x1=>at109 n (.head 4) [m4] (sh109_L4 x0 x1)) x0 x1:=by kernel_rfl
noncomputable def p109_L4 (n:Nat):Nat→Int→ByteArray→Option R109
 | 0,_,_=>none
 | m + 1,x0,x1=>st109_L4 n (p109_L4 n m) x0 x1
noncomputable def p109 (n:Nat) (a:Int):Option R109:=st109_top n (p109_L4 n n) a
theorem t109_L4 (n:Nat):∀ (m4:Nat) (x0:Int) (x1:ByteArray),at109 n (.head 4) [m4] (sh109_L4 x0 x1)=p109_L4 n m4 x0 x1:=by
 intro m
 induction m with
 | zero=>intros; rw [e109_L4_0]; rfl
 | succ m ih =>
  intros
  rw [e109_L4]
  try simp only [ih]
  rfl
theorem F109_eq (n:Nat) (a:Int):runF TT G109 an109 Try.f109 c109 ps109 rs109 n (a,())=p109 n a:=by
 rw [e109_top]
 simp only [t109_L4]
 try rfl
noncomputable def q109 (n:Nat) (x:argsD ps109):Option R109:=p109 n x.1
noncomputable def Sm109:Sm:=⟨ps109,rs109,false,q109⟩
theorem holds109 (hg:GamOK Try.prog G109):Holds Try.prog 109 Sm109:=by
 have:=h0_109 hg
 have e:(runF TT G109 an109 Try.f109 c109 ps109 rs109)=q109:=by
  funext n x
  exact F109_eq n x.1
 rw [e] at this
 exact this
theorem gam109:GamOK Try.prog G109:=fun _ _ h=>by cases h
theorem hh109:Holds Try.prog 109 Sm109:=holds109 gam109
end Go.Proofs.Ythhopbicmaipgaa.Rx.S

namespace Go.Proofs.Ythhopbicmaipgaa.Rx.S
open Go Go.RowKit Go.Proofs
set_option maxRecDepth 100000
noncomputable def c110:Code:=(Try.f110.body.getD .skip)
def an110:An:=⟨fun r=>match r with | 2=>⟨[0,1,5],[]⟩ | _=>⟨[],[]⟩,fun _ _=>none⟩
abbrev ps110:List PK:=[.io (.row 95 tEn) false,.val i64 false]
abbrev rs110:List RK:=[.val i64 false]
abbrev R110:=retsD rs110 × outsD ps110
noncomputable def G110:Gam:=fun f=>match f with | 109=>some Sm109 | _=>none
theorem h0_110 (hg:GamOK Try.prog G110):Holds Try.prog 110 ⟨ps110,rs110,false,runF TT G110 an110 Try.f110 c110 ps110 rs110⟩:=holds_of tt_ok hg mixed Try.func110 (by kernel_rfl) (by rfl) (by decide +kernel)
noncomputable def at110:Nat→Pt→List Nat→St→Option R110:=atF TT G110 an110 Try.f110 c110 _ _
def sh110_L2 (x0:Int) (x1:Int) (x2:List (ByteArray × Int)):St:=(St.mk ((AV.par 0 false ((SV.ref 1000000 0 [] Option.none) :: [])) :: ((AV.one (SV.int (Go.IntKind.i64) x0)) :: (AV.undef :: (AV.undef :: (AV.undef :: ((AV.one (SV.int (Go.IntKind.i64) x1)) :: (AV.undef :: (AV.undef :: (AV.undef :: (AV.undef :: (AV.undef :: (AV.undef :: (AV.undef :: (AV.undef :: (AV.undef :: (AV.undef :: (AV.undef :: (AV.undef :: (AV.undef :: (AV.undef :: (AV.undef :: (AV.undef :: (AV.undef :: (AV.undef :: (AV.undef :: (AV.undef :: (AV.undef :: (AV.undef :: [])))))))))))))))))))))))))))) ((1000000,(Ent.row (⟨95,Ty.str.pair (Ty.int Go.IntKind.i64),x2⟩:Rw) 0 Option.none)) :: []))
noncomputable def st110_top (n:Nat) (lL2:Int→Int→(List (ByteArray × Int))→Option R110) (a:List (ByteArray × Int)) (b:Int):Option R110 :=
 lL2 (b) ((0:Int)) (a)
noncomputable def st110_L2 (n:Nat) (lL2:Int→Int→(List (ByteArray × Int))→Option R110) (x0:Int) (x1:Int) (x2:List (ByteArray × Int)):Option R110 :=
 cond (decide (x1 < (↑x2.length:Int))) ((q109 n (x0,())).bind fun r1=>cond (decide ((0:Int)≤x1)) (cond (decide (x1 < (↑x2.length:Int))) (cond (decide ((0:Int)≤x1)) (cond (decide (x1 < (↑(x2.set x1.toNat (r1.1.1,(x2.getD x1.toNat (ByteArray.empty,(0:Int))).2)).length:Int))) (lL2 (Go.IntKind.i64.wrap (Go.IntKind.i64.wrap (x0 + (1:Int)) + (1:Int))) (Go.IntKind.i64.wrap (x1 + (1:Int))) ((x2.set x1.toNat (r1.1.1,(x2.getD x1.toNat (ByteArray.empty,(0:Int))).2)).set x1.toNat (((x2.set x1.toNat (r1.1.1,(x2.getD x1.toNat (ByteArray.empty,(0:Int))).2)).getD x1.toNat (ByteArray.empty,(0:Int))).1,Go.IntKind.i64.wrap (x0 + (1:Int))))) (none)) (none)) (none)) (none)) (some ((x0,()),(x2,())))
theorem e110_top (n:Nat) (a:List (ByteArray × Int)) (b:Int):runF TT G110 an110 Try.f110 c110 ps110 rs110 n (a,b,())=st110_top n (fun x0 x1 x2=>at110 n (.head 2) [n] (sh110_L2 x0 x1 x2)) a b:=by kernel_rfl
theorem e110_L2_0 (n:Nat) (x0:Int) (x1:Int) (x2:List (ByteArray × Int)):at110 n (.head 2) [0] (sh110_L2 x0 x1 x2)=none:=by kernel_rfl
theorem e110_L2 (n:Nat) (m2:Nat) (x0:Int) (x1:Int) (x2:List (ByteArray × Int)):at110 n (.head 2) [m2 + 1] (sh110_L2 x0 x1 x2)=st110_L2 n (fun x0 x1 x2=>at110 n (.head 2) [m2] (sh110_L2 x0 x1 x2)) x0 x1 x2:=by kernel_rfl
noncomputable def p110_L2 (n:Nat):Nat→Int→Int→(List (ByteArray × Int))→Option R110
 | 0,_,_,_=>none
 | m + 1,x0,x1,x2=>st110_L2 n (p110_L2 n m) x0 x1 x2
noncomputable def p110 (n:Nat) (a:List (ByteArray × Int)) (b:Int):Option R110:=st110_top n (p110_L2 n n) a b
theorem t110_L2 (n:Nat):∀ (m2:Nat) (x0:Int) (x1:Int) (x2:List (ByteArray × Int)),at110 n (.head 2) [m2] (sh110_L2 x0 x1 x2)=p110_L2 n m2 x0 x1 x2:=by
 intro m
 induction m with
 | zero=>intros; rw [e110_L2_0]; rfl
 | succ m ih =>
  intros
  rw [e110_L2]
  try simp only [ih]
  rfl
theorem F110_eq (n:Nat) (a:List (ByteArray × Int)) (b:Int):runF TT G110 an110 Try.f110 c110 ps110 rs110 n (a,b,())=p110 n a b:=by
 rw [e110_top]
 simp only [t110_L2]
 try rfl
noncomputable def q110 (n:Nat) (x:argsD ps110):Option R110:=p110 n x.1 x.2.1
noncomputable def Sm110:Sm:=⟨ps110,rs110,false,q110⟩
theorem holds110 (hg:GamOK Try.prog G110):Holds Try.prog 110 Sm110:=by
 have:=h0_110 hg
 have e:(runF TT G110 an110 Try.f110 c110 ps110 rs110)=q110:=by
  funext n x
  exact F110_eq n x.1 x.2.1
 rw [e] at this
 exact this
theorem gam110:GamOK Try.prog G110:=by
 intro f s h
 unfold G110 at h
 split at h
 ·injection h with h; subst h; exact ⟨⟨Try.f109,c109,Try.func109,by kernel_rfl,by decide +kernel⟩,hh109⟩
 ·cases h
theorem hh110:Holds Try.prog 110 Sm110:=holds110 gam110
end Go.Proofs.Ythhopbicmaipgaa.Rx.S

namespace Go.Proofs.Ythhopbicmaipgaa.Rx.S
open Go Go.RowKit Go.Proofs
set_option maxRecDepth 100000
noncomputable def c78:Code:=(Try.f78.body.getD .skip)
def an78:An:=⟨fun r=>match r with | 2=>⟨[0,1,5],[]⟩ | _=>⟨[],[]⟩,fun r i=>match r,i with | 6,0=>some ⟨[0,1,5],[]⟩ | 8,0=>some ⟨[0,1,5],[]⟩ | 10,0=>some ⟨[0,1,5],[]⟩ | 12,0=>some ⟨[0,1,5],[]⟩ | 14,0=>some ⟨[0,1,5],[]⟩ | 16,0=>some ⟨[0,1,5],[]⟩ | 18,0=>some ⟨[0,1,5],[]⟩ | 20,0=>some ⟨[0,1,5],[]⟩ | _,_=>none⟩
abbrev ps78:List PK:=[.io tFs false,.val i64 false]
abbrev rs78:List RK:=[.val i64 false]
abbrev R78:=retsD rs78 × outsD ps78
noncomputable def G78:Gam:=fun f=>match f with | 109=>some Sm109 | 110=>some Sm110 | _=>none
theorem ateq78 {β:Type} (t:Nat) (f:St→Option β) (S:St):at_ t f S=f S:=rfl
theorem h0_78 (hg:GamOK Try.prog G78):Holds Try.prog 78 ⟨ps78,rs78,false,runF TT G78 an78 Try.f78 c78 ps78 rs78⟩:=holds_of tt_ok hg mixed Try.func78 (by kernel_rfl) (by rfl) (by decide +kernel)
noncomputable def at78:Nat→Pt→List Nat→St→Option R78:=atF TT G78 an78 Try.f78 c78 _ _
def sh78_C20_0 (x0:Int) (x1:Int) (x2:List NT):St:=(St.mk ((AV.par 0 false ((SV.ref 1000000 0 [] Option.none) :: [])) :: ((AV.one (SV.int (Go.IntKind.i64) x0)) :: (AV.undef :: (AV.undef :: (AV.undef :: ((AV.one (SV.int (Go.IntKind.i64) x1)) :: (AV.undef :: (AV.undef :: (AV.undef :: (AV.undef :: (AV.undef :: (AV.undef :: (AV.undef :: (AV.undef :: (AV.undef :: (AV.undef :: (AV.undef :: (AV.undef :: (AV.undef :: (AV.undef :: (AV.undef :: (AV.undef :: (AV.undef :: (AV.undef :: (AV.undef :: (AV.undef :: (AV.undef :: (AV.undef :: (AV.undef :: (AV.undef :: (AV.undef :: (AV.undef :: (AV.undef :: (AV.undef :: (AV.undef :: (AV.undef :: (AV.undef :: (AV.undef :: (AV.undef :: (AV.undef :: (AV.undef :: (AV.undef :: (AV.undef :: (AV.undef :: (AV.undef :: (AV.undef :: (AV.undef :: (AV.undef :: (AV.undef :: (AV.undef :: (AV.undef :: (AV.undef :: (AV.undef :: (AV.undef :: (AV.undef :: (AV.undef :: (AV.undef :: (AV.undef :: (AV.undef :: (AV.undef :: (AV.undef :: (AV.undef :: (AV.undef :: (AV.undef :: (AV.undef :: (AV.undef :: (AV.undef :: (AV.undef :: (AV.undef :: (AV.undef :: (AV.undef :: (AV.undef :: (AV.undef :: (AV.undef :: (AV.undef :: (AV.undef :: (AV.undef :: (AV.undef :: (AV.undef :: []))))))))))))))))))))))))))))))))))))))))))))))))))))))))))))))))))))))))))))))) ((1000000,(Ent.row (⟨39,(Ty.int Go.IntKind.i64).pair ((Ty.int Go.IntKind.i64).pair ((Ty.int Go.IntKind.i64).pair ((Ty.int Go.IntKind.i64).pair ((Ty.int Go.IntKind.i64).pair ((Ty.int Go.IntKind.i64).pair (Ty.bool.pair (Ty.str.pair (Ty.row (nat_lit 95) (Ty.str.pair (Ty.int Go.IntKind.i64)))))))))),x2⟩:Rw) 0 Option.none)) :: []))
def sh78_C18_0 (x0:Int) (x1:Int) (x2:List NT):St:=(St.mk ((AV.par 0 false ((SV.ref 1000000 0 [] Option.none) :: [])) :: ((AV.one (SV.int (Go.IntKind.i64) x0)) :: (AV.undef :: (AV.undef :: (AV.undef :: ((AV.one (SV.int (Go.IntKind.i64) x1)) :: (AV.undef :: (AV.undef :: (AV.undef :: (AV.undef :: (AV.undef :: (AV.undef :: (AV.undef :: (AV.undef :: (AV.undef :: (AV.undef :: (AV.undef :: (AV.undef :: (AV.undef :: (AV.undef :: (AV.undef :: (AV.undef :: (AV.undef :: (AV.undef :: (AV.undef :: (AV.undef :: (AV.undef :: (AV.undef :: (AV.undef :: (AV.undef :: (AV.undef :: (AV.undef :: (AV.undef :: (AV.undef :: (AV.undef :: (AV.undef :: (AV.undef :: (AV.undef :: (AV.undef :: (AV.undef :: (AV.undef :: (AV.undef :: (AV.undef :: (AV.undef :: (AV.undef :: (AV.undef :: (AV.undef :: (AV.undef :: (AV.undef :: (AV.undef :: (AV.undef :: (AV.undef :: (AV.undef :: (AV.undef :: (AV.undef :: (AV.undef :: (AV.undef :: (AV.undef :: (AV.undef :: (AV.undef :: (AV.undef :: (AV.undef :: (AV.undef :: (AV.undef :: (AV.undef :: (AV.undef :: (AV.undef :: (AV.undef :: (AV.undef :: (AV.undef :: (AV.undef :: (AV.undef :: (AV.undef :: (AV.undef :: (AV.undef :: (AV.undef :: (AV.undef :: (AV.undef :: (AV.undef :: []))))))))))))))))))))))))))))))))))))))))))))))))))))))))))))))))))))))))))))))) ((1000000,(Ent.row (⟨39,(Ty.int Go.IntKind.i64).pair ((Ty.int Go.IntKind.i64).pair ((Ty.int Go.IntKind.i64).pair ((Ty.int Go.IntKind.i64).pair ((Ty.int Go.IntKind.i64).pair ((Ty.int Go.IntKind.i64).pair (Ty.bool.pair (Ty.str.pair (Ty.row (nat_lit 95) (Ty.str.pair (Ty.int Go.IntKind.i64)))))))))),x2⟩:Rw) 0 Option.none)) :: []))
def sh78_C16_0 (x0:Int) (x1:Int) (x2:List NT):St:=(St.mk ((AV.par 0 false ((SV.ref 1000000 0 [] Option.none) :: [])) :: ((AV.one (SV.int (Go.IntKind.i64) x0)) :: (AV.undef :: (AV.undef :: (AV.undef :: ((AV.one (SV.int (Go.IntKind.i64) x1)) :: (AV.undef :: (AV.undef :: (AV.undef :: (AV.undef :: (AV.undef :: (AV.undef :: (AV.undef :: (AV.undef :: (AV.undef :: (AV.undef :: (AV.undef :: (AV.undef :: (AV.undef :: (AV.undef :: (AV.undef :: (AV.undef :: (AV.undef :: (AV.undef :: (AV.undef :: (AV.undef :: (AV.undef :: (AV.undef :: (AV.undef :: (AV.undef :: (AV.undef :: (AV.undef :: (AV.undef :: (AV.undef :: (AV.undef :: (AV.undef :: (AV.undef :: (AV.undef :: (AV.undef :: (AV.undef :: (AV.undef :: (AV.undef :: (AV.undef :: (AV.undef :: (AV.undef :: (AV.undef :: (AV.undef :: (AV.undef :: (AV.undef :: (AV.undef :: (AV.undef :: (AV.undef :: (AV.undef :: (AV.undef :: (AV.undef :: (AV.undef :: (AV.undef :: (AV.undef :: (AV.undef :: (AV.undef :: (AV.undef :: (AV.undef :: (AV.undef :: (AV.undef :: (AV.undef :: (AV.undef :: (AV.undef :: (AV.undef :: (AV.undef :: (AV.undef :: (AV.undef :: (AV.undef :: (AV.undef :: (AV.undef :: (AV.undef :: (AV.undef :: (AV.undef :: (AV.undef :: (AV.undef :: []))))))))))))))))))))))))))))))))))))))))))))))))))))))))))))))))))))))))))))))) ((1000000,(Ent.row (⟨39,(Ty.int Go.IntKind.i64).pair ((Ty.int Go.IntKind.i64).pair ((Ty.int Go.IntKind.i64).pair ((Ty.int Go.IntKind.i64).pair ((Ty.int Go.IntKind.i64).pair ((Ty.int Go.IntKind.i64).pair (Ty.bool.pair (Ty.str.pair (Ty.row (nat_lit 95) (Ty.str.pair (Ty.int Go.IntKind.i64)))))))))),x2⟩:Rw) 0 Option.none)) :: []))
def sh78_C14_0 (x0:Int) (x1:Int) (x2:List NT):St:=(St.mk ((AV.par 0 false ((SV.ref 1000000 0 [] Option.none) :: [])) :: ((AV.one (SV.int (Go.IntKind.i64) x0)) :: (AV.undef :: (AV.undef :: (AV.undef :: ((AV.one (SV.int (Go.IntKind.i64) x1)) :: (AV.undef :: (AV.undef :: (AV.undef :: (AV.undef :: (AV.undef :: (AV.undef :: (AV.undef :: (AV.undef :: (AV.undef :: (AV.undef :: (AV.undef :: (AV.undef :: (AV.undef :: (AV.undef :: (AV.undef :: (AV.undef :: (AV.undef :: (AV.undef :: (AV.undef :: (AV.undef :: (AV.undef :: (AV.undef :: (AV.undef :: (AV.undef :: (AV.undef :: (AV.undef :: (AV.undef :: (AV.undef :: (AV.undef :: (AV.undef :: (AV.undef :: (AV.undef :: (AV.undef :: (AV.undef :: (AV.undef :: (AV.undef :: (AV.undef :: (AV.undef :: (AV.undef :: (AV.undef :: (AV.undef :: (AV.undef :: (AV.undef :: (AV.undef :: (AV.undef :: (AV.undef :: (AV.undef :: (AV.undef :: (AV.undef :: (AV.undef :: (AV.undef :: (AV.undef :: (AV.undef :: (AV.undef :: (AV.undef :: (AV.undef :: (AV.undef :: (AV.undef :: (AV.undef :: (AV.undef :: (AV.undef :: (AV.undef :: (AV.undef :: (AV.undef :: (AV.undef :: (AV.undef :: (AV.undef :: (AV.undef :: (AV.undef :: (AV.undef :: (AV.undef :: (AV.undef :: (AV.undef :: []))))))))))))))))))))))))))))))))))))))))))))))))))))))))))))))))))))))))))))))) ((1000000,(Ent.row (⟨39,(Ty.int Go.IntKind.i64).pair ((Ty.int Go.IntKind.i64).pair ((Ty.int Go.IntKind.i64).pair ((Ty.int Go.IntKind.i64).pair ((Ty.int Go.IntKind.i64).pair ((Ty.int Go.IntKind.i64).pair (Ty.bool.pair (Ty.str.pair (Ty.row (nat_lit 95) (Ty.str.pair (Ty.int Go.IntKind.i64)))))))))),x2⟩:Rw) 0 Option.none)) :: []))
def sh78_C12_0 (x0:Int) (x1:Int) (x2:List NT):St:=(St.mk ((AV.par 0 false ((SV.ref 1000000 0 [] Option.none) :: [])) :: ((AV.one (SV.int (Go.IntKind.i64) x0)) :: (AV.undef :: (AV.undef :: (AV.undef :: ((AV.one (SV.int (Go.IntKind.i64) x1)) :: (AV.undef :: (AV.undef :: (AV.undef :: (AV.undef :: (AV.undef :: (AV.undef :: (AV.undef :: (AV.undef :: (AV.undef :: (AV.undef :: (AV.undef :: (AV.undef :: (AV.undef :: (AV.undef :: (AV.undef :: (AV.undef :: (AV.undef :: (AV.undef :: (AV.undef :: (AV.undef :: (AV.undef :: (AV.undef :: (AV.undef :: (AV.undef :: (AV.undef :: (AV.undef :: (AV.undef :: (AV.undef :: (AV.undef :: (AV.undef :: (AV.undef :: (AV.undef :: (AV.undef :: (AV.undef :: (AV.undef :: (AV.undef :: (AV.undef :: (AV.undef :: (AV.undef :: (AV.undef :: (AV.undef :: (AV.undef :: (AV.undef :: (AV.undef :: (AV.undef :: (AV.undef :: (AV.undef :: (AV.undef :: (AV.undef :: (AV.undef :: (AV.undef :: (AV.undef :: (AV.undef :: (AV.undef :: (AV.undef :: (AV.undef :: (AV.undef :: (AV.undef :: (AV.undef :: (AV.undef :: (AV.undef :: (AV.undef :: (AV.undef :: (AV.undef :: (AV.undef :: (AV.undef :: (AV.undef :: (AV.undef :: (AV.undef :: (AV.undef :: (AV.undef :: (AV.undef :: (AV.undef :: []))))))))))))))))))))))))))))))))))))))))))))))))))))))))))))))))))))))))))))))) ((1000000,(Ent.row (⟨39,(Ty.int Go.IntKind.i64).pair ((Ty.int Go.IntKind.i64).pair ((Ty.int Go.IntKind.i64).pair ((Ty.int Go.IntKind.i64).pair ((Ty.int Go.IntKind.i64).pair ((Ty.int Go.IntKind.i64).pair (Ty.bool.pair (Ty.str.pair (Ty.row (nat_lit 95) (Ty.str.pair (Ty.int Go.IntKind.i64)))))))))),x2⟩:Rw) 0 Option.none)) :: []))
def sh78_C10_0 (x0:Int) (x1:Int) (x2:List NT):St:=(St.mk ((AV.par 0 false ((SV.ref 1000000 0 [] Option.none) :: [])) :: ((AV.one (SV.int (Go.IntKind.i64) x0)) :: (AV.undef :: (AV.undef :: (AV.undef :: ((AV.one (SV.int (Go.IntKind.i64) x1)) :: (AV.undef :: (AV.undef :: (AV.undef :: (AV.undef :: (AV.undef :: (AV.undef :: (AV.undef :: (AV.undef :: (AV.undef :: (AV.undef :: (AV.undef :: (AV.undef :: (AV.undef :: (AV.undef :: (AV.undef :: (AV.undef :: (AV.undef :: (AV.undef :: (AV.undef :: (AV.undef :: (AV.undef :: (AV.undef :: (AV.undef :: (AV.undef :: (AV.undef :: (AV.undef :: (AV.undef :: (AV.undef :: (AV.undef :: (AV.undef :: (AV.undef :: (AV.undef :: (AV.undef :: (AV.undef :: (AV.undef :: (AV.undef :: (AV.undef :: (AV.undef :: (AV.undef :: (AV.undef :: (AV.undef :: (AV.undef :: (AV.undef :: (AV.undef :: (AV.undef :: (AV.undef :: (AV.undef :: (AV.undef :: (AV.undef :: (AV.undef :: (AV.undef :: (AV.undef :: (AV.undef :: (AV.undef :: (AV.undef :: (AV.undef :: (AV.undef :: (AV.undef :: (AV.undef :: (AV.undef :: (AV.undef :: (AV.undef :: (AV.undef :: (AV.undef :: (AV.undef :: (AV.undef :: (AV.undef :: (AV.undef :: (AV.undef :: (AV.undef :: (AV.undef :: (AV.undef :: (AV.undef :: []))))))))))))))))))))))))))))))))))))))))))))))))))))))))))))))))))))))))))))))) ((1000000,(Ent.row (⟨39,(Ty.int Go.IntKind.i64).pair ((Ty.int Go.IntKind.i64).pair ((Ty.int Go.IntKind.i64).pair ((Ty.int Go.IntKind.i64).pair ((Ty.int Go.IntKind.i64).pair ((Ty.int Go.IntKind.i64).pair (Ty.bool.pair (Ty.str.pair (Ty.row (nat_lit 95) (Ty.str.pair (Ty.int Go.IntKind.i64)))))))))),x2⟩:Rw) 0 Option.none)) :: []))
def sh78_C8_0 (x0:Int) (x1:Int) (x2:List NT):St:=(St.mk ((AV.par 0 false ((SV.ref 1000000 0 [] Option.none) :: [])) :: ((AV.one (SV.int (Go.IntKind.i64) x0)) :: (AV.undef :: (AV.undef :: (AV.undef :: ((AV.one (SV.int (Go.IntKind.i64) x1)) :: (AV.undef :: (AV.undef :: (AV.undef :: (AV.undef :: (AV.undef :: (AV.undef :: (AV.undef :: (AV.undef :: (AV.undef :: (AV.undef :: (AV.undef :: (AV.undef :: (AV.undef :: (AV.undef :: (AV.undef :: (AV.undef :: (AV.undef :: (AV.undef :: (AV.undef :: (AV.undef :: (AV.undef :: (AV.undef :: (AV.undef :: (AV.undef :: (AV.undef :: (AV.undef :: (AV.undef :: (AV.undef :: (AV.undef :: (AV.undef :: (AV.undef :: (AV.undef :: (AV.undef :: (AV.undef :: (AV.undef :: (AV.undef :: (AV.undef :: (AV.undef :: (AV.undef :: (AV.undef :: (AV.undef :: (AV.undef :: (AV.undef :: (AV.undef :: (AV.undef :: (AV.undef :: (AV.undef :: (AV.undef :: (AV.undef :: (AV.undef :: (AV.undef :: (AV.undef :: (AV.undef :: (AV.undef :: (AV.undef :: (AV.undef :: (AV.undef :: (AV.undef :: (AV.undef :: (AV.undef :: (AV.undef :: (AV.undef :: (AV.undef :: (AV.undef :: (AV.undef :: (AV.undef :: (AV.undef :: (AV.undef :: (AV.undef :: (AV.undef :: (AV.undef :: (AV.undef :: (AV.undef :: []))))))))))))))))))))))))))))))))))))))))))))))))))))))))))))))))))))))))))))))) ((1000000,(Ent.row (⟨39,(Ty.int Go.IntKind.i64).pair ((Ty.int Go.IntKind.i64).pair ((Ty.int Go.IntKind.i64).pair ((Ty.int Go.IntKind.i64).pair ((Ty.int Go.IntKind.i64).pair ((Ty.int Go.IntKind.i64).pair (Ty.bool.pair (Ty.str.pair (Ty.row (nat_lit 95) (Ty.str.pair (Ty.int Go.IntKind.i64)))))))))),x2⟩:Rw) 0 Option.none)) :: []))
def sh78_C6_0 (x0:Int) (x1:Int) (x2:List NT):St:=(St.mk ((AV.par 0 false ((SV.ref 1000000 0 [] Option.none) :: [])) :: ((AV.one (SV.int (Go.IntKind.i64) x0)) :: (AV.undef :: (AV.undef :: (AV.undef :: ((AV.one (SV.int (Go.IntKind.i64) x1)) :: (AV.undef :: (AV.undef :: (AV.undef :: (AV.undef :: (AV.undef :: (AV.undef :: (AV.undef :: (AV.undef :: (AV.undef :: (AV.undef :: (AV.undef :: (AV.undef :: (AV.undef :: (AV.undef :: (AV.undef :: (AV.undef :: (AV.undef :: (AV.undef :: (AV.undef :: (AV.undef :: (AV.undef :: (AV.undef :: (AV.undef :: (AV.undef :: (AV.undef :: (AV.undef :: (AV.undef :: (AV.undef :: (AV.undef :: (AV.undef :: (AV.undef :: (AV.undef :: (AV.undef :: (AV.undef :: (AV.undef :: (AV.undef :: (AV.undef :: (AV.undef :: (AV.undef :: (AV.undef :: (AV.undef :: (AV.undef :: (AV.undef :: (AV.undef :: (AV.undef :: (AV.undef :: (AV.undef :: (AV.undef :: (AV.undef :: (AV.undef :: (AV.undef :: (AV.undef :: (AV.undef :: (AV.undef :: (AV.undef :: (AV.undef :: (AV.undef :: (AV.undef :: (AV.undef :: (AV.undef :: (AV.undef :: (AV.undef :: (AV.undef :: (AV.undef :: (AV.undef :: (AV.undef :: (AV.undef :: (AV.undef :: (AV.undef :: (AV.undef :: (AV.undef :: (AV.undef :: (AV.undef :: []))))))))))))))))))))))))))))))))))))))))))))))))))))))))))))))))))))))))))))))) ((1000000,(Ent.row (⟨39,(Ty.int Go.IntKind.i64).pair ((Ty.int Go.IntKind.i64).pair ((Ty.int Go.IntKind.i64).pair ((Ty.int Go.IntKind.i64).pair ((Ty.int Go.IntKind.i64).pair ((Ty.int Go.IntKind.i64).pair (Ty.bool.pair (Ty.str.pair (Ty.row (nat_lit 95) (Ty.str.pair (Ty.int Go.IntKind.i64)))))))))),x2⟩:Rw) 0 Option.none)) :: []))
def sh78_L2 (x0:Int) (x1:Int) (x2:List NT):St:=(St.mk ((AV.par 0 false ((SV.ref 1000000 0 [] Option.none) :: [])) :: ((AV.one (SV.int (Go.IntKind.i64) x0)) :: (AV.undef :: (AV.undef :: (AV.undef :: ((AV.one (SV.int (Go.IntKind.i64) x1)) :: (AV.undef :: (AV.undef :: (AV.undef :: (AV.undef :: (AV.undef :: (AV.undef :: (AV.undef :: (AV.undef :: (AV.undef :: (AV.undef :: (AV.undef :: (AV.undef :: (AV.undef :: (AV.undef :: (AV.undef :: (AV.undef :: (AV.undef :: (AV.undef :: (AV.undef :: (AV.undef :: (AV.undef :: (AV.undef :: (AV.undef :: (AV.undef :: (AV.undef :: (AV.undef :: (AV.undef :: (AV.undef :: (AV.undef :: (AV.undef :: (AV.undef :: (AV.undef :: (AV.undef :: (AV.undef :: (AV.undef :: (AV.undef :: (AV.undef :: (AV.undef :: (AV.undef :: (AV.undef :: (AV.undef :: (AV.undef :: (AV.undef :: (AV.undef :: (AV.undef :: (AV.undef :: (AV.undef :: (AV.undef :: (AV.undef :: (AV.undef :: (AV.undef :: (AV.undef :: (AV.undef :: (AV.undef :: (AV.undef :: (AV.undef :: (AV.undef :: (AV.undef :: (AV.undef :: (AV.undef :: (AV.undef :: (AV.undef :: (AV.undef :: (AV.undef :: (AV.undef :: (AV.undef :: (AV.undef :: (AV.undef :: (AV.undef :: (AV.undef :: (AV.undef :: (AV.undef :: (AV.undef :: []))))))))))))))))))))))))))))))))))))))))))))))))))))))))))))))))))))))))))))))) ((1000000,(Ent.row (⟨39,(Ty.int Go.IntKind.i64).pair ((Ty.int Go.IntKind.i64).pair ((Ty.int Go.IntKind.i64).pair ((Ty.int Go.IntKind.i64).pair ((Ty.int Go.IntKind.i64).pair ((Ty.int Go.IntKind.i64).pair (Ty.bool.pair (Ty.str.pair (Ty.row (nat_lit 95) (Ty.str.pair (Ty.int Go.IntKind.i64)))))))))),x2⟩:Rw) 0 Option.none)) :: []))
noncomputable def st78_top (n:Nat) (lL2:Int→Int→(List NT)→Option R78) (a:List NT) (b:Int):Option R78 :=
 lL2 (b) ((0:Int)) (a)
noncomputable def st78_C20_0 (n:Nat) (lL2:Int→Int→(List NT)→Option R78) (x0:Int) (x1:Int) (x2:List NT):Option R78 :=
 cond (decide ((0:Int)≤x1)) (cond (decide (x1 < (↑x2.length:Int))) ((q110 n ((x2.getD x1.toNat ZN).2.2.2.2.2.2.2.2,x0,())).bind fun r10=>lL2 (r10.1.1) (Go.IntKind.i64.wrap (x1 + (1:Int))) (x2.set x1.toNat ((x2.getD x1.toNat ZN).1,(x2.getD x1.toNat ZN).2.1,(x2.getD x1.toNat ZN).2.2.1,(x2.getD x1.toNat ZN).2.2.2.1,(x2.getD x1.toNat ZN).2.2.2.2.1,(x2.getD x1.toNat ZN).2.2.2.2.2.1,(x2.getD x1.toNat ZN).2.2.2.2.2.2.1,(x2.getD x1.toNat ZN).2.2.2.2.2.2.2.1,r10.2.1))) (none)) (none)
noncomputable def st78_C18_0 (n:Nat) (lC20_0:Int→Int→(List NT)→Option R78) (x0:Int) (x1:Int) (x2:List NT):Option R78 :=
 (q109 n (x0,())).bind fun r8=>cond (decide ((0:Int)≤x1)) (cond (decide (x1 < (↑x2.length:Int))) (lC20_0 (Go.IntKind.i64.wrap (x0 + (1:Int))) (x1) (x2.set x1.toNat ((x2.getD x1.toNat ZN).1,(x2.getD x1.toNat ZN).2.1,(x2.getD x1.toNat ZN).2.2.1,(x2.getD x1.toNat ZN).2.2.2.1,(x2.getD x1.toNat ZN).2.2.2.2.1,(x2.getD x1.toNat ZN).2.2.2.2.2.1,(x2.getD x1.toNat ZN).2.2.2.2.2.2.1,r8.1.1,(x2.getD x1.toNat ZN).2.2.2.2.2.2.2.2))) (none)) (none)
noncomputable def st78_C16_0 (n:Nat) (lC18_0:Int→Int→(List NT)→Option R78) (x0:Int) (x1:Int) (x2:List NT):Option R78 :=
 cond (decide ((0:Int)≤x1)) (cond (decide (x1 < (↑x2.length:Int))) (lC18_0 (Go.IntKind.i64.wrap (x0 + (1:Int))) (x1) (x2.set x1.toNat ((x2.getD x1.toNat ZN).1,(x2.getD x1.toNat ZN).2.1,(x2.getD x1.toNat ZN).2.2.1,(x2.getD x1.toNat ZN).2.2.2.1,(x2.getD x1.toNat ZN).2.2.2.2.1,(x2.getD x1.toNat ZN).2.2.2.2.2.1,decide (x0.tmod (3:Int)=(0:Int)),(x2.getD x1.toNat ZN).2.2.2.2.2.2.2))) (none)) (none)
noncomputable def st78_C14_0 (n:Nat) (lC16_0:Int→Int→(List NT)→Option R78) (x0:Int) (x1:Int) (x2:List NT):Option R78 :=
 cond (decide ((0:Int)≤x1)) (cond (decide (x1 < (↑x2.length:Int))) (lC16_0 (Go.IntKind.i64.wrap (x0 + (1:Int))) (x1) (x2.set x1.toNat ((x2.getD x1.toNat ZN).1,(x2.getD x1.toNat ZN).2.1,(x2.getD x1.toNat ZN).2.2.1,(x2.getD x1.toNat ZN).2.2.2.1,(x2.getD x1.toNat ZN).2.2.2.2.1,x0,(x2.getD x1.toNat ZN).2.2.2.2.2.2))) (none)) (none)
noncomputable def st78_C12_0 (n:Nat) (lC14_0:Int→Int→(List NT)→Option R78) (x0:Int) (x1:Int) (x2:List NT):Option R78 :=
 cond (decide ((0:Int)≤x1)) (cond (decide (x1 < (↑x2.length:Int))) (lC14_0 (Go.IntKind.i64.wrap (x0 + (1:Int))) (x1) (x2.set x1.toNat ((x2.getD x1.toNat ZN).1,(x2.getD x1.toNat ZN).2.1,(x2.getD x1.toNat ZN).2.2.1,(x2.getD x1.toNat ZN).2.2.2.1,x0,(x2.getD x1.toNat ZN).2.2.2.2.2))) (none)) (none)
noncomputable def st78_C10_0 (n:Nat) (lC12_0:Int→Int→(List NT)→Option R78) (x0:Int) (x1:Int) (x2:List NT):Option R78 :=
 cond (decide ((0:Int)≤x1)) (cond (decide (x1 < (↑x2.length:Int))) (lC12_0 (Go.IntKind.i64.wrap (x0 + (1:Int))) (x1) (x2.set x1.toNat ((x2.getD x1.toNat ZN).1,(x2.getD x1.toNat ZN).2.1,(x2.getD x1.toNat ZN).2.2.1,x0,(x2.getD x1.toNat ZN).2.2.2.2))) (none)) (none)
noncomputable def st78_C8_0 (n:Nat) (lC10_0:Int→Int→(List NT)→Option R78) (x0:Int) (x1:Int) (x2:List NT):Option R78 :=
 cond (decide ((0:Int)≤x1)) (cond (decide (x1 < (↑x2.length:Int))) (lC10_0 (Go.IntKind.i64.wrap (x0 + (1:Int))) (x1) (x2.set x1.toNat ((x2.getD x1.toNat ZN).1,(x2.getD x1.toNat ZN).2.1,x0,(x2.getD x1.toNat ZN).2.2.2))) (none)) (none)
noncomputable def st78_C6_0 (n:Nat) (lC8_0:Int→Int→(List NT)→Option R78) (x0:Int) (x1:Int) (x2:List NT):Option R78 :=
 cond (decide ((0:Int)≤x1)) (cond (decide (x1 < (↑x2.length:Int))) (lC8_0 (Go.IntKind.i64.wrap (x0 + (1:Int))) (x1) (x2.set x1.toNat ((x2.getD x1.toNat ZN).1,x0,(x2.getD x1.toNat ZN).2.2))) (none)) (none)
noncomputable def st78_L2 (n:Nat) (lC6_0:Int→Int→(List NT)→Option R78) (x0:Int) (x1:Int) (x2:List NT):Option R78 :=
 cond (decide (x1 < (↑x2.length:Int))) (cond (decide ((0:Int)≤x1)) (cond (decide (x1 < (↑x2.length:Int))) (lC6_0 (Go.IntKind.i64.wrap (x0 + (1:Int))) (x1) (x2.set x1.toNat (x0,(x2.getD x1.toNat ZN).2))) (none)) (none)) (some ((x0,()),(x2,())))
theorem e78_top (n:Nat) (a:List NT) (b:Int):runF TT G78 an78 Try.f78 c78 ps78 rs78 n (a,b,())=st78_top n (fun x0 x1 x2=>at78 n (.head 2) [n] (sh78_L2 x0 x1 x2)) a b:=by kernel_rfl
theorem e78_C20_0 (n:Nat) (m2:Nat) (x0:Int) (x1:Int) (x2:List NT):at78 n (.op 20 0) [m2] (sh78_C20_0 x0 x1 x2)=st78_C20_0 n (fun x0 x1 x2=>at78 n (.head 2) [m2] (sh78_L2 x0 x1 x2)) x0 x1 x2:=by kernel_rfl
theorem e78_C18_0 (n:Nat) (m2:Nat) (x0:Int) (x1:Int) (x2:List NT):at78 n (.op 18 0) [m2] (sh78_C18_0 x0 x1 x2)=st78_C18_0 n (fun x0 x1 x2=>at_ 20000 (at78 n (.op 20 0) [m2]) (sh78_C20_0 x0 x1 x2)) x0 x1 x2:=by kernel_rfl
theorem e78_C16_0 (n:Nat) (m2:Nat) (x0:Int) (x1:Int) (x2:List NT):at78 n (.op 16 0) [m2] (sh78_C16_0 x0 x1 x2)=st78_C16_0 n (fun x0 x1 x2=>at_ 18000 (at78 n (.op 18 0) [m2]) (sh78_C18_0 x0 x1 x2)) x0 x1 x2:=by kernel_rfl
theorem e78_C14_0 (n:Nat) (m2:Nat) (x0:Int) (x1:Int) (x2:List NT):at78 n (.op 14 0) [m2] (sh78_C14_0 x0 x1 x2)=st78_C14_0 n (fun x0 x1 x2=>at_ 16000 (at78 n (.op 16 0) [m2]) (sh78_C16_0 x0 x1 x2)) x0 x1 x2:=by kernel_rfl
theorem e78_C12_0 (n:Nat) (m2:Nat) (x0:Int) (x1:Int) (x2:List NT):at78 n (.op 12 0) [m2] (sh78_C12_0 x0 x1 x2)=st78_C12_0 n (fun x0 x1 x2=>at_ 14000 (at78 n (.op 14 0) [m2]) (sh78_C14_0 x0 x1 x2)) x0 x1 x2:=by kernel_rfl
theorem e78_C10_0 (n:Nat) (m2:Nat) (x0:Int) (x1:Int) (x2:List NT):at78 n (.op 10 0) [m2] (sh78_C10_0 x0 x1 x2)=st78_C10_0 n (fun x0 x1 x2=>at_ 12000 (at78 n (.op 12 0) [m2]) (sh78_C12_0 x0 x1 x2)) x0 x1 x2:=by kernel_rfl
theorem e78_C8_0 (n:Nat) (m2:Nat) (x0:Int) (x1:Int) (x2:List NT):at78 n (.op 8 0) [m2] (sh78_C8_0 x0 x1 x2)=st78_C8_0 n (fun x0 x1 x2=>at_ 10000 (at78 n (.op 10 0) [m2]) (sh78_C10_0 x0 x1 x2)) x0 x1 x2:=by kernel_rfl
theorem e78_C6_0 (n:Nat) (m2:Nat) (x0:Int) (x1:Int) (x2:List NT):at78 n (.op 6 0) [m2] (sh78_C6_0 x0 x1 x2)=st78_C6_0 n (fun x0 x1 x2=>at_ 8000 (at78 n (.op 8 0) [m2]) (sh78_C8_0 x0 x1 x2)) x0 x1 x2:=by kernel_rfl
theorem e78_L2_0 (n:Nat) (x0:Int) (x1:Int) (x2:List NT):at78 n (.head 2) [0] (sh78_L2 x0 x1 x2)=none:=by kernel_rfl
theorem e78_L2 (n:Nat) (m2:Nat) (x0:Int) (x1:Int) (x2:List NT):at78 n (.head 2) [m2 + 1] (sh78_L2 x0 x1 x2)=st78_L2 n (fun x0 x1 x2=>at_ 6000 (at78 n (.op 6 0) [m2]) (sh78_C6_0 x0 x1 x2)) x0 x1 x2:=by kernel_rfl
noncomputable def p78_C20_0 (g2:Int→Int→(List NT)→Option R78) (n:Nat) (x0:Int) (x1:Int) (x2:List NT):Option R78:=st78_C20_0 n g2 x0 x1 x2
noncomputable def p78_C18_0 (g2:Int→Int→(List NT)→Option R78) (n:Nat) (x0:Int) (x1:Int) (x2:List NT):Option R78:=st78_C18_0 n (p78_C20_0 g2 n) x0 x1 x2
noncomputable def p78_C16_0 (g2:Int→Int→(List NT)→Option R78) (n:Nat) (x0:Int) (x1:Int) (x2:List NT):Option R78:=st78_C16_0 n (p78_C18_0 g2 n) x0 x1 x2
noncomputable def p78_C14_0 (g2:Int→Int→(List NT)→Option R78) (n:Nat) (x0:Int) (x1:Int) (x2:List NT):Option R78:=st78_C14_0 n (p78_C16_0 g2 n) x0 x1 x2
noncomputable def p78_C12_0 (g2:Int→Int→(List NT)→Option R78) (n:Nat) (x0:Int) (x1:Int) (x2:List NT):Option R78:=st78_C12_0 n (p78_C14_0 g2 n) x0 x1 x2
noncomputable def p78_C10_0 (g2:Int→Int→(List NT)→Option R78) (n:Nat) (x0:Int) (x1:Int) (x2:List NT):Option R78:=st78_C10_0 n (p78_C12_0 g2 n) x0 x1 x2
noncomputable def p78_C8_0 (g2:Int→Int→(List NT)→Option R78) (n:Nat) (x0:Int) (x1:Int) (x2:List NT):Option R78:=st78_C8_0 n (p78_C10_0 g2 n) x0 x1 x2
noncomputable def p78_C6_0 (g2:Int→Int→(List NT)→Option R78) (n:Nat) (x0:Int) (x1:Int) (x2:List NT):Option R78:=st78_C6_0 n (p78_C8_0 g2 n) x0 x1 x2
noncomputable def p78_L2 (n:Nat):Nat→Int→Int→(List NT)→Option R78
 | 0,_,_,_=>none
 | m + 1,x0,x1,x2=>st78_L2 n (p78_C6_0 (p78_L2 n m) n) x0 x1 x2
noncomputable def p78 (n:Nat) (a:List NT) (b:Int):Option R78:=st78_top n (p78_L2 n n) a b
theorem t78_C20_0 (n:Nat) (m2:Nat) (x0:Int) (x1:Int) (x2:List NT):at78 n (.op 20 0) [m2] (sh78_C20_0 x0 x1 x2)=p78_C20_0 (fun x0 x1 x2=>at78 n (.head 2) [m2] (sh78_L2 x0 x1 x2)) n x0 x1 x2:=by
 rw [e78_C20_0]
 skip
 try rfl
theorem t78_C18_0 (n:Nat) (m2:Nat) (x0:Int) (x1:Int) (x2:List NT):at78 n (.op 18 0) [m2] (sh78_C18_0 x0 x1 x2)=p78_C18_0 (fun x0 x1 x2=>at78 n (.head 2) [m2] (sh78_L2 x0 x1 x2)) n x0 x1 x2:=by
 rw [e78_C18_0]
 simp only [ateq78,t78_C20_0]
 try rfl
theorem t78_C16_0 (n:Nat) (m2:Nat) (x0:Int) (x1:Int) (x2:List NT):at78 n (.op 16 0) [m2] (sh78_C16_0 x0 x1 x2)=p78_C16_0 (fun x0 x1 x2=>at78 n (.head 2) [m2] (sh78_L2 x0 x1 x2)) n x0 x1 x2:=by
 rw [e78_C16_0]
 simp only [ateq78,t78_C18_0]
 try rfl
theorem t78_C14_0 (n:Nat) (m2:Nat) (x0:Int) (x1:Int) (x2:List NT):at78 n (.op 14 0) [m2] (sh78_C14_0 x0 x1 x2)=p78_C14_0 (fun x0 x1 x2=>at78 n (.head 2) [m2] (sh78_L2 x0 x1 x2)) n x0 x1 x2:=by
 rw [e78_C14_0]
 simp only [ateq78,t78_C16_0]
 try rfl
theorem t78_C12_0 (n:Nat) (m2:Nat) (x0:Int) (x1:Int) (x2:List NT):at78 n (.op 12 0) [m2] (sh78_C12_0 x0 x1 x2)=p78_C12_0 (fun x0 x1 x2=>at78 n (.head 2) [m2] (sh78_L2 x0 x1 x2)) n x0 x1 x2:=by
 rw [e78_C12_0]
 simp only [ateq78,t78_C14_0]
 try rfl
theorem t78_C10_0 (n:Nat) (m2:Nat) (x0:Int) (x1:Int) (x2:List NT):at78 n (.op 10 0) [m2] (sh78_C10_0 x0 x1 x2)=p78_C10_0 (fun x0 x1 x2=>at78 n (.head 2) [m2] (sh78_L2 x0 x1 x2)) n x0 x1 x2:=by
 rw [e78_C10_0]
 simp only [ateq78,t78_C12_0]
 try rfl
theorem t78_C8_0 (n:Nat) (m2:Nat) (x0:Int) (x1:Int) (x2:List NT):at78 n (.op 8 0) [m2] (sh78_C8_0 x0 x1 x2)=p78_C8_0 (fun x0 x1 x2=>at78 n (.head 2) [m2] (sh78_L2 x0 x1 x2)) n x0 x1 x2:=by
 rw [e78_C8_0]
 simp only [ateq78,t78_C10_0]
 try rfl
theorem t78_C6_0 (n:Nat) (m2:Nat) (x0:Int) (x1:Int) (x2:List NT):at78 n (.op 6 0) [m2] (sh78_C6_0 x0 x1 x2)=p78_C6_0 (fun x0 x1 x2=>at78 n (.head 2) [m2] (sh78_L2 x0 x1 x2)) n x0 x1 x2:=by
 rw [e78_C6_0]
 simp only [ateq78,t78_C8_0]
 try rfl
theorem t78_L2 (n:Nat):∀ (m2:Nat) (x0:Int) (x1:Int) (x2:List NT),at78 n (.head 2) [m2] (sh78_L2 x0 x1 x2)=p78_L2 n m2 x0 x1 x2:=by
 intro m
 induction m with
 | zero=>intros; rw [e78_L2_0]; rfl
 | succ m ih =>
  intros
  rw [e78_L2]
  try simp only [ateq78,t78_C6_0,ih]
  rfl
theorem F78_eq (n:Nat) (a:List NT) (b:Int):runF TT G78 an78 Try.f78 c78 ps78 rs78 n (a,b,())=p78 n a b:=by
 rw [e78_top]
 simp only [t78_L2]
 try rfl
noncomputable def q78 (n:Nat) (x:argsD ps78):Option R78:=p78 n x.1 x.2.1
noncomputable def Sm78:Sm:=⟨ps78,rs78,false,q78⟩
theorem holds78 (hg:GamOK Try.prog G78):Holds Try.prog 78 Sm78:=by
 have:=h0_78 hg
 have e:(runF TT G78 an78 Try.f78 c78 ps78 rs78)=q78:=by
  funext n x
  exact F78_eq n x.1 x.2.1
 rw [e] at this
 exact this
theorem gam78:GamOK Try.prog G78:=by
 intro f s h
 unfold G78 at h
 split at h
 ·injection h with h; subst h; exact ⟨⟨Try.f109,c109,Try.func109,by kernel_rfl,by decide +kernel⟩,hh109⟩
 ·injection h with h; subst h; exact ⟨⟨Try.f110,c110,Try.func110,by kernel_rfl,by decide +kernel⟩,hh110⟩
 ·cases h
theorem hh78:Holds Try.prog 78 Sm78:=holds78 gam78
end Go.Proofs.Ythhopbicmaipgaa.Rx.S

namespace Go.Proofs.Ythhopbicmaipgaa.Rx.S
open Go Go.RowKit Go.Proofs
set_option maxRecDepth 100000
noncomputable def c27:Code:=(Try.f27.body.getD .skip)
def an27:An:=⟨fun _=>⟨[],[]⟩,fun _ _=>none⟩
abbrev ps27:List PK:=[.io tFs true,.val i64 false]
abbrev rs27:List RK:=[.val i64 false]
abbrev R27:=retsD rs27 × outsD ps27
noncomputable def G27:Gam:=fun f=>match f with | 78=>some Sm78 | _=>none
theorem h0_27 (hg:GamOK Try.prog G27):Holds Try.prog 27 ⟨ps27,rs27,false,runF TT G27 an27 Try.f27 c27 ps27 rs27⟩:=holds_of tt_ok hg mixed Try.func27 (by kernel_rfl) (by rfl) (by decide +kernel)
noncomputable def st27_top (n:Nat) (a:List NT) (b:Int):Option R27 :=
 (q78 n (a,b,())).bind fun r0=>some ((r0.1.1,()),(r0.2.1,()))
theorem e27_top (n:Nat) (a:List NT) (b:Int):runF TT G27 an27 Try.f27 c27 ps27 rs27 n (a,b,())=st27_top n a b:=by kernel_rfl
noncomputable def p27 (n:Nat) (a:List NT) (b:Int):Option R27:=st27_top n a b
theorem F27_eq (n:Nat) (a:List NT) (b:Int):runF TT G27 an27 Try.f27 c27 ps27 rs27 n (a,b,())=p27 n a b:=by
 rw [e27_top]
 skip
 try rfl
noncomputable def q27 (n:Nat) (x:argsD ps27):Option R27:=p27 n x.1 x.2.1
noncomputable def Sm27:Sm:=⟨ps27,rs27,false,q27⟩
theorem holds27 (hg:GamOK Try.prog G27):Holds Try.prog 27 Sm27:=by
 have:=h0_27 hg
 have e:(runF TT G27 an27 Try.f27 c27 ps27 rs27)=q27:=by
  funext n x
  exact F27_eq n x.1 x.2.1
 rw [e] at this
 exact this
theorem gam27:GamOK Try.prog G27:=by
 intro f s h
 unfold G27 at h
 split at h
 ·injection h with h; subst h; exact ⟨⟨Try.f78,c78,Try.func78,by kernel_rfl,by decide +kernel⟩,hh78⟩
 ·cases h
theorem hh27:Holds Try.prog 27 Sm27:=holds27 gam27
end Go.Proofs.Ythhopbicmaipgaa.Rx.S

namespace Go.Proofs.Ythhopbicmaipgaa.Rx.S
open Go Go.RowKit Go.Proofs
set_option maxRecDepth 100000
noncomputable def c111:Code:=(Try.f111.body.getD .skip)
def an111:An:=⟨fun r=>match r with | 2=>⟨[0,1,5],[]⟩ | _=>⟨[],[]⟩,fun _ _=>none⟩
abbrev ps111:List PK:=[.val (.row 95 tEn) false,.val i64 false]
abbrev rs111:List RK:=[.val i64 false]
abbrev R111:=retsD rs111 × outsD ps111
noncomputable def G111:Gam:=fun f=>match f with | 109=>some Sm109 | _=>none
theorem h0_111 (hg:GamOK Try.prog G111):Holds Try.prog 111 ⟨ps111,rs111,false,runF TT G111 an111 Try.f111 c111 ps111 rs111⟩:=holds_of tt_ok hg mixed Try.func111 (by kernel_rfl) (by rfl) (by decide +kernel)
noncomputable def at111:Nat→Pt→List Nat→St→Option R111:=atF TT G111 an111 Try.f111 c111 _ _
def sh111_L2 (x0:List (ByteArray × Int)) (x1:Int) (x2:Int):St:=(St.mk ((AV.one (SV.con (⟨95,Ty.str.pair (Ty.int Go.IntKind.i64),x0⟩:Rw))) :: ((AV.one (SV.int (Go.IntKind.i64) x1)) :: (AV.undef :: (AV.undef :: (AV.undef :: ((AV.one (SV.int (Go.IntKind.i64) x2)) :: (AV.undef :: (AV.undef :: (AV.undef :: (AV.undef :: (AV.undef :: (AV.undef :: (AV.undef :: (AV.undef :: (AV.undef :: (AV.undef :: (AV.undef :: (AV.undef :: (AV.undef :: (AV.undef :: (AV.undef :: (AV.undef :: (AV.undef :: (AV.undef :: (AV.undef :: (AV.undef :: (AV.undef :: (AV.undef :: (AV.undef :: (AV.undef :: (AV.undef :: (AV.undef :: [])))))))))))))))))))))))))))))))) [])
noncomputable def st111_top (n:Nat) (lL2:(List (ByteArray × Int))→Int→Int→Option R111) (a:List (ByteArray × Int)) (b:Int):Option R111 :=
 lL2 (a) (b) ((0:Int))
noncomputable def st111_L2 (n:Nat) (lL2:(List (ByteArray × Int))→Int→Int→Option R111) (x0:List (ByteArray × Int)) (x1:Int) (x2:Int):Option R111 :=
 cond (decide (x2 < (↑x0.length:Int))) (cond (decide ((0:Int)≤x2)) (cond (decide (x2 < (↑x0.length:Int))) ((q109 n (x1,())).bind fun r1=>cond (!ByteArray.toList (x0.getD x2.toNat (ByteArray.empty,(0:Int))).1 == ByteArray.toList r1.1.1) (some (((-1:Int),()),())) (cond (decide ((0:Int)≤x2)) (cond (decide (x2 < (↑x0.length:Int))) (cond (!decide ((x0.getD x2.toNat (ByteArray.empty,(0:Int))).2=Go.IntKind.i64.wrap (x1 + (1:Int)))) (some (((-1:Int),()),())) (lL2 (x0) (Go.IntKind.i64.wrap (Go.IntKind.i64.wrap (x1 + (1:Int)) + (1:Int))) (Go.IntKind.i64.wrap (x2 + (1:Int))))) (none)) (none))) (none)) (none)) (some ((x1,()),()))
theorem e111_top (n:Nat) (a:List (ByteArray × Int)) (b:Int):runF TT G111 an111 Try.f111 c111 ps111 rs111 n (a,b,())=st111_top n (fun x0 x1 x2=>at111 n (.head 2) [n] (sh111_L2 x0 x1 x2)) a b:=by kernel_rfl
theorem e111_L2_0 (n:Nat) (x0:List (ByteArray × Int)) (x1:Int) (x2:Int):at111 n (.head 2) [0] (sh111_L2 x0 x1 x2)=none:=by kernel_rfl
theorem e111_L2 (n:Nat) (m2:Nat) (x0:List (ByteArray × Int)) (x1:Int) (x2:Int):at111 n (.head 2) [m2 + 1] (sh111_L2 x0 x1 x2)=st111_L2 n (fun x0 x1 x2=>at111 n (.head 2) [m2] (sh111_L2 x0 x1 x2)) x0 x1 x2:=by kernel_rfl
noncomputable def p111_L2 (n:Nat):Nat→(List (ByteArray × Int))→Int→Int→Option R111
 | 0,_,_,_=>none
 | m + 1,x0,x1,x2=>st111_L2 n (p111_L2 n m) x0 x1 x2
noncomputable def p111 (n:Nat) (a:List (ByteArray × Int)) (b:Int):Option R111:=st111_top n (p111_L2 n n) a b
theorem t111_L2 (n:Nat):∀ (m2:Nat) (x0:List (ByteArray × Int)) (x1:Int) (x2:Int),at111 n (.head 2) [m2] (sh111_L2 x0 x1 x2)=p111_L2 n m2 x0 x1 x2:=by
 intro m
 induction m with
 | zero=>intros; rw [e111_L2_0]; rfl
 | succ m ih =>
  intros
  rw [e111_L2]
  try simp only [ih]
  rfl
theorem F111_eq (n:Nat) (a:List (ByteArray × Int)) (b:Int):runF TT G111 an111 Try.f111 c111 ps111 rs111 n (a,b,())=p111 n a b:=by
 rw [e111_top]
 simp only [t111_L2]
 try rfl
noncomputable def q111 (n:Nat) (x:argsD ps111):Option R111:=p111 n x.1 x.2.1
noncomputable def Sm111:Sm:=⟨ps111,rs111,false,q111⟩
theorem holds111 (hg:GamOK Try.prog G111):Holds Try.prog 111 Sm111:=by
 have:=h0_111 hg
 have e:(runF TT G111 an111 Try.f111 c111 ps111 rs111)=q111:=by
  funext n x
  exact F111_eq n x.1 x.2.1
 rw [e] at this
 exact this
theorem gam111:GamOK Try.prog G111:=by
 intro f s h
 unfold G111 at h
 split at h
 ·injection h with h; subst h; exact ⟨⟨Try.f109,c109,Try.func109,by kernel_rfl,by decide +kernel⟩,hh109⟩
 ·cases h
theorem hh111:Holds Try.prog 111 Sm111:=holds111 gam111
end Go.Proofs.Ythhopbicmaipgaa.Rx.S

namespace Go.Proofs.Ythhopbicmaipgaa.Rx.S
open Go Go.RowKit Go.Proofs
set_option maxRecDepth 100000
noncomputable def c80:Code:=(Try.f80.body.getD .skip)
def an80:An:=⟨fun r=>match r with | 2=>⟨[0,1,5],[]⟩ | _=>⟨[],[]⟩,fun _ _=>none⟩
abbrev ps80:List PK:=[.val tFs false,.val i64 false]
abbrev rs80:List RK:=[.val i64 false]
abbrev R80:=retsD rs80 × outsD ps80
noncomputable def G80:Gam:=fun f=>match f with | 109=>some Sm109 | 111=>some Sm111 | _=>none
theorem h0_80 (hg:GamOK Try.prog G80):Holds Try.prog 80 ⟨ps80,rs80,false,runF TT G80 an80 Try.f80 c80 ps80 rs80⟩:=holds_of tt_ok hg mixed Try.func80 (by kernel_rfl) (by rfl) (by decide +kernel)
noncomputable def at80:Nat→Pt→List Nat→St→Option R80:=atF TT G80 an80 Try.f80 c80 _ _
def sh80_L2 (x0:List NT) (x1:Int) (x2:Int):St:=(St.mk ((AV.one (SV.con (⟨39,(Ty.int Go.IntKind.i64).pair ((Ty.int Go.IntKind.i64).pair ((Ty.int Go.IntKind.i64).pair ((Ty.int Go.IntKind.i64).pair ((Ty.int Go.IntKind.i64).pair ((Ty.int Go.IntKind.i64).pair (Ty.bool.pair (Ty.str.pair (Ty.row (nat_lit 95) (Ty.str.pair (Ty.int Go.IntKind.i64)))))))))),x0⟩:Rw))) :: ((AV.one (SV.int (Go.IntKind.i64) x1)) :: (AV.undef :: (AV.undef :: (AV.undef :: ((AV.one (SV.int (Go.IntKind.i64) x2)) :: (AV.undef :: (AV.undef :: (AV.undef :: (AV.undef :: (AV.undef :: (AV.undef :: (AV.undef :: (AV.undef :: (AV.undef :: (AV.undef :: (AV.undef :: (AV.undef :: (AV.undef :: (AV.undef :: (AV.undef :: (AV.undef :: (AV.undef :: (AV.undef :: (AV.undef :: (AV.undef :: (AV.undef :: (AV.undef :: (AV.undef :: (AV.undef :: (AV.undef :: (AV.undef :: (AV.undef :: (AV.undef :: (AV.undef :: (AV.undef :: (AV.undef :: (AV.undef :: (AV.undef :: (AV.undef :: (AV.undef :: (AV.undef :: (AV.undef :: (AV.undef :: (AV.undef :: (AV.undef :: (AV.undef :: (AV.undef :: (AV.undef :: (AV.undef :: (AV.undef :: (AV.undef :: (AV.undef :: (AV.undef :: (AV.undef :: (AV.undef :: (AV.undef :: (AV.undef :: (AV.undef :: (AV.undef :: (AV.undef :: (AV.undef :: (AV.undef :: (AV.undef :: (AV.undef :: (AV.undef :: (AV.undef :: (AV.undef :: (AV.undef :: (AV.undef :: (AV.undef :: (AV.undef :: (AV.undef :: (AV.undef :: (AV.undef :: (AV.undef :: (AV.undef :: (AV.undef :: (AV.undef :: (AV.undef :: (AV.undef :: (AV.undef :: (AV.undef :: (AV.undef :: (AV.undef :: (AV.undef :: (AV.undef :: (AV.undef :: (AV.undef :: (AV.undef :: (AV.undef :: (AV.undef :: (AV.undef :: (AV.undef :: (AV.undef :: (AV.undef :: (AV.undef :: []))))))))))))))))))))))))))))))))))))))))))))))))))))))))))))))))))))))))))))))))))))))))))))))))) [])
noncomputable def st80_top (n:Nat) (lL2:(List NT)→Int→Int→Option R80) (a:List NT) (b:Int):Option R80 :=
 lL2 (a) (b) ((0:Int))
noncomputable def st80_L2 (n:Nat) (lL2:(List NT)→Int→Int→Option R80) (x0:List NT) (x1:Int) (x2:Int):Option R80 :=
 cond (decide (x2 < (↑x0.length:Int))) (cond (decide ((0:Int)≤x2)) (cond (decide (x2 < (↑x0.length:Int))) (cond (!decide ((x0.getD x2.toNat ZN).1=x1)) (some (((-1:Int),()),())) (cond (decide ((0:Int)≤x2)) (cond (decide (x2 < (↑x0.length:Int))) (cond (!decide ((x0.getD x2.toNat ZN).2.1=Go.IntKind.i64.wrap (x1 + (1:Int)))) (some (((-1:Int),()),())) (cond (decide ((0:Int)≤x2)) (cond (decide (x2 < (↑x0.length:Int))) (cond (!decide ((x0.getD x2.toNat ZN).2.2.1=Go.IntKind.i64.wrap (Go.IntKind.i64.wrap (x1 + (1:Int)) + (1:Int)))) (some (((-1:Int),()),())) (cond (decide ((0:Int)≤x2)) (cond (decide (x2 < (↑x0.length:Int))) (cond (!decide ((x0.getD x2.toNat ZN).2.2.2.1=Go.IntKind.i64.wrap (Go.IntKind.i64.wrap (Go.IntKind.i64.wrap (x1 + (1:Int)) + (1:Int)) + (1:Int)))) (some (((-1:Int),()),())) (cond (decide ((0:Int)≤x2)) (cond (decide (x2 < (↑x0.length:Int))) (cond (!decide ((x0.getD x2.toNat ZN).2.2.2.2.1=Go.IntKind.i64.wrap (Go.IntKind.i64.wrap (Go.IntKind.i64.wrap (Go.IntKind.i64.wrap (x1 + (1:Int)) + (1:Int)) + (1:Int)) + (1:Int)))) (some (((-1:Int),()),())) (cond (decide ((0:Int)≤x2)) (cond (decide (x2 < (↑x0.length:Int))) (cond (!decide ((x0.getD x2.toNat ZN).2.2.2.2.2.1=Go.IntKind.i64.wrap (Go.IntKind.i64.wrap (Go.IntKind.i64.wrap (Go.IntKind.i64.wrap (Go.IntKind.i64.wrap (x1 + (1:Int)) + (1:Int)) + (1:Int)) + (1:Int)) + (1:Int)))) (some (((-1:Int),()),())) (cond (decide ((0:Int)≤x2)) (cond (decide (x2 < (↑x0.length:Int))) (cond (!(x0.getD x2.toNat ZN).2.2.2.2.2.2.1 == decide ((Go.IntKind.i64.wrap (Go.IntKind.i64.wrap (Go.IntKind.i64.wrap (Go.IntKind.i64.wrap (Go.IntKind.i64.wrap (Go.IntKind.i64.wrap (x1 + (1:Int)) + (1:Int)) + (1:Int)) + (1:Int)) + (1:Int)) + (1:Int))).tmod (3:Int)=(0:Int))) (some (((-1:Int),()),())) (cond (decide ((0:Int)≤x2)) (cond (decide (x2 < (↑x0.length:Int))) ((q109 n (Go.IntKind.i64.wrap (Go.IntKind.i64.wrap (Go.IntKind.i64.wrap (Go.IntKind.i64.wrap (Go.IntKind.i64.wrap (Go.IntKind.i64.wrap (Go.IntKind.i64.wrap (x1 + (1:Int)) + (1:Int)) + (1:Int)) + (1:Int)) + (1:Int)) + (1:Int)) + (1:Int)),())).bind fun r1=>cond (!ByteArray.toList (x0.getD x2.toNat ZN).2.2.2.2.2.2.2.1 == ByteArray.toList r1.1.1) (some (((-1:Int),()),())) (cond (decide ((0:Int)≤x2)) (cond (decide (x2 < (↑x0.length:Int))) ((q111 n ((x0.getD x2.toNat ZN).2.2.2.2.2.2.2.2,Go.IntKind.i64.wrap (Go.IntKind.i64.wrap (Go.IntKind.i64.wrap (Go.IntKind.i64.wrap (Go.IntKind.i64.wrap (Go.IntKind.i64.wrap (Go.IntKind.i64.wrap (Go.IntKind.i64.wrap (x1 + (1:Int)) + (1:Int)) + (1:Int)) + (1:Int)) + (1:Int)) + (1:Int)) + (1:Int)) + (1:Int)),())).bind fun r2=>cond (decide (r2.1.1 < (0:Int))) (some (((-1:Int),()),())) (lL2 (x0) (r2.1.1) (Go.IntKind.i64.wrap (x2 + (1:Int))))) (none)) (none))) (none)) (none))) (none)) (none))) (none)) (none))) (none)) (none))) (none)) (none))) (none)) (none))) (none)) (none))) (none)) (none)) (some ((x1,()),()))
theorem e80_top (n:Nat) (a:List NT) (b:Int):runF TT G80 an80 Try.f80 c80 ps80 rs80 n (a,b,())=st80_top n (fun x0 x1 x2=>at80 n (.head 2) [n] (sh80_L2 x0 x1 x2)) a b:=by kernel_rfl
theorem e80_L2_0 (n:Nat) (x0:List NT) (x1:Int) (x2:Int):at80 n (.head 2) [0] (sh80_L2 x0 x1 x2)=none:=by kernel_rfl
theorem e80_L2 (n:Nat) (m2:Nat) (x0:List NT) (x1:Int) (x2:Int):at80 n (.head 2) [m2 + 1] (sh80_L2 x0 x1 x2)=st80_L2 n (fun x0 x1 x2=>at80 n (.head 2) [m2] (sh80_L2 x0 x1 x2)) x0 x1 x2:=by kernel_rfl
noncomputable def p80_L2 (n:Nat):Nat→(List NT)→Int→Int→Option R80
 | 0,_,_,_=>none
 | m + 1,x0,x1,x2=>st80_L2 n (p80_L2 n m) x0 x1 x2
noncomputable def p80 (n:Nat) (a:List NT) (b:Int):Option R80:=st80_top n (p80_L2 n n) a b
theorem t80_L2 (n:Nat):∀ (m2:Nat) (x0:List NT) (x1:Int) (x2:Int),at80 n (.head 2) [m2] (sh80_L2 x0 x1 x2)=p80_L2 n m2 x0 x1 x2:=by
 intro m
 induction m with
 | zero=>intros; rw [e80_L2_0]; rfl
 | succ m ih =>
  intros
  rw [e80_L2]
  try simp only [ih]
  rfl
theorem F80_eq (n:Nat) (a:List NT) (b:Int):runF TT G80 an80 Try.f80 c80 ps80 rs80 n (a,b,())=p80 n a b:=by
 rw [e80_top]
 simp only [t80_L2]
 try rfl
noncomputable def q80 (n:Nat) (x:argsD ps80):Option R80:=p80 n x.1 x.2.1
noncomputable def Sm80:Sm:=⟨ps80,rs80,false,q80⟩
theorem holds80 (hg:GamOK Try.prog G80):Holds Try.prog 80 Sm80:=by
 have:=h0_80 hg
 have e:(runF TT G80 an80 Try.f80 c80 ps80 rs80)=q80:=by
  funext n x
  exact F80_eq n x.1 x.2.1
 rw [e] at this
 exact this
theorem gam80:GamOK Try.prog G80:=by
 intro f s h
 unfold G80 at h
 split at h
 ·injection h with h; subst h; exact ⟨⟨Try.f109,c109,Try.func109,by kernel_rfl,by decide +kernel⟩,hh109⟩
 ·injection h with h; subst h; exact ⟨⟨Try.f111,c111,Try.func111,by kernel_rfl,by decide +kernel⟩,hh111⟩
 ·cases h
theorem hh80:Holds Try.prog 80 Sm80:=holds80 gam80
end Go.Proofs.Ythhopbicmaipgaa.Rx.S

namespace Go.Proofs.Ythhopbicmaipgaa.Rx.S
open Go Go.RowKit Go.Proofs
set_option maxRecDepth 100000
noncomputable def c29:Code:=(Try.f29.body.getD .skip)
def an29:An:=⟨fun _=>⟨[],[]⟩,fun _ _=>none⟩
abbrev ps29:List PK:=[.val tFs true,.val i64 false]
abbrev rs29:List RK:=[.val i64 false]
abbrev R29:=retsD rs29 × outsD ps29
noncomputable def G29:Gam:=fun f=>match f with | 80=>some Sm80 | _=>none
theorem h0_29 (hg:GamOK Try.prog G29):Holds Try.prog 29 ⟨ps29,rs29,false,runF TT G29 an29 Try.f29 c29 ps29 rs29⟩:=holds_of tt_ok hg mixed Try.func29 (by kernel_rfl) (by rfl) (by decide +kernel)
noncomputable def st29_top (n:Nat) (a:List NT) (b:Int):Option R29 :=
 (q80 n (a,b,())).bind fun r0=>cond (decide (r0.1.1 < (0:Int))) (some (((-1:Int),()),())) (some ((r0.1.1,()),()))
theorem e29_top (n:Nat) (a:List NT) (b:Int):runF TT G29 an29 Try.f29 c29 ps29 rs29 n (a,b,())=st29_top n a b:=by kernel_rfl
noncomputable def p29 (n:Nat) (a:List NT) (b:Int):Option R29:=st29_top n a b
theorem F29_eq (n:Nat) (a:List NT) (b:Int):runF TT G29 an29 Try.f29 c29 ps29 rs29 n (a,b,())=p29 n a b:=by
 rw [e29_top]
 skip
 try rfl
noncomputable def q29 (n:Nat) (x:argsD ps29):Option R29:=p29 n x.1 x.2.1
noncomputable def Sm29:Sm:=⟨ps29,rs29,false,q29⟩
theorem holds29 (hg:GamOK Try.prog G29):Holds Try.prog 29 Sm29:=by
 have:=h0_29 hg
 have e:(runF TT G29 an29 Try.f29 c29 ps29 rs29)=q29:=by
  funext n x
  exact F29_eq n x.1 x.2.1
 rw [e] at this
 exact this
theorem gam29:GamOK Try.prog G29:=by
 intro f s h
 unfold G29 at h
 split at h
 ·injection h with h; subst h; exact ⟨⟨Try.f80,c80,Try.func80,by kernel_rfl,by decide +kernel⟩,hh80⟩
 ·cases h
theorem hh29:Holds Try.prog 29 Sm29:=holds29 gam29
end Go.Proofs.Ythhopbicmaipgaa.Rx.S

