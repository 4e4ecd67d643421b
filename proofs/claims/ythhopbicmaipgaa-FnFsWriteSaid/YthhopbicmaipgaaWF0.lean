/- What the functions of this seat compute, each as a plain function on lists and numbers, with the proof that a call answers so. No condition. -/
import Derived.Test.YthhopbicmaipgaaProg
import Derived.KernelRfl
import Derived.Test.YthhopbicmaipgaaRxK3
set_option linter.unusedVariables false
set_option linter.unusedSimpArgs false
namespace Go.Proofs.Ythhopbicmaipgaa.Rx
abbrev NT:Type:=Int × Int × Int × Int × Int × Int × Bool × ByteArray × List (ByteArray × Int)
abbrev ZN:NT:=((0:Int),(0:Int),(0:Int),(0:Int),(0:Int),(0:Int),false,ByteArray.empty,[])
end Go.Proofs.Ythhopbicmaipgaa.Rx
namespace Go.Proofs.Ythhopbicmaipgaa.Rx.S
open Go Go.RowKit Go.Proofs
def tbl:List (TypeId × TI):=[
(2,⟨.int .i64,1,8,[.int .i64],some (.int .i64),false⟩),
(3,⟨.int .i64,1,8,[.int .i64],some (.int .i64),false⟩),
(4,⟨.bool,1,1,[.bool],some .bool,false⟩),
(5,⟨.int .u8,1,1,[.int .u8],some (.int .u8),false⟩),
(6,⟨.int .u8,1,1,[.int .u8],some (.int .u8),false⟩),
(7,⟨.struct [(0,1),(1,1),(2,1),(3,1)],4,24,[.int .i64,.int .i64,.bool,.int .u8],some (.pair (.int .i64) (.pair (.int .i64) (.pair .bool (.int .u8)))),true⟩),
(8,⟨.struct [(0,1),(1,1),(2,1),(3,1)],4,24,[.int .i64,.int .i64,.bool,.int .u8],some (.pair (.int .i64) (.pair (.int .i64) (.pair .bool (.int .u8)))),true⟩),
(9,⟨.str,1,16,[.str],some .str,false⟩),
(10,⟨.str,1,16,[.str],some .str,false⟩),
(11,⟨.str,1,16,[.str],some .str,false⟩),
(12,⟨.int .u64,1,8,[.int .u64],some (.int .u64),false⟩),
(13,⟨.struct [(0,1),(1,1)],2,24,[.str,.int .u64],some (.pair .str (.int .u64)),false⟩),
(14,⟨.struct [(0,1),(1,1)],2,24,[.str,.int .u64],some (.pair .str (.int .u64)),false⟩),
(15,⟨.ptr,1,8,[.ptr],none,false⟩),
(16,⟨.ptr,1,8,[.ptr],none,false⟩),
(17,⟨.ptr,1,8,[.ptr],none,false⟩),
(18,⟨.struct [(0,1)],1,8,[.ptr],none,false⟩),
(19,⟨.struct [(0,1)],1,8,[.ptr],none,false⟩),
(21,⟨.int .i32,1,4,[.int .i32],some (.int .i32),false⟩),
(22,⟨.slice 5,1,24,[.slice],some (.row 5 (.int .u8)),false⟩),
(23,⟨.slice 39,1,24,[.slice],some (.row 39 (.pair (.int .i64) (.pair (.int .i64) (.pair (.int .i64) (.pair (.int .i64) (.pair (.int .i64) (.pair (.int .i64) (.pair .bool (.pair .str (.row 95 (.pair .str (.int .i64)))))))))))),false⟩),
(24,⟨.struct [(0,1)],1,24,[.slice],some (.row 39 (.pair (.int .i64) (.pair (.int .i64) (.pair (.int .i64) (.pair (.int .i64) (.pair (.int .i64) (.pair (.int .i64) (.pair .bool (.pair .str (.row 95 (.pair .str (.int .i64)))))))))))),false⟩),
(25,⟨.struct [(0,1)],1,24,[.slice],some (.row 39 (.pair (.int .i64) (.pair (.int .i64) (.pair (.int .i64) (.pair (.int .i64) (.pair (.int .i64) (.pair (.int .i64) (.pair .bool (.pair .str (.row 95 (.pair .str (.int .i64)))))))))))),false⟩),
(26,⟨.slice 3,1,24,[.slice],some (.row 3 (.int .i64)),false⟩),
(27,⟨.struct [(0,1),(1,1),(2,1)],3,40,[.int .i64,.int .i64,.slice],some (.pair (.int .i64) (.pair (.int .i64) (.row 3 (.int .i64)))),false⟩),
(28,⟨.struct [(0,1),(1,1),(2,1)],3,40,[.int .i64,.int .i64,.slice],some (.pair (.int .i64) (.pair (.int .i64) (.row 3 (.int .i64)))),false⟩),
(37,⟨.slice 95,1,24,[.slice],some (.row 95 (.pair .str (.int .i64))),false⟩),
(38,⟨.struct [(0,1),(1,1),(2,1),(3,1),(4,1),(5,1),(6,1),(7,1),(8,1)],9,96,[.int .i64,.int .i64,.int .i64,.int .i64,.int .i64,.int .i64,.bool,.str,.slice],some (.pair (.int .i64) (.pair (.int .i64) (.pair (.int .i64) (.pair (.int .i64) (.pair (.int .i64) (.pair (.int .i64) (.pair .bool (.pair .str (.row 95 (.pair .str (.int .i64))))))))))),false⟩),
(39,⟨.struct [(0,1),(1,1),(2,1),(3,1),(4,1),(5,1),(6,1),(7,1),(8,1)],9,96,[.int .i64,.int .i64,.int .i64,.int .i64,.int .i64,.int .i64,.bool,.str,.slice],some (.pair (.int .i64) (.pair (.int .i64) (.pair (.int .i64) (.pair (.int .i64) (.pair (.int .i64) (.pair (.int .i64) (.pair .bool (.pair .str (.row 95 (.pair .str (.int .i64))))))))))),false⟩),
(41,⟨.slice 136,1,24,[.slice],some (.row 136 (.pair (.int .i64) (.pair (.int .i64) (.pair (.int .i64) (.pair (.int .i64) (.pair (.int .i64) (.pair (.int .i64) (.pair .bool (.pair .str (.row 154 (.pair .str (.int .i64)))))))))))),false⟩),
(42,⟨.struct [(0,1)],1,24,[.slice],some (.row 136 (.pair (.int .i64) (.pair (.int .i64) (.pair (.int .i64) (.pair (.int .i64) (.pair (.int .i64) (.pair (.int .i64) (.pair .bool (.pair .str (.row 154 (.pair .str (.int .i64)))))))))))),false⟩),
(43,⟨.struct [(0,1)],1,24,[.slice],some (.row 136 (.pair (.int .i64) (.pair (.int .i64) (.pair (.int .i64) (.pair (.int .i64) (.pair (.int .i64) (.pair (.int .i64) (.pair .bool (.pair .str (.row 154 (.pair .str (.int .i64)))))))))))),false⟩),
(44,⟨.struct [(0,1),(1,1),(2,1)],3,40,[.int .i64,.int .i64,.slice],some (.pair (.int .i64) (.pair (.int .i64) (.row 3 (.int .i64)))),false⟩),
(73,⟨.ptr,1,8,[.ptr],none,false⟩),
(94,⟨.struct [(0,1),(1,1)],2,24,[.str,.int .i64],some (.pair .str (.int .i64)),true⟩),
(95,⟨.struct [(0,1),(1,1)],2,24,[.str,.int .i64],some (.pair .str (.int .i64)),true⟩),
(106,⟨.ptr,1,8,[.ptr],none,false⟩),
(110,⟨.struct [(0,1),(1,1)],2,32,[.slice,.int .i64],some (.pair (.row 5 (.int .u8)) (.int .i64)),false⟩),
(111,⟨.struct [(0,1),(1,1)],2,32,[.slice,.int .i64],some (.pair (.row 5 (.int .u8)) (.int .i64)),false⟩),
(115,⟨.slice 9,1,24,[.slice],some (.row 9 .str),false⟩),
(124,⟨.ptr,1,8,[.ptr],none,false⟩),
(126,⟨.slice 4,1,24,[.slice],some (.row 4 .bool),false⟩),
(134,⟨.slice 154,1,24,[.slice],some (.row 154 (.pair .str (.int .i64))),false⟩),
(135,⟨.struct [(0,1),(1,1),(2,1),(3,1),(4,1),(5,1),(6,1),(7,1),(8,1)],9,96,[.int .i64,.int .i64,.int .i64,.int .i64,.int .i64,.int .i64,.bool,.str,.slice],some (.pair (.int .i64) (.pair (.int .i64) (.pair (.int .i64) (.pair (.int .i64) (.pair (.int .i64) (.pair (.int .i64) (.pair .bool (.pair .str (.row 154 (.pair .str (.int .i64))))))))))),false⟩),
(136,⟨.struct [(0,1),(1,1),(2,1),(3,1),(4,1),(5,1),(6,1),(7,1),(8,1)],9,96,[.int .i64,.int .i64,.int .i64,.int .i64,.int .i64,.int .i64,.bool,.str,.slice],some (.pair (.int .i64) (.pair (.int .i64) (.pair (.int .i64) (.pair (.int .i64) (.pair (.int .i64) (.pair (.int .i64) (.pair .bool (.pair .str (.row 154 (.pair .str (.int .i64))))))))))),false⟩),
(143,⟨.int .u64,1,8,[.int .u64],some (.int .u64),false⟩),
(144,⟨.int .i64,1,8,[.int .i64],some (.int .i64),false⟩),
(154,⟨.struct [(0,1),(1,1)],2,24,[.str,.int .i64],some (.pair .str (.int .i64)),true⟩),
(159,⟨.struct [(0,1),(1,1),(2,1),(3,1)],4,40,[.ptr,.ptr,.ptr,.str],none,false⟩),
(160,⟨.struct [(0,1),(1,1),(2,1),(3,1)],4,40,[.ptr,.ptr,.ptr,.str],none,false⟩),
(162,⟨.struct [(0,0)],0,0,[],none,false⟩),
(163,⟨.struct [(0,0)],0,0,[],none,false⟩),
(165,⟨.int .u32,1,4,[.int .u32],some (.int .u32),false⟩),
(166,⟨.int .u8,1,1,[.int .u8],some (.int .u8),false⟩),
(167,⟨.int .u8,1,1,[.int .u8],some (.int .u8),false⟩),
(169,⟨.ptr,1,8,[.ptr],none,false⟩),
(170,⟨.int .i32,1,4,[.int .i32],some (.int .i32),false⟩),
(171,⟨.int .i32,1,4,[.int .i32],some (.int .i32),false⟩),
(175,⟨.other,1,8,[.ptr],none,false⟩)]
def TT:TB:=tbOf tbl
theorem tt_ok:TBok Try.prog TT:=tbOk (by decide +kernel)
abbrev i64:Ty:=.int .i64
abbrev tEn:Ty:=.pair .str i64
abbrev tRd:Ty:=.pair (.row 5 (.int .u8)) i64
abbrev tIn (a:TypeId):Ty:=.pair i64 (.pair i64 (.pair i64 (.pair i64 (.pair i64 (.pair i64 (.pair .bool (.pair .str (.row a tEn))))))))
abbrev tFs:Ty:=.row 39 (tIn 95)
abbrev tLf:Ty:=.row 136 (tIn 154)
abbrev tCr:Ty:=.pair i64 (.pair i64 (.row 3 i64))
theorem mixed:Try.prog.follows .mixedOrders=true:=by kernel_rfl
end Go.Proofs.Ythhopbicmaipgaa.Rx.S

namespace Go.Proofs.Ythhopbicmaipgaa.Rx.S
open Go Go.RowKit Go.Proofs
set_option maxRecDepth 100000
noncomputable def c55:Code:=(Try.f55.body.getD .skip)
def an55:An:=⟨fun _=>⟨[],[]⟩,fun _ _=>none⟩
abbrev ps55:List PK:=[.val i64 false,.val i64 false,.val i64 false]
abbrev rs55:List RK:=[.val .bool false]
abbrev R55:=retsD rs55 × outsD ps55
noncomputable def G55:Gam:=fun _=>none
theorem h0_55 (hg:GamOK Try.prog G55):Holds Try.prog 55 ⟨ps55,rs55,false,runF TT G55 an55 Try.f55 c55 ps55 rs55⟩:=holds_of tt_ok hg mixed Try.func55 (by kernel_rfl) (by rfl) (by decide +kernel)
noncomputable def st55_top (n:Nat) (a:Int) (b:Int) (c:Int):Option R55 :=
 cond (decide (b≤a)) (some ((decide (a≤c),()),())) (some ((false,()),()))
theorem e55_top (n:Nat) (a:Int) (b:Int) (c:Int):runF TT G55 an55 Try.f55 c55 ps55 rs55 n (a,b,c,())=st55_top n a b c:=by kernel_rfl
noncomputable def p55 (n:Nat) (a:Int) (b:Int) (c:Int):Option R55:=st55_top n a b c
theorem F55_eq (n:Nat) (a:Int) (b:Int) (c:Int):runF TT G55 an55 Try.f55 c55 ps55 rs55 n (a,b,c,())=p55 n a b c:=by
 rw [e55_top]
 skip
 try rfl
noncomputable def q55 (n:Nat) (x:argsD ps55):Option R55:=p55 n x.1 x.2.1 x.2.2.1
noncomputable def Sm55:Sm:=⟨ps55,rs55,false,q55⟩
theorem holds55 (hg:GamOK Try.prog G55):Holds Try.prog 55 Sm55:=by
 have:=h0_55 hg
 have e:(runF TT G55 an55 Try.f55 c55 ps55 rs55)=q55:=by
  funext n x
  exact F55_eq n x.1 x.2.1 x.2.2.1
 rw [e] at this
 exact this
theorem gam55:GamOK Try.prog G55:=fun _ _ h=>by cases h
theorem hh55:Holds Try.prog 55 Sm55:=holds55 gam55
end Go.Proofs.Ythhopbicmaipgaa.Rx.S

namespace Go.Proofs.Ythhopbicmaipgaa.Rx.S
open Go Go.RowKit Go.Proofs
set_option maxRecDepth 100000
noncomputable def c92:Code:=(Try.f92.body.getD .skip)
def an92:An:=⟨fun _=>⟨[],[]⟩,fun _ _=>none⟩
abbrev ps92:List PK:=[.val (.int .i32) false]
abbrev rs92:List RK:=[.val .bool false]
abbrev R92:=retsD rs92 × outsD ps92
noncomputable def G92:Gam:=fun _=>none
theorem h0_92 (hg:GamOK Try.prog G92):Holds Try.prog 92 ⟨ps92,rs92,false,runF TT G92 an92 Try.f92 c92 ps92 rs92⟩:=holds_of tt_ok hg mixed Try.func92 (by kernel_rfl) (by rfl) (by decide +kernel)
noncomputable def st92_top (n:Nat) (a:Int):Option R92 :=
 cond (decide (a < (97:Int))) (some ((true,()),())) (some ((decide ((122:Int) < a),()),()))
theorem e92_top (n:Nat) (a:Int):runF TT G92 an92 Try.f92 c92 ps92 rs92 n (a,())=st92_top n a:=by kernel_rfl
noncomputable def p92 (n:Nat) (a:Int):Option R92:=st92_top n a
theorem F92_eq (n:Nat) (a:Int):runF TT G92 an92 Try.f92 c92 ps92 rs92 n (a,())=p92 n a:=by
 rw [e92_top]
 skip
 try rfl
noncomputable def q92 (n:Nat) (x:argsD ps92):Option R92:=p92 n x.1
noncomputable def Sm92:Sm:=⟨ps92,rs92,false,q92⟩
theorem holds92 (hg:GamOK Try.prog G92):Holds Try.prog 92 Sm92:=by
 have:=h0_92 hg
 have e:(runF TT G92 an92 Try.f92 c92 ps92 rs92)=q92:=by
  funext n x
  exact F92_eq n x.1
 rw [e] at this
 exact this
theorem gam92:GamOK Try.prog G92:=fun _ _ h=>by cases h
theorem hh92:Holds Try.prog 92 Sm92:=holds92 gam92
end Go.Proofs.Ythhopbicmaipgaa.Rx.S

namespace Go.Proofs.Ythhopbicmaipgaa.Rx.S
open Go Go.RowKit Go.Proofs
set_option maxRecDepth 100000
noncomputable def c116:Code:=(Try.f116.body.getD .skip)
def an116:An:=⟨fun r=>match r with | 2=>⟨[1,2,10],[]⟩ | _=>⟨[],[]⟩,fun _ _=>none⟩
abbrev ps116:List PK:=[.val .str false,.fn 92 [],.val .bool false]
abbrev rs116:List RK:=[.val i64 false]
abbrev R116:=retsD rs116 × outsD ps116
noncomputable def G116:Gam:=fun f=>match f with | 92=>some Sm92 | _=>none
theorem h0_116 (hg:GamOK Try.prog G116):Holds Try.prog 116 ⟨ps116,rs116,false,runF TT G116 an116 Try.f116 c116 ps116 rs116⟩:=holds_of tt_ok hg mixed Try.func116 (by kernel_rfl) (by rfl) (by decide +kernel)
noncomputable def at116:Nat→Pt→List Nat→St→Option R116:=atF TT G116 an116 Try.f116 c116 _ _
def sh116_L2 (x0:Bool) (x1:ByteArray) (x2:Int):St:=(St.mk (AV.undef :: ((AV.fn 92 []) :: ((AV.one (SV.bool x0)) :: (AV.undef :: (AV.undef :: (AV.undef :: (AV.undef :: (AV.undef :: (AV.undef :: (AV.undef :: ((AV.one (SV.bptr 1000000 0)) :: (AV.undef :: (AV.undef :: (AV.undef :: (AV.undef :: (AV.undef :: (AV.undef :: (AV.undef :: (AV.undef :: (AV.undef :: (AV.undef :: []))))))))))))))))))))) ((1000000,(Ent.iter x1 x2)) :: []))
noncomputable def st116_top (n:Nat) (lL2:Bool→ByteArray→Int→Option R116) (a:ByteArray) (b:Unit) (c:Bool):Option R116 :=
 lL2 (c) (a) ((0:Int))
noncomputable def st116_L2 (n:Nat) (lL2:Bool→ByteArray→Int→Option R116) (x0:Bool) (x1:ByteArray) (x2:Int):Option R116 :=
 cond (decide (x2.toNat < x1.size)) ((q92 n ((↑(Go.Utf8.decode x1 x2.toNat).1:Int),())).bind fun r1=>cond (r1.1.1 == x0) (some (((↑x2.toNat:Int),()),())) (lL2 (x0) (x1) ((↑(x2.toNat + (Go.Utf8.decode x1 x2.toNat).2):Int)))) (some (((-1:Int),()),()))
theorem e116_top (n:Nat) (a:ByteArray) (b:Unit) (c:Bool):runF TT G116 an116 Try.f116 c116 ps116 rs116 n (a,b,c,())=st116_top n (fun x0 x1 x2=>at116 n (.head 2) [n] (sh116_L2 x0 x1 x2)) a b c:=by kernel_rfl
theorem e116_L2_0 (n:Nat) (x0:Bool) (x1:ByteArray) (x2:Int):at116 n (.head 2) [0] (sh116_L2 x0 x1 x2)=none:=by kernel_rfl
theorem e116_L2 (n:Nat) (m2:Nat) (x0:Bool) (x1:ByteArray) (x2:Int):at116 n (.head 2) [m2 + 1] (sh116_L2 x0 x1 x2)=st116_L2 n (fun x0 x1 x2=>at116 n (.head 2) [m2] (sh116_L2 x0 x1 x2)) x0 x1 x2:=by kernel_rfl
noncomputable def p116_L2 (n:Nat):Nat→Bool→ByteArray→Int→Option R116
 | 0,_,_,_=>none
 | m + 1,x0,x1,x2=>st116_L2 n (p116_L2 n m) x0 x1 x2
noncomputable def p116 (n:Nat) (a:ByteArray) (b:Unit) (c:Bool):Option R116:=st116_top n (p116_L2 n n) a b c
theorem t116_L2 (n:Nat):∀ (m2:Nat) (x0:Bool) (x1:ByteArray) (x2:Int),at116 n (.head 2) [m2] (sh116_L2 x0 x1 x2)=p116_L2 n m2 x0 x1 x2:=by
 intro m
 induction m with
 | zero=>intros; rw [e116_L2_0]; rfl
 | succ m ih =>
  intros
  rw [e116_L2]
  try simp only [ih]
  rfl
theorem F116_eq (n:Nat) (a:ByteArray) (b:Unit) (c:Bool):runF TT G116 an116 Try.f116 c116 ps116 rs116 n (a,b,c,())=p116 n a b c:=by
 rw [e116_top]
 simp only [t116_L2]
 try rfl
noncomputable def q116 (n:Nat) (x:argsD ps116):Option R116:=p116 n x.1 x.2.1 x.2.2.1
noncomputable def Sm116:Sm:=⟨ps116,rs116,false,q116⟩
theorem holds116 (hg:GamOK Try.prog G116):Holds Try.prog 116 Sm116:=by
 have:=h0_116 hg
 have e:(runF TT G116 an116 Try.f116 c116 ps116 rs116)=q116:=by
  funext n x
  exact F116_eq n x.1 x.2.1 x.2.2.1
 rw [e] at this
 exact this
theorem gam116:GamOK Try.prog G116:=by
 intro f s h
 unfold G116 at h
 split at h
 ·injection h with h; subst h; exact ⟨⟨Try.f92,c92,Try.func92,by kernel_rfl,by decide +kernel⟩,hh92⟩
 ·cases h
theorem hh116:Holds Try.prog 116 Sm116:=holds116 gam116
end Go.Proofs.Ythhopbicmaipgaa.Rx.S

namespace Go.Proofs.Ythhopbicmaipgaa.Rx.S
open Go Go.RowKit Go.Proofs
set_option maxRecDepth 100000
noncomputable def c91:Code:=(Try.f91.body.getD .skip)
def an91:An:=⟨fun _=>⟨[],[]⟩,fun _ _=>none⟩
abbrev ps91:List PK:=[.val .str false,.fn 92 []]
abbrev rs91:List RK:=[.val i64 false]
abbrev R91:=retsD rs91 × outsD ps91
noncomputable def G91:Gam:=fun f=>match f with | 116=>some Sm116 | _=>none
theorem h0_91 (hg:GamOK Try.prog G91):Holds Try.prog 91 ⟨ps91,rs91,false,runF TT G91 an91 Try.f91 c91 ps91 rs91⟩:=holds_of tt_ok hg mixed Try.func91 (by kernel_rfl) (by rfl) (by decide +kernel)
noncomputable def st91_top (n:Nat) (a:ByteArray) (b:Unit):Option R91 :=
 (q116 n (a,(),true,())).bind fun r0=>some ((r0.1.1,()),())
theorem e91_top (n:Nat) (a:ByteArray) (b:Unit):runF TT G91 an91 Try.f91 c91 ps91 rs91 n (a,b,())=st91_top n a b:=by kernel_rfl
noncomputable def p91 (n:Nat) (a:ByteArray) (b:Unit):Option R91:=st91_top n a b
theorem F91_eq (n:Nat) (a:ByteArray) (b:Unit):runF TT G91 an91 Try.f91 c91 ps91 rs91 n (a,b,())=p91 n a b:=by
 rw [e91_top]
 skip
 try rfl
noncomputable def q91 (n:Nat) (x:argsD ps91):Option R91:=p91 n x.1 x.2.1
noncomputable def Sm91:Sm:=⟨ps91,rs91,false,q91⟩
theorem holds91 (hg:GamOK Try.prog G91):Holds Try.prog 91 Sm91:=by
 have:=h0_91 hg
 have e:(runF TT G91 an91 Try.f91 c91 ps91 rs91)=q91:=by
  funext n x
  exact F91_eq n x.1 x.2.1
 rw [e] at this
 exact this
theorem gam91:GamOK Try.prog G91:=by
 intro f s h
 unfold G91 at h
 split at h
 ·injection h with h; subst h; exact ⟨⟨Try.f116,c116,Try.func116,by kernel_rfl,by decide +kernel⟩,hh116⟩
 ·cases h
theorem hh91:Holds Try.prog 91 Sm91:=holds91 gam91
end Go.Proofs.Ythhopbicmaipgaa.Rx.S

namespace Go.Proofs.Ythhopbicmaipgaa.Rx.S
open Go Go.RowKit Go.Proofs
set_option maxRecDepth 100000
noncomputable def c54:Code:=(Try.f54.body.getD .skip)
def an54:An:=⟨fun _=>⟨[],[]⟩,fun _ _=>none⟩
abbrev ps54:List PK:=[.val .str false]
abbrev rs54:List RK:=[.val .bool false]
abbrev R54:=retsD rs54 × outsD ps54
noncomputable def G54:Gam:=fun f=>match f with | 55=>some Sm55 | 91=>some Sm91 | _=>none
theorem h0_54 (hg:GamOK Try.prog G54):Holds Try.prog 54 ⟨ps54,rs54,false,runF TT G54 an54 Try.f54 c54 ps54 rs54⟩:=holds_of tt_ok hg mixed Try.func54 (by kernel_rfl) (by rfl) (by decide +kernel)
noncomputable def st54_top (n:Nat) (a:ByteArray):Option R54 :=
 (q55 n ((↑a.size:Int),(1:Int),(3:Int),())).bind fun r0=>cond (r0.1.1) ((q91 n (a,(),())).bind fun r1=>some ((decide (r1.1.1 < (0:Int)),()),())) (some ((false,()),()))
theorem e54_top (n:Nat) (a:ByteArray):runF TT G54 an54 Try.f54 c54 ps54 rs54 n (a,())=st54_top n a:=by kernel_rfl
noncomputable def p54 (n:Nat) (a:ByteArray):Option R54:=st54_top n a
theorem F54_eq (n:Nat) (a:ByteArray):runF TT G54 an54 Try.f54 c54 ps54 rs54 n (a,())=p54 n a:=by
 rw [e54_top]
 skip
 try rfl
noncomputable def q54 (n:Nat) (x:argsD ps54):Option R54:=p54 n x.1
noncomputable def Sm54:Sm:=⟨ps54,rs54,false,q54⟩
theorem holds54 (hg:GamOK Try.prog G54):Holds Try.prog 54 Sm54:=by
 have:=h0_54 hg
 have e:(runF TT G54 an54 Try.f54 c54 ps54 rs54)=q54:=by
  funext n x
  exact F54_eq n x.1
 rw [e] at this
 exact this
theorem gam54:GamOK Try.prog G54:=by
 intro f s h
 unfold G54 at h
 split at h
 ·injection h with h; subst h; exact ⟨⟨Try.f55,c55,Try.func55,by kernel_rfl,by decide +kernel⟩,hh55⟩
 ·injection h with h; subst h; exact ⟨⟨Try.f91,c91,Try.func91,by kernel_rfl,by decide +kernel⟩,hh91⟩
 ·cases h
theorem hh54:Holds Try.prog 54 Sm54:=holds54 gam54
end Go.Proofs.Ythhopbicmaipgaa.Rx.S

namespace Go.Proofs.Ythhopbicmaipgaa.Rx.S
open Go Go.RowKit Go.Proofs
set_option maxRecDepth 100000
noncomputable def c86:Code:=(Try.f86.body.getD .skip)
def an86:An:=⟨fun _=>⟨[],[]⟩,fun _ _=>none⟩
abbrev ps86:List PK:=[.val (tIn 95) true]
abbrev rs86:List RK:=[.val .bool false]
abbrev R86:=retsD rs86 × outsD ps86
noncomputable def G86:Gam:=fun _=>none
theorem h0_86 (hg:GamOK Try.prog G86):Holds Try.prog 86 ⟨ps86,rs86,false,runF TT G86 an86 Try.f86 c86 ps86 rs86⟩:=holds_of tt_ok hg mixed Try.func86 (by kernel_rfl) (by rfl) (by decide +kernel)
noncomputable def st86_top (n:Nat) (a:NT):Option R86 :=
 cond (decide (a.1=(0:Int))) (cond (decide (a.2.1=(0:Int))) (cond (decide (a.2.2.1=(0:Int))) (cond (decide (a.2.2.2.1=(0:Int))) (cond (decide (a.2.2.2.2.1=(0:Int))) (cond (decide (a.2.2.2.2.2.1=(0:Int))) (cond (!a.2.2.2.2.2.2.1) (cond (ByteArray.toList a.2.2.2.2.2.2.2.1 == (ByteArray.mk #[]).toList) (some ((decide ((↑(List.length a.2.2.2.2.2.2.2.2):Int)=(0:Int)),()),())) (some ((false,()),()))) (some ((false,()),()))) (some ((false,()),()))) (some ((false,()),()))) (some ((false,()),()))) (some ((false,()),()))) (some ((false,()),()))) (some ((false,()),()))
theorem e86_top (n:Nat) (a:NT):runF TT G86 an86 Try.f86 c86 ps86 rs86 n (a,())=st86_top n a:=by kernel_rfl
noncomputable def p86 (n:Nat) (a:NT):Option R86:=st86_top n a
theorem F86_eq (n:Nat) (a:NT):runF TT G86 an86 Try.f86 c86 ps86 rs86 n (a,())=p86 n a:=by
 rw [e86_top]
 skip
 try rfl
noncomputable def q86 (n:Nat) (x:argsD ps86):Option R86:=p86 n x.1
noncomputable def Sm86:Sm:=⟨ps86,rs86,false,q86⟩
theorem holds86 (hg:GamOK Try.prog G86):Holds Try.prog 86 Sm86:=by
 have:=h0_86 hg
 have e:(runF TT G86 an86 Try.f86 c86 ps86 rs86)=q86:=by
  funext n x
  exact F86_eq n x.1
 rw [e] at this
 exact this
theorem gam86:GamOK Try.prog G86:=fun _ _ h=>by cases h
theorem hh86:Holds Try.prog 86 Sm86:=holds86 gam86
end Go.Proofs.Ythhopbicmaipgaa.Rx.S

namespace Go.Proofs.Ythhopbicmaipgaa.Rx.S
open Go Go.RowKit Go.Proofs
set_option maxRecDepth 100000
noncomputable def c36:Code:=(Try.f36.body.getD .skip)
def an36:An:=⟨fun r=>match r with | 6=>⟨[1,3,4,28,29,30],[]⟩ | 16=>⟨[1,3,4,5,6,28,29,30,105,106,107],[]⟩ | 25=>⟨[3,4,163,164,165],[]⟩ | 36=>⟨[3,4,11,12,163,164,165],[]⟩ | _=>⟨[],[]⟩,fun _ _=>none⟩
abbrev ps36:List PK:=[.val tFs true]
abbrev rs36:List RK:=[.val .bool false]
abbrev R36:=retsD rs36 × outsD ps36
noncomputable def G36:Gam:=fun f=>match f with | 54=>some Sm54 | 55=>some Sm55 | 86=>some Sm86 | _=>none
theorem h0_36 (hg:GamOK Try.prog G36):Holds Try.prog 36 ⟨ps36,rs36,false,runF TT G36 an36 Try.f36 c36 ps36 rs36⟩:=holds_of tt_ok hg mixed Try.func36 (by kernel_rfl) (by rfl) (by decide +kernel)
noncomputable def at36:Nat→Pt→List Nat→St→Option R36:=atF TT G36 an36 Try.f36 c36 _ _
def sh36_L16 (x0:Int) (x1:List NT) (x2:Int) (x3:Int) (x4:List (ByteArray × Int)) (x5:Int) (x6:Int) (x7:List NT) (x8:List Int) (x9:List Int) (x10:Int) (x11:Int) (x12:Int) (x13:Int) (x14:Int) (x15:Int) (x16:Bool) (x17:ByteArray) (x18:List (ByteArray × Int)):St:=(St.mk (AV.undef :: ((AV.one (SV.bptr 1000000 0)) :: (AV.undef :: ((AV.one (SV.ref 1000001 0 [] Option.none)) :: ((AV.one (SV.ref 1000002 0 [] Option.none)) :: ((AV.one (SV.int (Go.IntKind.i64) x0)) :: ((AV.one (SV.bptr 1000003 0)) :: (AV.undef :: (AV.undef :: (AV.undef :: (AV.undef :: (AV.undef :: (AV.undef :: (AV.undef :: (AV.undef :: (AV.undef :: (AV.undef :: (AV.undef :: (AV.undef :: (AV.undef :: (AV.undef :: (AV.undef :: (AV.undef :: (AV.undef :: (AV.undef :: (AV.undef :: (AV.undef :: (AV.undef :: ((AV.one (SV.con (⟨39,(Ty.int Go.IntKind.i64).pair ((Ty.int Go.IntKind.i64).pair ((Ty.int Go.IntKind.i64).pair ((Ty.int Go.IntKind.i64).pair ((Ty.int Go.IntKind.i64).pair ((Ty.int Go.IntKind.i64).pair (Ty.bool.pair (Ty.str.pair (Ty.row (nat_lit 95) (Ty.str.pair (Ty.int Go.IntKind.i64)))))))))),x1⟩:Rw))) :: ((AV.one (SV.int (Go.IntKind.i64) x2)) :: ((AV.one (SV.int (Go.IntKind.i64) x3)) :: (AV.undef :: (AV.undef :: (AV.undef :: (AV.undef :: (AV.undef :: (AV.undef :: (AV.undef :: (AV.undef :: (AV.undef :: (AV.undef :: (AV.undef :: (AV.undef :: (AV.undef :: (AV.undef :: (AV.undef :: (AV.undef :: (AV.undef :: (AV.undef :: (AV.undef :: (AV.undef :: (AV.undef :: (AV.undef :: (AV.undef :: (AV.undef :: (AV.undef :: (AV.undef :: (AV.undef :: (AV.undef :: (AV.undef :: (AV.undef :: (AV.undef :: (AV.undef :: (AV.undef :: (AV.undef :: (AV.undef :: (AV.undef :: (AV.undef :: (AV.undef :: (AV.undef :: (AV.undef :: (AV.undef :: (AV.undef :: (AV.undef :: (AV.undef :: (AV.undef :: (AV.undef :: (AV.undef :: (AV.undef :: (AV.undef :: (AV.undef :: (AV.undef :: (AV.undef :: (AV.undef :: (AV.undef :: (AV.undef :: (AV.undef :: (AV.undef :: (AV.undef :: (AV.undef :: (AV.undef :: (AV.undef :: (AV.undef :: (AV.undef :: (AV.undef :: (AV.undef :: (AV.undef :: (AV.undef :: (AV.undef :: (AV.undef :: (AV.undef :: (AV.undef :: (AV.undef :: (AV.undef :: (AV.undef :: ((AV.one (SV.con (⟨95,Ty.str.pair (Ty.int Go.IntKind.i64),x4⟩:Rw))) :: ((AV.one (SV.int (Go.IntKind.i64) x5)) :: ((AV.one (SV.int (Go.IntKind.i64) x6)) :: (AV.undef :: (AV.undef :: (AV.undef :: (AV.undef :: (AV.undef :: (AV.undef :: (AV.undef :: (AV.undef :: (AV.undef :: (AV.undef :: (AV.undef :: (AV.undef :: (AV.undef :: (AV.undef :: (AV.undef :: (AV.undef :: (AV.undef :: (AV.undef :: (AV.undef :: (AV.undef :: (AV.undef :: (AV.undef :: (AV.undef :: (AV.undef :: (AV.undef :: (AV.undef :: (AV.undef :: (AV.undef :: (AV.undef :: (AV.undef :: (AV.undef :: (AV.undef :: (AV.undef :: (AV.undef :: (AV.undef :: (AV.undef :: (AV.undef :: (AV.undef :: (AV.undef :: (AV.undef :: (AV.undef :: (AV.undef :: (AV.undef :: (AV.undef :: (AV.undef :: (AV.undef :: (AV.undef :: (AV.undef :: (AV.undef :: (AV.undef :: (AV.undef :: (AV.undef :: (AV.undef :: (AV.undef :: (AV.undef :: (AV.undef :: (AV.undef :: (AV.undef :: (AV.undef :: (AV.undef :: (AV.undef :: (AV.undef :: (AV.undef :: (AV.undef :: (AV.undef :: (AV.undef :: (AV.undef :: (AV.undef :: (AV.undef :: (AV.undef :: (AV.undef :: (AV.undef :: (AV.undef :: (AV.undef :: (AV.undef :: (AV.undef :: (AV.undef :: (AV.undef :: (AV.undef :: (AV.undef :: (AV.undef :: (AV.undef :: (AV.undef :: (AV.undef :: (AV.undef :: (AV.undef :: (AV.undef :: (AV.undef :: (AV.undef :: (AV.undef :: (AV.undef :: (AV.undef :: (AV.undef :: (AV.undef :: (AV.undef :: (AV.undef :: (AV.undef :: (AV.undef :: (AV.undef :: (AV.undef :: (AV.undef :: (AV.undef :: (AV.undef :: (AV.undef :: (AV.undef :: (AV.undef :: (AV.undef :: (AV.undef :: (AV.undef :: (AV.undef :: (AV.undef :: (AV.undef :: (AV.undef :: (AV.undef :: (AV.undef :: (AV.undef :: (AV.undef :: (AV.undef :: (AV.undef :: (AV.undef :: (AV.undef :: (AV.undef :: [])))))))))))))))))))))))))))))))))))))))))))))))))))))))))))))))))))))))))))))))))))))))))))))))))))))))))))))))))))))))))))))))))))))))))))))))))))))))))))))))))))))))))))))))))))))))))))))))))))))))))))))))))))))))))))))))))))))) ((1000000,(Ent.box ((SV.con (⟨39,(Ty.int Go.IntKind.i64).pair ((Ty.int Go.IntKind.i64).pair ((Ty.int Go.IntKind.i64).pair ((Ty.int Go.IntKind.i64).pair ((Ty.int Go.IntKind.i64).pair ((Ty.int Go.IntKind.i64).pair (Ty.bool.pair (Ty.str.pair (Ty.row (nat_lit 95) (Ty.str.pair (Ty.int Go.IntKind.i64)))))))))),x7⟩:Rw)) :: []))) :: ((1000001,(Ent.row (⟨3,Ty.int Go.IntKind.i64,x8⟩:Rw) 0 Option.none)) :: ((1000002,(Ent.row (⟨3,Ty.int Go.IntKind.i64,x9⟩:Rw) 0 Option.none)) :: ((1000003,(Ent.box ((SV.int (Go.IntKind.i64) x10) :: ((SV.int (Go.IntKind.i64) x11) :: ((SV.int (Go.IntKind.i64) x12) :: ((SV.int (Go.IntKind.i64) x13) :: ((SV.int (Go.IntKind.i64) x14) :: ((SV.int (Go.IntKind.i64) x15) :: ((SV.bool x16) :: ((SV.str x17) :: ((SV.con (⟨95,Ty.str.pair (Ty.int Go.IntKind.i64),x18⟩:Rw)) :: []))))))))))) :: [])))))
def sh36_L36 (x0:Int) (x1:Int) (x2:List NT) (x3:Int) (x4:Int) (x5:List Int) (x6:List Int):St:=(St.mk (AV.undef :: (AV.undef :: (AV.undef :: ((AV.one (SV.ref 1000000 0 [] Option.none)) :: ((AV.one (SV.ref 1000001 0 [] Option.none)) :: (AV.undef :: (AV.undef :: (AV.undef :: (AV.undef :: (AV.undef :: (AV.undef :: ((AV.one (SV.int (Go.IntKind.i64) x0)) :: ((AV.one (SV.int (Go.IntKind.i64) x1)) :: (AV.undef :: (AV.undef :: (AV.undef :: (AV.undef :: (AV.undef :: (AV.undef :: (AV.undef :: (AV.undef :: (AV.undef :: (AV.undef :: (AV.undef :: (AV.undef :: (AV.undef :: (AV.undef :: (AV.undef :: (AV.undef :: (AV.undef :: (AV.undef :: (AV.undef :: (AV.undef :: (AV.undef :: (AV.undef :: (AV.undef :: (AV.undef :: (AV.undef :: (AV.undef :: (AV.undef :: (AV.undef :: (AV.undef :: (AV.undef :: (AV.undef :: (AV.undef :: (AV.undef :: (AV.undef :: (AV.undef :: (AV.undef :: (AV.undef :: (AV.undef :: (AV.undef :: (AV.undef :: (AV.undef :: (AV.undef :: (AV.undef :: (AV.undef :: (AV.undef :: (AV.undef :: (AV.undef :: (AV.undef :: (AV.undef :: (AV.undef :: (AV.undef :: (AV.undef :: (AV.undef :: (AV.undef :: (AV.undef :: (AV.undef :: (AV.undef :: (AV.undef :: (AV.undef :: (AV.undef :: (AV.undef :: (AV.undef :: (AV.undef :: (AV.undef :: (AV.undef :: (AV.undef :: (AV.undef :: (AV.undef :: (AV.undef :: (AV.undef :: (AV.undef :: (AV.undef :: (AV.undef :: (AV.undef :: (AV.undef :: (AV.undef :: (AV.undef :: (AV.undef :: (AV.undef :: (AV.undef :: (AV.undef :: (AV.undef :: (AV.undef :: (AV.undef :: (AV.undef :: (AV.undef :: (AV.undef :: (AV.undef :: (AV.undef :: (AV.undef :: (AV.undef :: (AV.undef :: (AV.undef :: (AV.undef :: (AV.undef :: (AV.undef :: (AV.undef :: (AV.undef :: (AV.undef :: (AV.undef :: (AV.undef :: (AV.undef :: (AV.undef :: (AV.undef :: (AV.undef :: (AV.undef :: (AV.undef :: (AV.undef :: (AV.undef :: (AV.undef :: (AV.undef :: (AV.undef :: (AV.undef :: (AV.undef :: (AV.undef :: (AV.undef :: (AV.undef :: (AV.undef :: (AV.undef :: (AV.undef :: (AV.undef :: (AV.undef :: (AV.undef :: (AV.undef :: (AV.undef :: (AV.undef :: (AV.undef :: (AV.undef :: (AV.undef :: (AV.undef :: (AV.undef :: (AV.undef :: (AV.undef :: (AV.undef :: (AV.undef :: (AV.undef :: (AV.undef :: (AV.undef :: (AV.undef :: (AV.undef :: (AV.undef :: (AV.undef :: (AV.undef :: (AV.undef :: (AV.undef :: (AV.undef :: (AV.undef :: (AV.undef :: (AV.undef :: (AV.undef :: ((AV.one (SV.con (⟨39,(Ty.int Go.IntKind.i64).pair ((Ty.int Go.IntKind.i64).pair ((Ty.int Go.IntKind.i64).pair ((Ty.int Go.IntKind.i64).pair ((Ty.int Go.IntKind.i64).pair ((Ty.int Go.IntKind.i64).pair (Ty.bool.pair (Ty.str.pair (Ty.row (nat_lit 95) (Ty.str.pair (Ty.int Go.IntKind.i64)))))))))),x2⟩:Rw))) :: ((AV.one (SV.int (Go.IntKind.i64) x3)) :: ((AV.one (SV.int (Go.IntKind.i64) x4)) :: (AV.undef :: (AV.undef :: (AV.undef :: (AV.undef :: (AV.undef :: (AV.undef :: (AV.undef :: (AV.undef :: (AV.undef :: (AV.undef :: (AV.undef :: (AV.undef :: (AV.undef :: (AV.undef :: (AV.undef :: (AV.undef :: (AV.undef :: (AV.undef :: (AV.undef :: (AV.undef :: (AV.undef :: (AV.undef :: (AV.undef :: (AV.undef :: (AV.undef :: (AV.undef :: (AV.undef :: (AV.undef :: (AV.undef :: (AV.undef :: (AV.undef :: (AV.undef :: (AV.undef :: (AV.undef :: (AV.undef :: (AV.undef :: (AV.undef :: (AV.undef :: (AV.undef :: (AV.undef :: (AV.undef :: (AV.undef :: (AV.undef :: (AV.undef :: (AV.undef :: (AV.undef :: (AV.undef :: (AV.undef :: (AV.undef :: (AV.undef :: (AV.undef :: (AV.undef :: (AV.undef :: (AV.undef :: (AV.undef :: (AV.undef :: (AV.undef :: (AV.undef :: (AV.undef :: (AV.undef :: (AV.undef :: (AV.undef :: (AV.undef :: (AV.undef :: [])))))))))))))))))))))))))))))))))))))))))))))))))))))))))))))))))))))))))))))))))))))))))))))))))))))))))))))))))))))))))))))))))))))))))))))))))))))))))))))))))))))))))))))))))))))))))))))))))))))))))))))))))))))))))))))))))))))) ((1000000,(Ent.row (⟨3,Ty.int Go.IntKind.i64,x5⟩:Rw) 0 Option.none)) :: ((1000001,(Ent.row (⟨3,Ty.int Go.IntKind.i64,x6⟩:Rw) 0 Option.none)) :: [])))
def sh36_L25 (x0:List NT) (x1:Int) (x2:Int) (x3:List Int) (x4:List Int):St:=(St.mk (AV.undef :: (AV.undef :: (AV.undef :: ((AV.one (SV.ref 1000000 0 [] Option.none)) :: ((AV.one (SV.ref 1000001 0 [] Option.none)) :: (AV.undef :: (AV.undef :: (AV.undef :: (AV.undef :: (AV.undef :: (AV.undef :: (AV.undef :: (AV.undef :: (AV.undef :: (AV.undef :: (AV.undef :: (AV.undef :: (AV.undef :: (AV.undef :: (AV.undef :: (AV.undef :: (AV.undef :: (AV.undef :: (AV.undef :: (AV.undef :: (AV.undef :: (AV.undef :: (AV.undef :: (AV.undef :: (AV.undef :: (AV.undef :: (AV.undef :: (AV.undef :: (AV.undef :: (AV.undef :: (AV.undef :: (AV.undef :: (AV.undef :: (AV.undef :: (AV.undef :: (AV.undef :: (AV.undef :: (AV.undef :: (AV.undef :: (AV.undef :: (AV.undef :: (AV.undef :: (AV.undef :: (AV.undef :: (AV.undef :: (AV.undef :: (AV.undef :: (AV.undef :: (AV.undef :: (AV.undef :: (AV.undef :: (AV.undef :: (AV.undef :: (AV.undef :: (AV.undef :: (AV.undef :: (AV.undef :: (AV.undef :: (AV.undef :: (AV.undef :: (AV.undef :: (AV.undef :: (AV.undef :: (AV.undef :: (AV.undef :: (AV.undef :: (AV.undef :: (AV.undef :: (AV.undef :: (AV.undef :: (AV.undef :: (AV.undef :: (AV.undef :: (AV.undef :: (AV.undef :: (AV.undef :: (AV.undef :: (AV.undef :: (AV.undef :: (AV.undef :: (AV.undef :: (AV.undef :: (AV.undef :: (AV.undef :: (AV.undef :: (AV.undef :: (AV.undef :: (AV.undef :: (AV.undef :: (AV.undef :: (AV.undef :: (AV.undef :: (AV.undef :: (AV.undef :: (AV.undef :: (AV.undef :: (AV.undef :: (AV.undef :: (AV.undef :: (AV.undef :: (AV.undef :: (AV.undef :: (AV.undef :: (AV.undef :: (AV.undef :: (AV.undef :: (AV.undef :: (AV.undef :: (AV.undef :: (AV.undef :: (AV.undef :: (AV.undef :: (AV.undef :: (AV.undef :: (AV.undef :: (AV.undef :: (AV.undef :: (AV.undef :: (AV.undef :: (AV.undef :: (AV.undef :: (AV.undef :: (AV.undef :: (AV.undef :: (AV.undef :: (AV.undef :: (AV.undef :: (AV.undef :: (AV.undef :: (AV.undef :: (AV.undef :: (AV.undef :: (AV.undef :: (AV.undef :: (AV.undef :: (AV.undef :: (AV.undef :: (AV.undef :: (AV.undef :: (AV.undef :: (AV.undef :: (AV.undef :: (AV.undef :: (AV.undef :: (AV.undef :: (AV.undef :: (AV.undef :: (AV.undef :: (AV.undef :: (AV.undef :: (AV.undef :: (AV.undef :: (AV.undef :: (AV.undef :: (AV.undef :: (AV.undef :: (AV.undef :: (AV.undef :: ((AV.one (SV.con (⟨39,(Ty.int Go.IntKind.i64).pair ((Ty.int Go.IntKind.i64).pair ((Ty.int Go.IntKind.i64).pair ((Ty.int Go.IntKind.i64).pair ((Ty.int Go.IntKind.i64).pair ((Ty.int Go.IntKind.i64).pair (Ty.bool.pair (Ty.str.pair (Ty.row (nat_lit 95) (Ty.str.pair (Ty.int Go.IntKind.i64)))))))))),x0⟩:Rw))) :: ((AV.one (SV.int (Go.IntKind.i64) x1)) :: ((AV.one (SV.int (Go.IntKind.i64) x2)) :: (AV.undef :: (AV.undef :: (AV.undef :: (AV.undef :: (AV.undef :: (AV.undef :: (AV.undef :: (AV.undef :: (AV.undef :: (AV.undef :: (AV.undef :: (AV.undef :: (AV.undef :: (AV.undef :: (AV.undef :: (AV.undef :: (AV.undef :: (AV.undef :: (AV.undef :: (AV.undef :: (AV.undef :: (AV.undef :: (AV.undef :: (AV.undef :: (AV.undef :: (AV.undef :: (AV.undef :: (AV.undef :: (AV.undef :: (AV.undef :: (AV.undef :: (AV.undef :: (AV.undef :: (AV.undef :: (AV.undef :: (AV.undef :: (AV.undef :: (AV.undef :: (AV.undef :: (AV.undef :: (AV.undef :: (AV.undef :: (AV.undef :: (AV.undef :: (AV.undef :: (AV.undef :: (AV.undef :: (AV.undef :: (AV.undef :: (AV.undef :: (AV.undef :: (AV.undef :: (AV.undef :: (AV.undef :: (AV.undef :: (AV.undef :: (AV.undef :: (AV.undef :: (AV.undef :: (AV.undef :: (AV.undef :: (AV.undef :: (AV.undef :: (AV.undef :: [])))))))))))))))))))))))))))))))))))))))))))))))))))))))))))))))))))))))))))))))))))))))))))))))))))))))))))))))))))))))))))))))))))))))))))))))))))))))))))))))))))))))))))))))))))))))))))))))))))))))))))))))))))))))))))))))))))))) ((1000000,(Ent.row (⟨3,Ty.int Go.IntKind.i64,x3⟩:Rw) 0 Option.none)) :: ((1000001,(Ent.row (⟨3,Ty.int Go.IntKind.i64,x4⟩:Rw) 0 Option.none)) :: [])))
def sh36_L6 (x0:List NT) (x1:Int) (x2:Int) (x3:List NT) (x4:List Int) (x5:List Int):St:=(St.mk (AV.undef :: ((AV.one (SV.bptr 1000000 0)) :: (AV.undef :: ((AV.one (SV.ref 1000001 0 [] Option.none)) :: ((AV.one (SV.ref 1000002 0 [] Option.none)) :: (AV.undef :: (AV.undef :: (AV.undef :: (AV.undef :: (AV.undef :: (AV.undef :: (AV.undef :: (AV.undef :: (AV.undef :: (AV.undef :: (AV.undef :: (AV.undef :: (AV.undef :: (AV.undef :: (AV.undef :: (AV.undef :: (AV.undef :: (AV.undef :: (AV.undef :: (AV.undef :: (AV.undef :: (AV.undef :: (AV.undef :: ((AV.one (SV.con (⟨39,(Ty.int Go.IntKind.i64).pair ((Ty.int Go.IntKind.i64).pair ((Ty.int Go.IntKind.i64).pair ((Ty.int Go.IntKind.i64).pair ((Ty.int Go.IntKind.i64).pair ((Ty.int Go.IntKind.i64).pair (Ty.bool.pair (Ty.str.pair (Ty.row (nat_lit 95) (Ty.str.pair (Ty.int Go.IntKind.i64)))))))))),x0⟩:Rw))) :: ((AV.one (SV.int (Go.IntKind.i64) x1)) :: ((AV.one (SV.int (Go.IntKind.i64) x2)) :: (AV.undef :: (AV.undef :: (AV.undef :: (AV.undef :: (AV.undef :: (AV.undef :: (AV.undef :: (AV.undef :: (AV.undef :: (AV.undef :: (AV.undef :: (AV.undef :: (AV.undef :: (AV.undef :: (AV.undef :: (AV.undef :: (AV.undef :: (AV.undef :: (AV.undef :: (AV.undef :: (AV.undef :: (AV.undef :: (AV.undef :: (AV.undef :: (AV.undef :: (AV.undef :: (AV.undef :: (AV.undef :: (AV.undef :: (AV.undef :: (AV.undef :: (AV.undef :: (AV.undef :: (AV.undef :: (AV.undef :: (AV.undef :: (AV.undef :: (AV.undef :: (AV.undef :: (AV.undef :: (AV.undef :: (AV.undef :: (AV.undef :: (AV.undef :: (AV.undef :: (AV.undef :: (AV.undef :: (AV.undef :: (AV.undef :: (AV.undef :: (AV.undef :: (AV.undef :: (AV.undef :: (AV.undef :: (AV.undef :: (AV.undef :: (AV.undef :: (AV.undef :: (AV.undef :: (AV.undef :: (AV.undef :: (AV.undef :: (AV.undef :: (AV.undef :: (AV.undef :: (AV.undef :: (AV.undef :: (AV.undef :: (AV.undef :: (AV.undef :: (AV.undef :: (AV.undef :: (AV.undef :: (AV.undef :: (AV.undef :: (AV.undef :: (AV.undef :: (AV.undef :: (AV.undef :: (AV.undef :: (AV.undef :: (AV.undef :: (AV.undef :: (AV.undef :: (AV.undef :: (AV.undef :: (AV.undef :: (AV.undef :: (AV.undef :: (AV.undef :: (AV.undef :: (AV.undef :: (AV.undef :: (AV.undef :: (AV.undef :: (AV.undef :: (AV.undef :: (AV.undef :: (AV.undef :: (AV.undef :: (AV.undef :: (AV.undef :: (AV.undef :: (AV.undef :: (AV.undef :: (AV.undef :: (AV.undef :: (AV.undef :: (AV.undef :: (AV.undef :: (AV.undef :: (AV.undef :: (AV.undef :: (AV.undef :: (AV.undef :: (AV.undef :: (AV.undef :: (AV.undef :: (AV.undef :: (AV.undef :: (AV.undef :: (AV.undef :: (AV.undef :: (AV.undef :: (AV.undef :: (AV.undef :: (AV.undef :: (AV.undef :: (AV.undef :: (AV.undef :: (AV.undef :: (AV.undef :: (AV.undef :: (AV.undef :: (AV.undef :: (AV.undef :: (AV.undef :: (AV.undef :: (AV.undef :: (AV.undef :: (AV.undef :: (AV.undef :: (AV.undef :: (AV.undef :: (AV.undef :: (AV.undef :: (AV.undef :: (AV.undef :: (AV.undef :: (AV.undef :: (AV.undef :: (AV.undef :: (AV.undef :: (AV.undef :: (AV.undef :: (AV.undef :: (AV.undef :: (AV.undef :: (AV.undef :: (AV.undef :: (AV.undef :: (AV.undef :: (AV.undef :: (AV.undef :: (AV.undef :: (AV.undef :: (AV.undef :: (AV.undef :: (AV.undef :: (AV.undef :: (AV.undef :: (AV.undef :: (AV.undef :: (AV.undef :: (AV.undef :: (AV.undef :: (AV.undef :: (AV.undef :: (AV.undef :: (AV.undef :: (AV.undef :: (AV.undef :: (AV.undef :: (AV.undef :: (AV.undef :: (AV.undef :: (AV.undef :: (AV.undef :: (AV.undef :: (AV.undef :: (AV.undef :: (AV.undef :: (AV.undef :: (AV.undef :: (AV.undef :: (AV.undef :: (AV.undef :: (AV.undef :: (AV.undef :: [])))))))))))))))))))))))))))))))))))))))))))))))))))))))))))))))))))))))))))))))))))))))))))))))))))))))))))))))))))))))))))))))))))))))))))))))))))))))))))))))))))))))))))))))))))))))))))))))))))))))))))))))))))))))))))))))))))))) ((1000000,(Ent.box ((SV.con (⟨39,(Ty.int Go.IntKind.i64).pair ((Ty.int Go.IntKind.i64).pair ((Ty.int Go.IntKind.i64).pair ((Ty.int Go.IntKind.i64).pair ((Ty.int Go.IntKind.i64).pair ((Ty.int Go.IntKind.i64).pair (Ty.bool.pair (Ty.str.pair (Ty.row (nat_lit 95) (Ty.str.pair (Ty.int Go.IntKind.i64)))))))))),x3⟩:Rw)) :: []))) :: ((1000001,(Ent.row (⟨3,Ty.int Go.IntKind.i64,x4⟩:Rw) 0 Option.none)) :: ((1000002,(Ent.row (⟨3,Ty.int Go.IntKind.i64,x5⟩:Rw) 0 Option.none)) :: []))))
noncomputable def st36_top (n:Nat) (lL6:(List NT)→Int→Int→(List NT)→(List Int)→(List Int)→Option R36) (a:List NT):Option R36 :=
 cond (!decide ((↑a.length:Int)=(10:Int))) (some ((false,()),())) (cond (decide ((0:Int) < (↑a.length:Int))) (cond (!decide ((a.getD (Int.toNat (0:Int)) ZN).1=(2:Int))) (some ((false,()),())) (lL6 (a) ((↑a.length:Int)) ((0:Int)) (a) (List.replicate (Int.toNat (10:Int)) (0:Int)) (List.replicate (Int.toNat (10:Int)) (0:Int)))) (none))
noncomputable def st36_L16 (n:Nat) (lL16:Int→(List NT)→Int→Int→(List (ByteArray × Int))→Int→Int→(List NT)→(List Int)→(List Int)→Int→Int→Int→Int→Int→Int→Bool→ByteArray→(List (ByteArray × Int))→Option R36) (lL6:(List NT)→Int→Int→(List NT)→(List Int)→(List Int)→Option R36) (x0:Int) (x1:List NT) (x2:Int) (x3:Int) (x4:List (ByteArray × Int)) (x5:Int) (x6:Int) (x7:List NT) (x8:List Int) (x9:List Int) (x10:Int) (x11:Int) (x12:Int) (x13:Int) (x14:Int) (x15:Int) (x16:Bool) (x17:ByteArray) (x18:List (ByteArray × Int)):Option R36 :=
 cond (decide (x6 < x5)) (cond (decide ((0:Int)≤x6)) (cond (decide (x6 < (↑x4.length:Int))) ((q54 n ((x4.getD x6.toNat (ByteArray.empty,(0:Int))).1,())).bind fun r8=>cond (!r8.1.1) (some ((false,()),())) ((q55 n ((x4.getD x6.toNat (ByteArray.empty,(0:Int))).2,(0:Int),(9:Int),())).bind fun r9=>cond (!r9.1.1) (some ((false,()),())) (cond (decide ((0:Int)≤(x4.getD x6.toNat (ByteArray.empty,(0:Int))).2)) (cond (decide ((x4.getD x6.toNat (ByteArray.empty,(0:Int))).2 < (↑x7.length:Int))) (cond (decide ((x7.getD (Int.toNat (x4.getD x6.toNat (ByteArray.empty,(0:Int))).2) ZN).1=(0:Int))) (some ((false,()),())) (cond (decide ((0:Int) < x6)) (cond (decide ((0:Int)≤Go.IntKind.i64.wrap (x6 - (1:Int)))) (cond (decide (Go.IntKind.i64.wrap (x6 - (1:Int)) < (↑x18.length:Int))) (cond (!Go.Op.bytesLess (ByteArray.toList (x18.getD (Go.IntKind.i64.wrap (x6 - (1:Int))).toNat (ByteArray.empty,(0:Int))).1) (ByteArray.toList (x4.getD x6.toNat (ByteArray.empty,(0:Int))).1)) (some ((false,()),())) (cond (decide ((0:Int)≤(x4.getD x6.toNat (ByteArray.empty,(0:Int))).2)) (cond (decide ((x4.getD x6.toNat (ByteArray.empty,(0:Int))).2 < (↑x8.length:Int))) (cond (decide ((0:Int)≤(x4.getD x6.toNat (ByteArray.empty,(0:Int))).2)) (cond (decide ((x4.getD x6.toNat (ByteArray.empty,(0:Int))).2 < (↑x8.length:Int))) (cond (decide ((0:Int)≤(x4.getD x6.toNat (ByteArray.empty,(0:Int))).2)) (cond (decide ((x4.getD x6.toNat (ByteArray.empty,(0:Int))).2 < (↑x9.length:Int))) (lL16 (x0) (x1) (x2) (x3) (x4) (x5) (Go.IntKind.i64.wrap (x6 + (1:Int))) (x7) (x8.set (Int.toNat (x4.getD x6.toNat (ByteArray.empty,(0:Int))).2) (Go.IntKind.i64.wrap (x8.getD (Int.toNat (x4.getD x6.toNat (ByteArray.empty,(0:Int))).2) (0:Int) + (1:Int)))) (x9.set (Int.toNat (x4.getD x6.toNat (ByteArray.empty,(0:Int))).2) x0) (x10) (x11) (x12) (x13) (x14) (x15) (x16) (x17) (x18)) (none)) (none)) (none)) (none)) (none)) (none))) (none)) (none)) (cond (decide ((0:Int)≤(x4.getD x6.toNat (ByteArray.empty,(0:Int))).2)) (cond (decide ((x4.getD x6.toNat (ByteArray.empty,(0:Int))).2 < (↑x8.length:Int))) (cond (decide ((0:Int)≤(x4.getD x6.toNat (ByteArray.empty,(0:Int))).2)) (cond (decide ((x4.getD x6.toNat (ByteArray.empty,(0:Int))).2 < (↑x8.length:Int))) (cond (decide ((0:Int)≤(x4.getD x6.toNat (ByteArray.empty,(0:Int))).2)) (cond (decide ((x4.getD x6.toNat (ByteArray.empty,(0:Int))).2 < (↑x9.length:Int))) (lL16 (x0) (x1) (x2) (x3) (x4) (x5) (Go.IntKind.i64.wrap (x6 + (1:Int))) (x7) (x8.set (Int.toNat (x4.getD x6.toNat (ByteArray.empty,(0:Int))).2) (Go.IntKind.i64.wrap (x8.getD (Int.toNat (x4.getD x6.toNat (ByteArray.empty,(0:Int))).2) (0:Int) + (1:Int)))) (x9.set (Int.toNat (x4.getD x6.toNat (ByteArray.empty,(0:Int))).2) x0) (x10) (x11) (x12) (x13) (x14) (x15) (x16) (x17) (x18)) (none)) (none)) (none)) (none)) (none)) (none)))) (none)) (none)))) (none)) (none)) (lL6 (x1) (x2) (Go.IntKind.i64.wrap (x3 + (1:Int))) (x7) (x8) (x9))
noncomputable def st36_L36 (n:Nat) (lL36:Int→Int→(List NT)→Int→Int→(List Int)→(List Int)→Option R36) (lL25:(List NT)→Int→Int→(List Int)→(List Int)→Option R36) (x0:Int) (x1:Int) (x2:List NT) (x3:Int) (x4:Int) (x5:List Int) (x6:List Int):Option R36 :=
 cond (!decide (x0=(0:Int))) (cond (decide ((10:Int) < x1)) (some ((false,()),())) (cond (decide ((0:Int)≤x0)) (cond (decide (x0 < (↑x6.length:Int))) (lL36 (x6.getD x0.toNat (0:Int)) (Go.IntKind.i64.wrap (x1 + (1:Int))) (x2) (x3) (x4) (x5) (x6)) (none)) (none))) (lL25 (x2) (x3) (Go.IntKind.i64.wrap (x4 + (1:Int))) (x5) (x6))
noncomputable def st36_L25 (n:Nat) (lL25:(List NT)→Int→Int→(List Int)→(List Int)→Option R36) (lL36:Int→Int→(List NT)→Int→Int→(List Int)→(List Int)→Option R36) (x0:List NT) (x1:Int) (x2:Int) (x3:List Int) (x4:List Int):Option R36 :=
 cond (decide (x2 < x1)) (cond (decide ((0:Int)≤x2)) (cond (decide (x2 < (↑x0.length:Int))) (cond (decide ((x0.getD x2.toNat ZN).1=(0:Int))) (lL25 (x0) (x1) (Go.IntKind.i64.wrap (x2 + (1:Int))) (x3) (x4)) (cond (decide ((0:Int)≤x2)) (cond (decide (x2 < (↑x3.length:Int))) (cond (!decide ((x0.getD x2.toNat ZN).2.2.2.2.1=x3.getD x2.toNat (0:Int))) (some ((false,()),())) (cond (decide ((x0.getD x2.toNat ZN).1=(1:Int))) (cond (decide ((x0.getD x2.toNat ZN).2.2.2.2.1=(0:Int))) (cond (decide ((x0.getD x2.toNat ZN).2.2.2.2.2.1=(0:Int))) (some ((false,()),())) (cond (decide ((x0.getD x2.toNat ZN).1=(2:Int))) (cond (decide ((0:Int) < x2)) (cond (!decide ((x0.getD x2.toNat ZN).2.2.2.2.1=(1:Int))) (some ((false,()),())) (cond (decide (x2=(0:Int))) (cond (!decide ((x0.getD x2.toNat ZN).2.2.2.2.1=(0:Int))) (some ((false,()),())) (cond (decide ((x0.getD x2.toNat ZN).1=(2:Int))) (lL36 (x2) ((0:Int)) (x0) (x1) (x2) (x3) (x4)) (lL25 (x0) (x1) (Go.IntKind.i64.wrap (x2 + (1:Int))) (x3) (x4)))) (cond (decide ((x0.getD x2.toNat ZN).1=(2:Int))) (lL36 (x2) ((0:Int)) (x0) (x1) (x2) (x3) (x4)) (lL25 (x0) (x1) (Go.IntKind.i64.wrap (x2 + (1:Int))) (x3) (x4))))) (cond (decide (x2=(0:Int))) (cond (!decide ((x0.getD x2.toNat ZN).2.2.2.2.1=(0:Int))) (some ((false,()),())) (cond (decide ((x0.getD x2.toNat ZN).1=(2:Int))) (lL36 (x2) ((0:Int)) (x0) (x1) (x2) (x3) (x4)) (lL25 (x0) (x1) (Go.IntKind.i64.wrap (x2 + (1:Int))) (x3) (x4)))) (cond (decide ((x0.getD x2.toNat ZN).1=(2:Int))) (lL36 (x2) ((0:Int)) (x0) (x1) (x2) (x3) (x4)) (lL25 (x0) (x1) (Go.IntKind.i64.wrap (x2 + (1:Int))) (x3) (x4))))) (cond (decide (x2=(0:Int))) (cond (!decide ((x0.getD x2.toNat ZN).2.2.2.2.1=(0:Int))) (some ((false,()),())) (cond (decide ((x0.getD x2.toNat ZN).1=(2:Int))) (lL36 (x2) ((0:Int)) (x0) (x1) (x2) (x3) (x4)) (lL25 (x0) (x1) (Go.IntKind.i64.wrap (x2 + (1:Int))) (x3) (x4)))) (cond (decide ((x0.getD x2.toNat ZN).1=(2:Int))) (lL36 (x2) ((0:Int)) (x0) (x1) (x2) (x3) (x4)) (lL25 (x0) (x1) (Go.IntKind.i64.wrap (x2 + (1:Int))) (x3) (x4)))))) (cond (decide ((x0.getD x2.toNat ZN).1=(2:Int))) (cond (decide ((0:Int) < x2)) (cond (!decide ((x0.getD x2.toNat ZN).2.2.2.2.1=(1:Int))) (some ((false,()),())) (cond (decide (x2=(0:Int))) (cond (!decide ((x0.getD x2.toNat ZN).2.2.2.2.1=(0:Int))) (some ((false,()),())) (cond (decide ((x0.getD x2.toNat ZN).1=(2:Int))) (lL36 (x2) ((0:Int)) (x0) (x1) (x2) (x3) (x4)) (lL25 (x0) (x1) (Go.IntKind.i64.wrap (x2 + (1:Int))) (x3) (x4)))) (cond (decide ((x0.getD x2.toNat ZN).1=(2:Int))) (lL36 (x2) ((0:Int)) (x0) (x1) (x2) (x3) (x4)) (lL25 (x0) (x1) (Go.IntKind.i64.wrap (x2 + (1:Int))) (x3) (x4))))) (cond (decide (x2=(0:Int))) (cond (!decide ((x0.getD x2.toNat ZN).2.2.2.2.1=(0:Int))) (some ((false,()),())) (cond (decide ((x0.getD x2.toNat ZN).1=(2:Int))) (lL36 (x2) ((0:Int)) (x0) (x1) (x2) (x3) (x4)) (lL25 (x0) (x1) (Go.IntKind.i64.wrap (x2 + (1:Int))) (x3) (x4)))) (cond (decide ((x0.getD x2.toNat ZN).1=(2:Int))) (lL36 (x2) ((0:Int)) (x0) (x1) (x2) (x3) (x4)) (lL25 (x0) (x1) (Go.IntKind.i64.wrap (x2 + (1:Int))) (x3) (x4))))) (cond (decide (x2=(0:Int))) (cond (!decide ((x0.getD x2.toNat ZN).2.2.2.2.1=(0:Int))) (some ((false,()),())) (cond (decide ((x0.getD x2.toNat ZN).1=(2:Int))) (lL36 (x2) ((0:Int)) (x0) (x1) (x2) (x3) (x4)) (lL25 (x0) (x1) (Go.IntKind.i64.wrap (x2 + (1:Int))) (x3) (x4)))) (cond (decide ((x0.getD x2.toNat ZN).1=(2:Int))) (lL36 (x2) ((0:Int)) (x0) (x1) (x2) (x3) (x4)) (lL25 (x0) (x1) (Go.IntKind.i64.wrap (x2 + (1:Int))) (x3) (x4)))))) (cond (decide ((x0.getD x2.toNat ZN).1=(2:Int))) (cond (decide ((0:Int) < x2)) (cond (!decide ((x0.getD x2.toNat ZN).2.2.2.2.1=(1:Int))) (some ((false,()),())) (cond (decide (x2=(0:Int))) (cond (!decide ((x0.getD x2.toNat ZN).2.2.2.2.1=(0:Int))) (some ((false,()),())) (cond (decide ((x0.getD x2.toNat ZN).1=(2:Int))) (lL36 (x2) ((0:Int)) (x0) (x1) (x2) (x3) (x4)) (lL25 (x0) (x1) (Go.IntKind.i64.wrap (x2 + (1:Int))) (x3) (x4)))) (cond (decide ((x0.getD x2.toNat ZN).1=(2:Int))) (lL36 (x2) ((0:Int)) (x0) (x1) (x2) (x3) (x4)) (lL25 (x0) (x1) (Go.IntKind.i64.wrap (x2 + (1:Int))) (x3) (x4))))) (cond (decide (x2=(0:Int))) (cond (!decide ((x0.getD x2.toNat ZN).2.2.2.2.1=(0:Int))) (some ((false,()),())) (cond (decide ((x0.getD x2.toNat ZN).1=(2:Int))) (lL36 (x2) ((0:Int)) (x0) (x1) (x2) (x3) (x4)) (lL25 (x0) (x1) (Go.IntKind.i64.wrap (x2 + (1:Int))) (x3) (x4)))) (cond (decide ((x0.getD x2.toNat ZN).1=(2:Int))) (lL36 (x2) ((0:Int)) (x0) (x1) (x2) (x3) (x4)) (lL25 (x0) (x1) (Go.IntKind.i64.wrap (x2 + (1:Int))) (x3) (x4))))) (cond (decide (x2=(0:Int))) (cond (!decide ((x0.getD x2.toNat ZN).2.2.2.2.1=(0:Int))) (some ((false,()),())) (cond (decide ((x0.getD x2.toNat ZN).1=(2:Int))) (lL36 (x2) ((0:Int)) (x0) (x1) (x2) (x3) (x4)) (lL25 (x0) (x1) (Go.IntKind.i64.wrap (x2 + (1:Int))) (x3) (x4)))) (cond (decide ((x0.getD x2.toNat ZN).1=(2:Int))) (lL36 (x2) ((0:Int)) (x0) (x1) (x2) (x3) (x4)) (lL25 (x0) (x1) (Go.IntKind.i64.wrap (x2 + (1:Int))) (x3) (x4))))))) (none)) (none))) (none)) (none)) (some ((true,()),()))
noncomputable def st36_L6 (n:Nat) (lL6:(List NT)→Int→Int→(List NT)→(List Int)→(List Int)→Option R36) (lL16:Int→(List NT)→Int→Int→(List (ByteArray × Int))→Int→Int→(List NT)→(List Int)→(List Int)→Int→Int→Int→Int→Int→Int→Bool→ByteArray→(List (ByteArray × Int))→Option R36) (lL25:(List NT)→Int→Int→(List Int)→(List Int)→Option R36) (x0:List NT) (x1:Int) (x2:Int) (x3:List NT) (x4:List Int) (x5:List Int):Option R36 :=
 cond (decide (x2 < x1)) (cond (decide ((0:Int)≤x2)) (cond (decide (x2 < (↑x0.length:Int))) (cond (decide ((x0.getD x2.toNat ZN).1=(0:Int))) ((q86 n (((x0.getD x2.toNat ZN).1,(x0.getD x2.toNat ZN).2.1,(x0.getD x2.toNat ZN).2.2.1,(x0.getD x2.toNat ZN).2.2.2.1,(x0.getD x2.toNat ZN).2.2.2.2.1,(x0.getD x2.toNat ZN).2.2.2.2.2.1,(x0.getD x2.toNat ZN).2.2.2.2.2.2.1,(x0.getD x2.toNat ZN).2.2.2.2.2.2.2.1,(x0.getD x2.toNat ZN).2.2.2.2.2.2.2.2),())).bind fun r1=>cond (!r1.1.1) (some ((false,()),())) (lL6 (x0) (x1) (Go.IntKind.i64.wrap (x2 + (1:Int))) (x3) (x4) (x5))) ((q55 n ((x0.getD x2.toNat ZN).1,(1:Int),(2:Int),())).bind fun r2=>cond (!r2.1.1) (some ((false,()),())) ((q55 n ((x0.getD x2.toNat ZN).2.1,(0:Int),(511:Int),())).bind fun r3=>cond (!r3.1.1) (some ((false,()),())) ((q55 n ((x0.getD x2.toNat ZN).2.2.1,(0:Int),(9:Int),())).bind fun r4=>cond (!r4.1.1) (some ((false,()),())) ((q55 n ((x0.getD x2.toNat ZN).2.2.2.1,(0:Int),(9:Int),())).bind fun r5=>cond (!r5.1.1) (some ((false,()),())) ((q55 n ((x0.getD x2.toNat ZN).2.2.2.2.2.1,(0:Int),(99:Int),())).bind fun r6=>cond (!r6.1.1) (some ((false,()),())) (cond (decide ((x0.getD x2.toNat ZN).1=(1:Int))) (cond (decide ((40:Int) < (↑(ByteArray.size (x0.getD x2.toNat ZN).2.2.2.2.2.2.2.1):Int))) (some ((false,()),())) (cond (decide ((0:Int) < (↑(List.length (x0.getD x2.toNat ZN).2.2.2.2.2.2.2.2):Int))) (some ((false,()),())) (cond (decide ((x0.getD x2.toNat ZN).1=(2:Int))) (cond (!ByteArray.toList (x0.getD x2.toNat ZN).2.2.2.2.2.2.2.1 == (ByteArray.mk #[]).toList) (some ((false,()),())) (cond ((x0.getD x2.toNat ZN).2.2.2.2.2.2.1) (some ((false,()),())) (cond (decide ((6:Int) < (↑(List.length (x0.getD x2.toNat ZN).2.2.2.2.2.2.2.2):Int))) (some ((false,()),())) (lL16 (x2) (x0) (x1) (x2) ((x0.getD x2.toNat ZN).2.2.2.2.2.2.2.2) ((↑(List.length (x0.getD x2.toNat ZN).2.2.2.2.2.2.2.2):Int)) ((0:Int)) (x3) (x4) (x5) ((x0.getD x2.toNat ZN).1) ((x0.getD x2.toNat ZN).2.1) ((x0.getD x2.toNat ZN).2.2.1) ((x0.getD x2.toNat ZN).2.2.2.1) ((x0.getD x2.toNat ZN).2.2.2.2.1) ((x0.getD x2.toNat ZN).2.2.2.2.2.1) ((x0.getD x2.toNat ZN).2.2.2.2.2.2.1) ((x0.getD x2.toNat ZN).2.2.2.2.2.2.2.1) ((x0.getD x2.toNat ZN).2.2.2.2.2.2.2.2))))) (lL16 (x2) (x0) (x1) (x2) ((x0.getD x2.toNat ZN).2.2.2.2.2.2.2.2) ((↑(List.length (x0.getD x2.toNat ZN).2.2.2.2.2.2.2.2):Int)) ((0:Int)) (x3) (x4) (x5) ((x0.getD x2.toNat ZN).1) ((x0.getD x2.toNat ZN).2.1) ((x0.getD x2.toNat ZN).2.2.1) ((x0.getD x2.toNat ZN).2.2.2.1) ((x0.getD x2.toNat ZN).2.2.2.2.1) ((x0.getD x2.toNat ZN).2.2.2.2.2.1) ((x0.getD x2.toNat ZN).2.2.2.2.2.2.1) ((x0.getD x2.toNat ZN).2.2.2.2.2.2.2.1) ((x0.getD x2.toNat ZN).2.2.2.2.2.2.2.2))))) (cond (decide ((x0.getD x2.toNat ZN).1=(2:Int))) (cond (!ByteArray.toList (x0.getD x2.toNat ZN).2.2.2.2.2.2.2.1 == (ByteArray.mk #[]).toList) (some ((false,()),())) (cond ((x0.getD x2.toNat ZN).2.2.2.2.2.2.1) (some ((false,()),())) (cond (decide ((6:Int) < (↑(List.length (x0.getD x2.toNat ZN).2.2.2.2.2.2.2.2):Int))) (some ((false,()),())) (lL16 (x2) (x0) (x1) (x2) ((x0.getD x2.toNat ZN).2.2.2.2.2.2.2.2) ((↑(List.length (x0.getD x2.toNat ZN).2.2.2.2.2.2.2.2):Int)) ((0:Int)) (x3) (x4) (x5) ((x0.getD x2.toNat ZN).1) ((x0.getD x2.toNat ZN).2.1) ((x0.getD x2.toNat ZN).2.2.1) ((x0.getD x2.toNat ZN).2.2.2.1) ((x0.getD x2.toNat ZN).2.2.2.2.1) ((x0.getD x2.toNat ZN).2.2.2.2.2.1) ((x0.getD x2.toNat ZN).2.2.2.2.2.2.1) ((x0.getD x2.toNat ZN).2.2.2.2.2.2.2.1) ((x0.getD x2.toNat ZN).2.2.2.2.2.2.2.2))))) (lL16 (x2) (x0) (x1) (x2) ((x0.getD x2.toNat ZN).2.2.2.2.2.2.2.2) ((↑(List.length (x0.getD x2.toNat ZN).2.2.2.2.2.2.2.2):Int)) ((0:Int)) (x3) (x4) (x5) ((x0.getD x2.toNat ZN).1) ((x0.getD x2.toNat ZN).2.1) ((x0.getD x2.toNat ZN).2.2.1) ((x0.getD x2.toNat ZN).2.2.2.1) ((x0.getD x2.toNat ZN).2.2.2.2.1) ((x0.getD x2.toNat ZN).2.2.2.2.2.1) ((x0.getD x2.toNat ZN).2.2.2.2.2.2.1) ((x0.getD x2.toNat ZN).2.2.2.2.2.2.2.1) ((x0.getD x2.toNat ZN).2.2.2.2.2.2.2.2)))))))))) (none)) (none)) (lL25 (x3) ((↑x3.length:Int)) ((0:Int)) (x4) (x5))
theorem e36_top (n:Nat) (a:List NT):runF TT G36 an36 Try.f36 c36 ps36 rs36 n (a,())=st36_top n (fun x0 x1 x2 x3 x4 x5=>at36 n (.head 6) [n] (sh36_L6 x0 x1 x2 x3 x4 x5)) a:=by kernel_rfl
theorem e36_L16_0 (n:Nat) (m6:Nat) (x0:Int) (x1:List NT) (x2:Int) (x3:Int) (x4:List (ByteArray × Int)) (x5:Int) (x6:Int) (x7:List NT) (x8:List Int) (x9:List Int) (x10:Int) (x11:Int) (x12:Int) (x13:Int) (x14:Int) (x15:Int) (x16:Bool) (x17:ByteArray) (x18:List (ByteArray × Int)):at36 n (.head 16) [m6,0] (sh36_L16 x0 x1 x2 x3 x4 x5 x6 x7 x8 x9 x10 x11 x12 x13 x14 x15 x16 x17 x18)=none:=by kernel_rfl
theorem e36_L16 (n:Nat) (m6:Nat) (m16:Nat) (x0:Int) (x1:List NT) (x2:Int) (x3:Int) (x4:List (ByteArray × Int)) (x5:Int) (x6:Int) (x7:List NT) (x8:List Int) (x9:List Int) (x10:Int) (x11:Int) (x12:Int) (x13:Int) (x14:Int) (x15:Int) (x16:Bool) (x17:ByteArray) (x18:List (ByteArray × Int)):at36 n (.head 16) [m6,m16 + 1] (sh36_L16 x0 x1 x2 x3 x4 x5 x6 x7 x8 x9 x10 x11 x12 x13 x14 x15 x16 x17 x18)=st36_L16 n (fun x0 x1 x2 x3 x4 x5 x6 x7 x8 x9 x10 x11 x12 x13 x14 x15 x16 x17 x18=>at36 n (.head 16) [m6,m16] (sh36_L16 x0 x1 x2 x3 x4 x5 x6 x7 x8 x9 x10 x11 x12 x13 x14 x15 x16 x17 x18)) (fun x0 x1 x2 x3 x4 x5=>at36 n (.head 6) [m6] (sh36_L6 x0 x1 x2 x3 x4 x5)) x0 x1 x2 x3 x4 x5 x6 x7 x8 x9 x10 x11 x12 x13 x14 x15 x16 x17 x18:=by kernel_rfl
theorem e36_L36_0 (n:Nat) (m25:Nat) (x0:Int) (x1:Int) (x2:List NT) (x3:Int) (x4:Int) (x5:List Int) (x6:List Int):at36 n (.head 36) [m25,0] (sh36_L36 x0 x1 x2 x3 x4 x5 x6)=none:=by kernel_rfl
theorem e36_L36 (n:Nat) (m25:Nat) (m36:Nat) (x0:Int) (x1:Int) (x2:List NT) (x3:Int) (x4:Int) (x5:List Int) (x6:List Int):at36 n (.head 36) [m25,m36 + 1] (sh36_L36 x0 x1 x2 x3 x4 x5 x6)=st36_L36 n (fun x0 x1 x2 x3 x4 x5 x6=>at36 n (.head 36) [m25,m36] (sh36_L36 x0 x1 x2 x3 x4 x5 x6)) (fun x0 x1 x2 x3 x4=>at36 n (.head 25) [m25] (sh36_L25 x0 x1 x2 x3 x4)) x0 x1 x2 x3 x4 x5 x6:=by kernel_rfl
theorem e36_L25_0 (n:Nat) (x0:List NT) (x1:Int) (x2:Int) (x3:List Int) (x4:List Int):at36 n (.head 25) [0] (sh36_L25 x0 x1 x2 x3 x4)=none:=by kernel_rfl
theorem e36_L25 (n:Nat) (m25:Nat) (x0:List NT) (x1:Int) (x2:Int) (x3:List Int) (x4:List Int):at36 n (.head 25) [m25 + 1] (sh36_L25 x0 x1 x2 x3 x4)=st36_L25 n (fun x0 x1 x2 x3 x4=>at36 n (.head 25) [m25] (sh36_L25 x0 x1 x2 x3 x4)) (fun x0 x1 x2 x3 x4 x5 x6=>at36 n (.head 36) [m25,n] (sh36_L36 x0 x1 x2 x3 x4 x5 x6)) x0 x1 x2 x3 x4:=by kernel_rfl
theorem e36_L6_0 (n:Nat) (x0:List NT) (x1:Int) (x2:Int) (x3:List NT) (x4:List Int) (x5:List Int):at36 n (.head 6) [0] (sh36_L6 x0 x1 x2 x3 x4 x5)=none:=by kernel_rfl
theorem e36_L6 (n:Nat) (m6:Nat) (x0:List NT) (x1:Int) (x2:Int) (x3:List NT) (x4:List Int) (x5:List Int):at36 n (.head 6) [m6 + 1] (sh36_L6 x0 x1 x2 x3 x4 x5)=st36_L6 n (fun x0 x1 x2 x3 x4 x5=>at36 n (.head 6) [m6] (sh36_L6 x0 x1 x2 x3 x4 x5)) (fun x0 x1 x2 x3 x4 x5 x6 x7 x8 x9 x10 x11 x12 x13 x14 x15 x16 x17 x18=>at36 n (.head 16) [m6,n] (sh36_L16 x0 x1 x2 x3 x4 x5 x6 x7 x8 x9 x10 x11 x12 x13 x14 x15 x16 x17 x18)) (fun x0 x1 x2 x3 x4=>at36 n (.head 25) [n] (sh36_L25 x0 x1 x2 x3 x4)) x0 x1 x2 x3 x4 x5:=by kernel_rfl
noncomputable def p36_L16 (g6:(List NT)→Int→Int→(List NT)→(List Int)→(List Int)→Option R36) (n:Nat):Nat→Int→(List NT)→Int→Int→(List (ByteArray × Int))→Int→Int→(List NT)→(List Int)→(List Int)→Int→Int→Int→Int→Int→Int→Bool→ByteArray→(List (ByteArray × Int))→Option R36
 | 0,_,_,_,_,_,_,_,_,_,_,_,_,_,_,_,_,_,_,_=>none
 | m + 1,x0,x1,x2,x3,x4,x5,x6,x7,x8,x9,x10,x11,x12,x13,x14,x15,x16,x17,x18=>st36_L16 n (p36_L16 g6 n m) g6 x0 x1 x2 x3 x4 x5 x6 x7 x8 x9 x10 x11 x12 x13 x14 x15 x16 x17 x18
noncomputable def p36_L36 (g25:(List NT)→Int→Int→(List Int)→(List Int)→Option R36) (n:Nat):Nat→Int→Int→(List NT)→Int→Int→(List Int)→(List Int)→Option R36
 | 0,_,_,_,_,_,_,_=>none
 | m + 1,x0,x1,x2,x3,x4,x5,x6=>st36_L36 n (p36_L36 g25 n m) g25 x0 x1 x2 x3 x4 x5 x6
noncomputable def p36_L25 (n:Nat):Nat→(List NT)→Int→Int→(List Int)→(List Int)→Option R36
 | 0,_,_,_,_,_=>none
 | m + 1,x0,x1,x2,x3,x4=>st36_L25 n (p36_L25 n m) (p36_L36 (p36_L25 n m) n n) x0 x1 x2 x3 x4
noncomputable def p36_L6 (n:Nat):Nat→(List NT)→Int→Int→(List NT)→(List Int)→(List Int)→Option R36
 | 0,_,_,_,_,_,_=>none
 | m + 1,x0,x1,x2,x3,x4,x5=>st36_L6 n (p36_L6 n m) (p36_L16 (p36_L6 n m) n n) (p36_L25 n n) x0 x1 x2 x3 x4 x5
noncomputable def p36 (n:Nat) (a:List NT):Option R36:=st36_top n (p36_L6 n n) a
theorem t36_L16 (n:Nat) (m6:Nat):∀ (m16:Nat) (x0:Int) (x1:List NT) (x2:Int) (x3:Int) (x4:List (ByteArray × Int)) (x5:Int) (x6:Int) (x7:List NT) (x8:List Int) (x9:List Int) (x10:Int) (x11:Int) (x12:Int) (x13:Int) (x14:Int) (x15:Int) (x16:Bool) (x17:ByteArray) (x18:List (ByteArray × Int)),at36 n (.head 16) [m6,m16] (sh36_L16 x0 x1 x2 x3 x4 x5 x6 x7 x8 x9 x10 x11 x12 x13 x14 x15 x16 x17 x18)=p36_L16 (fun x0 x1 x2 x3 x4 x5=>at36 n (.head 6) [m6] (sh36_L6 x0 x1 x2 x3 x4 x5)) n m16 x0 x1 x2 x3 x4 x5 x6 x7 x8 x9 x10 x11 x12 x13 x14 x15 x16 x17 x18:=by
 intro m
 induction m with
 | zero=>intros; rw [e36_L16_0]; rfl
 | succ m ih =>
  intros
  rw [e36_L16]
  try simp only [ih]
  rfl
theorem t36_L36 (n:Nat) (m25:Nat):∀ (m36:Nat) (x0:Int) (x1:Int) (x2:List NT) (x3:Int) (x4:Int) (x5:List Int) (x6:List Int),at36 n (.head 36) [m25,m36] (sh36_L36 x0 x1 x2 x3 x4 x5 x6)=p36_L36 (fun x0 x1 x2 x3 x4=>at36 n (.head 25) [m25] (sh36_L25 x0 x1 x2 x3 x4)) n m36 x0 x1 x2 x3 x4 x5 x6:=by
 intro m
 induction m with
 | zero=>intros; rw [e36_L36_0]; rfl
 | succ m ih =>
  intros
  rw [e36_L36]
  try simp only [ih]
  rfl
theorem t36_L25 (n:Nat):∀ (m25:Nat) (x0:List NT) (x1:Int) (x2:Int) (x3:List Int) (x4:List Int),at36 n (.head 25) [m25] (sh36_L25 x0 x1 x2 x3 x4)=p36_L25 n m25 x0 x1 x2 x3 x4:=by
 intro m
 induction m with
 | zero=>intros; rw [e36_L25_0]; rfl
 | succ m ih =>
  intros
  rw [e36_L25]
  try simp only [t36_L36,ih]
  rfl
theorem t36_L6 (n:Nat):∀ (m6:Nat) (x0:List NT) (x1:Int) (x2:Int) (x3:List NT) (x4:List Int) (x5:List Int),at36 n (.head 6) [m6] (sh36_L6 x0 x1 x2 x3 x4 x5)=p36_L6 n m6 x0 x1 x2 x3 x4 x5:=by
 intro m
 induction m with
 | zero=>intros; rw [e36_L6_0]; rfl
 | succ m ih =>
  intros
  rw [e36_L6]
  try simp only [t36_L16,t36_L25,ih]
  rfl
theorem F36_eq (n:Nat) (a:List NT):runF TT G36 an36 Try.f36 c36 ps36 rs36 n (a,())=p36 n a:=by
 rw [e36_top]
 simp only [t36_L6]
 try rfl
noncomputable def q36 (n:Nat) (x:argsD ps36):Option R36:=p36 n x.1
noncomputable def Sm36:Sm:=⟨ps36,rs36,false,q36⟩
theorem holds36 (hg:GamOK Try.prog G36):Holds Try.prog 36 Sm36:=by
 have:=h0_36 hg
 have e:(runF TT G36 an36 Try.f36 c36 ps36 rs36)=q36:=by
  funext n x
  exact F36_eq n x.1
 rw [e] at this
 exact this
theorem gam36:GamOK Try.prog G36:=by
 intro f s h
 unfold G36 at h
 split at h
 ·injection h with h; subst h; exact ⟨⟨Try.f54,c54,Try.func54,by kernel_rfl,by decide +kernel⟩,hh54⟩
 ·injection h with h; subst h; exact ⟨⟨Try.f55,c55,Try.func55,by kernel_rfl,by decide +kernel⟩,hh55⟩
 ·injection h with h; subst h; exact ⟨⟨Try.f86,c86,Try.func86,by kernel_rfl,by decide +kernel⟩,hh86⟩
 ·cases h
theorem hh36:Holds Try.prog 36 Sm36:=holds36 gam36
end Go.Proofs.Ythhopbicmaipgaa.Rx.S

namespace Go.Proofs.Ythhopbicmaipgaa.Rx.S
open Go Go.RowKit Go.Proofs
set_option maxRecDepth 100000
noncomputable def c66:Code:=(Try.f66.body.getD .skip)
def an66:An:=⟨fun _=>⟨[],[]⟩,fun _ _=>none⟩
abbrev ps66:List PK:=[.val i64 false,.val i64 false,.val i64 false]
abbrev rs66:List RK:=[.val .bool false]
abbrev R66:=retsD rs66 × outsD ps66
noncomputable def G66:Gam:=fun _=>none
theorem h0_66 (hg:GamOK Try.prog G66):Holds Try.prog 66 ⟨ps66,rs66,false,runF TT G66 an66 Try.f66 c66 ps66 rs66⟩:=holds_of tt_ok hg mixed Try.func66 (by kernel_rfl) (by rfl) (by decide +kernel)
noncomputable def st66_top (n:Nat) (a:Int) (b:Int) (c:Int):Option R66 :=
 cond (decide (b≤a)) (some ((decide (a≤c),()),())) (some ((false,()),()))
theorem e66_top (n:Nat) (a:Int) (b:Int) (c:Int):runF TT G66 an66 Try.f66 c66 ps66 rs66 n (a,b,c,())=st66_top n a b c:=by kernel_rfl
noncomputable def p66 (n:Nat) (a:Int) (b:Int) (c:Int):Option R66:=st66_top n a b c
theorem F66_eq (n:Nat) (a:Int) (b:Int) (c:Int):runF TT G66 an66 Try.f66 c66 ps66 rs66 n (a,b,c,())=p66 n a b c:=by
 rw [e66_top]
 skip
 try rfl
noncomputable def q66 (n:Nat) (x:argsD ps66):Option R66:=p66 n x.1 x.2.1 x.2.2.1
noncomputable def Sm66:Sm:=⟨ps66,rs66,false,q66⟩
theorem holds66 (hg:GamOK Try.prog G66):Holds Try.prog 66 Sm66:=by
 have:=h0_66 hg
 have e:(runF TT G66 an66 Try.f66 c66 ps66 rs66)=q66:=by
  funext n x
  exact F66_eq n x.1 x.2.1 x.2.2.1
 rw [e] at this
 exact this
theorem gam66:GamOK Try.prog G66:=fun _ _ h=>by cases h
theorem hh66:Holds Try.prog 66 Sm66:=holds66 gam66
end Go.Proofs.Ythhopbicmaipgaa.Rx.S

namespace Go.Proofs.Ythhopbicmaipgaa.Rx.S
open Go Go.RowKit Go.Proofs
set_option maxRecDepth 100000
noncomputable def c65:Code:=(Try.f65.body.getD .skip)
def an65:An:=⟨fun r=>match r with | 2=>⟨[0,3],[]⟩ | _=>⟨[],[]⟩,fun _ _=>none⟩
abbrev ps65:List PK:=[.val .str false]
abbrev rs65:List RK:=[.val .bool false]
abbrev R65:=retsD rs65 × outsD ps65
noncomputable def G65:Gam:=fun f=>match f with | 66=>some Sm66 | _=>none
theorem h0_65 (hg:GamOK Try.prog G65):Holds Try.prog 65 ⟨ps65,rs65,false,runF TT G65 an65 Try.f65 c65 ps65 rs65⟩:=holds_of tt_ok hg mixed Try.func65 (by kernel_rfl) (by rfl) (by decide +kernel)
noncomputable def at65:Nat→Pt→List Nat→St→Option R65:=atF TT G65 an65 Try.f65 c65 _ _
def sh65_L2 (x0:ByteArray) (x1:Int):St:=(St.mk ((AV.one (SV.str x0)) :: (AV.undef :: (AV.undef :: ((AV.one (SV.int (Go.IntKind.i64) x1)) :: (AV.undef :: (AV.undef :: (AV.undef :: (AV.undef :: (AV.undef :: (AV.undef :: (AV.undef :: (AV.undef :: (AV.undef :: (AV.undef :: (AV.undef :: (AV.undef :: (AV.undef :: (AV.undef :: (AV.undef :: (AV.undef :: (AV.undef :: (AV.undef :: (AV.undef :: []))))))))))))))))))))))) [])
noncomputable def st65_top (n:Nat) (lL2:ByteArray→Int→Option R65) (a:ByteArray):Option R65 :=
 lL2 (a) ((0:Int))
noncomputable def st65_L2 (n:Nat) (lL2:ByteArray→Int→Option R65) (x0:ByteArray) (x1:Int):Option R65 :=
 cond (decide (x1 < (↑x0.size:Int))) (cond (decide ((0:Int)≤x1)) (cond (decide (x1 < (↑x0.size:Int))) (cond (decide ((↑(x0.data.toList.getD x1.toNat (0:UInt8)).toNat:Int) < (97:Int))) (some ((false,()),())) (cond (decide ((0:Int)≤x1)) (cond (decide (x1 < (↑x0.size:Int))) (cond (decide ((122:Int) < (↑(x0.data.toList.getD x1.toNat (0:UInt8)).toNat:Int))) (some ((false,()),())) (lL2 (x0) (Go.IntKind.i64.wrap (x1 + (1:Int))))) (none)) (none))) (none)) (none)) ((q66 n ((↑x0.size:Int),(1:Int),(3:Int),())).bind fun r1=>some ((r1.1.1,()),()))
theorem e65_top (n:Nat) (a:ByteArray):runF TT G65 an65 Try.f65 c65 ps65 rs65 n (a,())=st65_top n (fun x0 x1=>at65 n (.head 2) [n] (sh65_L2 x0 x1)) a:=by kernel_rfl
theorem e65_L2_0 (n:Nat) (x0:ByteArray) (x1:Int):at65 n (.head 2) [0] (sh65_L2 x0 x1)=none:=by kernel_rfl
theorem e65_L2 (n:Nat) (m2:Nat) (x0:ByteArray) (x1:Int):at65 n (.head 2) [m2 + 1] (sh65_L2 x0 x1)=st65_L2 n (fun x0 x1=>at65 n (.head 2) [m2] (sh65_L2 x0 x1)) x0 x1:=by kernel_rfl
noncomputable def p65_L2 (n:Nat):Nat→ByteArray→Int→Option R65
 | 0,_,_=>none
 | m + 1,x0,x1=>st65_L2 n (p65_L2 n m) x0 x1
noncomputable def p65 (n:Nat) (a:ByteArray):Option R65:=st65_top n (p65_L2 n n) a
theorem t65_L2 (n:Nat):∀ (m2:Nat) (x0:ByteArray) (x1:Int),at65 n (.head 2) [m2] (sh65_L2 x0 x1)=p65_L2 n m2 x0 x1:=by
 intro m
 induction m with
 | zero=>intros; rw [e65_L2_0]; rfl
 | succ m ih =>
  intros
  rw [e65_L2]
  try simp only [ih]
  rfl
theorem F65_eq (n:Nat) (a:ByteArray):runF TT G65 an65 Try.f65 c65 ps65 rs65 n (a,())=p65 n a:=by
 rw [e65_top]
 simp only [t65_L2]
 try rfl
noncomputable def q65 (n:Nat) (x:argsD ps65):Option R65:=p65 n x.1
noncomputable def Sm65:Sm:=⟨ps65,rs65,false,q65⟩
theorem holds65 (hg:GamOK Try.prog G65):Holds Try.prog 65 Sm65:=by
 have:=h0_65 hg
 have e:(runF TT G65 an65 Try.f65 c65 ps65 rs65)=q65:=by
  funext n x
  exact F65_eq n x.1
 rw [e] at this
 exact this
theorem gam65:GamOK Try.prog G65:=by
 intro f s h
 unfold G65 at h
 split at h
 ·injection h with h; subst h; exact ⟨⟨Try.f66,c66,Try.func66,by kernel_rfl,by decide +kernel⟩,hh66⟩
 ·cases h
theorem hh65:Holds Try.prog 65 Sm65:=holds65 gam65
end Go.Proofs.Ythhopbicmaipgaa.Rx.S

namespace Go.Proofs.Ythhopbicmaipgaa.Rx.S
open Go Go.RowKit Go.Proofs
set_option maxRecDepth 100000
noncomputable def c87:Code:=(Try.f87.body.getD .skip)
def an87:An:=⟨fun _=>⟨[],[]⟩,fun _ _=>none⟩
abbrev ps87:List PK:=[.val i64 false]
abbrev rs87:List RK:=[.val .bool false]
abbrev R87:=retsD rs87 × outsD ps87
noncomputable def G87:Gam:=fun f=>match f with | 66=>some Sm66 | _=>none
theorem h0_87 (hg:GamOK Try.prog G87):Holds Try.prog 87 ⟨ps87,rs87,false,runF TT G87 an87 Try.f87 c87 ps87 rs87⟩:=holds_of tt_ok hg mixed Try.func87 (by kernel_rfl) (by rfl) (by decide +kernel)
noncomputable def st87_top (n:Nat) (a:Int):Option R87 :=
 (q66 n (a,(0:Int),(9:Int),())).bind fun r0=>some ((r0.1.1,()),())
theorem e87_top (n:Nat) (a:Int):runF TT G87 an87 Try.f87 c87 ps87 rs87 n (a,())=st87_top n a:=by kernel_rfl
noncomputable def p87 (n:Nat) (a:Int):Option R87:=st87_top n a
theorem F87_eq (n:Nat) (a:Int):runF TT G87 an87 Try.f87 c87 ps87 rs87 n (a,())=p87 n a:=by
 rw [e87_top]
 skip
 try rfl
noncomputable def q87 (n:Nat) (x:argsD ps87):Option R87:=p87 n x.1
noncomputable def Sm87:Sm:=⟨ps87,rs87,false,q87⟩
theorem holds87 (hg:GamOK Try.prog G87):Holds Try.prog 87 Sm87:=by
 have:=h0_87 hg
 have e:(runF TT G87 an87 Try.f87 c87 ps87 rs87)=q87:=by
  funext n x
  exact F87_eq n x.1
 rw [e] at this
 exact this
theorem gam87:GamOK Try.prog G87:=by
 intro f s h
 unfold G87 at h
 split at h
 ·injection h with h; subst h; exact ⟨⟨Try.f66,c66,Try.func66,by kernel_rfl,by decide +kernel⟩,hh66⟩
 ·cases h
theorem hh87:Holds Try.prog 87 Sm87:=holds87 gam87
end Go.Proofs.Ythhopbicmaipgaa.Rx.S

namespace Go.Proofs.Ythhopbicmaipgaa.Rx.S
open Go Go.RowKit Go.Proofs
set_option maxRecDepth 100000
noncomputable def c122:Code:=(Try.f122.body.getD .skip)
def an122:An:=⟨fun _=>⟨[],[]⟩,fun _ _=>none⟩
abbrev ps122:List PK:=[.val (tIn 95) true]
abbrev rs122:List RK:=[.val .bool false]
abbrev R122:=retsD rs122 × outsD ps122
noncomputable def G122:Gam:=fun _=>none
theorem h0_122 (hg:GamOK Try.prog G122):Holds Try.prog 122 ⟨ps122,rs122,false,runF TT G122 an122 Try.f122 c122 ps122 rs122⟩:=holds_of tt_ok hg mixed Try.func122 (by kernel_rfl) (by rfl) (by decide +kernel)
noncomputable def st122_top (n:Nat) (a:NT):Option R122 :=
 cond (decide (a.1=(0:Int))) (cond (decide (a.2.1=(0:Int))) (cond (decide (a.2.2.1=(0:Int))) (cond (decide (a.2.2.2.1=(0:Int))) (cond (decide (a.2.2.2.2.1=(0:Int))) (cond (decide (a.2.2.2.2.2.1=(0:Int))) (cond (!a.2.2.2.2.2.2.1) (cond (ByteArray.toList a.2.2.2.2.2.2.2.1 == (ByteArray.mk #[]).toList) (some ((decide ((↑(List.length a.2.2.2.2.2.2.2.2):Int)=(0:Int)),()),())) (some ((false,()),()))) (some ((false,()),()))) (some ((false,()),()))) (some ((false,()),()))) (some ((false,()),()))) (some ((false,()),()))) (some ((false,()),()))) (some ((false,()),()))
theorem e122_top (n:Nat) (a:NT):runF TT G122 an122 Try.f122 c122 ps122 rs122 n (a,())=st122_top n a:=by kernel_rfl
noncomputable def p122 (n:Nat) (a:NT):Option R122:=st122_top n a
theorem F122_eq (n:Nat) (a:NT):runF TT G122 an122 Try.f122 c122 ps122 rs122 n (a,())=p122 n a:=by
 rw [e122_top]
 skip
 try rfl
noncomputable def q122 (n:Nat) (x:argsD ps122):Option R122:=p122 n x.1
noncomputable def Sm122:Sm:=⟨ps122,rs122,false,q122⟩
theorem holds122 (hg:GamOK Try.prog G122):Holds Try.prog 122 Sm122:=by
 have:=h0_122 hg
 have e:(runF TT G122 an122 Try.f122 c122 ps122 rs122)=q122:=by
  funext n x
  exact F122_eq n x.1
 rw [e] at this
 exact this
theorem gam122:GamOK Try.prog G122:=fun _ _ h=>by cases h
theorem hh122:Holds Try.prog 122 Sm122:=holds122 gam122
end Go.Proofs.Ythhopbicmaipgaa.Rx.S

namespace Go.Proofs.Ythhopbicmaipgaa.Rx.S
open Go Go.RowKit Go.Proofs
set_option maxRecDepth 100000
noncomputable def c100:Code:=(Try.f100.body.getD .skip)
def an100:An:=⟨fun r=>match r with | 8=>⟨[1,3],[]⟩ | _=>⟨[],[]⟩,fun _ _=>none⟩
abbrev ps100:List PK:=[.val (tIn 95) true]
abbrev rs100:List RK:=[.val .bool false]
abbrev R100:=retsD rs100 × outsD ps100
noncomputable def G100:Gam:=fun f=>match f with | 65=>some Sm65 | 66=>some Sm66 | 87=>some Sm87 | 122=>some Sm122 | _=>none
theorem h0_100 (hg:GamOK Try.prog G100):Holds Try.prog 100 ⟨ps100,rs100,false,runF TT G100 an100 Try.f100 c100 ps100 rs100⟩:=holds_of tt_ok hg mixed Try.func100 (by kernel_rfl) (by rfl) (by decide +kernel)
noncomputable def at100:Nat→Pt→List Nat→St→Option R100:=atF TT G100 an100 Try.f100 c100 _ _
def sh100_L8 (x0:Int) (x1:Int) (x2:Int) (x3:Int) (x4:Int) (x5:Int) (x6:Int) (x7:Bool) (x8:ByteArray) (x9:List (ByteArray × Int)):St:=(St.mk (AV.undef :: ((AV.one (SV.bptr 1000000 0)) :: (AV.undef :: ((AV.one (SV.int (Go.IntKind.i64) x0)) :: (AV.undef :: (AV.undef :: (AV.undef :: (AV.undef :: (AV.undef :: (AV.undef :: (AV.undef :: (AV.undef :: (AV.undef :: (AV.undef :: (AV.undef :: (AV.undef :: (AV.undef :: (AV.undef :: (AV.undef :: (AV.undef :: (AV.undef :: (AV.undef :: (AV.undef :: (AV.undef :: (AV.undef :: (AV.undef :: (AV.undef :: (AV.undef :: (AV.undef :: (AV.undef :: (AV.undef :: (AV.undef :: (AV.undef :: (AV.undef :: (AV.undef :: (AV.undef :: (AV.undef :: (AV.undef :: (AV.undef :: (AV.undef :: (AV.undef :: (AV.undef :: (AV.undef :: (AV.undef :: (AV.undef :: (AV.undef :: (AV.undef :: (AV.undef :: (AV.undef :: (AV.undef :: (AV.undef :: (AV.undef :: (AV.undef :: (AV.undef :: (AV.undef :: (AV.undef :: (AV.undef :: (AV.undef :: (AV.undef :: (AV.undef :: (AV.undef :: (AV.undef :: (AV.undef :: (AV.undef :: (AV.undef :: (AV.undef :: (AV.undef :: (AV.undef :: (AV.undef :: (AV.undef :: (AV.undef :: (AV.undef :: (AV.undef :: (AV.undef :: (AV.undef :: (AV.undef :: (AV.undef :: (AV.undef :: (AV.undef :: (AV.undef :: (AV.undef :: (AV.undef :: (AV.undef :: (AV.undef :: (AV.undef :: (AV.undef :: (AV.undef :: (AV.undef :: (AV.undef :: (AV.undef :: (AV.undef :: (AV.undef :: (AV.undef :: (AV.undef :: (AV.undef :: (AV.undef :: (AV.undef :: (AV.undef :: (AV.undef :: (AV.undef :: (AV.undef :: (AV.undef :: (AV.undef :: (AV.undef :: (AV.undef :: (AV.undef :: (AV.undef :: (AV.undef :: (AV.undef :: (AV.undef :: (AV.undef :: (AV.undef :: (AV.undef :: (AV.undef :: (AV.undef :: (AV.undef :: (AV.undef :: []))))))))))))))))))))))))))))))))))))))))))))))))))))))))))))))))))))))))))))))))))))))))))))))))))))))))))))))))))))) ((1000000,(Ent.box ((SV.int (Go.IntKind.i64) x1) :: ((SV.int (Go.IntKind.i64) x2) :: ((SV.int (Go.IntKind.i64) x3) :: ((SV.int (Go.IntKind.i64) x4) :: ((SV.int (Go.IntKind.i64) x5) :: ((SV.int (Go.IntKind.i64) x6) :: ((SV.bool x7) :: ((SV.str x8) :: ((SV.con (⟨95,Ty.str.pair (Ty.int Go.IntKind.i64),x9⟩:Rw)) :: []))))))))))) :: []))
noncomputable def st100_top (n:Nat) (lL8:Int→Int→Int→Int→Int→Int→Int→Bool→ByteArray→(List (ByteArray × Int))→Option R100) (a:NT):Option R100 :=
 cond (decide (a.1=(0:Int))) ((q122 n ((a.1,a.2.1,a.2.2.1,a.2.2.2.1,a.2.2.2.2.1,a.2.2.2.2.2.1,a.2.2.2.2.2.2.1,a.2.2.2.2.2.2.2.1,a.2.2.2.2.2.2.2.2),())).bind fun r0=>some ((r0.1.1,()),())) ((q66 n (a.1,(1:Int),(2:Int),())).bind fun r1=>cond (!r1.1.1) (some ((false,()),())) ((q66 n (a.2.1,(0:Int),(511:Int),())).bind fun r2=>cond (!r2.1.1) (some ((false,()),())) ((q87 n (a.2.2.1,())).bind fun r3=>cond (!r3.1.1) (some ((false,()),())) ((q87 n (a.2.2.2.1,())).bind fun r4=>cond (!r4.1.1) (some ((false,()),())) ((q66 n (a.2.2.2.2.2.1,(0:Int),(99:Int),())).bind fun r5=>cond (!r5.1.1) (some ((false,()),())) ((q66 n (a.2.2.2.2.1,(0:Int),(99:Int),())).bind fun r6=>cond (!r6.1.1) (some ((false,()),())) (cond (decide ((40:Int) < (↑(ByteArray.size a.2.2.2.2.2.2.2.1):Int))) (some ((false,()),())) (cond (decide ((6:Int) < (↑(List.length a.2.2.2.2.2.2.2.2):Int))) (some ((false,()),())) (cond (decide (a.1=(2:Int))) (cond (!ByteArray.toList a.2.2.2.2.2.2.2.1 == (ByteArray.mk #[]).toList) (some ((false,()),())) (cond (a.2.2.2.2.2.2.1) (some ((false,()),())) (cond (decide (a.1=(1:Int))) (cond (decide ((0:Int) < (↑(List.length a.2.2.2.2.2.2.2.2):Int))) (some ((false,()),())) (lL8 ((0:Int)) (a.1) (a.2.1) (a.2.2.1) (a.2.2.2.1) (a.2.2.2.2.1) (a.2.2.2.2.2.1) (a.2.2.2.2.2.2.1) (a.2.2.2.2.2.2.2.1) (a.2.2.2.2.2.2.2.2))) (lL8 ((0:Int)) (a.1) (a.2.1) (a.2.2.1) (a.2.2.2.1) (a.2.2.2.2.1) (a.2.2.2.2.2.1) (a.2.2.2.2.2.2.1) (a.2.2.2.2.2.2.2.1) (a.2.2.2.2.2.2.2.2))))) (cond (decide (a.1=(1:Int))) (cond (decide ((0:Int) < (↑(List.length a.2.2.2.2.2.2.2.2):Int))) (some ((false,()),())) (lL8 ((0:Int)) (a.1) (a.2.1) (a.2.2.1) (a.2.2.2.1) (a.2.2.2.2.1) (a.2.2.2.2.2.1) (a.2.2.2.2.2.2.1) (a.2.2.2.2.2.2.2.1) (a.2.2.2.2.2.2.2.2))) (lL8 ((0:Int)) (a.1) (a.2.1) (a.2.2.1) (a.2.2.2.1) (a.2.2.2.2.1) (a.2.2.2.2.2.1) (a.2.2.2.2.2.2.1) (a.2.2.2.2.2.2.2.1) (a.2.2.2.2.2.2.2.2))))))))))))
noncomputable def st100_L8 (n:Nat) (lL8:Int→Int→Int→Int→Int→Int→Int→Bool→ByteArray→(List (ByteArray × Int))→Option R100) (x0:Int) (x1:Int) (x2:Int) (x3:Int) (x4:Int) (x5:Int) (x6:Int) (x7:Bool) (x8:ByteArray) (x9:List (ByteArray × Int)):Option R100 :=
 cond (decide (x0 < (↑x9.length:Int))) (cond (decide ((0:Int)≤x0)) (cond (decide (x0 < (↑x9.length:Int))) ((q65 n ((x9.getD x0.toNat (ByteArray.empty,(0:Int))).1,())).bind fun r8=>cond (!r8.1.1) (some ((false,()),())) ((q66 n ((x9.getD x0.toNat (ByteArray.empty,(0:Int))).2,(1:Int),(9:Int),())).bind fun r9=>cond (!r9.1.1) (some ((false,()),())) (cond (decide ((0:Int) < x0)) (cond (decide ((0:Int)≤Go.IntKind.i64.wrap (x0 - (1:Int)))) (cond (decide (Go.IntKind.i64.wrap (x0 - (1:Int)) < (↑x9.length:Int))) (cond (!Go.Op.bytesLess (ByteArray.toList (x9.getD (Go.IntKind.i64.wrap (x0 - (1:Int))).toNat (ByteArray.empty,(0:Int))).1) (ByteArray.toList (x9.getD x0.toNat (ByteArray.empty,(0:Int))).1)) (some ((false,()),())) (lL8 (Go.IntKind.i64.wrap (x0 + (1:Int))) (x1) (x2) (x3) (x4) (x5) (x6) (x7) (x8) (x9))) (none)) (none)) (lL8 (Go.IntKind.i64.wrap (x0 + (1:Int))) (x1) (x2) (x3) (x4) (x5) (x6) (x7) (x8) (x9))))) (none)) (none)) (some ((true,()),()))
theorem e100_top (n:Nat) (a:NT):runF TT G100 an100 Try.f100 c100 ps100 rs100 n (a,())=st100_top n (fun x0 x1 x2 x3 x4 x5 x6 x7 x8 x9=>at100 n (.head 8) [n] (sh100_L8 x0 x1 x2 x3 x4 x5 x6 x7 x8 x9)) a:=by kernel_rfl
theorem e100_L8_0 (n:Nat) (x0:Int) (x1:Int) (x2:Int) (x3:Int) (x4:Int) (x5:Int) (x6:Int) (x7:Bool) (x8:ByteArray) (x9:List (ByteArray × Int)):at100 n (.head 8) [0] (sh100_L8 x0 x1 x2 x3 x4 x5 x6 x7 x8 x9)=none:=by kernel_rfl
theorem e100_L8 (n:Nat) (m8:Nat) (x0:Int) (x1:Int) (x2:Int) (x3:Int) (x4:Int) (x5:Int) (x6:Int) (x7:Bool) (x8:ByteArray) (x9:List (ByteArray × Int)):at100 n (.head 8) [m8 + 1] (sh100_L8 x0 x1 x2 x3 x4 x5 x6 x7 x8 x9)=st100_L8 n (fun x0 x1 x2 x3 x4 x5 x6 x7 x8 x9=>at100 n (.head 8) [m8] (sh100_L8 x0 x1 x2 x3 x4 x5 x6 x7 x8 x9)) x0 x1 x2 x3 x4 x5 x6 x7 x8 x9:=by kernel_rfl
noncomputable def p100_L8 (n:Nat):Nat→Int→Int→Int→Int→Int→Int→Int→Bool→ByteArray→(List (ByteArray × Int))→Option R100
 | 0,_,_,_,_,_,_,_,_,_,_=>none
 | m + 1,x0,x1,x2,x3,x4,x5,x6,x7,x8,x9=>st100_L8 n (p100_L8 n m) x0 x1 x2 x3 x4 x5 x6 x7 x8 x9
noncomputable def p100 (n:Nat) (a:NT):Option R100:=st100_top n (p100_L8 n n) a
theorem t100_L8 (n:Nat):∀ (m8:Nat) (x0:Int) (x1:Int) (x2:Int) (x3:Int) (x4:Int) (x5:Int) (x6:Int) (x7:Bool) (x8:ByteArray) (x9:List (ByteArray × Int)),at100 n (.head 8) [m8] (sh100_L8 x0 x1 x2 x3 x4 x5 x6 x7 x8 x9)=p100_L8 n m8 x0 x1 x2 x3 x4 x5 x6 x7 x8 x9:=by
 intro m
 induction m with
 | zero=>intros; rw [e100_L8_0]; rfl
 | succ m ih =>
  intros
  rw [e100_L8]
  try simp only [ih]
  rfl
theorem F100_eq (n:Nat) (a:NT):runF TT G100 an100 Try.f100 c100 ps100 rs100 n (a,())=p100 n a:=by
 rw [e100_top]
 simp only [t100_L8]
 try rfl
noncomputable def q100 (n:Nat) (x:argsD ps100):Option R100:=p100 n x.1
noncomputable def Sm100:Sm:=⟨ps100,rs100,false,q100⟩
theorem holds100 (hg:GamOK Try.prog G100):Holds Try.prog 100 Sm100:=by
 have:=h0_100 hg
 have e:(runF TT G100 an100 Try.f100 c100 ps100 rs100)=q100:=by
  funext n x
  exact F100_eq n x.1
 rw [e] at this
 exact this
theorem gam100:GamOK Try.prog G100:=by
 intro f s h
 unfold G100 at h
 split at h
 ·injection h with h; subst h; exact ⟨⟨Try.f65,c65,Try.func65,by kernel_rfl,by decide +kernel⟩,hh65⟩
 ·injection h with h; subst h; exact ⟨⟨Try.f66,c66,Try.func66,by kernel_rfl,by decide +kernel⟩,hh66⟩
 ·injection h with h; subst h; exact ⟨⟨Try.f87,c87,Try.func87,by kernel_rfl,by decide +kernel⟩,hh87⟩
 ·injection h with h; subst h; exact ⟨⟨Try.f122,c122,Try.func122,by kernel_rfl,by decide +kernel⟩,hh122⟩
 ·cases h
theorem hh100:Holds Try.prog 100 Sm100:=holds100 gam100
end Go.Proofs.Ythhopbicmaipgaa.Rx.S

namespace Go.Proofs.Ythhopbicmaipgaa.Rx.S
open Go Go.RowKit Go.Proofs
set_option maxRecDepth 100000
noncomputable def c101:Code:=(Try.f101.body.getD .skip)
def an101:An:=⟨fun r=>match r with | 3=>⟨[1,4,5],[]⟩ | 10=>⟨[1,4,5,6,7],[]⟩ | _=>⟨[],[]⟩,fun _ _=>none⟩
abbrev ps101:List PK:=[.val tFs true]
abbrev rs101:List RK:=[.own (.row 4 .bool) false,.val .bool false]
abbrev R101:=retsD rs101 × outsD ps101
noncomputable def G101:Gam:=fun _=>none
theorem h0_101 (hg:GamOK Try.prog G101):Holds Try.prog 101 ⟨ps101,rs101,false,runF TT G101 an101 Try.f101 c101 ps101 rs101⟩:=holds_of tt_ok hg mixed Try.func101 (by kernel_rfl) (by rfl) (by decide +kernel)
noncomputable def at101:Nat→Pt→List Nat→St→Option R101:=atF TT G101 an101 Try.f101 c101 _ _
def sh101_L10 (x0:Int) (x1:Int) (x2:List NT) (x3:List Bool) (x4:List Int):St:=(St.mk (AV.undef :: ((AV.one (SV.bptr 1000000 0)) :: (AV.undef :: (AV.undef :: ((AV.one (SV.ref 1000001 0 [] Option.none)) :: ((AV.one (SV.ref 1000002 0 [] Option.none)) :: ((AV.one (SV.int (Go.IntKind.i64) x0)) :: ((AV.one (SV.int (Go.IntKind.i64) x1)) :: (AV.undef :: (AV.undef :: (AV.undef :: (AV.undef :: (AV.undef :: (AV.undef :: (AV.undef :: (AV.undef :: (AV.undef :: (AV.undef :: (AV.undef :: (AV.undef :: (AV.undef :: (AV.undef :: (AV.undef :: (AV.undef :: (AV.undef :: (AV.undef :: (AV.undef :: (AV.undef :: (AV.undef :: (AV.undef :: (AV.undef :: (AV.undef :: (AV.undef :: (AV.undef :: (AV.undef :: (AV.undef :: (AV.undef :: (AV.undef :: (AV.undef :: (AV.undef :: (AV.undef :: (AV.undef :: (AV.undef :: (AV.undef :: (AV.undef :: (AV.undef :: (AV.undef :: (AV.undef :: (AV.undef :: (AV.undef :: (AV.undef :: (AV.undef :: (AV.undef :: (AV.undef :: (AV.undef :: (AV.undef :: (AV.undef :: (AV.undef :: (AV.undef :: (AV.undef :: (AV.undef :: (AV.undef :: (AV.undef :: (AV.undef :: (AV.undef :: []))))))))))))))))))))))))))))))))))))))))))))))))))))))))))))))))) ((1000000,(Ent.box ((SV.con (⟨39,(Ty.int Go.IntKind.i64).pair ((Ty.int Go.IntKind.i64).pair ((Ty.int Go.IntKind.i64).pair ((Ty.int Go.IntKind.i64).pair ((Ty.int Go.IntKind.i64).pair ((Ty.int Go.IntKind.i64).pair (Ty.bool.pair (Ty.str.pair (Ty.row (nat_lit 95) (Ty.str.pair (Ty.int Go.IntKind.i64)))))))))),x2⟩:Rw)) :: []))) :: ((1000001,(Ent.row (⟨4,Ty.bool,x3⟩:Rw) 0 Option.none)) :: ((1000002,(Ent.row (⟨3,Ty.int Go.IntKind.i64,x4⟩:Rw) 0 Option.none)) :: []))))
def sh101_L3 (x0:List NT) (x1:List Bool) (x2:List Int):St:=(St.mk (AV.undef :: ((AV.one (SV.bptr 1000000 0)) :: (AV.undef :: (AV.undef :: ((AV.one (SV.ref 1000001 0 [] Option.none)) :: ((AV.one (SV.ref 1000002 0 [] Option.none)) :: (AV.undef :: (AV.undef :: (AV.undef :: (AV.undef :: (AV.undef :: (AV.undef :: (AV.undef :: (AV.undef :: (AV.undef :: (AV.undef :: (AV.undef :: (AV.undef :: (AV.undef :: (AV.undef :: (AV.undef :: (AV.undef :: (AV.undef :: (AV.undef :: (AV.undef :: (AV.undef :: (AV.undef :: (AV.undef :: (AV.undef :: (AV.undef :: (AV.undef :: (AV.undef :: (AV.undef :: (AV.undef :: (AV.undef :: (AV.undef :: (AV.undef :: (AV.undef :: (AV.undef :: (AV.undef :: (AV.undef :: (AV.undef :: (AV.undef :: (AV.undef :: (AV.undef :: (AV.undef :: (AV.undef :: (AV.undef :: (AV.undef :: (AV.undef :: (AV.undef :: (AV.undef :: (AV.undef :: (AV.undef :: (AV.undef :: (AV.undef :: (AV.undef :: (AV.undef :: (AV.undef :: (AV.undef :: (AV.undef :: (AV.undef :: (AV.undef :: (AV.undef :: (AV.undef :: []))))))))))))))))))))))))))))))))))))))))))))))))))))))))))))))))) ((1000000,(Ent.box ((SV.con (⟨39,(Ty.int Go.IntKind.i64).pair ((Ty.int Go.IntKind.i64).pair ((Ty.int Go.IntKind.i64).pair ((Ty.int Go.IntKind.i64).pair ((Ty.int Go.IntKind.i64).pair ((Ty.int Go.IntKind.i64).pair (Ty.bool.pair (Ty.str.pair (Ty.row (nat_lit 95) (Ty.str.pair (Ty.int Go.IntKind.i64)))))))))),x0⟩:Rw)) :: []))) :: ((1000001,(Ent.row (⟨4,Ty.bool,x1⟩:Rw) 0 Option.none)) :: ((1000002,(Ent.row (⟨3,Ty.int Go.IntKind.i64,x2⟩:Rw) 0 Option.none)) :: []))))
noncomputable def st101_top (n:Nat) (lL3:(List NT)→(List Bool)→(List Int)→Option R101) (a:List NT):Option R101 :=
 cond (decide ((↑a.length:Int) * (↑(1:Nat):Int)≤(140737488355328:Int))) (lL3 (a) (List.replicate (↑a.length:Int).toNat false) ([(0:Int)])) (none)
noncomputable def st101_L10 (n:Nat) (lL10:Int→Int→(List NT)→(List Bool)→(List Int)→Option R101) (lL3:(List NT)→(List Bool)→(List Int)→Option R101) (x0:Int) (x1:Int) (x2:List NT) (x3:List Bool) (x4:List Int):Option R101 :=
 cond (decide ((0:Int)≤x0)) (cond (decide (x0 < (↑x2.length:Int))) (cond (decide (x1 < (↑(List.length (x2.getD x0.toNat ZN).2.2.2.2.2.2.2.2):Int))) (cond (decide ((0:Int)≤x0)) (cond (decide (x0 < (↑x2.length:Int))) (cond (decide ((0:Int)≤x1)) (cond (decide (x1 < (↑(List.length (x2.getD x0.toNat ZN).2.2.2.2.2.2.2.2):Int))) (cond (decide ((0:Int)≤(List.getD (x2.getD x0.toNat ZN).2.2.2.2.2.2.2.2 x1.toNat (ByteArray.empty,(0:Int))).2)) (cond (decide ((List.getD (x2.getD x0.toNat ZN).2.2.2.2.2.2.2.2 x1.toNat (ByteArray.empty,(0:Int))).2 < (↑x2.length:Int))) (cond (decide ((x2.getD (Int.toNat (List.getD (x2.getD x0.toNat ZN).2.2.2.2.2.2.2.2 x1.toNat (ByteArray.empty,(0:Int))).2) ZN).1=(2:Int))) (cond (decide ((x4.length + [(List.getD (x2.getD x0.toNat ZN).2.2.2.2.2.2.2.2 x1.toNat (ByteArray.empty,(0:Int))).2].length) * (8:Nat)≤(140737488355328:Nat))) (lL10 (x0) (Go.IntKind.i64.wrap (x1 + (1:Int))) (x2) (x3) (x4 ++ [(List.getD (x2.getD x0.toNat ZN).2.2.2.2.2.2.2.2 x1.toNat (ByteArray.empty,(0:Int))).2])) (none)) (lL10 (x0) (Go.IntKind.i64.wrap (x1 + (1:Int))) (x2) (x3) (x4))) (none)) (none)) (none)) (none)) (none)) (none)) (lL3 (x2) (x3) (x4))) (none)) (none)
noncomputable def st101_L3 (n:Nat) (lL10:Int→Int→(List NT)→(List Bool)→(List Int)→Option R101) (x0:List NT) (x1:List Bool) (x2:List Int):Option R101 :=
 cond (decide ((0:Int) < (↑x2.length:Int))) (cond (decide ((0:Int) < (↑x2.length:Int))) (cond (decide ((1:Int)≤(↑x2.length:Int))) (cond (decide (((0:Nat) + (List.take ((↑x2.length:Int) - (1:Int)).toNat (List.drop ((0:Nat) + Int.toNat (1:Int)) x2)).length) * (8:Nat)≤(140737488355328:Nat))) (cond (decide ((0:Int)≤x2.getD (Int.toNat (0:Int)) (0:Int))) (cond (decide (x2.getD (Int.toNat (0:Int)) (0:Int) < (↑x1.length:Int))) (cond (x1.getD (Int.toNat (x2.getD (Int.toNat (0:Int)) (0:Int))) false) (some ((x1,(false,())),())) (cond (decide ((0:Int)≤x2.getD (Int.toNat (0:Int)) (0:Int))) (cond (decide (x2.getD (Int.toNat (0:Int)) (0:Int) < (↑x1.length:Int))) (lL10 (x2.getD (Int.toNat (0:Int)) (0:Int)) ((0:Int)) (x0) (x1.set (Int.toNat (x2.getD (Int.toNat (0:Int)) (0:Int))) true) (List.take ((↑x2.length:Int) - (1:Int)).toNat (List.drop ((0:Nat) + Int.toNat (1:Int)) x2))) (none)) (none))) (none)) (none)) (none)) (none)) (none)) (some ((x1,(true,())),()))
theorem e101_top (n:Nat) (a:List NT):runF TT G101 an101 Try.f101 c101 ps101 rs101 n (a,())=st101_top n (fun x0 x1 x2=>at101 n (.head 3) [n] (sh101_L3 x0 x1 x2)) a:=by kernel_rfl
theorem e101_L10_0 (n:Nat) (m3:Nat) (x0:Int) (x1:Int) (x2:List NT) (x3:List Bool) (x4:List Int):at101 n (.head 10) [m3,0] (sh101_L10 x0 x1 x2 x3 x4)=none:=by kernel_rfl
theorem e101_L10 (n:Nat) (m3:Nat) (m10:Nat) (x0:Int) (x1:Int) (x2:List NT) (x3:List Bool) (x4:List Int):at101 n (.head 10) [m3,m10 + 1] (sh101_L10 x0 x1 x2 x3 x4)=st101_L10 n (fun x0 x1 x2 x3 x4=>at101 n (.head 10) [m3,m10] (sh101_L10 x0 x1 x2 x3 x4)) (fun x0 x1 x2=>at101 n (.head 3) [m3] (sh101_L3 x0 x1 x2)) x0 x1 x2 x3 x4:=by kernel_rfl
theorem e101_L3_0 (n:Nat) (x0:List NT) (x1:List Bool) (x2:List Int):at101 n (.head 3) [0] (sh101_L3 x0 x1 x2)=none:=by kernel_rfl
theorem e101_L3 (n:Nat) (m3:Nat) (x0:List NT) (x1:List Bool) (x2:List Int):at101 n (.head 3) [m3 + 1] (sh101_L3 x0 x1 x2)=st101_L3 n (fun x0 x1 x2 x3 x4=>at101 n (.head 10) [m3,n] (sh101_L10 x0 x1 x2 x3 x4)) x0 x1 x2:=by kernel_rfl
noncomputable def p101_L10 (g3:(List NT)→(List Bool)→(List Int)→Option R101) (n:Nat):Nat→Int→Int→(List NT)→(List Bool)→(List Int)→Option R101
 | 0,_,_,_,_,_=>none
 | m + 1,x0,x1,x2,x3,x4=>st101_L10 n (p101_L10 g3 n m) g3 x0 x1 x2 x3 x4
noncomputable def p101_L3 (n:Nat):Nat→(List NT)→(List Bool)→(List Int)→Option R101
 | 0,_,_,_=>none
 | m + 1,x0,x1,x2=>st101_L3 n (p101_L10 (p101_L3 n m) n n) x0 x1 x2
noncomputable def p101 (n:Nat) (a:List NT):Option R101:=st101_top n (p101_L3 n n) a
theorem t101_L10 (n:Nat) (m3:Nat):∀ (m10:Nat) (x0:Int) (x1:Int) (x2:List NT) (x3:List Bool) (x4:List Int),at101 n (.head 10) [m3,m10] (sh101_L10 x0 x1 x2 x3 x4)=p101_L10 (fun x0 x1 x2=>at101 n (.head 3) [m3] (sh101_L3 x0 x1 x2)) n m10 x0 x1 x2 x3 x4:=by
 intro m
 induction m with
 | zero=>intros; rw [e101_L10_0]; rfl
 | succ m ih =>
  intros
  rw [e101_L10]
  try simp only [ih]
  rfl
theorem t101_L3 (n:Nat):∀ (m3:Nat) (x0:List NT) (x1:List Bool) (x2:List Int),at101 n (.head 3) [m3] (sh101_L3 x0 x1 x2)=p101_L3 n m3 x0 x1 x2:=by
 intro m
 induction m with
 | zero=>intros; rw [e101_L3_0]; rfl
 | succ m ih =>
  intros
  rw [e101_L3]
  try simp only [t101_L10,ih]
  rfl
theorem F101_eq (n:Nat) (a:List NT):runF TT G101 an101 Try.f101 c101 ps101 rs101 n (a,())=p101 n a:=by
 rw [e101_top]
 simp only [t101_L3]
 try rfl
noncomputable def q101 (n:Nat) (x:argsD ps101):Option R101:=p101 n x.1
noncomputable def Sm101:Sm:=⟨ps101,rs101,false,q101⟩
theorem holds101 (hg:GamOK Try.prog G101):Holds Try.prog 101 Sm101:=by
 have:=h0_101 hg
 have e:(runF TT G101 an101 Try.f101 c101 ps101 rs101)=q101:=by
  funext n x
  exact F101_eq n x.1
 rw [e] at this
 exact this
theorem gam101:GamOK Try.prog G101:=fun _ _ h=>by cases h
theorem hh101:Holds Try.prog 101 Sm101:=holds101 gam101
end Go.Proofs.Ythhopbicmaipgaa.Rx.S

namespace Go.Proofs.Ythhopbicmaipgaa.Rx.S
open Go Go.RowKit Go.Proofs
set_option maxRecDepth 100000
noncomputable def c62:Code:=(Try.f62.body.getD .skip)
def an62:An:=⟨fun r=>match r with | 5=>⟨[1,3,4],[]⟩ | 10=>⟨[1,3,4,5],[]⟩ | 17=>⟨[1,3,6,7,8],[]⟩ | _=>⟨[],[]⟩,fun _ _=>none⟩
abbrev ps62:List PK:=[.val tFs true]
abbrev rs62:List RK:=[.val .bool false]
abbrev R62:=retsD rs62 × outsD ps62
noncomputable def G62:Gam:=fun f=>match f with | 100=>some Sm100 | 101=>some Sm101 | _=>none
theorem h0_62 (hg:GamOK Try.prog G62):Holds Try.prog 62 ⟨ps62,rs62,false,runF TT G62 an62 Try.f62 c62 ps62 rs62⟩:=holds_of tt_ok hg mixed Try.func62 (by kernel_rfl) (by rfl) (by decide +kernel)
noncomputable def at62:Nat→Pt→List Nat→St→Option R62:=atF TT G62 an62 Try.f62 c62 _ _
def sh62_L10 (x0:Int) (x1:Int) (x2:List NT) (x3:List Int):St:=(St.mk (AV.undef :: ((AV.one (SV.bptr 1000000 0)) :: (AV.undef :: ((AV.one (SV.ref 1000001 0 [] Option.none)) :: ((AV.one (SV.int (Go.IntKind.i64) x0)) :: ((AV.one (SV.int (Go.IntKind.i64) x1)) :: (AV.undef :: (AV.undef :: (AV.undef :: (AV.undef :: (AV.undef :: (AV.undef :: (AV.undef :: (AV.undef :: (AV.undef :: (AV.undef :: (AV.undef :: (AV.undef :: (AV.undef :: (AV.undef :: (AV.undef :: (AV.undef :: (AV.undef :: (AV.undef :: (AV.undef :: (AV.undef :: (AV.undef :: (AV.undef :: (AV.undef :: (AV.undef :: (AV.undef :: (AV.undef :: (AV.undef :: (AV.undef :: (AV.undef :: (AV.undef :: (AV.undef :: (AV.undef :: (AV.undef :: (AV.undef :: (AV.undef :: (AV.undef :: (AV.undef :: (AV.undef :: (AV.undef :: (AV.undef :: (AV.undef :: (AV.undef :: (AV.undef :: (AV.undef :: (AV.undef :: (AV.undef :: (AV.undef :: (AV.undef :: (AV.undef :: (AV.undef :: (AV.undef :: (AV.undef :: (AV.undef :: (AV.undef :: (AV.undef :: (AV.undef :: (AV.undef :: (AV.undef :: (AV.undef :: (AV.undef :: (AV.undef :: (AV.undef :: (AV.undef :: (AV.undef :: (AV.undef :: (AV.undef :: (AV.undef :: (AV.undef :: (AV.undef :: (AV.undef :: (AV.undef :: (AV.undef :: (AV.undef :: (AV.undef :: (AV.undef :: (AV.undef :: (AV.undef :: (AV.undef :: (AV.undef :: (AV.undef :: (AV.undef :: (AV.undef :: (AV.undef :: (AV.undef :: (AV.undef :: (AV.undef :: (AV.undef :: (AV.undef :: (AV.undef :: (AV.undef :: (AV.undef :: (AV.undef :: (AV.undef :: (AV.undef :: (AV.undef :: (AV.undef :: (AV.undef :: (AV.undef :: (AV.undef :: (AV.undef :: (AV.undef :: (AV.undef :: (AV.undef :: (AV.undef :: (AV.undef :: (AV.undef :: (AV.undef :: (AV.undef :: (AV.undef :: (AV.undef :: (AV.undef :: (AV.undef :: (AV.undef :: (AV.undef :: (AV.undef :: (AV.undef :: (AV.undef :: (AV.undef :: (AV.undef :: (AV.undef :: (AV.undef :: (AV.undef :: (AV.undef :: (AV.undef :: (AV.undef :: (AV.undef :: (AV.undef :: (AV.undef :: (AV.undef :: (AV.undef :: (AV.undef :: (AV.undef :: [])))))))))))))))))))))))))))))))))))))))))))))))))))))))))))))))))))))))))))))))))))))))))))))))))))))))))))))))))))))))))))))))))))))))))) ((1000000,(Ent.box ((SV.con (⟨39,(Ty.int Go.IntKind.i64).pair ((Ty.int Go.IntKind.i64).pair ((Ty.int Go.IntKind.i64).pair ((Ty.int Go.IntKind.i64).pair ((Ty.int Go.IntKind.i64).pair ((Ty.int Go.IntKind.i64).pair (Ty.bool.pair (Ty.str.pair (Ty.row (nat_lit 95) (Ty.str.pair (Ty.int Go.IntKind.i64)))))))))),x2⟩:Rw)) :: []))) :: ((1000001,(Ent.row (⟨3,Ty.int Go.IntKind.i64,x3⟩:Rw) 0 Option.none)) :: [])))
def sh62_L17 (x0:Bool) (x1:Int) (x2:List NT) (x3:List Int) (x4:List Bool):St:=(St.mk (AV.undef :: ((AV.one (SV.bptr 1000000 0)) :: (AV.undef :: ((AV.one (SV.ref 1000001 0 [] Option.none)) :: (AV.undef :: (AV.undef :: ((AV.one (SV.ref 1000002 0 [] Option.none)) :: ((AV.one (SV.bool x0)) :: ((AV.one (SV.int (Go.IntKind.i64) x1)) :: (AV.undef :: (AV.undef :: (AV.undef :: (AV.undef :: (AV.undef :: (AV.undef :: (AV.undef :: (AV.undef :: (AV.undef :: (AV.undef :: (AV.undef :: (AV.undef :: (AV.undef :: (AV.undef :: (AV.undef :: (AV.undef :: (AV.undef :: (AV.undef :: (AV.undef :: (AV.undef :: (AV.undef :: (AV.undef :: (AV.undef :: (AV.undef :: (AV.undef :: (AV.undef :: (AV.undef :: (AV.undef :: (AV.undef :: (AV.undef :: (AV.undef :: (AV.undef :: (AV.undef :: (AV.undef :: (AV.undef :: (AV.undef :: (AV.undef :: (AV.undef :: (AV.undef :: (AV.undef :: (AV.undef :: (AV.undef :: (AV.undef :: (AV.undef :: (AV.undef :: (AV.undef :: (AV.undef :: (AV.undef :: (AV.undef :: (AV.undef :: (AV.undef :: (AV.undef :: (AV.undef :: (AV.undef :: (AV.undef :: (AV.undef :: (AV.undef :: (AV.undef :: (AV.undef :: (AV.undef :: (AV.undef :: (AV.undef :: (AV.undef :: (AV.undef :: (AV.undef :: (AV.undef :: (AV.undef :: (AV.undef :: (AV.undef :: (AV.undef :: (AV.undef :: (AV.undef :: (AV.undef :: (AV.undef :: (AV.undef :: (AV.undef :: (AV.undef :: (AV.undef :: (AV.undef :: (AV.undef :: (AV.undef :: (AV.undef :: (AV.undef :: (AV.undef :: (AV.undef :: (AV.undef :: (AV.undef :: (AV.undef :: (AV.undef :: (AV.undef :: (AV.undef :: (AV.undef :: (AV.undef :: (AV.undef :: (AV.undef :: (AV.undef :: (AV.undef :: (AV.undef :: (AV.undef :: (AV.undef :: (AV.undef :: (AV.undef :: (AV.undef :: (AV.undef :: (AV.undef :: (AV.undef :: (AV.undef :: (AV.undef :: (AV.undef :: (AV.undef :: (AV.undef :: (AV.undef :: (AV.undef :: (AV.undef :: (AV.undef :: (AV.undef :: (AV.undef :: (AV.undef :: (AV.undef :: (AV.undef :: (AV.undef :: (AV.undef :: (AV.undef :: (AV.undef :: (AV.undef :: (AV.undef :: (AV.undef :: (AV.undef :: (AV.undef :: [])))))))))))))))))))))))))))))))))))))))))))))))))))))))))))))))))))))))))))))))))))))))))))))))))))))))))))))))))))))))))))))))))))))))))) ((1000000,(Ent.box ((SV.con (⟨39,(Ty.int Go.IntKind.i64).pair ((Ty.int Go.IntKind.i64).pair ((Ty.int Go.IntKind.i64).pair ((Ty.int Go.IntKind.i64).pair ((Ty.int Go.IntKind.i64).pair ((Ty.int Go.IntKind.i64).pair (Ty.bool.pair (Ty.str.pair (Ty.row (nat_lit 95) (Ty.str.pair (Ty.int Go.IntKind.i64)))))))))),x2⟩:Rw)) :: []))) :: ((1000001,(Ent.row (⟨3,Ty.int Go.IntKind.i64,x3⟩:Rw) 0 Option.none)) :: ((1000002,(Ent.row (⟨4,Ty.bool,x4⟩:Rw) 0 Option.none)) :: []))))
def sh62_L5 (x0:Int) (x1:List NT) (x2:List Int):St:=(St.mk (AV.undef :: ((AV.one (SV.bptr 1000000 0)) :: (AV.undef :: ((AV.one (SV.ref 1000001 0 [] Option.none)) :: ((AV.one (SV.int (Go.IntKind.i64) x0)) :: (AV.undef :: (AV.undef :: (AV.undef :: (AV.undef :: (AV.undef :: (AV.undef :: (AV.undef :: (AV.undef :: (AV.undef :: (AV.undef :: (AV.undef :: (AV.undef :: (AV.undef :: (AV.undef :: (AV.undef :: (AV.undef :: (AV.undef :: (AV.undef :: (AV.undef :: (AV.undef :: (AV.undef :: (AV.undef :: (AV.undef :: (AV.undef :: (AV.undef :: (AV.undef :: (AV.undef :: (AV.undef :: (AV.undef :: (AV.undef :: (AV.undef :: (AV.undef :: (AV.undef :: (AV.undef :: (AV.undef :: (AV.undef :: (AV.undef :: (AV.undef :: (AV.undef :: (AV.undef :: (AV.undef :: (AV.undef :: (AV.undef :: (AV.undef :: (AV.undef :: (AV.undef :: (AV.undef :: (AV.undef :: (AV.undef :: (AV.undef :: (AV.undef :: (AV.undef :: (AV.undef :: (AV.undef :: (AV.undef :: (AV.undef :: (AV.undef :: (AV.undef :: (AV.undef :: (AV.undef :: (AV.undef :: (AV.undef :: (AV.undef :: (AV.undef :: (AV.undef :: (AV.undef :: (AV.undef :: (AV.undef :: (AV.undef :: (AV.undef :: (AV.undef :: (AV.undef :: (AV.undef :: (AV.undef :: (AV.undef :: (AV.undef :: (AV.undef :: (AV.undef :: (AV.undef :: (AV.undef :: (AV.undef :: (AV.undef :: (AV.undef :: (AV.undef :: (AV.undef :: (AV.undef :: (AV.undef :: (AV.undef :: (AV.undef :: (AV.undef :: (AV.undef :: (AV.undef :: (AV.undef :: (AV.undef :: (AV.undef :: (AV.undef :: (AV.undef :: (AV.undef :: (AV.undef :: (AV.undef :: (AV.undef :: (AV.undef :: (AV.undef :: (AV.undef :: (AV.undef :: (AV.undef :: (AV.undef :: (AV.undef :: (AV.undef :: (AV.undef :: (AV.undef :: (AV.undef :: (AV.undef :: (AV.undef :: (AV.undef :: (AV.undef :: (AV.undef :: (AV.undef :: (AV.undef :: (AV.undef :: (AV.undef :: (AV.undef :: (AV.undef :: (AV.undef :: (AV.undef :: (AV.undef :: (AV.undef :: (AV.undef :: (AV.undef :: (AV.undef :: (AV.undef :: (AV.undef :: (AV.undef :: [])))))))))))))))))))))))))))))))))))))))))))))))))))))))))))))))))))))))))))))))))))))))))))))))))))))))))))))))))))))))))))))))))))))))))) ((1000000,(Ent.box ((SV.con (⟨39,(Ty.int Go.IntKind.i64).pair ((Ty.int Go.IntKind.i64).pair ((Ty.int Go.IntKind.i64).pair ((Ty.int Go.IntKind.i64).pair ((Ty.int Go.IntKind.i64).pair ((Ty.int Go.IntKind.i64).pair (Ty.bool.pair (Ty.str.pair (Ty.row (nat_lit 95) (Ty.str.pair (Ty.int Go.IntKind.i64)))))))))),x1⟩:Rw)) :: []))) :: ((1000001,(Ent.row (⟨3,Ty.int Go.IntKind.i64,x2⟩:Rw) 0 Option.none)) :: [])))
noncomputable def st62_top (n:Nat) (lL5:Int→(List NT)→(List Int)→Option R62) (a:List NT):Option R62 :=
 cond (!decide ((↑a.length:Int)=(10:Int))) (some ((false,()),())) (lL5 ((0:Int)) (a) (List.replicate (Int.toNat (10:Int)) (0:Int)))
noncomputable def st62_L10 (n:Nat) (lL10:Int→Int→(List NT)→(List Int)→Option R62) (lL5:Int→(List NT)→(List Int)→Option R62) (x0:Int) (x1:Int) (x2:List NT) (x3:List Int):Option R62 :=
 cond (decide ((0:Int)≤x0)) (cond (decide (x0 < (↑x2.length:Int))) (cond (decide (x1 < (↑(List.length (x2.getD x0.toNat ZN).2.2.2.2.2.2.2.2):Int))) (cond (decide ((0:Int)≤x0)) (cond (decide (x0 < (↑x2.length:Int))) (cond (decide ((0:Int)≤x1)) (cond (decide (x1 < (↑(List.length (x2.getD x0.toNat ZN).2.2.2.2.2.2.2.2):Int))) (cond (decide ((0:Int)≤x0)) (cond (decide (x0 < (↑x2.length:Int))) (cond (decide ((0:Int)≤x1)) (cond (decide (x1 < (↑(List.length (x2.getD x0.toNat ZN).2.2.2.2.2.2.2.2):Int))) (cond (decide ((0:Int)≤(List.getD (x2.getD x0.toNat ZN).2.2.2.2.2.2.2.2 x1.toNat (ByteArray.empty,(0:Int))).2)) (cond (decide ((List.getD (x2.getD x0.toNat ZN).2.2.2.2.2.2.2.2 x1.toNat (ByteArray.empty,(0:Int))).2 < (↑x3.length:Int))) (cond (decide ((0:Int)≤(List.getD (x2.getD x0.toNat ZN).2.2.2.2.2.2.2.2 x1.toNat (ByteArray.empty,(0:Int))).2)) (cond (decide ((List.getD (x2.getD x0.toNat ZN).2.2.2.2.2.2.2.2 x1.toNat (ByteArray.empty,(0:Int))).2 < (↑x3.length:Int))) (lL10 (x0) (Go.IntKind.i64.wrap (x1 + (1:Int))) (x2) (x3.set (Int.toNat (List.getD (x2.getD x0.toNat ZN).2.2.2.2.2.2.2.2 x1.toNat (ByteArray.empty,(0:Int))).2) (Go.IntKind.i64.wrap (x3.getD (Int.toNat (List.getD (x2.getD x0.toNat ZN).2.2.2.2.2.2.2.2 x1.toNat (ByteArray.empty,(0:Int))).2) (0:Int) + (1:Int))))) (none)) (none)) (none)) (none)) (none)) (none)) (none)) (none)) (none)) (none)) (none)) (none)) (lL5 (Go.IntKind.i64.wrap (x0 + (1:Int))) (x2) (x3))) (none)) (none)
noncomputable def st62_L17 (n:Nat) (lL17:Bool→Int→(List NT)→(List Int)→(List Bool)→Option R62) (x0:Bool) (x1:Int) (x2:List NT) (x3:List Int) (x4:List Bool):Option R62 :=
 cond (decide (x1 < (10:Int))) (cond (x0) (cond (decide ((0:Int)≤x1)) (cond (decide (x1 < (↑x2.length:Int))) (cond (decide ((0:Int)≤x1)) (cond (decide (x1 < (↑x3.length:Int))) (cond (decide ((0:Int) < x3.getD x1.toNat (0:Int))) (cond (decide ((x2.getD x1.toNat ZN).1=(0:Int))) (some ((false,()),())) (cond (!decide ((x2.getD x1.toNat ZN).1=(0:Int))) (cond (decide ((0:Int)≤x1)) (cond (decide (x1 < (↑x3.length:Int))) (cond (!decide ((x2.getD x1.toNat ZN).2.2.2.2.1=x3.getD x1.toNat (0:Int))) (some ((false,()),())) (cond (decide ((x2.getD x1.toNat ZN).1=(2:Int))) (cond (decide ((0:Int)≤x1)) (cond (decide (x1 < (↑x4.length:Int))) (cond (!x4.getD x1.toNat false) (some ((false,()),())) (cond (decide ((x2.getD x1.toNat ZN).1=(1:Int))) (cond (decide ((x2.getD x1.toNat ZN).2.2.2.2.1=(0:Int))) (cond (decide ((x2.getD x1.toNat ZN).2.2.2.2.2.1=(0:Int))) (some ((false,()),())) (lL17 (x0) (Go.IntKind.i64.wrap (x1 + (1:Int))) (x2) (x3) (x4))) (lL17 (x0) (Go.IntKind.i64.wrap (x1 + (1:Int))) (x2) (x3) (x4))) (lL17 (x0) (Go.IntKind.i64.wrap (x1 + (1:Int))) (x2) (x3) (x4)))) (none)) (none)) (cond (decide ((x2.getD x1.toNat ZN).1=(1:Int))) (cond (decide ((x2.getD x1.toNat ZN).2.2.2.2.1=(0:Int))) (cond (decide ((x2.getD x1.toNat ZN).2.2.2.2.2.1=(0:Int))) (some ((false,()),())) (lL17 (x0) (Go.IntKind.i64.wrap (x1 + (1:Int))) (x2) (x3) (x4))) (lL17 (x0) (Go.IntKind.i64.wrap (x1 + (1:Int))) (x2) (x3) (x4))) (lL17 (x0) (Go.IntKind.i64.wrap (x1 + (1:Int))) (x2) (x3) (x4))))) (none)) (none)) (cond (decide ((x2.getD x1.toNat ZN).1=(2:Int))) (cond (decide ((0:Int)≤x1)) (cond (decide (x1 < (↑x4.length:Int))) (cond (!x4.getD x1.toNat false) (some ((false,()),())) (cond (decide ((x2.getD x1.toNat ZN).1=(1:Int))) (cond (decide ((x2.getD x1.toNat ZN).2.2.2.2.1=(0:Int))) (cond (decide ((x2.getD x1.toNat ZN).2.2.2.2.2.1=(0:Int))) (some ((false,()),())) (lL17 (x0) (Go.IntKind.i64.wrap (x1 + (1:Int))) (x2) (x3) (x4))) (lL17 (x0) (Go.IntKind.i64.wrap (x1 + (1:Int))) (x2) (x3) (x4))) (lL17 (x0) (Go.IntKind.i64.wrap (x1 + (1:Int))) (x2) (x3) (x4)))) (none)) (none)) (cond (decide ((x2.getD x1.toNat ZN).1=(1:Int))) (cond (decide ((x2.getD x1.toNat ZN).2.2.2.2.1=(0:Int))) (cond (decide ((x2.getD x1.toNat ZN).2.2.2.2.2.1=(0:Int))) (some ((false,()),())) (lL17 (x0) (Go.IntKind.i64.wrap (x1 + (1:Int))) (x2) (x3) (x4))) (lL17 (x0) (Go.IntKind.i64.wrap (x1 + (1:Int))) (x2) (x3) (x4))) (lL17 (x0) (Go.IntKind.i64.wrap (x1 + (1:Int))) (x2) (x3) (x4)))))) (cond (!decide ((x2.getD x1.toNat ZN).1=(0:Int))) (cond (decide ((0:Int)≤x1)) (cond (decide (x1 < (↑x3.length:Int))) (cond (!decide ((x2.getD x1.toNat ZN).2.2.2.2.1=x3.getD x1.toNat (0:Int))) (some ((false,()),())) (cond (decide ((x2.getD x1.toNat ZN).1=(2:Int))) (cond (decide ((0:Int)≤x1)) (cond (decide (x1 < (↑x4.length:Int))) (cond (!x4.getD x1.toNat false) (some ((false,()),())) (cond (decide ((x2.getD x1.toNat ZN).1=(1:Int))) (cond (decide ((x2.getD x1.toNat ZN).2.2.2.2.1=(0:Int))) (cond (decide ((x2.getD x1.toNat ZN).2.2.2.2.2.1=(0:Int))) (some ((false,()),())) (lL17 (x0) (Go.IntKind.i64.wrap (x1 + (1:Int))) (x2) (x3) (x4))) (lL17 (x0) (Go.IntKind.i64.wrap (x1 + (1:Int))) (x2) (x3) (x4))) (lL17 (x0) (Go.IntKind.i64.wrap (x1 + (1:Int))) (x2) (x3) (x4)))) (none)) (none)) (cond (decide ((x2.getD x1.toNat ZN).1=(1:Int))) (cond (decide ((x2.getD x1.toNat ZN).2.2.2.2.1=(0:Int))) (cond (decide ((x2.getD x1.toNat ZN).2.2.2.2.2.1=(0:Int))) (some ((false,()),())) (lL17 (x0) (Go.IntKind.i64.wrap (x1 + (1:Int))) (x2) (x3) (x4))) (lL17 (x0) (Go.IntKind.i64.wrap (x1 + (1:Int))) (x2) (x3) (x4))) (lL17 (x0) (Go.IntKind.i64.wrap (x1 + (1:Int))) (x2) (x3) (x4))))) (none)) (none)) (cond (decide ((x2.getD x1.toNat ZN).1=(2:Int))) (cond (decide ((0:Int)≤x1)) (cond (decide (x1 < (↑x4.length:Int))) (cond (!x4.getD x1.toNat false) (some ((false,()),())) (cond (decide ((x2.getD x1.toNat ZN).1=(1:Int))) (cond (decide ((x2.getD x1.toNat ZN).2.2.2.2.1=(0:Int))) (cond (decide ((x2.getD x1.toNat ZN).2.2.2.2.2.1=(0:Int))) (some ((false,()),())) (lL17 (x0) (Go.IntKind.i64.wrap (x1 + (1:Int))) (x2) (x3) (x4))) (lL17 (x0) (Go.IntKind.i64.wrap (x1 + (1:Int))) (x2) (x3) (x4))) (lL17 (x0) (Go.IntKind.i64.wrap (x1 + (1:Int))) (x2) (x3) (x4)))) (none)) (none)) (cond (decide ((x2.getD x1.toNat ZN).1=(1:Int))) (cond (decide ((x2.getD x1.toNat ZN).2.2.2.2.1=(0:Int))) (cond (decide ((x2.getD x1.toNat ZN).2.2.2.2.2.1=(0:Int))) (some ((false,()),())) (lL17 (x0) (Go.IntKind.i64.wrap (x1 + (1:Int))) (x2) (x3) (x4))) (lL17 (x0) (Go.IntKind.i64.wrap (x1 + (1:Int))) (x2) (x3) (x4))) (lL17 (x0) (Go.IntKind.i64.wrap (x1 + (1:Int))) (x2) (x3) (x4)))))) (none)) (none)) (none)) (none)) (some ((x0,()),()))) (some ((x0,()),()))
noncomputable def st62_L5 (n:Nat) (lL10:Int→Int→(List NT)→(List Int)→Option R62) (lL17:Bool→Int→(List NT)→(List Int)→(List Bool)→Option R62) (x0:Int) (x1:List NT) (x2:List Int):Option R62 :=
 cond (decide (x0 < (10:Int))) (cond (decide ((0:Int)≤x0)) (cond (decide (x0 < (↑x1.length:Int))) ((q100 n (((x1.getD x0.toNat ZN).1,(x1.getD x0.toNat ZN).2.1,(x1.getD x0.toNat ZN).2.2.1,(x1.getD x0.toNat ZN).2.2.2.1,(x1.getD x0.toNat ZN).2.2.2.2.1,(x1.getD x0.toNat ZN).2.2.2.2.2.1,(x1.getD x0.toNat ZN).2.2.2.2.2.2.1,(x1.getD x0.toNat ZN).2.2.2.2.2.2.2.1,(x1.getD x0.toNat ZN).2.2.2.2.2.2.2.2),())).bind fun r1=>cond (!r1.1.1) (some ((false,()),())) (lL10 (x0) ((0:Int)) (x1) (x2))) (none)) (none)) (cond (decide ((0:Int) < (↑x1.length:Int))) (cond (!decide ((x1.getD (Int.toNat (0:Int)) ZN).1=(2:Int))) (some ((false,()),())) ((q101 n (x1,())).bind fun r3=>lL17 (r3.1.2.1) ((0:Int)) (x1) (x2) (r3.1.1))) (none))
theorem e62_top (n:Nat) (a:List NT):runF TT G62 an62 Try.f62 c62 ps62 rs62 n (a,())=st62_top n (fun x0 x1 x2=>at62 n (.head 5) [n] (sh62_L5 x0 x1 x2)) a:=by kernel_rfl
theorem e62_L10_0 (n:Nat) (m5:Nat) (x0:Int) (x1:Int) (x2:List NT) (x3:List Int):at62 n (.head 10) [m5,0] (sh62_L10 x0 x1 x2 x3)=none:=by kernel_rfl
theorem e62_L10 (n:Nat) (m5:Nat) (m10:Nat) (x0:Int) (x1:Int) (x2:List NT) (x3:List Int):at62 n (.head 10) [m5,m10 + 1] (sh62_L10 x0 x1 x2 x3)=st62_L10 n (fun x0 x1 x2 x3=>at62 n (.head 10) [m5,m10] (sh62_L10 x0 x1 x2 x3)) (fun x0 x1 x2=>at62 n (.head 5) [m5] (sh62_L5 x0 x1 x2)) x0 x1 x2 x3:=by kernel_rfl
theorem e62_L17_0 (n:Nat) (x0:Bool) (x1:Int) (x2:List NT) (x3:List Int) (x4:List Bool):at62 n (.head 17) [0] (sh62_L17 x0 x1 x2 x3 x4)=none:=by kernel_rfl
theorem e62_L17 (n:Nat) (m17:Nat) (x0:Bool) (x1:Int) (x2:List NT) (x3:List Int) (x4:List Bool):at62 n (.head 17) [m17 + 1] (sh62_L17 x0 x1 x2 x3 x4)=st62_L17 n (fun x0 x1 x2 x3 x4=>at62 n (.head 17) [m17] (sh62_L17 x0 x1 x2 x3 x4)) x0 x1 x2 x3 x4:=by kernel_rfl
theorem e62_L5_0 (n:Nat) (x0:Int) (x1:List NT) (x2:List Int):at62 n (.head 5) [0] (sh62_L5 x0 x1 x2)=none:=by kernel_rfl
theorem e62_L5 (n:Nat) (m5:Nat) (x0:Int) (x1:List NT) (x2:List Int):at62 n (.head 5) [m5 + 1] (sh62_L5 x0 x1 x2)=st62_L5 n (fun x0 x1 x2 x3=>at62 n (.head 10) [m5,n] (sh62_L10 x0 x1 x2 x3)) (fun x0 x1 x2 x3 x4=>at62 n (.head 17) [n] (sh62_L17 x0 x1 x2 x3 x4)) x0 x1 x2:=by kernel_rfl
noncomputable def p62_L10 (g5:Int→(List NT)→(List Int)→Option R62) (n:Nat):Nat→Int→Int→(List NT)→(List Int)→Option R62
 | 0,_,_,_,_=>none
 | m + 1,x0,x1,x2,x3=>st62_L10 n (p62_L10 g5 n m) g5 x0 x1 x2 x3
noncomputable def p62_L17 (n:Nat):Nat→Bool→Int→(List NT)→(List Int)→(List Bool)→Option R62
 | 0,_,_,_,_,_=>none
 | m + 1,x0,x1,x2,x3,x4=>st62_L17 n (p62_L17 n m) x0 x1 x2 x3 x4
noncomputable def p62_L5 (n:Nat):Nat→Int→(List NT)→(List Int)→Option R62
 | 0,_,_,_=>none
 | m + 1,x0,x1,x2=>st62_L5 n (p62_L10 (p62_L5 n m) n n) (p62_L17 n n) x0 x1 x2
noncomputable def p62 (n:Nat) (a:List NT):Option R62:=st62_top n (p62_L5 n n) a
theorem t62_L10 (n:Nat) (m5:Nat):∀ (m10:Nat) (x0:Int) (x1:Int) (x2:List NT) (x3:List Int),at62 n (.head 10) [m5,m10] (sh62_L10 x0 x1 x2 x3)=p62_L10 (fun x0 x1 x2=>at62 n (.head 5) [m5] (sh62_L5 x0 x1 x2)) n m10 x0 x1 x2 x3:=by
 intro m
 induction m with
 | zero=>intros; rw [e62_L10_0]; rfl
 | succ m ih =>
  intros
  rw [e62_L10]
  try simp only [ih]
  rfl
theorem t62_L17 (n:Nat):∀ (m17:Nat) (x0:Bool) (x1:Int) (x2:List NT) (x3:List Int) (x4:List Bool),at62 n (.head 17) [m17] (sh62_L17 x0 x1 x2 x3 x4)=p62_L17 n m17 x0 x1 x2 x3 x4:=by
 intro m
 induction m with
 | zero=>intros; rw [e62_L17_0]; rfl
 | succ m ih =>
  intros
  rw [e62_L17]
  try simp only [ih]
  rfl
theorem t62_L5 (n:Nat):∀ (m5:Nat) (x0:Int) (x1:List NT) (x2:List Int),at62 n (.head 5) [m5] (sh62_L5 x0 x1 x2)=p62_L5 n m5 x0 x1 x2:=by
 intro m
 induction m with
 | zero=>intros; rw [e62_L5_0]; rfl
 | succ m ih =>
  intros
  rw [e62_L5]
  try simp only [t62_L10,t62_L17,ih]
  rfl
theorem F62_eq (n:Nat) (a:List NT):runF TT G62 an62 Try.f62 c62 ps62 rs62 n (a,())=p62 n a:=by
 rw [e62_top]
 simp only [t62_L5]
 try rfl
noncomputable def q62 (n:Nat) (x:argsD ps62):Option R62:=p62 n x.1
noncomputable def Sm62:Sm:=⟨ps62,rs62,false,q62⟩
theorem holds62 (hg:GamOK Try.prog G62):Holds Try.prog 62 Sm62:=by
 have:=h0_62 hg
 have e:(runF TT G62 an62 Try.f62 c62 ps62 rs62)=q62:=by
  funext n x
  exact F62_eq n x.1
 rw [e] at this
 exact this
theorem gam62:GamOK Try.prog G62:=by
 intro f s h
 unfold G62 at h
 split at h
 ·injection h with h; subst h; exact ⟨⟨Try.f100,c100,Try.func100,by kernel_rfl,by decide +kernel⟩,hh100⟩
 ·injection h with h; subst h; exact ⟨⟨Try.f101,c101,Try.func101,by kernel_rfl,by decide +kernel⟩,hh101⟩
 ·cases h
theorem hh62:Holds Try.prog 62 Sm62:=holds62 gam62
end Go.Proofs.Ythhopbicmaipgaa.Rx.S

namespace Go.Proofs.Ythhopbicmaipgaa.Rx.S
open Go Go.RowKit Go.Proofs
set_option maxRecDepth 100000
abbrev ps133:List PK:=[.val tEn true,.val i64 false]
abbrev rs133:List RK:=[.val i64 false]
abbrev R133:=retsD rs133 × outsD ps133
noncomputable def st133_top (n:Nat) (a:ByteArray × Int) (b:Int):Option R133 :=
 cond (decide (Go.IntKind.i64.wrap (b - (↑(ByteArray.size a.1):Int)) < (0:Int))) (some (((-1:Int),()),())) (some ((Go.IntKind.i64.wrap (b - (↑(ByteArray.size a.1):Int)),()),()))
noncomputable def p133 (n:Nat) (a:ByteArray × Int) (b:Int):Option R133:=st133_top n a b
noncomputable def q133 (n:Nat) (x:argsD ps133):Option R133:=p133 n x.1 x.2.1
end Go.Proofs.Ythhopbicmaipgaa.Rx.S

namespace Go.Proofs.Ythhopbicmaipgaa.Rx.S
open Go Go.RowKit Go.Proofs
set_option maxRecDepth 100000
abbrev ps124:List PK:=[.val (.row 154 tEn) false,.val i64 false]
abbrev rs124:List RK:=[.val i64 false]
abbrev R124:=retsD rs124 × outsD ps124
noncomputable def st124_top (n:Nat) (lL5:(List (ByteArray × Int))→Int→Int→Option R124) (a:List (ByteArray × Int)) (b:Int):Option R124 :=
 cond (decide (Go.IntKind.i64.wrap (b - (↑a.length:Int)) < (0:Int))) (some (((-1:Int),()),())) (lL5 (a) (Go.IntKind.i64.wrap (b - (↑a.length:Int))) ((0:Int)))
noncomputable def st124_L5 (n:Nat) (lL5:(List (ByteArray × Int))→Int→Int→Option R124) (x0:List (ByteArray × Int)) (x1:Int) (x2:Int):Option R124 :=
 cond (decide (x2 < (↑x0.length:Int))) (cond (decide ((0:Int)≤x2)) (cond (decide (x2 < (↑x0.length:Int))) ((q133 n (((x0.getD x2.toNat (ByteArray.empty,(0:Int))).1,(x0.getD x2.toNat (ByteArray.empty,(0:Int))).2),x1,())).bind fun r1=>cond (decide (r1.1.1 < (0:Int))) (some (((-1:Int),()),())) (lL5 (x0) (r1.1.1) (Go.IntKind.i64.wrap (x2 + (1:Int))))) (none)) (none)) (some ((x1,()),()))
noncomputable def p124_L5 (n:Nat):Nat→(List (ByteArray × Int))→Int→Int→Option R124
 | 0,_,_,_=>none
 | m + 1,x0,x1,x2=>st124_L5 n (p124_L5 n m) x0 x1 x2
noncomputable def p124 (n:Nat) (a:List (ByteArray × Int)) (b:Int):Option R124:=st124_top n (p124_L5 n n) a b
noncomputable def q124 (n:Nat) (x:argsD ps124):Option R124:=p124 n x.1 x.2.1
end Go.Proofs.Ythhopbicmaipgaa.Rx.S

namespace Go.Proofs.Ythhopbicmaipgaa.Rx.S
open Go Go.RowKit Go.Proofs
set_option maxRecDepth 100000
abbrev ps106:List PK:=[.val (tIn 154) true,.val i64 false]
abbrev rs106:List RK:=[.val i64 false]
abbrev R106:=retsD rs106 × outsD ps106
noncomputable def st106_top (n:Nat) (a:NT) (b:Int):Option R106 :=
 cond (decide (Go.IntKind.i64.wrap (b - (↑(ByteArray.size a.2.2.2.2.2.2.2.1):Int)) < (0:Int))) (some (((-1:Int),()),())) ((q124 n (a.2.2.2.2.2.2.2.2,Go.IntKind.i64.wrap (b - (↑(ByteArray.size a.2.2.2.2.2.2.2.1):Int)),())).bind fun r0=>cond (decide (r0.1.1 < (0:Int))) (some (((-1:Int),()),())) (some ((r0.1.1,()),())))
noncomputable def p106 (n:Nat) (a:NT) (b:Int):Option R106:=st106_top n a b
noncomputable def q106 (n:Nat) (x:argsD ps106):Option R106:=p106 n x.1 x.2.1
end Go.Proofs.Ythhopbicmaipgaa.Rx.S

namespace Go.Proofs.Ythhopbicmaipgaa.Rx.S
open Go Go.RowKit Go.Proofs
set_option maxRecDepth 100000
abbrev ps72:List PK:=[.val tLf false,.val i64 false]
abbrev rs72:List RK:=[.val i64 false]
abbrev R72:=retsD rs72 × outsD ps72
noncomputable def st72_top (n:Nat) (lL5:(List NT)→Int→Int→Option R72) (a:List NT) (b:Int):Option R72 :=
 cond (decide (Go.IntKind.i64.wrap (b - (↑a.length:Int)) < (0:Int))) (some (((-1:Int),()),())) (lL5 (a) (Go.IntKind.i64.wrap (b - (↑a.length:Int))) ((0:Int)))
noncomputable def st72_L5 (n:Nat) (lL5:(List NT)→Int→Int→Option R72) (x0:List NT) (x1:Int) (x2:Int):Option R72 :=
 cond (decide (x2 < (↑x0.length:Int))) (cond (decide ((0:Int)≤x2)) (cond (decide (x2 < (↑x0.length:Int))) ((q106 n (((x0.getD x2.toNat ZN).1,(x0.getD x2.toNat ZN).2.1,(x0.getD x2.toNat ZN).2.2.1,(x0.getD x2.toNat ZN).2.2.2.1,(x0.getD x2.toNat ZN).2.2.2.2.1,(x0.getD x2.toNat ZN).2.2.2.2.2.1,(x0.getD x2.toNat ZN).2.2.2.2.2.2.1,(x0.getD x2.toNat ZN).2.2.2.2.2.2.2.1,(x0.getD x2.toNat ZN).2.2.2.2.2.2.2.2),x1,())).bind fun r1=>cond (decide (r1.1.1 < (0:Int))) (some (((-1:Int),()),())) (lL5 (x0) (r1.1.1) (Go.IntKind.i64.wrap (x2 + (1:Int))))) (none)) (none)) (some ((x1,()),()))
noncomputable def p72_L5 (n:Nat):Nat→(List NT)→Int→Int→Option R72
 | 0,_,_,_=>none
 | m + 1,x0,x1,x2=>st72_L5 n (p72_L5 n m) x0 x1 x2
noncomputable def p72 (n:Nat) (a:List NT) (b:Int):Option R72:=st72_top n (p72_L5 n n) a b
noncomputable def q72 (n:Nat) (x:argsD ps72):Option R72:=p72 n x.1 x.2.1
end Go.Proofs.Ythhopbicmaipgaa.Rx.S

namespace Go.Proofs.Ythhopbicmaipgaa.Rx.S
open Go Go.RowKit Go.Proofs
set_option maxRecDepth 100000
abbrev ps21:List PK:=[.val tLf true,.val i64 false]
abbrev rs21:List RK:=[.val i64 false]
abbrev R21:=retsD rs21 × outsD ps21
noncomputable def st21_top (n:Nat) (a:List NT) (b:Int):Option R21 :=
 (q72 n (a,b,())).bind fun r0=>cond (decide (r0.1.1 < (0:Int))) (some (((-1:Int),()),())) (some ((r0.1.1,()),()))
noncomputable def p21 (n:Nat) (a:List NT) (b:Int):Option R21:=st21_top n a b
noncomputable def q21 (n:Nat) (x:argsD ps21):Option R21:=p21 n x.1 x.2.1
end Go.Proofs.Ythhopbicmaipgaa.Rx.S

namespace Go.Proofs.Ythhopbicmaipgaa.Rx.S
open Go Go.RowKit Go.Proofs
set_option maxRecDepth 100000
abbrev ps134:List PK:=[.val tEn true]
abbrev rs134:List RK:=[.val tEn true]
abbrev R134:=retsD rs134 × outsD ps134
noncomputable def st134_top (n:Nat) (a:ByteArray × Int):Option R134 :=
 some (((a.1,a.2),()),())
noncomputable def p134 (n:Nat) (a:ByteArray × Int):Option R134:=st134_top n a
noncomputable def q134 (n:Nat) (x:argsD ps134):Option R134:=p134 n x.1
end Go.Proofs.Ythhopbicmaipgaa.Rx.S

namespace Go.Proofs.Ythhopbicmaipgaa.Rx.S
open Go Go.RowKit Go.Proofs
set_option maxRecDepth 100000
abbrev ps125:List PK:=[.val (.row 154 tEn) false]
abbrev rs125:List RK:=[.own (.row 95 tEn) false]
abbrev R125:=retsD rs125 × outsD ps125
noncomputable def st125_top (n:Nat) (lL3:(List (ByteArray × Int))→Int→(List (ByteArray × Int))→Option R125) (a:List (ByteArray × Int)):Option R125 :=
 cond (decide ((↑a.length:Int) * (↑(24:Nat):Int)≤(140737488355328:Int))) (lL3 (a) ((0:Int)) (List.replicate (↑a.length:Int).toNat (ByteArray.empty,(0:Int)))) (none)
noncomputable def st125_L3 (n:Nat) (lL3:(List (ByteArray × Int))→Int→(List (ByteArray × Int))→Option R125) (x0:List (ByteArray × Int)) (x1:Int) (x2:List (ByteArray × Int)):Option R125 :=
 cond (decide (x1 < (↑x0.length:Int))) (cond (decide ((0:Int)≤x1)) (cond (decide (x1 < (↑x0.length:Int))) ((q134 n (((x0.getD x1.toNat (ByteArray.empty,(0:Int))).1,(x0.getD x1.toNat (ByteArray.empty,(0:Int))).2),())).bind fun r1=>cond (decide ((0:Int)≤x1)) (cond (decide (x1 < (↑x2.length:Int))) (lL3 (x0) (Go.IntKind.i64.wrap (x1 + (1:Int))) (x2.set x1.toNat (r1.1.1.1,r1.1.1.2))) (none)) (none)) (none)) (none)) (some ((x2,()),()))
noncomputable def p125_L3 (n:Nat):Nat→(List (ByteArray × Int))→Int→(List (ByteArray × Int))→Option R125
 | 0,_,_,_=>none
 | m + 1,x0,x1,x2=>st125_L3 n (p125_L3 n m) x0 x1 x2
noncomputable def p125 (n:Nat) (a:List (ByteArray × Int)):Option R125:=st125_top n (p125_L3 n n) a
noncomputable def q125 (n:Nat) (x:argsD ps125):Option R125:=p125 n x.1
end Go.Proofs.Ythhopbicmaipgaa.Rx.S

namespace Go.Proofs.Ythhopbicmaipgaa.Rx.S
open Go Go.RowKit Go.Proofs
set_option maxRecDepth 100000
abbrev ps107:List PK:=[.val (tIn 154) true]
abbrev rs107:List RK:=[.own (tIn 95) true]
abbrev R107:=retsD rs107 × outsD ps107
noncomputable def st107_top (n:Nat) (a:NT):Option R107 :=
 (q125 n (a.2.2.2.2.2.2.2.2,())).bind fun r0=>some (((a.1,(a.2.1,(a.2.2.1,(a.2.2.2.1,(a.2.2.2.2.1,(a.2.2.2.2.2.1,(a.2.2.2.2.2.2.1,(a.2.2.2.2.2.2.2.1,r0.1.1)))))))),()),())
noncomputable def p107 (n:Nat) (a:NT):Option R107:=st107_top n a
noncomputable def q107 (n:Nat) (x:argsD ps107):Option R107:=p107 n x.1
end Go.Proofs.Ythhopbicmaipgaa.Rx.S

namespace Go.Proofs.Ythhopbicmaipgaa.Rx.S
open Go Go.RowKit Go.Proofs
set_option maxRecDepth 100000
abbrev ps74:List PK:=[.val tLf false]
abbrev rs74:List RK:=[.own tFs false]
abbrev R74:=retsD rs74 × outsD ps74
noncomputable def st74_top (n:Nat) (lL3:(List NT)→Int→(List NT)→Option R74) (a:List NT):Option R74 :=
 cond (decide ((↑a.length:Int) * (↑(96:Nat):Int)≤(140737488355328:Int))) (lL3 (a) ((0:Int)) (List.replicate (↑a.length:Int).toNat ZN)) (none)
noncomputable def st74_L3 (n:Nat) (lL3:(List NT)→Int→(List NT)→Option R74) (x0:List NT) (x1:Int) (x2:List NT):Option R74 :=
 cond (decide (x1 < (↑x0.length:Int))) (cond (decide ((0:Int)≤x1)) (cond (decide (x1 < (↑x0.length:Int))) ((q107 n (((x0.getD x1.toNat ZN).1,(x0.getD x1.toNat ZN).2.1,(x0.getD x1.toNat ZN).2.2.1,(x0.getD x1.toNat ZN).2.2.2.1,(x0.getD x1.toNat ZN).2.2.2.2.1,(x0.getD x1.toNat ZN).2.2.2.2.2.1,(x0.getD x1.toNat ZN).2.2.2.2.2.2.1,(x0.getD x1.toNat ZN).2.2.2.2.2.2.2.1,(x0.getD x1.toNat ZN).2.2.2.2.2.2.2.2),())).bind fun r1=>cond (decide ((0:Int)≤x1)) (cond (decide (x1 < (↑x2.length:Int))) (lL3 (x0) (Go.IntKind.i64.wrap (x1 + (1:Int))) (x2.set x1.toNat (r1.1.1.1,r1.1.1.2.1,r1.1.1.2.2.1,r1.1.1.2.2.2.1,r1.1.1.2.2.2.2.1,r1.1.1.2.2.2.2.2.1,r1.1.1.2.2.2.2.2.2.1,r1.1.1.2.2.2.2.2.2.2.1,r1.1.1.2.2.2.2.2.2.2.2))) (none)) (none)) (none)) (none)) (some ((x2,()),()))
noncomputable def p74_L3 (n:Nat):Nat→(List NT)→Int→(List NT)→Option R74
 | 0,_,_,_=>none
 | m + 1,x0,x1,x2=>st74_L3 n (p74_L3 n m) x0 x1 x2
noncomputable def p74 (n:Nat) (a:List NT):Option R74:=st74_top n (p74_L3 n n) a
noncomputable def q74 (n:Nat) (x:argsD ps74):Option R74:=p74 n x.1
end Go.Proofs.Ythhopbicmaipgaa.Rx.S

namespace Go.Proofs.Ythhopbicmaipgaa.Rx.S
open Go Go.RowKit Go.Proofs
set_option maxRecDepth 100000
abbrev ps23:List PK:=[.val tLf true]
abbrev rs23:List RK:=[.own tFs true]
abbrev R23:=retsD rs23 × outsD ps23
noncomputable def st23_top (n:Nat) (a:List NT):Option R23 :=
 (q74 n (a,())).bind fun r0=>some ((r0.1.1,()),())
noncomputable def p23 (n:Nat) (a:List NT):Option R23:=st23_top n a
noncomputable def q23 (n:Nat) (x:argsD ps23):Option R23:=p23 n x.1
end Go.Proofs.Ythhopbicmaipgaa.Rx.S

namespace Go.Proofs.Ythhopbicmaipgaa.Rx.S
open Go Go.RowKit Go.Proofs
set_option maxRecDepth 100000
abbrev ps135:List PK:=[.val tEn true,.val tEn true]
abbrev rs135:List RK:=[.val .bool false]
abbrev R135:=retsD rs135 × outsD ps135
noncomputable def st135_top (n:Nat) (a:ByteArray × Int) (b:ByteArray × Int):Option R135 :=
 cond (!ByteArray.toList a.1 == ByteArray.toList b.1) (some ((false,()),())) (cond (!decide (a.2=b.2)) (some ((false,()),())) (some ((true,()),())))
noncomputable def p135 (n:Nat) (a:ByteArray × Int) (b:ByteArray × Int):Option R135:=st135_top n a b
noncomputable def q135 (n:Nat) (x:argsD ps135):Option R135:=p135 n x.1 x.2.1
end Go.Proofs.Ythhopbicmaipgaa.Rx.S

namespace Go.Proofs.Ythhopbicmaipgaa.Rx.S
open Go Go.RowKit Go.Proofs
set_option maxRecDepth 100000
abbrev ps126:List PK:=[.val (.row 95 tEn) false,.val (.row 95 tEn) false]
abbrev rs126:List RK:=[.val .bool false]
abbrev R126:=retsD rs126 × outsD ps126
noncomputable def st126_top (n:Nat) (lL4:(List (ByteArray × Int))→(List (ByteArray × Int))→Int→Option R126) (a:List (ByteArray × Int)) (b:List (ByteArray × Int)):Option R126 :=
 cond (!decide ((↑a.length:Int)=(↑b.length:Int))) (some ((false,()),())) (lL4 (a) (b) ((0:Int)))
noncomputable def st126_L4 (n:Nat) (lL4:(List (ByteArray × Int))→(List (ByteArray × Int))→Int→Option R126) (x0:List (ByteArray × Int)) (x1:List (ByteArray × Int)) (x2:Int):Option R126 :=
 cond (decide (x2 < (↑x0.length:Int))) (cond (decide ((0:Int)≤x2)) (cond (decide (x2 < (↑x0.length:Int))) (cond (decide ((0:Int)≤x2)) (cond (decide (x2 < (↑x1.length:Int))) ((q135 n (((x0.getD x2.toNat (ByteArray.empty,(0:Int))).1,(x0.getD x2.toNat (ByteArray.empty,(0:Int))).2),((x1.getD x2.toNat (ByteArray.empty,(0:Int))).1,(x1.getD x2.toNat (ByteArray.empty,(0:Int))).2),())).bind fun r1=>cond (!r1.1.1) (some ((false,()),())) (lL4 (x0) (x1) (Go.IntKind.i64.wrap (x2 + (1:Int))))) (none)) (none)) (none)) (none)) (some ((true,()),()))
noncomputable def p126_L4 (n:Nat):Nat→(List (ByteArray × Int))→(List (ByteArray × Int))→Int→Option R126
 | 0,_,_,_=>none
 | m + 1,x0,x1,x2=>st126_L4 n (p126_L4 n m) x0 x1 x2
noncomputable def p126 (n:Nat) (a:List (ByteArray × Int)) (b:List (ByteArray × Int)):Option R126:=st126_top n (p126_L4 n n) a b
noncomputable def q126 (n:Nat) (x:argsD ps126):Option R126:=p126 n x.1 x.2.1
end Go.Proofs.Ythhopbicmaipgaa.Rx.S

namespace Go.Proofs.Ythhopbicmaipgaa.Rx.S
open Go Go.RowKit Go.Proofs
set_option maxRecDepth 100000
abbrev ps108:List PK:=[.val (tIn 95) true,.val (tIn 95) true]
abbrev rs108:List RK:=[.val .bool false]
abbrev R108:=retsD rs108 × outsD ps108
noncomputable def st108_top (n:Nat) (a:NT) (b:NT):Option R108 :=
 cond (!decide (a.1=b.1)) (some ((false,()),())) (cond (!decide (a.2.1=b.2.1)) (some ((false,()),())) (cond (!decide (a.2.2.1=b.2.2.1)) (some ((false,()),())) (cond (!decide (a.2.2.2.1=b.2.2.2.1)) (some ((false,()),())) (cond (!decide (a.2.2.2.2.1=b.2.2.2.2.1)) (some ((false,()),())) (cond (!decide (a.2.2.2.2.2.1=b.2.2.2.2.2.1)) (some ((false,()),())) (cond (!a.2.2.2.2.2.2.1 == b.2.2.2.2.2.2.1) (some ((false,()),())) (cond (!ByteArray.toList a.2.2.2.2.2.2.2.1 == ByteArray.toList b.2.2.2.2.2.2.2.1) (some ((false,()),())) ((q126 n (a.2.2.2.2.2.2.2.2,b.2.2.2.2.2.2.2.2,())).bind fun r0=>cond (!r0.1.1) (some ((false,()),())) (some ((true,()),()))))))))))
noncomputable def p108 (n:Nat) (a:NT) (b:NT):Option R108:=st108_top n a b
noncomputable def q108 (n:Nat) (x:argsD ps108):Option R108:=p108 n x.1 x.2.1
end Go.Proofs.Ythhopbicmaipgaa.Rx.S

namespace Go.Proofs.Ythhopbicmaipgaa.Rx.S
open Go Go.RowKit Go.Proofs
set_option maxRecDepth 100000
abbrev ps76:List PK:=[.val tFs false,.val tFs false]
abbrev rs76:List RK:=[.val .bool false]
abbrev R76:=retsD rs76 × outsD ps76
noncomputable def st76_top (n:Nat) (lL4:(List NT)→(List NT)→Int→Option R76) (a:List NT) (b:List NT):Option R76 :=
 cond (!decide ((↑a.length:Int)=(↑b.length:Int))) (some ((false,()),())) (lL4 (a) (b) ((0:Int)))
noncomputable def st76_L4 (n:Nat) (lL4:(List NT)→(List NT)→Int→Option R76) (x0:List NT) (x1:List NT) (x2:Int):Option R76 :=
 cond (decide (x2 < (↑x0.length:Int))) (cond (decide ((0:Int)≤x2)) (cond (decide (x2 < (↑x0.length:Int))) (cond (decide ((0:Int)≤x2)) (cond (decide (x2 < (↑x1.length:Int))) ((q108 n (((x0.getD x2.toNat ZN).1,(x0.getD x2.toNat ZN).2.1,(x0.getD x2.toNat ZN).2.2.1,(x0.getD x2.toNat ZN).2.2.2.1,(x0.getD x2.toNat ZN).2.2.2.2.1,(x0.getD x2.toNat ZN).2.2.2.2.2.1,(x0.getD x2.toNat ZN).2.2.2.2.2.2.1,(x0.getD x2.toNat ZN).2.2.2.2.2.2.2.1,(x0.getD x2.toNat ZN).2.2.2.2.2.2.2.2),((x1.getD x2.toNat ZN).1,(x1.getD x2.toNat ZN).2.1,(x1.getD x2.toNat ZN).2.2.1,(x1.getD x2.toNat ZN).2.2.2.1,(x1.getD x2.toNat ZN).2.2.2.2.1,(x1.getD x2.toNat ZN).2.2.2.2.2.1,(x1.getD x2.toNat ZN).2.2.2.2.2.2.1,(x1.getD x2.toNat ZN).2.2.2.2.2.2.2.1,(x1.getD x2.toNat ZN).2.2.2.2.2.2.2.2),())).bind fun r1=>cond (!r1.1.1) (some ((false,()),())) (lL4 (x0) (x1) (Go.IntKind.i64.wrap (x2 + (1:Int))))) (none)) (none)) (none)) (none)) (some ((true,()),()))
noncomputable def p76_L4 (n:Nat):Nat→(List NT)→(List NT)→Int→Option R76
 | 0,_,_,_=>none
 | m + 1,x0,x1,x2=>st76_L4 n (p76_L4 n m) x0 x1 x2
noncomputable def p76 (n:Nat) (a:List NT) (b:List NT):Option R76:=st76_top n (p76_L4 n n) a b
noncomputable def q76 (n:Nat) (x:argsD ps76):Option R76:=p76 n x.1 x.2.1
end Go.Proofs.Ythhopbicmaipgaa.Rx.S

namespace Go.Proofs.Ythhopbicmaipgaa.Rx.S
open Go Go.RowKit Go.Proofs
set_option maxRecDepth 100000
abbrev ps25:List PK:=[.val tFs true,.val tFs true]
abbrev rs25:List RK:=[.val .bool false]
abbrev R25:=retsD rs25 × outsD ps25
noncomputable def st25_top (n:Nat) (a:List NT) (b:List NT):Option R25 :=
 (q76 n (a,b,())).bind fun r0=>cond (!r0.1.1) (some ((false,()),())) (some ((true,()),()))
noncomputable def p25 (n:Nat) (a:List NT) (b:List NT):Option R25:=st25_top n a b
noncomputable def q25 (n:Nat) (x:argsD ps25):Option R25:=p25 n x.1 x.2.1
end Go.Proofs.Ythhopbicmaipgaa.Rx.S

namespace Go.Proofs.Ythhopbicmaipgaa.Rx.S
open Go Go.RowKit Go.Proofs
set_option maxRecDepth 100000
abbrev ps109:List PK:=[.val i64 false]
abbrev rs109:List RK:=[.val .str false]
abbrev R109:=retsD rs109 × outsD ps109
noncomputable def st109_top (n:Nat) (lL4:Int→ByteArray→Option R109) (a:Int):Option R109 :=
 cond (decide (a≤(0:Int))) (some ((ByteArray.mk #[(109:UInt8),(48:UInt8)],()),())) (lL4 (a) (ByteArray.mk #[]))
noncomputable def st109_L4 (n:Nat) (lL4:Int→ByteArray→Option R109) (x0:Int) (x1:ByteArray):Option R109 :=
 cond (decide ((0:Int) < x0)) (cond (decide ((List.foldl (fun r n=>r.push (UInt8.ofNat n.toNat)) ByteArray.empty [Go.IntKind.u8.wrap (Go.IntKind.i64.wrap ((48:Int) + x0.tmod (10:Int)))]).size + x1.size≤(9223372036854775807:Nat))) (lL4 (Go.IntKind.i64.wrap (x0.tdiv (10:Int))) (List.foldl (fun r n=>r.push (UInt8.ofNat n.toNat)) ByteArray.empty [Go.IntKind.u8.wrap (Go.IntKind.i64.wrap ((48:Int) + x0.tmod (10:Int)))] ++ x1)) (none)) (cond (decide ((ByteArray.mk #[(109:UInt8)]).size + x1.size≤(9223372036854775807:Nat))) (some ((ByteArray.mk #[(109:UInt8)] ++ x1,()),())) (none))
noncomputable def p109_L4 (n:Nat):Nat→Int→ByteArray→Option R109
 | 0,_,_=>none
 | m + 1,x0,x1=>st109_L4 n (p109_L4 n m) x0 x1
noncomputable def p109 (n:Nat) (a:Int):Option R109:=st109_top n (p109_L4 n n) a
noncomputable def q109 (n:Nat) (x:argsD ps109):Option R109:=p109 n x.1
end Go.Proofs.Ythhopbicmaipgaa.Rx.S

namespace Go.Proofs.Ythhopbicmaipgaa.Rx.S
open Go Go.RowKit Go.Proofs
set_option maxRecDepth 100000
abbrev ps110:List PK:=[.io (.row 95 tEn) false,.val i64 false]
abbrev rs110:List RK:=[.val i64 false]
abbrev R110:=retsD rs110 × outsD ps110
noncomputable def st110_top (n:Nat) (lL2:Int→Int→(List (ByteArray × Int))→Option R110) (a:List (ByteArray × Int)) (b:Int):Option R110 :=
 lL2 (b) ((0:Int)) (a)
noncomputable def st110_L2 (n:Nat) (lL2:Int→Int→(List (ByteArray × Int))→Option R110) (x0:Int) (x1:Int) (x2:List (ByteArray × Int)):Option R110 :=
 cond (decide (x1 < (↑x2.length:Int))) ((q109 n (x0,())).bind fun r1=>cond (decide ((0:Int)≤x1)) (cond (decide (x1 < (↑x2.length:Int))) (cond (decide ((0:Int)≤x1)) (cond (decide (x1 < (↑(x2.set x1.toNat (r1.1.1,(x2.getD x1.toNat (ByteArray.empty,(0:Int))).2)).length:Int))) (lL2 (Go.IntKind.i64.wrap (Go.IntKind.i64.wrap (x0 + (1:Int)) + (1:Int))) (Go.IntKind.i64.wrap (x1 + (1:Int))) ((x2.set x1.toNat (r1.1.1,(x2.getD x1.toNat (ByteArray.empty,(0:Int))).2)).set x1.toNat (((x2.set x1.toNat (r1.1.1,(x2.getD x1.toNat (ByteArray.empty,(0:Int))).2)).getD x1.toNat (ByteArray.empty,(0:Int))).1,Go.IntKind.i64.wrap (x0 + (1:Int))))) (none)) (none)) (none)) (none)) (some ((x0,()),(x2,())))
noncomputable def p110_L2 (n:Nat):Nat→Int→Int→(List (ByteArray × Int))→Option R110
 | 0,_,_,_=>none
 | m + 1,x0,x1,x2=>st110_L2 n (p110_L2 n m) x0 x1 x2
noncomputable def p110 (n:Nat) (a:List (ByteArray × Int)) (b:Int):Option R110:=st110_top n (p110_L2 n n) a b
noncomputable def q110 (n:Nat) (x:argsD ps110):Option R110:=p110 n x.1 x.2.1
end Go.Proofs.Ythhopbicmaipgaa.Rx.S

namespace Go.Proofs.Ythhopbicmaipgaa.Rx.S
open Go Go.RowKit Go.Proofs
set_option maxRecDepth 100000
abbrev ps78:List PK:=[.io tFs false,.val i64 false]
abbrev rs78:List RK:=[.val i64 false]
abbrev R78:=retsD rs78 × outsD ps78
noncomputable def st78_top (n:Nat) (lL2:Int→Int→(List NT)→Option R78) (a:List NT) (b:Int):Option R78 :=
 lL2 (b) ((0:Int)) (a)
noncomputable def st78_C20_0 (n:Nat) (lL2:Int→Int→(List NT)→Option R78) (x0:Int) (x1:Int) (x2:List NT):Option R78 :=
 cond (decide ((0:Int)≤x1)) (cond (decide (x1 < (↑x2.length:Int))) ((q110 n ((x2.getD x1.toNat ZN).2.2.2.2.2.2.2.2,x0,())).bind fun r10=>lL2 (r10.1.1) (Go.IntKind.i64.wrap (x1 + (1:Int))) (x2.set x1.toNat ((x2.getD x1.toNat ZN).1,(x2.getD x1.toNat ZN).2.1,(x2.getD x1.toNat ZN).2.2.1,(x2.getD x1.toNat ZN).2.2.2.1,(x2.getD x1.toNat ZN).2.2.2.2.1,(x2.getD x1.toNat ZN).2.2.2.2.2.1,(x2.getD x1.toNat ZN).2.2.2.2.2.2.1,(x2.getD x1.toNat ZN).2.2.2.2.2.2.2.1,r10.2.1))) (none)) (none)
noncomputable def st78_C18_0 (n:Nat) (lC20_0:Int→Int→(List NT)→Option R78) (x0:Int) (x1:Int) (x2:List NT):Option R78 :=
 (q109 n (x0,())).bind fun r8=>cond (decide ((0:Int)≤x1)) (cond (decide (x1 < (↑x2.length:Int))) (lC20_0 (Go.IntKind.i64.wrap (x0 + (1:Int))) (x1) (x2.set x1.toNat ((x2.getD x1.toNat ZN).1,(x2.getD x1.toNat ZN).2.1,(x2.getD x1.toNat ZN).2.2.1,(x2.getD x1.toNat ZN).2.2.2.1,(x2.getD x1.toNat ZN).2.2.2.2.1,(x2.getD x1.toNat ZN).2.2.2.2.2.1,(x2.getD x1.toNat ZN).2.2.2.2.2.2.1,r8.1.1,(x2.getD x1.toNat ZN).2.2.2.2.2.2.2.2))) (none)) (none)
noncomputable def st78_C16_0 (n:Nat) (lC18_0:Int→Int→(List NT)→Option R78) (x0:Int) (x1:Int) (x2:List NT):Option R78 :=
 cond (decide ((0:Int)≤x1)) (cond (decide (x1 < (↑x2.length:Int))) (lC18_0 (Go.IntKind.i64.wrap (x0 + (1:Int))) (x1) (x2.set x1.toNat ((x2.getD x1.toNat ZN).1,(x2.getD x1.toNat ZN).2.1,(x2.getD x1.toNat ZN).2.2.1,(x2.getD x1.toNat ZN).2.2.2.1,(x2.getD x1.toNat ZN).2.2.2.2.1,(x2.getD x1.toNat ZN).2.2.2.2.2.1,decide (x0.tmod (3:Int)=(0:Int)),(x2.getD x1.toNat ZN).2.2.2.2.2.2.2))) (none)) (none)
noncomputable def st78_C14_0 (n:Nat) (lC16_0:Int→Int→(List NT)→Option R78) (x0:Int) (x1:Int) (x2:List NT):Option R78 :=
 cond (decide ((0:Int)≤x1)) (cond (decide (x1 < (↑x2.length:Int))) (lC16_0 (Go.IntKind.i64.wrap (x0 + (1:Int))) (x1) (x2.set x1.toNat ((x2.getD x1.toNat ZN).1,(x2.getD x1.toNat ZN).2.1,(x2.getD x1.toNat ZN).2.2.1,(x2.getD x1.toNat ZN).2.2.2.1,(x2.getD x1.toNat ZN).2.2.2.2.1,x0,(x2.getD x1.toNat ZN).2.2.2.2.2.2))) (none)) (none)
noncomputable def st78_C12_0 (n:Nat) (lC14_0:Int→Int→(List NT)→Option R78) (x0:Int) (x1:Int) (x2:List NT):Option R78 :=
 cond (decide ((0:Int)≤x1)) (cond (decide (x1 < (↑x2.length:Int))) (lC14_0 (Go.IntKind.i64.wrap (x0 + (1:Int))) (x1) (x2.set x1.toNat ((x2.getD x1.toNat ZN).1,(x2.getD x1.toNat ZN).2.1,(x2.getD x1.toNat ZN).2.2.1,(x2.getD x1.toNat ZN).2.2.2.1,x0,(x2.getD x1.toNat ZN).2.2.2.2.2))) (none)) (none)
noncomputable def st78_C10_0 (n:Nat) (lC12_0:Int→Int→(List NT)→Option R78) (x0:Int) (x1:Int) (x2:List NT):Option R78 :=
 cond (decide ((0:Int)≤x1)) (cond (decide (x1 < (↑x2.length:Int))) (lC12_0 (Go.IntKind.i64.wrap (x0 + (1:Int))) (x1) (x2.set x1.toNat ((x2.getD x1.toNat ZN).1,(x2.getD x1.toNat ZN).2.1,(x2.getD x1.toNat ZN).2.2.1,x0,(x2.getD x1.toNat ZN).2.2.2.2))) (none)) (none)
noncomputable def st78_C8_0 (n:Nat) (lC10_0:Int→Int→(List NT)→Option R78) (x0:Int) (x1:Int) (x2:List NT):Option R78 :=
 cond (decide ((0:Int)≤x1)) (cond (decide (x1 < (↑x2.length:Int))) (lC10_0 (Go.IntKind.i64.wrap (x0 + (1:Int))) (x1) (x2.set x1.toNat ((x2.getD x1.toNat ZN).1,(x2.getD x1.toNat ZN).2.1,x0,(x2.getD x1.toNat ZN).2.2.2))) (none)) (none)
noncomputable def st78_C6_0 (n:Nat) (lC8_0:Int→Int→(List NT)→Option R78) (x0:Int) (x1:Int) (x2:List NT):Option R78 :=
 cond (decide ((0:Int)≤x1)) (cond (decide (x1 < (↑x2.length:Int))) (lC8_0 (Go.IntKind.i64.wrap (x0 + (1:Int))) (x1) (x2.set x1.toNat ((x2.getD x1.toNat ZN).1,x0,(x2.getD x1.toNat ZN).2.2))) (none)) (none)
noncomputable def st78_L2 (n:Nat) (lC6_0:Int→Int→(List NT)→Option R78) (x0:Int) (x1:Int) (x2:List NT):Option R78 :=
 cond (decide (x1 < (↑x2.length:Int))) (cond (decide ((0:Int)≤x1)) (cond (decide (x1 < (↑x2.length:Int))) (lC6_0 (Go.IntKind.i64.wrap (x0 + (1:Int))) (x1) (x2.set x1.toNat (x0,(x2.getD x1.toNat ZN).2))) (none)) (none)) (some ((x0,()),(x2,())))
noncomputable def p78_C20_0 (g2:Int→Int→(List NT)→Option R78) (n:Nat) (x0:Int) (x1:Int) (x2:List NT):Option R78:=st78_C20_0 n g2 x0 x1 x2
noncomputable def p78_C18_0 (g2:Int→Int→(List NT)→Option R78) (n:Nat) (x0:Int) (x1:Int) (x2:List NT):Option R78:=st78_C18_0 n (p78_C20_0 g2 n) x0 x1 x2
noncomputable def p78_C16_0 (g2:Int→Int→(List NT)→Option R78) (n:Nat) (x0:Int) (x1:Int) (x2:List NT):Option R78:=st78_C16_0 n (p78_C18_0 g2 n) x0 x1 x2
noncomputable def p78_C14_0 (g2:Int→Int→(List NT)→Option R78) (n:Nat) (x0:Int) (x1:Int) (x2:List NT):Option R78:=st78_C14_0 n (p78_C16_0 g2 n) x0 x1 x2
noncomputable def p78_C12_0 (g2:Int→Int→(List NT)→Option R78) (n:Nat) (x0:Int) (x1:Int) (x2:List NT):Option R78:=st78_C12_0 n (p78_C14_0 g2 n) x0 x1 x2
noncomputable def p78_C10_0 (g2:Int→Int→(List NT)→Option R78) (n:Nat) (x0:Int) (x1:Int) (x2:List NT):Option R78:=st78_C10_0 n (p78_C12_0 g2 n) x0 x1 x2
noncomputable def p78_C8_0 (g2:Int→Int→(List NT)→Option R78) (n:Nat) (x0:Int) (x1:Int) (x2:List NT):Option R78:=st78_C8_0 n (p78_C10_0 g2 n) x0 x1 x2
noncomputable def p78_C6_0 (g2:Int→Int→(List NT)→Option R78) (n:Nat) (x0:Int) (x1:Int) (x2:List NT):Option R78:=st78_C6_0 n (p78_C8_0 g2 n) x0 x1 x2
noncomputable def p78_L2 (n:Nat):Nat→Int→Int→(List NT)→Option R78
 | 0,_,_,_=>none
 | m + 1,x0,x1,x2=>st78_L2 n (p78_C6_0 (p78_L2 n m) n) x0 x1 x2
noncomputable def p78 (n:Nat) (a:List NT) (b:Int):Option R78:=st78_top n (p78_L2 n n) a b
noncomputable def q78 (n:Nat) (x:argsD ps78):Option R78:=p78 n x.1 x.2.1
end Go.Proofs.Ythhopbicmaipgaa.Rx.S

namespace Go.Proofs.Ythhopbicmaipgaa.Rx.S
open Go Go.RowKit Go.Proofs
set_option maxRecDepth 100000
abbrev ps27:List PK:=[.io tFs true,.val i64 false]
abbrev rs27:List RK:=[.val i64 false]
abbrev R27:=retsD rs27 × outsD ps27
noncomputable def st27_top (n:Nat) (a:List NT) (b:Int):Option R27 :=
 (q78 n (a,b,())).bind fun r0=>some ((r0.1.1,()),(r0.2.1,()))
noncomputable def p27 (n:Nat) (a:List NT) (b:Int):Option R27:=st27_top n a b
noncomputable def q27 (n:Nat) (x:argsD ps27):Option R27:=p27 n x.1 x.2.1
end Go.Proofs.Ythhopbicmaipgaa.Rx.S

namespace Go.Proofs.Ythhopbicmaipgaa.Rx.S
open Go Go.RowKit Go.Proofs
set_option maxRecDepth 100000
abbrev ps111:List PK:=[.val (.row 95 tEn) false,.val i64 false]
abbrev rs111:List RK:=[.val i64 false]
abbrev R111:=retsD rs111 × outsD ps111
noncomputable def st111_top (n:Nat) (lL2:(List (ByteArray × Int))→Int→Int→Option R111) (a:List (ByteArray × Int)) (b:Int):Option R111 :=
 lL2 (a) (b) ((0:Int))
noncomputable def st111_L2 (n:Nat) (lL2:(List (ByteArray × Int))→Int→Int→Option R111) (x0:List (ByteArray × Int)) (x1:Int) (x2:Int):Option R111 :=
 cond (decide (x2 < (↑x0.length:Int))) (cond (decide ((0:Int)≤x2)) (cond (decide (x2 < (↑x0.length:Int))) ((q109 n (x1,())).bind fun r1=>cond (!ByteArray.toList (x0.getD x2.toNat (ByteArray.empty,(0:Int))).1 == ByteArray.toList r1.1.1) (some (((-1:Int),()),())) (cond (decide ((0:Int)≤x2)) (cond (decide (x2 < (↑x0.length:Int))) (cond (!decide ((x0.getD x2.toNat (ByteArray.empty,(0:Int))).2=Go.IntKind.i64.wrap (x1 + (1:Int)))) (some (((-1:Int),()),())) (lL2 (x0) (Go.IntKind.i64.wrap (Go.IntKind.i64.wrap (x1 + (1:Int)) + (1:Int))) (Go.IntKind.i64.wrap (x2 + (1:Int))))) (none)) (none))) (none)) (none)) (some ((x1,()),()))
noncomputable def p111_L2 (n:Nat):Nat→(List (ByteArray × Int))→Int→Int→Option R111
 | 0,_,_,_=>none
 | m + 1,x0,x1,x2=>st111_L2 n (p111_L2 n m) x0 x1 x2
noncomputable def p111 (n:Nat) (a:List (ByteArray × Int)) (b:Int):Option R111:=st111_top n (p111_L2 n n) a b
noncomputable def q111 (n:Nat) (x:argsD ps111):Option R111:=p111 n x.1 x.2.1
end Go.Proofs.Ythhopbicmaipgaa.Rx.S

namespace Go.Proofs.Ythhopbicmaipgaa.Rx.S
open Go Go.RowKit Go.Proofs
set_option maxRecDepth 100000
abbrev ps80:List PK:=[.val tFs false,.val i64 false]
abbrev rs80:List RK:=[.val i64 false]
abbrev R80:=retsD rs80 × outsD ps80
noncomputable def st80_top (n:Nat) (lL2:(List NT)→Int→Int→Option R80) (a:List NT) (b:Int):Option R80 :=
 lL2 (a) (b) ((0:Int))
noncomputable def st80_L2 (n:Nat) (lL2:(List NT)→Int→Int→Option R80) (x0:List NT) (x1:Int) (x2:Int):Option R80 :=
 cond (decide (x2 < (↑x0.length:Int))) (cond (decide ((0:Int)≤x2)) (cond (decide (x2 < (↑x0.length:Int))) (cond (!decide ((x0.getD x2.toNat ZN).1=x1)) (some (((-1:Int),()),())) (cond (decide ((0:Int)≤x2)) (cond (decide (x2 < (↑x0.length:Int))) (cond (!decide ((x0.getD x2.toNat ZN).2.1=Go.IntKind.i64.wrap (x1 + (1:Int)))) (some (((-1:Int),()),())) (cond (decide ((0:Int)≤x2)) (cond (decide (x2 < (↑x0.length:Int))) (cond (!decide ((x0.getD x2.toNat ZN).2.2.1=Go.IntKind.i64.wrap (Go.IntKind.i64.wrap (x1 + (1:Int)) + (1:Int)))) (some (((-1:Int),()),())) (cond (decide ((0:Int)≤x2)) (cond (decide (x2 < (↑x0.length:Int))) (cond (!decide ((x0.getD x2.toNat ZN).2.2.2.1=Go.IntKind.i64.wrap (Go.IntKind.i64.wrap (Go.IntKind.i64.wrap (x1 + (1:Int)) + (1:Int)) + (1:Int)))) (some (((-1:Int),()),())) (cond (decide ((0:Int)≤x2)) (cond (decide (x2 < (↑x0.length:Int))) (cond (!decide ((x0.getD x2.toNat ZN).2.2.2.2.1=Go.IntKind.i64.wrap (Go.IntKind.i64.wrap (Go.IntKind.i64.wrap (Go.IntKind.i64.wrap (x1 + (1:Int)) + (1:Int)) + (1:Int)) + (1:Int)))) (some (((-1:Int),()),())) (cond (decide ((0:Int)≤x2)) (cond (decide (x2 < (↑x0.length:Int))) (cond (!decide ((x0.getD x2.toNat ZN).2.2.2.2.2.1=Go.IntKind.i64.wrap (Go.IntKind.i64.wrap (Go.IntKind.i64.wrap (Go.IntKind.i64.wrap (Go.IntKind.i64.wrap (x1 + (1:Int)) + (1:Int)) + (1:Int)) + (1:Int)) + (1:Int)))) (some (((-1:Int),()),())) (cond (decide ((0:Int)≤x2)) (cond (decide (x2 < (↑x0.length:Int))) (cond (!(x0.getD x2.toNat ZN).2.2.2.2.2.2.1 == decide ((Go.IntKind.i64.wrap (Go.IntKind.i64.wrap (Go.IntKind.i64.wrap (Go.IntKind.i64.wrap (Go.IntKind.i64.wrap (Go.IntKind.i64.wrap (x1 + (1:Int)) + (1:Int)) + (1:Int)) + (1:Int)) + (1:Int)) + (1:Int))).tmod (3:Int)=(0:Int))) (some (((-1:Int),()),())) (cond (decide ((0:Int)≤x2)) (cond (decide (x2 < (↑x0.length:Int))) ((q109 n (Go.IntKind.i64.wrap (Go.IntKind.i64.wrap (Go.IntKind.i64.wrap (Go.IntKind.i64.wrap (Go.IntKind.i64.wrap (Go.IntKind.i64.wrap (Go.IntKind.i64.wrap (x1 + (1:Int)) + (1:Int)) + (1:Int)) + (1:Int)) + (1:Int)) + (1:Int)) + (1:Int)),())).bind fun r1=>cond (!ByteArray.toList (x0.getD x2.toNat ZN).2.2.2.2.2.2.2.1 == ByteArray.toList r1.1.1) (some (((-1:Int),()),())) (cond (decide ((0:Int)≤x2)) (cond (decide (x2 < (↑x0.length:Int))) ((q111 n ((x0.getD x2.toNat ZN).2.2.2.2.2.2.2.2,Go.IntKind.i64.wrap (Go.IntKind.i64.wrap (Go.IntKind.i64.wrap (Go.IntKind.i64.wrap (Go.IntKind.i64.wrap (Go.IntKind.i64.wrap (Go.IntKind.i64.wrap (Go.IntKind.i64.wrap (x1 + (1:Int)) + (1:Int)) + (1:Int)) + (1:Int)) + (1:Int)) + (1:Int)) + (1:Int)) + (1:Int)),())).bind fun r2=>cond (decide (r2.1.1 < (0:Int))) (some (((-1:Int),()),())) (lL2 (x0) (r2.1.1) (Go.IntKind.i64.wrap (x2 + (1:Int))))) (none)) (none))) (none)) (none))) (none)) (none))) (none)) (none))) (none)) (none))) (none)) (none))) (none)) (none))) (none)) (none))) (none)) (none)) (some ((x1,()),()))
noncomputable def p80_L2 (n:Nat):Nat→(List NT)→Int→Int→Option R80
 | 0,_,_,_=>none
 | m + 1,x0,x1,x2=>st80_L2 n (p80_L2 n m) x0 x1 x2
noncomputable def p80 (n:Nat) (a:List NT) (b:Int):Option R80:=st80_top n (p80_L2 n n) a b
noncomputable def q80 (n:Nat) (x:argsD ps80):Option R80:=p80 n x.1 x.2.1
end Go.Proofs.Ythhopbicmaipgaa.Rx.S

namespace Go.Proofs.Ythhopbicmaipgaa.Rx.S
open Go Go.RowKit Go.Proofs
set_option maxRecDepth 100000
abbrev ps29:List PK:=[.val tFs true,.val i64 false]
abbrev rs29:List RK:=[.val i64 false]
abbrev R29:=retsD rs29 × outsD ps29
noncomputable def st29_top (n:Nat) (a:List NT) (b:Int):Option R29 :=
 (q80 n (a,b,())).bind fun r0=>cond (decide (r0.1.1 < (0:Int))) (some (((-1:Int),()),())) (some ((r0.1.1,()),()))
noncomputable def p29 (n:Nat) (a:List NT) (b:Int):Option R29:=st29_top n a b
noncomputable def q29 (n:Nat) (x:argsD ps29):Option R29:=p29 n x.1 x.2.1
end Go.Proofs.Ythhopbicmaipgaa.Rx.S

namespace Go.Proofs.Ythhopbicmaipgaa.Rx.S
open Go Go.RowKit Go.Proofs
set_option maxRecDepth 100000
noncomputable def c64:Code:=(Try.f64.body.getD .skip)
def an64:An:=⟨fun _=>⟨[],[]⟩,fun _ _=>none⟩
abbrev ps64:List PK:=[.val tFs true,.val i64 false]
abbrev rs64:List RK:=[.val .bool false]
abbrev R64:=retsD rs64 × outsD ps64
noncomputable def G64:Gam:=fun f=>match f with | 66=>some Sm66 | _=>none
theorem h0_64 (hg:GamOK Try.prog G64):Holds Try.prog 64 ⟨ps64,rs64,false,runF TT G64 an64 Try.f64 c64 ps64 rs64⟩:=holds_of tt_ok hg mixed Try.func64 (by kernel_rfl) (by rfl) (by decide +kernel)
noncomputable def st64_top (n:Nat) (a:List NT) (b:Int):Option R64 :=
 (q66 n (b,(0:Int),Go.IntKind.i64.wrap ((↑a.length:Int) - (1:Int)),())).bind fun r0=>cond (r0.1.1) (cond (decide ((0:Int)≤b)) (cond (decide (b < (↑a.length:Int))) (some ((!decide ((a.getD b.toNat ZN).1=(0:Int)),()),())) (none)) (none)) (some ((false,()),()))
theorem e64_top (n:Nat) (a:List NT) (b:Int):runF TT G64 an64 Try.f64 c64 ps64 rs64 n (a,b,())=st64_top n a b:=by kernel_rfl
noncomputable def p64 (n:Nat) (a:List NT) (b:Int):Option R64:=st64_top n a b
theorem F64_eq (n:Nat) (a:List NT) (b:Int):runF TT G64 an64 Try.f64 c64 ps64 rs64 n (a,b,())=p64 n a b:=by
 rw [e64_top]
 skip
 try rfl
noncomputable def q64 (n:Nat) (x:argsD ps64):Option R64:=p64 n x.1 x.2.1
noncomputable def Sm64:Sm:=⟨ps64,rs64,false,q64⟩
theorem holds64 (hg:GamOK Try.prog G64):Holds Try.prog 64 Sm64:=by
 have:=h0_64 hg
 have e:(runF TT G64 an64 Try.f64 c64 ps64 rs64)=q64:=by
  funext n x
  exact F64_eq n x.1 x.2.1
 rw [e] at this
 exact this
theorem gam64:GamOK Try.prog G64:=by
 intro f s h
 unfold G64 at h
 split at h
 ·injection h with h; subst h; exact ⟨⟨Try.f66,c66,Try.func66,by kernel_rfl,by decide +kernel⟩,hh66⟩
 ·cases h
theorem hh64:Holds Try.prog 64 Sm64:=holds64 gam64
end Go.Proofs.Ythhopbicmaipgaa.Rx.S

namespace Go.Proofs.Ythhopbicmaipgaa.Rx.S
open Go Go.RowKit Go.Proofs
set_option maxRecDepth 100000
noncomputable def c68:Code:=(Try.f68.body.getD .skip)
def an68:An:=⟨fun r=>match r with | 3=>⟨[1,2,3,4],[]⟩ | _=>⟨[],[]⟩,fun _ _=>none⟩
abbrev ps68:List PK:=[.val tFs true]
abbrev rs68:List RK:=[.own tFs true]
abbrev R68:=retsD rs68 × outsD ps68
noncomputable def G68:Gam:=fun _=>none
theorem h0_68 (hg:GamOK Try.prog G68):Holds Try.prog 68 ⟨ps68,rs68,false,runF TT G68 an68 Try.f68 c68 ps68 rs68⟩:=holds_of tt_ok hg mixed Try.func68 (by kernel_rfl) (by rfl) (by decide +kernel)
noncomputable def at68:Nat→Pt→List Nat→St→Option R68:=atF TT G68 an68 Try.f68 c68 _ _
def sh68_L3 (x0:Int) (x1:List NT) (x2:List NT):St:=(St.mk (AV.undef :: ((AV.one (SV.bptr 1000000 0)) :: ((AV.one (SV.bptr 1000001 0)) :: ((AV.one (SV.bptr 1000002 0)) :: ((AV.one (SV.int (Go.IntKind.i64) x0)) :: (AV.undef :: (AV.undef :: (AV.undef :: (AV.undef :: (AV.undef :: (AV.undef :: (AV.undef :: (AV.undef :: (AV.undef :: (AV.undef :: (AV.undef :: (AV.undef :: (AV.undef :: (AV.undef :: (AV.undef :: (AV.undef :: (AV.undef :: (AV.undef :: (AV.undef :: (AV.undef :: (AV.undef :: (AV.undef :: (AV.undef :: (AV.undef :: (AV.undef :: (AV.undef :: (AV.undef :: [])))))))))))))))))))))))))))))))) ((1000000,(Ent.box ((SV.con (⟨39,(Ty.int Go.IntKind.i64).pair ((Ty.int Go.IntKind.i64).pair ((Ty.int Go.IntKind.i64).pair ((Ty.int Go.IntKind.i64).pair ((Ty.int Go.IntKind.i64).pair ((Ty.int Go.IntKind.i64).pair (Ty.bool.pair (Ty.str.pair (Ty.row (nat_lit 95) (Ty.str.pair (Ty.int Go.IntKind.i64)))))))))),x1⟩:Rw)) :: []))) :: ((1000001,(Ent.box (SV.nil :: []))) :: ((1000002,(Ent.box ((SV.ref 1000003 0 [] Option.none) :: []))) :: ((1000003,(Ent.row (⟨39,(Ty.int Go.IntKind.i64).pair ((Ty.int Go.IntKind.i64).pair ((Ty.int Go.IntKind.i64).pair ((Ty.int Go.IntKind.i64).pair ((Ty.int Go.IntKind.i64).pair ((Ty.int Go.IntKind.i64).pair (Ty.bool.pair (Ty.str.pair (Ty.row (nat_lit 95) (Ty.str.pair (Ty.int Go.IntKind.i64)))))))))),x2⟩:Rw) 0 Option.none)) :: [])))))
noncomputable def st68_top (n:Nat) (lL3:Int→(List NT)→(List NT)→Option R68) (a:List NT):Option R68 :=
 lL3 ((0:Int)) (a) ([])
noncomputable def st68_L3 (n:Nat) (lL3:Int→(List NT)→(List NT)→Option R68) (x0:Int) (x1:List NT) (x2:List NT):Option R68 :=
 cond (decide (x0 < (↑x1.length:Int))) (cond (decide ((0:Int)≤x0)) (cond (decide (x0 < (↑x1.length:Int))) (cond (decide (((0:Nat) + List.length (x1.getD x0.toNat ZN).2.2.2.2.2.2.2.2) * (24:Nat)≤(140737488355328:Nat))) (cond (decide ((x2.length + [((x1.getD x0.toNat ZN).1,(x1.getD x0.toNat ZN).2.1,(x1.getD x0.toNat ZN).2.2.1,(x1.getD x0.toNat ZN).2.2.2.1,(x1.getD x0.toNat ZN).2.2.2.2.1,(x1.getD x0.toNat ZN).2.2.2.2.2.1,(x1.getD x0.toNat ZN).2.2.2.2.2.2.1,(x1.getD x0.toNat ZN).2.2.2.2.2.2.2.1,(x1.getD x0.toNat ZN).2.2.2.2.2.2.2.2)].length) * (96:Nat)≤(140737488355328:Nat))) (lL3 (Go.IntKind.i64.wrap (x0 + (1:Int))) (x1) (x2 ++ [((x1.getD x0.toNat ZN).1,(x1.getD x0.toNat ZN).2.1,(x1.getD x0.toNat ZN).2.2.1,(x1.getD x0.toNat ZN).2.2.2.1,(x1.getD x0.toNat ZN).2.2.2.2.1,(x1.getD x0.toNat ZN).2.2.2.2.2.1,(x1.getD x0.toNat ZN).2.2.2.2.2.2.1,(x1.getD x0.toNat ZN).2.2.2.2.2.2.2.1,(x1.getD x0.toNat ZN).2.2.2.2.2.2.2.2)])) (none)) (none)) (none)) (none)) (some ((x2,()),()))
theorem e68_top (n:Nat) (a:List NT):runF TT G68 an68 Try.f68 c68 ps68 rs68 n (a,())=st68_top n (fun x0 x1 x2=>at68 n (.head 3) [n] (sh68_L3 x0 x1 x2)) a:=by kernel_rfl
theorem e68_L3_0 (n:Nat) (x0:Int) (x1:List NT) (x2:List NT):at68 n (.head 3) [0] (sh68_L3 x0 x1 x2)=none:=by kernel_rfl
theorem e68_L3 (n:Nat) (m3:Nat) (x0:Int) (x1:List NT) (x2:List NT):at68 n (.head 3) [m3 + 1] (sh68_L3 x0 x1 x2)=st68_L3 n (fun x0 x1 x2=>at68 n (.head 3) [m3] (sh68_L3 x0 x1 x2)) x0 x1 x2:=by kernel_rfl
noncomputable def p68_L3 (n:Nat):Nat→Int→(List NT)→(List NT)→Option R68
 | 0,_,_,_=>none
 | m + 1,x0,x1,x2=>st68_L3 n (p68_L3 n m) x0 x1 x2
noncomputable def p68 (n:Nat) (a:List NT):Option R68:=st68_top n (p68_L3 n n) a
theorem t68_L3 (n:Nat):∀ (m3:Nat) (x0:Int) (x1:List NT) (x2:List NT),at68 n (.head 3) [m3] (sh68_L3 x0 x1 x2)=p68_L3 n m3 x0 x1 x2:=by
 intro m
 induction m with
 | zero=>intros; rw [e68_L3_0]; rfl
 | succ m ih =>
  intros
  rw [e68_L3]
  try simp only [ih]
  rfl
theorem F68_eq (n:Nat) (a:List NT):runF TT G68 an68 Try.f68 c68 ps68 rs68 n (a,())=p68 n a:=by
 rw [e68_top]
 simp only [t68_L3]
 try rfl
noncomputable def q68 (n:Nat) (x:argsD ps68):Option R68:=p68 n x.1
noncomputable def Sm68:Sm:=⟨ps68,rs68,false,q68⟩
theorem holds68 (hg:GamOK Try.prog G68):Holds Try.prog 68 Sm68:=by
 have:=h0_68 hg
 have e:(runF TT G68 an68 Try.f68 c68 ps68 rs68)=q68:=by
  funext n x
  exact F68_eq n x.1
 rw [e] at this
 exact this
theorem gam68:GamOK Try.prog G68:=fun _ _ h=>by cases h
theorem hh68:Holds Try.prog 68 Sm68:=holds68 gam68
end Go.Proofs.Ythhopbicmaipgaa.Rx.S

namespace Go.Proofs.Ythhopbicmaipgaa.Rx.S
open Go Go.RowKit Go.Proofs
set_option maxRecDepth 100000
noncomputable def c81:Code:=(Try.f81.body.getD .skip)
def an81:An:=⟨fun r=>match r with | 8=>⟨[1,2,3,4,8,10],[]⟩ | _=>⟨[],[]⟩,fun _ _=>none⟩
abbrev ps81:List PK:=[.own tFs true,.val i64 false,.val i64 false,.val .str false]
abbrev rs81:List RK:=[.own tFs true,.val i64 false]
abbrev R81:=retsD rs81 × outsD ps81
noncomputable def G81:Gam:=fun _=>none
theorem h0_81 (hg:GamOK Try.prog G81):Holds Try.prog 81 ⟨ps81,rs81,false,runF TT G81 an81 Try.f81 c81 ps81 rs81⟩:=holds_of tt_ok hg mixed Try.func81 (by kernel_rfl) (by rfl) (by decide +kernel)
noncomputable def at81:Nat→Pt→List Nat→St→Option R81:=atF TT G81 an81 Try.f81 c81 _ _
def sh81_L8 (x0:Int) (x1:Int) (x2:ByteArray) (x3:ByteArray) (x4:List NT):St:=(St.mk (AV.undef :: ((AV.one (SV.int (Go.IntKind.i64) x0)) :: ((AV.one (SV.int (Go.IntKind.i64) x1)) :: ((AV.one (SV.str x2)) :: ((AV.one (SV.bptr 1000000 0)) :: (AV.undef :: (AV.undef :: (AV.undef :: ((AV.one (SV.bptr 1000001 0)) :: (AV.undef :: ((AV.one (SV.str x3)) :: (AV.undef :: (AV.undef :: (AV.undef :: (AV.undef :: (AV.undef :: (AV.undef :: (AV.undef :: (AV.undef :: (AV.undef :: (AV.undef :: (AV.undef :: (AV.undef :: (AV.undef :: (AV.undef :: (AV.undef :: (AV.undef :: (AV.undef :: (AV.undef :: (AV.undef :: (AV.undef :: (AV.undef :: (AV.undef :: (AV.undef :: (AV.undef :: (AV.undef :: (AV.undef :: (AV.undef :: (AV.undef :: (AV.undef :: (AV.undef :: (AV.undef :: (AV.undef :: (AV.undef :: (AV.undef :: (AV.undef :: (AV.undef :: (AV.undef :: (AV.undef :: (AV.undef :: (AV.undef :: (AV.undef :: (AV.undef :: (AV.undef :: (AV.undef :: (AV.undef :: (AV.undef :: (AV.undef :: (AV.undef :: (AV.undef :: (AV.undef :: (AV.undef :: (AV.undef :: (AV.undef :: (AV.undef :: (AV.undef :: (AV.undef :: (AV.undef :: (AV.undef :: (AV.undef :: [])))))))))))))))))))))))))))))))))))))))))))))))))))))))))))))))))))))) ((1000000,(Ent.box ((SV.ref 1000002 0 [] Option.none) :: []))) :: ((1000001,(Ent.box (SV.nil :: []))) :: ((1000002,(Ent.row (⟨39,(Ty.int Go.IntKind.i64).pair ((Ty.int Go.IntKind.i64).pair ((Ty.int Go.IntKind.i64).pair ((Ty.int Go.IntKind.i64).pair ((Ty.int Go.IntKind.i64).pair ((Ty.int Go.IntKind.i64).pair (Ty.bool.pair (Ty.str.pair (Ty.row (nat_lit 95) (Ty.str.pair (Ty.int Go.IntKind.i64)))))))))),x4⟩:Rw) 0 Option.none)) :: []))))
noncomputable def st81_top (n:Nat) (lL8:Int→Int→ByteArray→ByteArray→(List NT)→Option R81) (a:List NT) (b:Int) (c:Int) (d:ByteArray):Option R81 :=
 cond (decide ((0:Int)≤b)) (cond (decide (b < (↑a.length:Int))) (cond (decide ((0:Int)≤b)) (cond (decide (b < (↑a.length:Int))) (cond (!decide ((a.getD b.toNat ZN).1=(1:Int))) (some ((a,((4:Int),())),())) (cond (decide ((40:Int) < c)) (some ((a,((7:Int),())),())) (cond (decide ((40:Int) < Go.IntKind.i64.wrap (c + (↑d.size:Int)))) (some ((a,((7:Int),())),())) (cond (d.toList == (ByteArray.mk #[]).toList) (some ((a,((0:Int),())),())) (lL8 (b) (c) (d) ((a.getD b.toNat ZN).2.2.2.2.2.2.2.1) (a)))))) (none)) (none)) (none)) (none)
noncomputable def st81_L8 (n:Nat) (lL8:Int→Int→ByteArray→ByteArray→(List NT)→Option R81) (x0:Int) (x1:Int) (x2:ByteArray) (x3:ByteArray) (x4:List NT):Option R81 :=
 cond (decide ((↑x3.size:Int) < x1)) (cond (decide (x3.size + (List.foldl (fun r n=>r.push (UInt8.ofNat n.toNat)) ByteArray.empty [(0:Int)]).size≤(9223372036854775807:Nat))) (lL8 (x0) (x1) (x2) (x3 ++ List.foldl (fun r n=>r.push (UInt8.ofNat n.toNat)) ByteArray.empty [(0:Int)]) (x4)) (none)) (cond (decide ((0:Int)≤x1)) (cond (decide (x1≤(↑x3.size:Int))) (cond (decide ((x3.extract (Int.toNat (0:Int)) x1.toNat).size + x2.size≤(9223372036854775807:Nat))) (cond (decide ((0:Int)≤if Go.IntKind.i64.wrap (x1 + (↑x2.size:Int)) < (↑x3.size:Int) then Go.IntKind.i64.wrap (x1 + (↑x2.size:Int)) else (↑x3.size:Int))) (cond (decide ((if Go.IntKind.i64.wrap (x1 + (↑x2.size:Int)) < (↑x3.size:Int) then Go.IntKind.i64.wrap (x1 + (↑x2.size:Int)) else (↑x3.size:Int))≤(↑x3.size:Int))) (cond (decide ((x3.extract (Int.toNat (0:Int)) x1.toNat ++ x2).size + (x3.extract (if Go.IntKind.i64.wrap (x1 + (↑x2.size:Int)) < (↑x3.size:Int) then Go.IntKind.i64.wrap (x1 + (↑x2.size:Int)) else (↑x3.size:Int)).toNat (↑x3.size:Int).toNat).size≤(9223372036854775807:Nat))) (cond (decide ((0:Int)≤x0)) (cond (decide (x0 < (↑x4.length:Int))) (some ((x4.set x0.toNat ((x4.getD x0.toNat ZN).1,(x4.getD x0.toNat ZN).2.1,(x4.getD x0.toNat ZN).2.2.1,(x4.getD x0.toNat ZN).2.2.2.1,(x4.getD x0.toNat ZN).2.2.2.2.1,(x4.getD x0.toNat ZN).2.2.2.2.2.1,(x4.getD x0.toNat ZN).2.2.2.2.2.2.1,x3.extract (Int.toNat (0:Int)) x1.toNat ++ x2 ++ x3.extract (if Go.IntKind.i64.wrap (x1 + (↑x2.size:Int)) < (↑x3.size:Int) then Go.IntKind.i64.wrap (x1 + (↑x2.size:Int)) else (↑x3.size:Int)).toNat (↑x3.size:Int).toNat,(x4.getD x0.toNat ZN).2.2.2.2.2.2.2.2),((0:Int),())),())) (none)) (none)) (none)) (none)) (none)) (none)) (none)) (none))
theorem e81_top (n:Nat) (a:List NT) (b:Int) (c:Int) (d:ByteArray):runF TT G81 an81 Try.f81 c81 ps81 rs81 n (a,b,c,d,())=st81_top n (fun x0 x1 x2 x3 x4=>at81 n (.head 8) [n] (sh81_L8 x0 x1 x2 x3 x4)) a b c d:=by kernel_rfl
theorem e81_L8_0 (n:Nat) (x0:Int) (x1:Int) (x2:ByteArray) (x3:ByteArray) (x4:List NT):at81 n (.head 8) [0] (sh81_L8 x0 x1 x2 x3 x4)=none:=by kernel_rfl
theorem e81_L8 (n:Nat) (m8:Nat) (x0:Int) (x1:Int) (x2:ByteArray) (x3:ByteArray) (x4:List NT):at81 n (.head 8) [m8 + 1] (sh81_L8 x0 x1 x2 x3 x4)=st81_L8 n (fun x0 x1 x2 x3 x4=>at81 n (.head 8) [m8] (sh81_L8 x0 x1 x2 x3 x4)) x0 x1 x2 x3 x4:=by kernel_rfl
noncomputable def p81_L8 (n:Nat):Nat→Int→Int→ByteArray→ByteArray→(List NT)→Option R81
 | 0,_,_,_,_,_=>none
 | m + 1,x0,x1,x2,x3,x4=>st81_L8 n (p81_L8 n m) x0 x1 x2 x3 x4
noncomputable def p81 (n:Nat) (a:List NT) (b:Int) (c:Int) (d:ByteArray):Option R81:=st81_top n (p81_L8 n n) a b c d
theorem t81_L8 (n:Nat):∀ (m8:Nat) (x0:Int) (x1:Int) (x2:ByteArray) (x3:ByteArray) (x4:List NT),at81 n (.head 8) [m8] (sh81_L8 x0 x1 x2 x3 x4)=p81_L8 n m8 x0 x1 x2 x3 x4:=by
 intro m
 induction m with
 | zero=>intros; rw [e81_L8_0]; rfl
 | succ m ih =>
  intros
  rw [e81_L8]
  try simp only [ih]
  rfl
theorem F81_eq (n:Nat) (a:List NT) (b:Int) (c:Int) (d:ByteArray):runF TT G81 an81 Try.f81 c81 ps81 rs81 n (a,b,c,d,())=p81 n a b c d:=by
 rw [e81_top]
 simp only [t81_L8]
 try rfl
noncomputable def q81 (n:Nat) (x:argsD ps81):Option R81:=p81 n x.1 x.2.1 x.2.2.1 x.2.2.2.1
noncomputable def Sm81:Sm:=⟨ps81,rs81,false,q81⟩
theorem holds81 (hg:GamOK Try.prog G81):Holds Try.prog 81 Sm81:=by
 have:=h0_81 hg
 have e:(runF TT G81 an81 Try.f81 c81 ps81 rs81)=q81:=by
  funext n x
  exact F81_eq n x.1 x.2.1 x.2.2.1 x.2.2.2.1
 rw [e] at this
 exact this
theorem gam81:GamOK Try.prog G81:=fun _ _ h=>by cases h
theorem hh81:Holds Try.prog 81 Sm81:=holds81 gam81
end Go.Proofs.Ythhopbicmaipgaa.Rx.S

namespace Go.Proofs.Ythhopbicmaipgaa.Rx.S
open Go Go.RowKit Go.Proofs
set_option maxRecDepth 100000
noncomputable def c30:Code:=(Try.f30.body.getD .skip)
def an30:An:=⟨fun _=>⟨[],[]⟩,fun _ _=>none⟩
abbrev ps30:List PK:=[.val tFs true,.val i64 false,.val i64 false,.val .str false]
abbrev rs30:List RK:=[.own tFs true,.val i64 false]
abbrev R30:=retsD rs30 × outsD ps30
noncomputable def G30:Gam:=fun f=>match f with | 62=>some Sm62 | 64=>some Sm64 | 68=>some Sm68 | 81=>some Sm81 | _=>none
theorem h0_30 (hg:GamOK Try.prog G30):Holds Try.prog 30 ⟨ps30,rs30,false,runF TT G30 an30 Try.f30 c30 ps30 rs30⟩:=holds_of tt_ok hg mixed Try.func30 (by kernel_rfl) (by rfl) (by decide +kernel)
noncomputable def st30_top (n:Nat) (a:List NT) (b:Int) (c:Int) (d:ByteArray):Option R30 :=
 (q62 n (a,())).bind fun r0=>cond (!r0.1.1) (some (([],((1:Int),())),())) ((q64 n (a,b,())).bind fun r1=>cond (!r1.1.1) (some (([],((1:Int),())),())) (cond (decide (c < (0:Int))) (some (([],((1:Int),())),())) ((q68 n (a,())).bind fun r2=>(q81 n (r2.1.1,b,c,d,())).bind fun r3=>some ((r3.1.1,(r3.1.2.1,())),()))))
theorem e30_top (n:Nat) (a:List NT) (b:Int) (c:Int) (d:ByteArray):runF TT G30 an30 Try.f30 c30 ps30 rs30 n (a,b,c,d,())=st30_top n a b c d:=by kernel_rfl
noncomputable def p30 (n:Nat) (a:List NT) (b:Int) (c:Int) (d:ByteArray):Option R30:=st30_top n a b c d
theorem F30_eq (n:Nat) (a:List NT) (b:Int) (c:Int) (d:ByteArray):runF TT G30 an30 Try.f30 c30 ps30 rs30 n (a,b,c,d,())=p30 n a b c d:=by
 rw [e30_top]
 skip
 try rfl
noncomputable def q30 (n:Nat) (x:argsD ps30):Option R30:=p30 n x.1 x.2.1 x.2.2.1 x.2.2.2.1
noncomputable def Sm30:Sm:=⟨ps30,rs30,false,q30⟩
theorem holds30 (hg:GamOK Try.prog G30):Holds Try.prog 30 Sm30:=by
 have:=h0_30 hg
 have e:(runF TT G30 an30 Try.f30 c30 ps30 rs30)=q30:=by
  funext n x
  exact F30_eq n x.1 x.2.1 x.2.2.1 x.2.2.2.1
 rw [e] at this
 exact this
theorem gam30:GamOK Try.prog G30:=by
 intro f s h
 unfold G30 at h
 split at h
 ·injection h with h; subst h; exact ⟨⟨Try.f62,c62,Try.func62,by kernel_rfl,by decide +kernel⟩,hh62⟩
 ·injection h with h; subst h; exact ⟨⟨Try.f64,c64,Try.func64,by kernel_rfl,by decide +kernel⟩,hh64⟩
 ·injection h with h; subst h; exact ⟨⟨Try.f68,c68,Try.func68,by kernel_rfl,by decide +kernel⟩,hh68⟩
 ·injection h with h; subst h; exact ⟨⟨Try.f81,c81,Try.func81,by kernel_rfl,by decide +kernel⟩,hh81⟩
 ·cases h
theorem hh30:Holds Try.prog 30 Sm30:=holds30 gam30
end Go.Proofs.Ythhopbicmaipgaa.Rx.S

namespace Go.Proofs.Ythhopbicmaipgaa.Rx.S
open Go Go.RowKit Go.Proofs
set_option maxRecDepth 100000
noncomputable def c93:Code:=(Try.f93.body.getD .skip)
abbrev ps93:List PK:=[.val (.row 39 (tIn 95)) false]
abbrev rs93:List RK:=[.half 39 (tIn 95) 8]
abbrev R93:=retsD rs93 × outsD ps93
noncomputable def p93 (n:Nat) (a:List NT):Option R93:=cond (decide (a.length * (96:Nat)≤(140737488355328:Nat))) (some ((a,()),())) none
noncomputable def q93 (n:Nat) (x:argsD ps93):Option R93:=p93 n x.1
noncomputable def Sm93:Sm:=⟨ps93,rs93,true,q93⟩
noncomputable def S0_93 (n:Nat) (xs:List NT):St:=(initS Try.f93.ntmps ps93 (xs,())).put (some 2) (.one .nil)
noncomputable def S1_93 (n:Nat) (xs:List NT):St:=(S0_93 n xs).put (some 3) (.one (.con ⟨39,(tIn 95),xs⟩))
theorem gam0_93:GamOK Try.prog (fun _=>none):=fun f s h=>by cases h
theorem hh93:Holds Try.prog 93 Sm93:=by
 refine holds_nilq tt_ok gam0_93 mixed (an:=⟨fun _=>⟨[],[]⟩,fun _ _=>none⟩) Try.func93 (by rfl) rfl (by first | exact Try.underlying23 | kernel_rfl) (by decide +kernel) S0_93 (fun n xs=>by kernel_rfl) S1_93 (fun n xs=>by kernel_rfl) (fun n xs=>rfl) (fun n xs b=>by kernel_rfl) (fun n y h=>?_) (fun n xs y h=>?_)
 ·have h':some (([],()),())=some y:=h
  refine Eq.trans ?_ h'
  kernel_rfl
 ·have h':cond (decide (xs.length * (96:Nat)≤(140737488355328:Nat))) (some ((xs,()),())) none=some y:=h
  refine Eq.trans ?_ h'
  kernel_rfl
end Go.Proofs.Ythhopbicmaipgaa.Rx.S

namespace Go.Proofs.Ythhopbicmaipgaa.Rx.S
open Go Go.RowKit Go.Proofs
set_option maxRecDepth 100000
noncomputable def c94:Code:=(Try.f94.body.getD .skip)
abbrev ps94:List PK:=[.val (.row 95 tEn) false]
abbrev rs94:List RK:=[.own (.row 95 tEn) false]
abbrev R94:=retsD rs94 × outsD ps94
noncomputable def p94 (n:Nat) (a:List (ByteArray × Int)):Option R94:=cond (decide ((0 + a.length) * (24:Nat)≤(140737488355328:Nat))) (some ((a,()),())) none
noncomputable def q94 (n:Nat) (x:argsD ps94):Option R94:=p94 n x.1
noncomputable def Sm94:Sm:=⟨ps94,rs94,false,q94⟩
noncomputable def S0_94 (n:Nat) (xs:List (ByteArray × Int)):St:=(initS Try.f94.ntmps ps94 (xs,())).put (some 2) (.one .nil)
noncomputable def S1_94 (n:Nat) (xs:List (ByteArray × Int)):St:=(S0_94 n xs).put (some 3) (.one (.con ⟨95,tEn,xs⟩))
theorem gam0_94:GamOK Try.prog (fun _=>none):=fun f s h=>by cases h
theorem hh94:Holds Try.prog 94 Sm94:=by
 refine holds_nilq tt_ok gam0_94 mixed (an:=⟨fun _=>⟨[],[]⟩,fun _ _=>none⟩) Try.func94 (by rfl) rfl (by first | exact Try.underlying37 | kernel_rfl) (by decide +kernel) S0_94 (fun n xs=>by kernel_rfl) S1_94 (fun n xs=>by kernel_rfl) (fun n xs=>rfl) (fun n xs b=>by kernel_rfl) (fun n y h=>?_) (fun n xs y h=>?_)
 ·have h':some (([],()),())=some y:=h
  refine Eq.trans ?_ h'
  kernel_rfl
 ·have h':cond (decide ((0 + xs.length) * (24:Nat)≤(140737488355328:Nat))) (some ((xs,()),())) none=some y:=h
  refine Eq.trans ?_ h'
  kernel_rfl
end Go.Proofs.Ythhopbicmaipgaa.Rx.S

namespace Go.Proofs.Ythhopbicmaipgaa.Rx.S
open Go Go.RowKit Go.Proofs
set_option maxRecDepth 100000
noncomputable def c56:Code:=(Try.f56.body.getD .skip)
def an56:An:=⟨fun r=>match r with | 3=>⟨[2,3,11,12],[]⟩ | _=>⟨[],[]⟩,fun _ _=>none⟩
abbrev ps56:List PK:=[.val tFs true]
abbrev rs56:List RK:=[.own tFs true]
abbrev R56:=retsD rs56 × outsD ps56
noncomputable def G56:Gam:=fun f=>match f with | 93=>some Sm93 | 94=>some Sm94 | _=>none
theorem h0_56 (hg:GamOK Try.prog G56):Holds Try.prog 56 ⟨ps56,rs56,false,runF TT G56 an56 Try.f56 c56 ps56 rs56⟩:=holds_of tt_ok hg mixed Try.func56 (by kernel_rfl) (by rfl) (by decide +kernel)
noncomputable def at56:Nat→Pt→List Nat→St→Option R56:=atF TT G56 an56 Try.f56 c56 _ _
def sh56_L3 (x0:Int) (x1:Int) (x2:List NT) (x3:Int):St:=(St.mk (AV.undef :: (AV.undef :: ((AV.one (SV.bptr 1000000 0)) :: ((AV.one (SV.bptr 1000001 0)) :: (AV.undef :: (AV.undef :: (AV.undef :: (AV.undef :: (AV.undef :: (AV.undef :: (AV.undef :: ((AV.one (SV.int (Go.IntKind.i64) x0)) :: ((AV.one (SV.int (Go.IntKind.i64) x1)) :: (AV.undef :: (AV.undef :: (AV.undef :: (AV.undef :: (AV.undef :: (AV.undef :: (AV.undef :: (AV.undef :: (AV.undef :: (AV.undef :: (AV.undef :: (AV.undef :: (AV.undef :: (AV.undef :: (AV.undef :: (AV.undef :: []))))))))))))))))))))))))))))) ((1000000,(Ent.box (SV.nil :: []))) :: ((1000001,(Ent.box ((SV.ref 1000002 0 [] Option.none) :: []))) :: ((1000002,(Ent.half (⟨39,(Ty.int Go.IntKind.i64).pair ((Ty.int Go.IntKind.i64).pair ((Ty.int Go.IntKind.i64).pair ((Ty.int Go.IntKind.i64).pair ((Ty.int Go.IntKind.i64).pair ((Ty.int Go.IntKind.i64).pair (Ty.bool.pair (Ty.str.pair (Ty.row (nat_lit 95) (Ty.str.pair (Ty.int Go.IntKind.i64)))))))))),x2⟩:Rw) x3 8)) :: []))))
noncomputable def st56_top (n:Nat) (lL3:Int→Int→(List NT)→Int→Option R56) (a:List NT):Option R56 :=
 (q93 n (a,())).bind fun r0=>lL3 ((↑(List.length r0.1.1):Int)) ((0:Int)) (r0.1.1) ((0:Int))
noncomputable def st56_L3 (n:Nat) (lL3:Int→Int→(List NT)→Int→Option R56) (x0:Int) (x1:Int) (x2:List NT) (x3:Int):Option R56 :=
 cond (decide (x1 < x0)) (cond (decide ((0:Int)≤x1)) (cond (decide (x1 < (↑x2.length:Int))) (cond (decide (x3≤(↑x1.toNat:Int))) ((q94 n ((x2.getD x1.toNat ZN).2.2.2.2.2.2.2.2,())).bind fun r2=>cond (decide ((0:Int)≤x1)) (cond (decide (x1 < (↑x2.length:Int))) (cond (decide (x3=(↑x1.toNat:Int))) (lL3 (x0) (Go.IntKind.i64.wrap (x1 + (1:Int))) (x2.set x1.toNat ((x2.getD x1.toNat ZN).1,(x2.getD x1.toNat ZN).2.1,(x2.getD x1.toNat ZN).2.2.1,(x2.getD x1.toNat ZN).2.2.2.1,(x2.getD x1.toNat ZN).2.2.2.2.1,(x2.getD x1.toNat ZN).2.2.2.2.2.1,(x2.getD x1.toNat ZN).2.2.2.2.2.2.1,(x2.getD x1.toNat ZN).2.2.2.2.2.2.2.1,r2.1.1)) (x3 + (1:Int))) (none)) (none)) (none)) (none)) (none)) (none)) (cond (decide ((↑x2.length:Int)≤x3)) (some ((x2,()),())) (none))
theorem e56_top (n:Nat) (a:List NT):runF TT G56 an56 Try.f56 c56 ps56 rs56 n (a,())=st56_top n (fun x0 x1 x2 x3=>at56 n (.head 3) [n] (sh56_L3 x0 x1 x2 x3)) a:=by kernel_rfl
theorem e56_L3_0 (n:Nat) (x0:Int) (x1:Int) (x2:List NT) (x3:Int):at56 n (.head 3) [0] (sh56_L3 x0 x1 x2 x3)=none:=by kernel_rfl
theorem e56_L3 (n:Nat) (m3:Nat) (x0:Int) (x1:Int) (x2:List NT) (x3:Int):at56 n (.head 3) [m3 + 1] (sh56_L3 x0 x1 x2 x3)=st56_L3 n (fun x0 x1 x2 x3=>at56 n (.head 3) [m3] (sh56_L3 x0 x1 x2 x3)) x0 x1 x2 x3:=by kernel_rfl
noncomputable def p56_L3 (n:Nat):Nat→Int→Int→(List NT)→Int→Option R56
 | 0,_,_,_,_=>none
 | m + 1,x0,x1,x2,x3=>st56_L3 n (p56_L3 n m) x0 x1 x2 x3
noncomputable def p56 (n:Nat) (a:List NT):Option R56:=st56_top n (p56_L3 n n) a
theorem t56_L3 (n:Nat):∀ (m3:Nat) (x0:Int) (x1:Int) (x2:List NT) (x3:Int),at56 n (.head 3) [m3] (sh56_L3 x0 x1 x2 x3)=p56_L3 n m3 x0 x1 x2 x3:=by
 intro m
 induction m with
 | zero=>intros; rw [e56_L3_0]; rfl
 | succ m ih =>
  intros
  rw [e56_L3]
  try simp only [ih]
  rfl
theorem F56_eq (n:Nat) (a:List NT):runF TT G56 an56 Try.f56 c56 ps56 rs56 n (a,())=p56 n a:=by
 rw [e56_top]
 simp only [t56_L3]
 try rfl
noncomputable def q56 (n:Nat) (x:argsD ps56):Option R56:=p56 n x.1
noncomputable def Sm56:Sm:=⟨ps56,rs56,false,q56⟩
theorem holds56 (hg:GamOK Try.prog G56):Holds Try.prog 56 Sm56:=by
 have:=h0_56 hg
 have e:(runF TT G56 an56 Try.f56 c56 ps56 rs56)=q56:=by
  funext n x
  exact F56_eq n x.1
 rw [e] at this
 exact this
theorem gam56:GamOK Try.prog G56:=by
 intro f s h
 unfold G56 at h
 split at h
 ·injection h with h; subst h; exact ⟨⟨Try.f93,c93,Try.func93,by kernel_rfl,by decide +kernel⟩,hh93⟩
 ·injection h with h; subst h; exact ⟨⟨Try.f94,c94,Try.func94,by kernel_rfl,by decide +kernel⟩,hh94⟩
 ·cases h
theorem hh56:Holds Try.prog 56 Sm56:=holds56 gam56
end Go.Proofs.Ythhopbicmaipgaa.Rx.S

namespace Go.Proofs.Ythhopbicmaipgaa.Rx.S
open Go Go.RowKit Go.Proofs
set_option maxRecDepth 100000
noncomputable def c82:Code:=(Try.f82.body.getD .skip)
def an82:An:=⟨fun _=>⟨[],[]⟩,fun _ _=>none⟩
abbrev ps82:List PK:=[.val tFs true,.val i64 false]
abbrev rs82:List RK:=[.val .bool false]
abbrev R82:=retsD rs82 × outsD ps82
noncomputable def G82:Gam:=fun f=>match f with | 55=>some Sm55 | _=>none
theorem h0_82 (hg:GamOK Try.prog G82):Holds Try.prog 82 ⟨ps82,rs82,false,runF TT G82 an82 Try.f82 c82 ps82 rs82⟩:=holds_of tt_ok hg mixed Try.func82 (by kernel_rfl) (by rfl) (by decide +kernel)
noncomputable def st82_top (n:Nat) (a:List NT) (b:Int):Option R82 :=
 (q55 n (b,(0:Int),Go.IntKind.i64.wrap ((↑a.length:Int) - (1:Int)),())).bind fun r0=>cond (r0.1.1) (cond (decide ((0:Int)≤b)) (cond (decide (b < (↑a.length:Int))) (some ((!decide ((a.getD b.toNat ZN).1=(0:Int)),()),())) (none)) (none)) (some ((false,()),()))
theorem e82_top (n:Nat) (a:List NT) (b:Int):runF TT G82 an82 Try.f82 c82 ps82 rs82 n (a,b,())=st82_top n a b:=by kernel_rfl
noncomputable def p82 (n:Nat) (a:List NT) (b:Int):Option R82:=st82_top n a b
theorem F82_eq (n:Nat) (a:List NT) (b:Int):runF TT G82 an82 Try.f82 c82 ps82 rs82 n (a,b,())=p82 n a b:=by
 rw [e82_top]
 skip
 try rfl
noncomputable def q82 (n:Nat) (x:argsD ps82):Option R82:=p82 n x.1 x.2.1
noncomputable def Sm82:Sm:=⟨ps82,rs82,false,q82⟩
theorem holds82 (hg:GamOK Try.prog G82):Holds Try.prog 82 Sm82:=by
 have:=h0_82 hg
 have e:(runF TT G82 an82 Try.f82 c82 ps82 rs82)=q82:=by
  funext n x
  exact F82_eq n x.1 x.2.1
 rw [e] at this
 exact this
theorem gam82:GamOK Try.prog G82:=by
 intro f s h
 unfold G82 at h
 split at h
 ·injection h with h; subst h; exact ⟨⟨Try.f55,c55,Try.func55,by kernel_rfl,by decide +kernel⟩,hh55⟩
 ·cases h
theorem hh82:Holds Try.prog 82 Sm82:=holds82 gam82
end Go.Proofs.Ythhopbicmaipgaa.Rx.S

namespace Go.Proofs.Ythhopbicmaipgaa.Rx.S
open Go Go.RowKit Go.Proofs
set_option maxRecDepth 100000
noncomputable def c31:Code:=(Try.f31.body.getD .skip)
def an31:An:=⟨fun r=>match r with | 11=>⟨[2,3,8,10,11],[]⟩ | _=>⟨[],[]⟩,fun _ _=>none⟩
abbrev ps31:List PK:=[.val tFs true,.val i64 false,.val i64 false,.val .str false]
abbrev rs31:List RK:=[.own tFs true,.val i64 false]
abbrev R31:=retsD rs31 × outsD ps31
noncomputable def G31:Gam:=fun f=>match f with | 36=>some Sm36 | 56=>some Sm56 | 82=>some Sm82 | _=>none
theorem h0_31 (hg:GamOK Try.prog G31):Holds Try.prog 31 ⟨ps31,rs31,false,runF TT G31 an31 Try.f31 c31 ps31 rs31⟩:=holds_of tt_ok hg mixed Try.func31 (by kernel_rfl) (by rfl) (by decide +kernel)
noncomputable def at31:Nat→Pt→List Nat→St→Option R31:=atF TT G31 an31 Try.f31 c31 _ _
def sh31_L11 (x0:Int) (x1:ByteArray) (x2:Nat) (x3:List NT):St:=(St.mk (AV.undef :: (AV.undef :: ((AV.one (SV.int (Go.IntKind.i64) x0)) :: ((AV.one (SV.str x1)) :: (AV.undef :: (AV.undef :: (AV.undef :: (AV.undef :: ((AV.one (SV.bptr 1000000 0)) :: (AV.undef :: ((AV.one (SV.bptr 1000001 0)) :: ((AV.one (SV.ptr 1000002 0 [] x2 0)) :: (AV.undef :: (AV.undef :: (AV.undef :: (AV.undef :: (AV.undef :: (AV.undef :: (AV.undef :: (AV.undef :: (AV.undef :: (AV.undef :: (AV.undef :: (AV.undef :: (AV.undef :: (AV.undef :: (AV.undef :: (AV.undef :: (AV.undef :: (AV.undef :: (AV.undef :: (AV.undef :: (AV.undef :: (AV.undef :: (AV.undef :: (AV.undef :: (AV.undef :: (AV.undef :: (AV.undef :: (AV.undef :: (AV.undef :: (AV.undef :: (AV.undef :: (AV.undef :: (AV.undef :: (AV.undef :: (AV.undef :: (AV.undef :: (AV.undef :: (AV.undef :: (AV.undef :: (AV.undef :: (AV.undef :: (AV.undef :: (AV.undef :: (AV.undef :: (AV.undef :: (AV.undef :: (AV.undef :: (AV.undef :: (AV.undef :: (AV.undef :: (AV.undef :: (AV.undef :: (AV.undef :: (AV.undef :: (AV.undef :: (AV.undef :: (AV.undef :: (AV.undef :: (AV.undef :: (AV.undef :: (AV.undef :: (AV.undef :: (AV.undef :: (AV.undef :: (AV.undef :: (AV.undef :: (AV.undef :: (AV.undef :: (AV.undef :: (AV.undef :: (AV.undef :: (AV.undef :: (AV.undef :: (AV.undef :: (AV.undef :: (AV.undef :: (AV.undef :: (AV.undef :: (AV.undef :: (AV.undef :: (AV.undef :: (AV.undef :: (AV.undef :: (AV.undef :: (AV.undef :: (AV.undef :: (AV.undef :: (AV.undef :: (AV.undef :: (AV.undef :: [])))))))))))))))))))))))))))))))))))))))))))))))))))))))))))))))))))))))))))))))))))))))))))))))))))))) ((1000000,(Ent.box (SV.nil :: []))) :: ((1000001,(Ent.box ((SV.ref 1000002 0 [] Option.none) :: []))) :: ((1000002,(Ent.row (⟨39,(Ty.int Go.IntKind.i64).pair ((Ty.int Go.IntKind.i64).pair ((Ty.int Go.IntKind.i64).pair ((Ty.int Go.IntKind.i64).pair ((Ty.int Go.IntKind.i64).pair ((Ty.int Go.IntKind.i64).pair (Ty.bool.pair (Ty.str.pair (Ty.row (nat_lit 95) (Ty.str.pair (Ty.int Go.IntKind.i64)))))))))),x3⟩:Rw) 0 Option.none)) :: []))))
noncomputable def st31_top (n:Nat) (lL11:Int→ByteArray→Nat→(List NT)→Option R31) (a:List NT) (b:Int) (c:Int) (d:ByteArray):Option R31 :=
 (q36 n (a,())).bind fun r0=>cond (!r0.1.1) (some (([],((1:Int),())),())) ((q82 n (a,b,())).bind fun r1=>cond (!r1.1.1) (some (([],((1:Int),())),())) (cond (decide (c < (0:Int))) (some (([],((1:Int),())),())) ((q56 n (a,())).bind fun r2=>cond (decide ((0:Int)≤b)) (cond (decide (b < (↑(List.length r2.1.1):Int))) (cond (!decide ((List.getD r2.1.1 b.toNat ZN).1=(1:Int))) (some ((r2.1.1,((4:Int),())),())) (cond (decide ((40:Int) < c)) (some ((r2.1.1,((7:Int),())),())) (cond (decide ((40:Int) < Go.IntKind.i64.wrap (c + (↑d.size:Int)))) (some ((r2.1.1,((7:Int),())),())) (cond (d.toList == (ByteArray.mk #[]).toList) (some ((r2.1.1,((0:Int),())),())) (lL11 (c) (d) (b.toNat) (r2.1.1)))))) (none)) (none))))
noncomputable def st31_L11 (n:Nat) (lL11:Int→ByteArray→Nat→(List NT)→Option R31) (x0:Int) (x1:ByteArray) (x2:Nat) (x3:List NT):Option R31 :=
 cond (decide ((↑(ByteArray.size (x3.getD x2 ZN).2.2.2.2.2.2.2.1):Int) < x0)) (cond (decide (ByteArray.size (x3.getD x2 ZN).2.2.2.2.2.2.2.1 + (ByteArray.mk #[(0:UInt8)]).size≤(9223372036854775807:Nat))) (lL11 (x0) (x1) (x2) (x3.set x2 ((x3.getD x2 ZN).1,(x3.getD x2 ZN).2.1,(x3.getD x2 ZN).2.2.1,(x3.getD x2 ZN).2.2.2.1,(x3.getD x2 ZN).2.2.2.2.1,(x3.getD x2 ZN).2.2.2.2.2.1,(x3.getD x2 ZN).2.2.2.2.2.2.1,(x3.getD x2 ZN).2.2.2.2.2.2.2.1 ++ ByteArray.mk #[(0:UInt8)],(x3.getD x2 ZN).2.2.2.2.2.2.2.2))) (none)) (cond (decide (Go.IntKind.i64.wrap (x0 + (↑x1.size:Int)) < (↑(ByteArray.size (x3.getD x2 ZN).2.2.2.2.2.2.2.1):Int))) (cond (decide ((0:Int)≤Go.IntKind.i64.wrap (x0 + (↑x1.size:Int)))) (cond (decide (Go.IntKind.i64.wrap (x0 + (↑x1.size:Int))≤(↑(ByteArray.size (x3.getD x2 ZN).2.2.2.2.2.2.2.1):Int))) (cond (decide ((0:Int)≤x0)) (cond (decide (x0≤(↑(ByteArray.size (x3.getD x2 ZN).2.2.2.2.2.2.2.1):Int))) (cond (decide ((ByteArray.extract (x3.getD x2 ZN).2.2.2.2.2.2.2.1 (Int.toNat (0:Int)) x0.toNat).size + x1.size≤(9223372036854775807:Nat))) (cond (decide ((ByteArray.extract (x3.getD x2 ZN).2.2.2.2.2.2.2.1 (Int.toNat (0:Int)) x0.toNat ++ x1).size + (ByteArray.extract (x3.getD x2 ZN).2.2.2.2.2.2.2.1 (Go.IntKind.i64.wrap (x0 + (↑x1.size:Int))).toNat (↑(ByteArray.size (x3.getD x2 ZN).2.2.2.2.2.2.2.1):Int).toNat).size≤(9223372036854775807:Nat))) (some ((x3.set x2 ((x3.getD x2 ZN).1,(x3.getD x2 ZN).2.1,(x3.getD x2 ZN).2.2.1,(x3.getD x2 ZN).2.2.2.1,(x3.getD x2 ZN).2.2.2.2.1,(x3.getD x2 ZN).2.2.2.2.2.1,(x3.getD x2 ZN).2.2.2.2.2.2.1,ByteArray.extract (x3.getD x2 ZN).2.2.2.2.2.2.2.1 (Int.toNat (0:Int)) x0.toNat ++ x1 ++ ByteArray.extract (x3.getD x2 ZN).2.2.2.2.2.2.2.1 (Go.IntKind.i64.wrap (x0 + (↑x1.size:Int))).toNat (↑(ByteArray.size (x3.getD x2 ZN).2.2.2.2.2.2.2.1):Int).toNat,(x3.getD x2 ZN).2.2.2.2.2.2.2.2),((0:Int),())),())) (none)) (none)) (none)) (none)) (none)) (none)) (cond (decide ((0:Int)≤x0)) (cond (decide (x0≤(↑(ByteArray.size (x3.getD x2 ZN).2.2.2.2.2.2.2.1):Int))) (cond (decide ((ByteArray.extract (x3.getD x2 ZN).2.2.2.2.2.2.2.1 (Int.toNat (0:Int)) x0.toNat).size + x1.size≤(9223372036854775807:Nat))) (cond (decide ((ByteArray.extract (x3.getD x2 ZN).2.2.2.2.2.2.2.1 (Int.toNat (0:Int)) x0.toNat ++ x1).size + (ByteArray.mk #[]).size≤(9223372036854775807:Nat))) (some ((x3.set x2 ((x3.getD x2 ZN).1,(x3.getD x2 ZN).2.1,(x3.getD x2 ZN).2.2.1,(x3.getD x2 ZN).2.2.2.1,(x3.getD x2 ZN).2.2.2.2.1,(x3.getD x2 ZN).2.2.2.2.2.1,(x3.getD x2 ZN).2.2.2.2.2.2.1,ByteArray.extract (x3.getD x2 ZN).2.2.2.2.2.2.2.1 (Int.toNat (0:Int)) x0.toNat ++ x1 ++ ByteArray.mk #[],(x3.getD x2 ZN).2.2.2.2.2.2.2.2),((0:Int),())),())) (none)) (none)) (none)) (none)))
theorem e31_top (n:Nat) (a:List NT) (b:Int) (c:Int) (d:ByteArray):runF TT G31 an31 Try.f31 c31 ps31 rs31 n (a,b,c,d,())=st31_top n (fun x0 x1 x2 x3=>at31 n (.head 11) [n] (sh31_L11 x0 x1 x2 x3)) a b c d:=by kernel_rfl
theorem e31_L11_0 (n:Nat) (x0:Int) (x1:ByteArray) (x2:Nat) (x3:List NT):at31 n (.head 11) [0] (sh31_L11 x0 x1 x2 x3)=none:=by kernel_rfl
theorem e31_L11 (n:Nat) (m11:Nat) (x0:Int) (x1:ByteArray) (x2:Nat) (x3:List NT):at31 n (.head 11) [m11 + 1] (sh31_L11 x0 x1 x2 x3)=st31_L11 n (fun x0 x1 x2 x3=>at31 n (.head 11) [m11] (sh31_L11 x0 x1 x2 x3)) x0 x1 x2 x3:=by kernel_rfl
noncomputable def p31_L11 (n:Nat):Nat→Int→ByteArray→Nat→(List NT)→Option R31
 | 0,_,_,_,_=>none
 | m + 1,x0,x1,x2,x3=>st31_L11 n (p31_L11 n m) x0 x1 x2 x3
noncomputable def p31 (n:Nat) (a:List NT) (b:Int) (c:Int) (d:ByteArray):Option R31:=st31_top n (p31_L11 n n) a b c d
theorem t31_L11 (n:Nat):∀ (m11:Nat) (x0:Int) (x1:ByteArray) (x2:Nat) (x3:List NT),at31 n (.head 11) [m11] (sh31_L11 x0 x1 x2 x3)=p31_L11 n m11 x0 x1 x2 x3:=by
 intro m
 induction m with
 | zero=>intros; rw [e31_L11_0]; rfl
 | succ m ih =>
  intros
  rw [e31_L11]
  try simp only [ih]
  rfl
theorem F31_eq (n:Nat) (a:List NT) (b:Int) (c:Int) (d:ByteArray):runF TT G31 an31 Try.f31 c31 ps31 rs31 n (a,b,c,d,())=p31 n a b c d:=by
 rw [e31_top]
 simp only [t31_L11]
 try rfl
noncomputable def q31 (n:Nat) (x:argsD ps31):Option R31:=p31 n x.1 x.2.1 x.2.2.1 x.2.2.2.1
noncomputable def Sm31:Sm:=⟨ps31,rs31,false,q31⟩
theorem holds31 (hg:GamOK Try.prog G31):Holds Try.prog 31 Sm31:=by
 have:=h0_31 hg
 have e:(runF TT G31 an31 Try.f31 c31 ps31 rs31)=q31:=by
  funext n x
  exact F31_eq n x.1 x.2.1 x.2.2.1 x.2.2.2.1
 rw [e] at this
 exact this
theorem gam31:GamOK Try.prog G31:=by
 intro f s h
 unfold G31 at h
 split at h
 ·injection h with h; subst h; exact ⟨⟨Try.f36,c36,Try.func36,by kernel_rfl,by decide +kernel⟩,hh36⟩
 ·injection h with h; subst h; exact ⟨⟨Try.f56,c56,Try.func56,by kernel_rfl,by decide +kernel⟩,hh56⟩
 ·injection h with h; subst h; exact ⟨⟨Try.f82,c82,Try.func82,by kernel_rfl,by decide +kernel⟩,hh82⟩
 ·cases h
theorem hh31:Holds Try.prog 31 Sm31:=holds31 gam31
end Go.Proofs.Ythhopbicmaipgaa.Rx.S

namespace Go.Proofs.Ythhopbicmaipgaa.Rx.S
open Go Go.RowKit Go.Proofs
set_option maxRecDepth 100000
abbrev ps5:List PK:=[.val tLf true,.val i64 false,.val i64 false,.val .str false]
abbrev rs5:List RK:=[.val .bool false]
abbrev R5:=retsD rs5 × outsD ps5
noncomputable def st5_top (n:Nat) (a:List NT) (b:Int) (c:Int) (d:ByteArray):Option R5 :=
 cond (decide ((1048576:Int) < (↑d.size:Int))) (some ((true,()),())) ((q21 n (a,(1048576:Int),())).bind fun r0=>cond (decide (r0.1.1 < (0:Int))) (some ((true,()),())) ((q23 n (a,())).bind fun r1=>(q30 n (r1.1.1,b,c,d,())).bind fun r2=>(q23 n (a,())).bind fun r3=>(q31 n (r3.1.1,b,c,d,())).bind fun r4=>(q25 n (r4.1.1,r2.1.1,())).bind fun r5=>cond (!r5.1.1) (some ((false,()),())) (cond (!decide (r4.1.2.1=r2.1.2.1)) (some ((false,()),())) ((q23 n (a,())).bind fun r6=>(q25 n (r3.1.1,r6.1.1,())).bind fun r7=>cond (!r7.1.1) (some ((false,()),())) ((q27 n (r3.1.1,(1:Int),())).bind fun r8=>cond (decide (r8.1.1 < (0:Int))) (some ((false,()),())) ((q25 n (r4.1.1,r2.1.1,())).bind fun r9=>cond (!r9.1.1) (some ((false,()),())) (cond (!decide (r4.1.2.1=r2.1.2.1)) (some ((false,()),())) ((q27 n (r4.1.1,(1:Int),())).bind fun r10=>(q29 n (r10.2.1,(1:Int),())).bind fun r11=>cond (decide (r11.1.1 < (0:Int))) (some ((false,()),())) (cond (!decide (r11.1.1=r10.1.1)) (some ((false,()),())) ((q23 n (a,())).bind fun r12=>(q31 n (r12.1.1,b,c,d,())).bind fun r13=>(q25 n (r13.1.1,r2.1.1,())).bind fun r14=>cond (!r14.1.1) (some ((false,()),())) (cond (!decide (r13.1.2.1=r2.1.2.1)) (some ((false,()),())) ((q29 n (r10.2.1,(1:Int),())).bind fun r15=>cond (decide (r15.1.1 < (0:Int))) (some ((false,()),())) (cond (!decide (r15.1.1=r10.1.1)) (some ((false,()),())) (some ((true,()),())))))))))))))))
noncomputable def p5 (n:Nat) (a:List NT) (b:Int) (c:Int) (d:ByteArray):Option R5:=st5_top n a b c d
end Go.Proofs.Ythhopbicmaipgaa.Rx.S

namespace Go.Proofs.Ythhopbicmaipgaa.Rx.S
open Go Go.RowKit Go.Proofs
set_option maxRecDepth 100000
noncomputable def c112:Code:=(Try.f112.body.getD .skip)
def an112:An:=⟨fun _=>⟨[],[]⟩,fun _ _=>none⟩
abbrev ps112:List PK:=[.own tFs true,.val i64 false]
abbrev rs112:List RK:=[.own tFs true]
abbrev R112:=retsD rs112 × outsD ps112
noncomputable def G112:Gam:=fun _=>none
theorem h0_112 (hg:GamOK Try.prog G112):Holds Try.prog 112 ⟨ps112,rs112,false,runF TT G112 an112 Try.f112 c112 ps112 rs112⟩:=holds_of tt_ok hg mixed Try.func112 (by kernel_rfl) (by rfl) (by decide +kernel)
noncomputable def st112_top (n:Nat) (a:List NT) (b:Int):Option R112 :=
 cond (decide ((0:Int) < b)) (cond (decide ((0:Int)≤b)) (cond (decide (b < (↑a.length:Int))) (cond (decide ((a.getD b.toNat ZN).2.2.2.2.1=(0:Int))) (cond (decide ((0:Int)≤b)) (cond (decide (b < (↑a.length:Int))) (cond (decide ((a.getD b.toNat ZN).2.2.2.2.2.1=(0:Int))) (cond (decide ((0:Int)≤b)) (cond (decide (b < (↑a.length:Int))) (some ((a.set b.toNat ZN,()),())) (none)) (none)) (some ((a,()),()))) (none)) (none)) (some ((a,()),()))) (none)) (none)) (some ((a,()),()))
theorem e112_top (n:Nat) (a:List NT) (b:Int):runF TT G112 an112 Try.f112 c112 ps112 rs112 n (a,b,())=st112_top n a b:=by kernel_rfl
noncomputable def p112 (n:Nat) (a:List NT) (b:Int):Option R112:=st112_top n a b
theorem F112_eq (n:Nat) (a:List NT) (b:Int):runF TT G112 an112 Try.f112 c112 ps112 rs112 n (a,b,())=p112 n a b:=by
 rw [e112_top]
 skip
 try rfl
noncomputable def q112 (n:Nat) (x:argsD ps112):Option R112:=p112 n x.1 x.2.1
noncomputable def Sm112:Sm:=⟨ps112,rs112,false,q112⟩
theorem holds112 (hg:GamOK Try.prog G112):Holds Try.prog 112 Sm112:=by
 have:=h0_112 hg
 have e:(runF TT G112 an112 Try.f112 c112 ps112 rs112)=q112:=by
  funext n x
  exact F112_eq n x.1 x.2.1
 rw [e] at this
 exact this
theorem gam112:GamOK Try.prog G112:=fun _ _ h=>by cases h
theorem hh112:Holds Try.prog 112 Sm112:=holds112 gam112
end Go.Proofs.Ythhopbicmaipgaa.Rx.S

namespace Go.Proofs.Ythhopbicmaipgaa.Rx.S
open Go Go.RowKit Go.Proofs
set_option maxRecDepth 100000
noncomputable def c83:Code:=(Try.f83.body.getD .skip)
def an83:An:=⟨fun _=>⟨[],[]⟩,fun _ _=>none⟩
abbrev ps83:List PK:=[.own tFs true,.val i64 false,.val .bool false]
abbrev rs83:List RK:=[.own tFs true,.val i64 false]
abbrev R83:=retsD rs83 × outsD ps83
noncomputable def G83:Gam:=fun f=>match f with | 112=>some Sm112 | _=>none
theorem h0_83 (hg:GamOK Try.prog G83):Holds Try.prog 83 ⟨ps83,rs83,false,runF TT G83 an83 Try.f83 c83 ps83 rs83⟩:=holds_of tt_ok hg mixed Try.func83 (by kernel_rfl) (by rfl) (by decide +kernel)
noncomputable def st83_top (n:Nat) (a:List NT) (b:Int) (c:Bool):Option R83 :=
 cond (decide ((0:Int)≤b)) (cond (decide (b < (↑a.length:Int))) (cond (c) (cond (decide ((99:Int)≤(a.getD b.toNat ZN).2.2.2.2.2.1)) (some ((a,((6:Int),())),())) (cond (!c) (cond (decide ((a.getD b.toNat ZN).2.2.2.2.2.1=(0:Int))) (some ((a,((6:Int),())),())) (cond (c) (cond (decide ((0:Int)≤b)) (cond (decide (b < (↑a.length:Int))) (some ((a.set b.toNat ((a.getD b.toNat ZN).1,(a.getD b.toNat ZN).2.1,(a.getD b.toNat ZN).2.2.1,(a.getD b.toNat ZN).2.2.2.1,(a.getD b.toNat ZN).2.2.2.2.1,Go.IntKind.i64.wrap ((a.getD b.toNat ZN).2.2.2.2.2.1 + (1:Int)),(a.getD b.toNat ZN).2.2.2.2.2.2),((0:Int),())),())) (none)) (none)) (cond (decide ((0:Int)≤b)) (cond (decide (b < (↑a.length:Int))) ((q112 n (a.set b.toNat ((a.getD b.toNat ZN).1,(a.getD b.toNat ZN).2.1,(a.getD b.toNat ZN).2.2.1,(a.getD b.toNat ZN).2.2.2.1,(a.getD b.toNat ZN).2.2.2.2.1,Go.IntKind.i64.wrap ((a.getD b.toNat ZN).2.2.2.2.2.1 - (1:Int)),(a.getD b.toNat ZN).2.2.2.2.2.2),b,())).bind fun r0=>some ((r0.1.1,((0:Int),())),())) (none)) (none)))) (cond (c) (cond (decide ((0:Int)≤b)) (cond (decide (b < (↑a.length:Int))) (some ((a.set b.toNat ((a.getD b.toNat ZN).1,(a.getD b.toNat ZN).2.1,(a.getD b.toNat ZN).2.2.1,(a.getD b.toNat ZN).2.2.2.1,(a.getD b.toNat ZN).2.2.2.2.1,Go.IntKind.i64.wrap ((a.getD b.toNat ZN).2.2.2.2.2.1 + (1:Int)),(a.getD b.toNat ZN).2.2.2.2.2.2),((0:Int),())),())) (none)) (none)) (cond (decide ((0:Int)≤b)) (cond (decide (b < (↑a.length:Int))) ((q112 n (a.set b.toNat ((a.getD b.toNat ZN).1,(a.getD b.toNat ZN).2.1,(a.getD b.toNat ZN).2.2.1,(a.getD b.toNat ZN).2.2.2.1,(a.getD b.toNat ZN).2.2.2.2.1,Go.IntKind.i64.wrap ((a.getD b.toNat ZN).2.2.2.2.2.1 - (1:Int)),(a.getD b.toNat ZN).2.2.2.2.2.2),b,())).bind fun r1=>some ((r1.1.1,((0:Int),())),())) (none)) (none))))) (cond (!c) (cond (decide ((a.getD b.toNat ZN).2.2.2.2.2.1=(0:Int))) (some ((a,((6:Int),())),())) (cond (c) (cond (decide ((0:Int)≤b)) (cond (decide (b < (↑a.length:Int))) (some ((a.set b.toNat ((a.getD b.toNat ZN).1,(a.getD b.toNat ZN).2.1,(a.getD b.toNat ZN).2.2.1,(a.getD b.toNat ZN).2.2.2.1,(a.getD b.toNat ZN).2.2.2.2.1,Go.IntKind.i64.wrap ((a.getD b.toNat ZN).2.2.2.2.2.1 + (1:Int)),(a.getD b.toNat ZN).2.2.2.2.2.2),((0:Int),())),())) (none)) (none)) (cond (decide ((0:Int)≤b)) (cond (decide (b < (↑a.length:Int))) ((q112 n (a.set b.toNat ((a.getD b.toNat ZN).1,(a.getD b.toNat ZN).2.1,(a.getD b.toNat ZN).2.2.1,(a.getD b.toNat ZN).2.2.2.1,(a.getD b.toNat ZN).2.2.2.2.1,Go.IntKind.i64.wrap ((a.getD b.toNat ZN).2.2.2.2.2.1 - (1:Int)),(a.getD b.toNat ZN).2.2.2.2.2.2),b,())).bind fun r2=>some ((r2.1.1,((0:Int),())),())) (none)) (none)))) (cond (c) (cond (decide ((0:Int)≤b)) (cond (decide (b < (↑a.length:Int))) (some ((a.set b.toNat ((a.getD b.toNat ZN).1,(a.getD b.toNat ZN).2.1,(a.getD b.toNat ZN).2.2.1,(a.getD b.toNat ZN).2.2.2.1,(a.getD b.toNat ZN).2.2.2.2.1,Go.IntKind.i64.wrap ((a.getD b.toNat ZN).2.2.2.2.2.1 + (1:Int)),(a.getD b.toNat ZN).2.2.2.2.2.2),((0:Int),())),())) (none)) (none)) (cond (decide ((0:Int)≤b)) (cond (decide (b < (↑a.length:Int))) ((q112 n (a.set b.toNat ((a.getD b.toNat ZN).1,(a.getD b.toNat ZN).2.1,(a.getD b.toNat ZN).2.2.1,(a.getD b.toNat ZN).2.2.2.1,(a.getD b.toNat ZN).2.2.2.2.1,Go.IntKind.i64.wrap ((a.getD b.toNat ZN).2.2.2.2.2.1 - (1:Int)),(a.getD b.toNat ZN).2.2.2.2.2.2),b,())).bind fun r3=>some ((r3.1.1,((0:Int),())),())) (none)) (none))))) (none)) (none)
theorem e83_top (n:Nat) (a:List NT) (b:Int) (c:Bool):runF TT G83 an83 Try.f83 c83 ps83 rs83 n (a,b,c,())=st83_top n a b c:=by kernel_rfl
noncomputable def p83 (n:Nat) (a:List NT) (b:Int) (c:Bool):Option R83:=st83_top n a b c
theorem F83_eq (n:Nat) (a:List NT) (b:Int) (c:Bool):runF TT G83 an83 Try.f83 c83 ps83 rs83 n (a,b,c,())=p83 n a b c:=by
 rw [e83_top]
 skip
 try rfl
noncomputable def q83 (n:Nat) (x:argsD ps83):Option R83:=p83 n x.1 x.2.1 x.2.2.1
noncomputable def Sm83:Sm:=⟨ps83,rs83,false,q83⟩
theorem holds83 (hg:GamOK Try.prog G83):Holds Try.prog 83 Sm83:=by
 have:=h0_83 hg
 have e:(runF TT G83 an83 Try.f83 c83 ps83 rs83)=q83:=by
  funext n x
  exact F83_eq n x.1 x.2.1 x.2.2.1
 rw [e] at this
 exact this
theorem gam83:GamOK Try.prog G83:=by
 intro f s h
 unfold G83 at h
 split at h
 ·injection h with h; subst h; exact ⟨⟨Try.f112,c112,Try.func112,by kernel_rfl,by decide +kernel⟩,hh112⟩
 ·cases h
theorem hh83:Holds Try.prog 83 Sm83:=holds83 gam83
end Go.Proofs.Ythhopbicmaipgaa.Rx.S

namespace Go.Proofs.Ythhopbicmaipgaa.Rx.S
open Go Go.RowKit Go.Proofs
set_option maxRecDepth 100000
abbrev ps32:List PK:=[.val tFs true,.val i64 false,.val .bool false]
abbrev rs32:List RK:=[.own tFs true,.val i64 false]
abbrev R32:=retsD rs32 × outsD ps32
noncomputable def st32_top (n:Nat) (a:List NT) (b:Int) (c:Bool):Option R32 :=
 (q62 n (a,())).bind fun r0=>cond (!r0.1.1) (some (([],((1:Int),())),())) ((q64 n (a,b,())).bind fun r1=>cond (!r1.1.1) (some (([],((1:Int),())),())) ((q68 n (a,())).bind fun r2=>(q83 n (r2.1.1,b,c,())).bind fun r3=>some ((r3.1.1,(r3.1.2.1,())),())))
noncomputable def p32 (n:Nat) (a:List NT) (b:Int) (c:Bool):Option R32:=st32_top n a b c
noncomputable def q32 (n:Nat) (x:argsD ps32):Option R32:=p32 n x.1 x.2.1 x.2.2.1
end Go.Proofs.Ythhopbicmaipgaa.Rx.S

namespace Go.Proofs.Ythhopbicmaipgaa.Rx.S
open Go Go.RowKit Go.Proofs
set_option maxRecDepth 100000
abbrev ps70:List PK:=[.bo tFs,.val i64 false]
abbrev rs70:List RK:=[]
abbrev R70:=retsD rs70 × outsD ps70
noncomputable def st70_top (n:Nat) (a:List NT) (b:Int):Option R70 :=
 cond (decide ((0:Int)≤b)) (cond (decide (b < (↑a.length:Int))) (cond (!decide (b=(0:Int))) (cond (decide ((a.getD b.toNat ZN).2.2.2.2.1=(0:Int))) (cond (decide ((a.getD b.toNat ZN).2.2.2.2.2.1=(0:Int))) (some ((),(a.set b.toNat ZN,()))) (some ((),(a,())))) (some ((),(a,())))) (some ((),(a,())))) (none)) (none)
noncomputable def p70 (n:Nat) (a:List NT) (b:Int):Option R70:=st70_top n a b
noncomputable def q70 (n:Nat) (x:argsD ps70):Option R70:=p70 n x.1 x.2.1
end Go.Proofs.Ythhopbicmaipgaa.Rx.S

namespace Go.Proofs.Ythhopbicmaipgaa.Rx.S
open Go Go.RowKit Go.Proofs
set_option maxRecDepth 100000
abbrev ps84:List PK:=[.bo tFs,.val i64 false,.val .bool false]
abbrev rs84:List RK:=[]
abbrev R84:=retsD rs84 × outsD ps84
noncomputable def st84_top (n:Nat) (a:List NT) (b:Int) (c:Bool):Option R84 :=
 cond (c) (cond (decide ((0:Int)≤b)) (cond (decide (b < (↑a.length:Int))) (cond (decide ((0:Int)≤b)) (cond (decide (b < (↑a.length:Int))) (some ((),(a.set b.toNat ((a.getD b.toNat ZN).1,(a.getD b.toNat ZN).2.1,(a.getD b.toNat ZN).2.2.1,(a.getD b.toNat ZN).2.2.2.1,(a.getD b.toNat ZN).2.2.2.2.1,Go.IntKind.i64.wrap ((a.getD b.toNat ZN).2.2.2.2.2.1 + (1:Int)),(a.getD b.toNat ZN).2.2.2.2.2.2),()))) (none)) (none)) (none)) (none)) (cond (decide ((0:Int)≤b)) (cond (decide (b < (↑a.length:Int))) (cond (decide ((0:Int)≤b)) (cond (decide (b < (↑a.length:Int))) ((q70 n (a.set b.toNat ((a.getD b.toNat ZN).1,(a.getD b.toNat ZN).2.1,(a.getD b.toNat ZN).2.2.1,(a.getD b.toNat ZN).2.2.2.1,(a.getD b.toNat ZN).2.2.2.2.1,Go.IntKind.i64.wrap ((a.getD b.toNat ZN).2.2.2.2.2.1 - (1:Int)),(a.getD b.toNat ZN).2.2.2.2.2.2),b,())).bind fun r0=>some ((),(r0.2.1,()))) (none)) (none)) (none)) (none))
noncomputable def p84 (n:Nat) (a:List NT) (b:Int) (c:Bool):Option R84:=st84_top n a b c
noncomputable def q84 (n:Nat) (x:argsD ps84):Option R84:=p84 n x.1 x.2.1 x.2.2.1
end Go.Proofs.Ythhopbicmaipgaa.Rx.S

namespace Go.Proofs.Ythhopbicmaipgaa.Rx.S
open Go Go.RowKit Go.Proofs
set_option maxRecDepth 100000
abbrev ps33:List PK:=[.val tFs true,.val i64 false,.val .bool false]
abbrev rs33:List RK:=[.own tFs true,.val i64 false]
abbrev R33:=retsD rs33 × outsD ps33
noncomputable def st33_top (n:Nat) (a:List NT) (b:Int) (c:Bool):Option R33 :=
 (q36 n (a,())).bind fun r0=>cond (!r0.1.1) (some (([],((1:Int),())),())) ((q82 n (a,b,())).bind fun r1=>cond (!r1.1.1) (some (([],((1:Int),())),())) ((q56 n (a,())).bind fun r2=>cond (c) (cond (decide ((0:Int)≤b)) (cond (decide (b < (↑a.length:Int))) (cond (decide ((a.getD b.toNat ZN).2.2.2.2.2.1=(99:Int))) (some ((r2.1.1,((6:Int),())),())) (cond (!c) (cond (decide ((0:Int)≤b)) (cond (decide (b < (↑a.length:Int))) (cond (decide ((a.getD b.toNat ZN).2.2.2.2.2.1=(0:Int))) (some ((r2.1.1,((6:Int),())),())) ((q84 n (r2.1.1,b,c,())).bind fun r3=>some ((r3.2.1,((0:Int),())),()))) (none)) (none)) ((q84 n (r2.1.1,b,c,())).bind fun r4=>some ((r4.2.1,((0:Int),())),())))) (none)) (none)) (cond (!c) (cond (decide ((0:Int)≤b)) (cond (decide (b < (↑a.length:Int))) (cond (decide ((a.getD b.toNat ZN).2.2.2.2.2.1=(0:Int))) (some ((r2.1.1,((6:Int),())),())) ((q84 n (r2.1.1,b,c,())).bind fun r5=>some ((r5.2.1,((0:Int),())),()))) (none)) (none)) ((q84 n (r2.1.1,b,c,())).bind fun r6=>some ((r6.2.1,((0:Int),())),())))))
noncomputable def p33 (n:Nat) (a:List NT) (b:Int) (c:Bool):Option R33:=st33_top n a b c
noncomputable def q33 (n:Nat) (x:argsD ps33):Option R33:=p33 n x.1 x.2.1 x.2.2.1
end Go.Proofs.Ythhopbicmaipgaa.Rx.S

namespace Go.Proofs.Ythhopbicmaipgaa.Rx.S
open Go Go.RowKit Go.Proofs
set_option maxRecDepth 100000
noncomputable def c103:Code:=(Try.f103.body.getD .skip)
def an103:An:=⟨fun r=>match r with | 2=>⟨[1,2,5],[]⟩ | _=>⟨[],[]⟩,fun _ _=>none⟩
abbrev ps103:List PK:=[.val (tIn 95) true,.val .str false]
abbrev rs103:List RK:=[.val i64 false]
abbrev R103:=retsD rs103 × outsD ps103
noncomputable def G103:Gam:=fun _=>none
theorem h0_103 (hg:GamOK Try.prog G103):Holds Try.prog 103 ⟨ps103,rs103,false,runF TT G103 an103 Try.f103 c103 ps103 rs103⟩:=holds_of tt_ok hg mixed Try.func103 (by kernel_rfl) (by rfl) (by decide +kernel)
noncomputable def at103:Nat→Pt→List Nat→St→Option R103:=atF TT G103 an103 Try.f103 c103 _ _
def sh103_L2 (x0:ByteArray) (x1:Int) (x2:Int) (x3:Int) (x4:Int) (x5:Int) (x6:Int) (x7:Int) (x8:Bool) (x9:ByteArray) (x10:List (ByteArray × Int)):St:=(St.mk (AV.undef :: ((AV.one (SV.str x0)) :: ((AV.one (SV.bptr 1000000 0)) :: (AV.undef :: (AV.undef :: ((AV.one (SV.int (Go.IntKind.i64) x1)) :: (AV.undef :: (AV.undef :: (AV.undef :: (AV.undef :: (AV.undef :: (AV.undef :: (AV.undef :: (AV.undef :: (AV.undef :: (AV.undef :: (AV.undef :: (AV.undef :: (AV.undef :: (AV.undef :: (AV.undef :: (AV.undef :: [])))))))))))))))))))))) ((1000000,(Ent.box ((SV.int (Go.IntKind.i64) x2) :: ((SV.int (Go.IntKind.i64) x3) :: ((SV.int (Go.IntKind.i64) x4) :: ((SV.int (Go.IntKind.i64) x5) :: ((SV.int (Go.IntKind.i64) x6) :: ((SV.int (Go.IntKind.i64) x7) :: ((SV.bool x8) :: ((SV.str x9) :: ((SV.con (⟨95,Ty.str.pair (Ty.int Go.IntKind.i64),x10⟩:Rw)) :: []))))))))))) :: []))
noncomputable def st103_top (n:Nat) (lL2:ByteArray→Int→Int→Int→Int→Int→Int→Int→Bool→ByteArray→(List (ByteArray × Int))→Option R103) (a:NT) (b:ByteArray):Option R103 :=
 lL2 (b) ((0:Int)) (a.1) (a.2.1) (a.2.2.1) (a.2.2.2.1) (a.2.2.2.2.1) (a.2.2.2.2.2.1) (a.2.2.2.2.2.2.1) (a.2.2.2.2.2.2.2.1) (a.2.2.2.2.2.2.2.2)
noncomputable def st103_L2 (n:Nat) (lL2:ByteArray→Int→Int→Int→Int→Int→Int→Int→Bool→ByteArray→(List (ByteArray × Int))→Option R103) (x0:ByteArray) (x1:Int) (x2:Int) (x3:Int) (x4:Int) (x5:Int) (x6:Int) (x7:Int) (x8:Bool) (x9:ByteArray) (x10:List (ByteArray × Int)):Option R103 :=
 cond (decide (x1 < (↑x10.length:Int))) (cond (decide ((0:Int)≤x1)) (cond (decide (x1 < (↑x10.length:Int))) (cond (ByteArray.toList (x10.getD x1.toNat (ByteArray.empty,(0:Int))).1 == x0.toList) (some ((x1,()),())) (lL2 (x0) (Go.IntKind.i64.wrap (x1 + (1:Int))) (x2) (x3) (x4) (x5) (x6) (x7) (x8) (x9) (x10))) (none)) (none)) (some (((-1:Int),()),()))
theorem e103_top (n:Nat) (a:NT) (b:ByteArray):runF TT G103 an103 Try.f103 c103 ps103 rs103 n (a,b,())=st103_top n (fun x0 x1 x2 x3 x4 x5 x6 x7 x8 x9 x10=>at103 n (.head 2) [n] (sh103_L2 x0 x1 x2 x3 x4 x5 x6 x7 x8 x9 x10)) a b:=by kernel_rfl
theorem e103_L2_0 (n:Nat) (x0:ByteArray) (x1:Int) (x2:Int) (x3:Int) (x4:Int) (x5:Int) (x6:Int) (x7:Int) (x8:Bool) (x9:ByteArray) (x10:List (ByteArray × Int)):at103 n (.head 2) [0] (sh103_L2 x0 x1 x2 x3 x4 x5 x6 x7 x8 x9 x10)=none:=by kernel_rfl
theorem e103_L2 (n:Nat) (m2:Nat) (x0:ByteArray) (x1:Int) (x2:Int) (x3:Int) (x4:Int) (x5:Int) (x6:Int) (x7:Int) (x8:Bool) (x9:ByteArray) (x10:List (ByteArray × Int)):at103 n (.head 2) [m2 + 1] (sh103_L2 x0 x1 x2 x3 x4 x5 x6 x7 x8 x9 x10)=st103_L2 n (fun x0 x1 x2 x3 x4 x5 x6 x7 x8 x9 x10=>at103 n (.head 2) [m2] (sh103_L2 x0 x1 x2 x3 x4 x5 x6 x7 x8 x9 x10)) x0 x1 x2 x3 x4 x5 x6 x7 x8 x9 x10:=by kernel_rfl
noncomputable def p103_L2 (n:Nat):Nat→ByteArray→Int→Int→Int→Int→Int→Int→Int→Bool→ByteArray→(List (ByteArray × Int))→Option R103
 | 0,_,_,_,_,_,_,_,_,_,_,_=>none
 | m + 1,x0,x1,x2,x3,x4,x5,x6,x7,x8,x9,x10=>st103_L2 n (p103_L2 n m) x0 x1 x2 x3 x4 x5 x6 x7 x8 x9 x10
noncomputable def p103 (n:Nat) (a:NT) (b:ByteArray):Option R103:=st103_top n (p103_L2 n n) a b
theorem t103_L2 (n:Nat):∀ (m2:Nat) (x0:ByteArray) (x1:Int) (x2:Int) (x3:Int) (x4:Int) (x5:Int) (x6:Int) (x7:Int) (x8:Bool) (x9:ByteArray) (x10:List (ByteArray × Int)),at103 n (.head 2) [m2] (sh103_L2 x0 x1 x2 x3 x4 x5 x6 x7 x8 x9 x10)=p103_L2 n m2 x0 x1 x2 x3 x4 x5 x6 x7 x8 x9 x10:=by
 intro m
 induction m with
 | zero=>intros; rw [e103_L2_0]; rfl
 | succ m ih =>
  intros
  rw [e103_L2]
  try simp only [ih]
  rfl
theorem F103_eq (n:Nat) (a:NT) (b:ByteArray):runF TT G103 an103 Try.f103 c103 ps103 rs103 n (a,b,())=p103 n a b:=by
 rw [e103_top]
 simp only [t103_L2]
 try rfl
noncomputable def q103 (n:Nat) (x:argsD ps103):Option R103:=p103 n x.1 x.2.1
noncomputable def Sm103:Sm:=⟨ps103,rs103,false,q103⟩
theorem holds103 (hg:GamOK Try.prog G103):Holds Try.prog 103 Sm103:=by
 have:=h0_103 hg
 have e:(runF TT G103 an103 Try.f103 c103 ps103 rs103)=q103:=by
  funext n x
  exact F103_eq n x.1 x.2.1
 rw [e] at this
 exact this
theorem gam103:GamOK Try.prog G103:=fun _ _ h=>by cases h
theorem hh103:Holds Try.prog 103 Sm103:=holds103 gam103
end Go.Proofs.Ythhopbicmaipgaa.Rx.S

namespace Go.Proofs.Ythhopbicmaipgaa.Rx.S
open Go Go.RowKit Go.Proofs
set_option maxRecDepth 100000
noncomputable def c104:Code:=(Try.f104.body.getD .skip)
def an104:An:=⟨fun r=>match r with | 4=>⟨[1,3,5,6,7,8,9],[]⟩ | _=>⟨[],[]⟩,fun _ _=>none⟩
abbrev ps104:List PK:=[.own tFs true,.val i64 false,.val tEn true]
abbrev rs104:List RK:=[.own tFs true]
abbrev R104:=retsD rs104 × outsD ps104
noncomputable def G104:Gam:=fun _=>none
theorem h0_104 (hg:GamOK Try.prog G104):Holds Try.prog 104 ⟨ps104,rs104,false,runF TT G104 an104 Try.f104 c104 ps104 rs104⟩:=holds_of tt_ok hg mixed Try.func104 (by kernel_rfl) (by rfl) (by decide +kernel)
noncomputable def at104:Nat→Pt→List Nat→St→Option R104:=atF TT G104 an104 Try.f104 c104 _ _
def sh104_L4 (x0:Int) (x1:Bool) (x2:Int) (x3:ByteArray) (x4:Int) (x5:List (ByteArray × Int)) (x6:List NT):St:=(St.mk (AV.undef :: ((AV.one (SV.int (Go.IntKind.i64) x0)) :: (AV.undef :: ((AV.one (SV.bptr 1000000 0)) :: (AV.undef :: ((AV.one (SV.bptr 1000001 0)) :: ((AV.one (SV.bptr 1000002 0)) :: ((AV.one (SV.ref 1000003 0 [] Option.none)) :: ((AV.one (SV.bool x1)) :: ((AV.one (SV.int (Go.IntKind.i64) x2)) :: (AV.undef :: (AV.undef :: (AV.undef :: (AV.undef :: (AV.undef :: (AV.undef :: (AV.undef :: (AV.undef :: (AV.undef :: (AV.undef :: (AV.undef :: (AV.undef :: (AV.undef :: (AV.undef :: (AV.undef :: (AV.undef :: (AV.undef :: (AV.undef :: (AV.undef :: (AV.undef :: (AV.undef :: (AV.undef :: (AV.undef :: (AV.undef :: (AV.undef :: (AV.undef :: (AV.undef :: (AV.undef :: (AV.undef :: (AV.undef :: (AV.undef :: (AV.undef :: (AV.undef :: (AV.undef :: (AV.undef :: (AV.undef :: (AV.undef :: (AV.undef :: (AV.undef :: (AV.undef :: (AV.undef :: (AV.undef :: (AV.undef :: (AV.undef :: (AV.undef :: (AV.undef :: (AV.undef :: (AV.undef :: (AV.undef :: (AV.undef :: (AV.undef :: (AV.undef :: [])))))))))))))))))))))))))))))))))))))))))))))))))))))))))))))) ((1000000,(Ent.box ((SV.ref 1000004 0 [] Option.none) :: []))) :: ((1000001,(Ent.box ((SV.str x3) :: ((SV.int (Go.IntKind.i64) x4) :: [])))) :: ((1000002,(Ent.box (SV.nil :: []))) :: ((1000003,(Ent.row (⟨95,Ty.str.pair (Ty.int Go.IntKind.i64),x5⟩:Rw) 0 Option.none)) :: ((1000004,(Ent.row (⟨39,(Ty.int Go.IntKind.i64).pair ((Ty.int Go.IntKind.i64).pair ((Ty.int Go.IntKind.i64).pair ((Ty.int Go.IntKind.i64).pair ((Ty.int Go.IntKind.i64).pair ((Ty.int Go.IntKind.i64).pair (Ty.bool.pair (Ty.str.pair (Ty.row (nat_lit 95) (Ty.str.pair (Ty.int Go.IntKind.i64)))))))))),x6⟩:Rw) 0 Option.none)) :: []))))))
noncomputable def st104_top (n:Nat) (lL4:Int→Bool→Int→ByteArray→Int→(List (ByteArray × Int))→(List NT)→Option R104) (a:List NT) (b:Int) (c:ByteArray × Int):Option R104 :=
 lL4 (b) (false) ((0:Int)) (c.1) (c.2) ([]) (a)
noncomputable def st104_L4 (n:Nat) (lL4:Int→Bool→Int→ByteArray→Int→(List (ByteArray × Int))→(List NT)→Option R104) (x0:Int) (x1:Bool) (x2:Int) (x3:ByteArray) (x4:Int) (x5:List (ByteArray × Int)) (x6:List NT):Option R104 :=
 cond (decide ((0:Int)≤x0)) (cond (decide (x0 < (↑x6.length:Int))) (cond (decide (x2 < (↑(List.length (x6.getD x0.toNat ZN).2.2.2.2.2.2.2.2):Int))) (cond (decide ((0:Int)≤x0)) (cond (decide (x0 < (↑x6.length:Int))) (cond (decide ((0:Int)≤x2)) (cond (decide (x2 < (↑(List.length (x6.getD x0.toNat ZN).2.2.2.2.2.2.2.2):Int))) (cond (!x1) (cond (!(Go.Op.bytesLess (ByteArray.toList (List.getD (x6.getD x0.toNat ZN).2.2.2.2.2.2.2.2 x2.toNat (ByteArray.empty,(0:Int))).1) x3.toList || ByteArray.toList (List.getD (x6.getD x0.toNat ZN).2.2.2.2.2.2.2.2 x2.toNat (ByteArray.empty,(0:Int))).1 == x3.toList)) (cond (decide ((x5.length + [(x3,x4)].length) * (24:Nat)≤(140737488355328:Nat))) (cond (decide (((x5 ++ [(x3,x4)]).length + [((List.getD (x6.getD x0.toNat ZN).2.2.2.2.2.2.2.2 x2.toNat (ByteArray.empty,(0:Int))).1,(List.getD (x6.getD x0.toNat ZN).2.2.2.2.2.2.2.2 x2.toNat (ByteArray.empty,(0:Int))).2)].length) * (24:Nat)≤(140737488355328:Nat))) (lL4 (x0) (true) (Go.IntKind.i64.wrap (x2 + (1:Int))) (x3) (x4) (x5 ++ [(x3,x4)] ++ [((List.getD (x6.getD x0.toNat ZN).2.2.2.2.2.2.2.2 x2.toNat (ByteArray.empty,(0:Int))).1,(List.getD (x6.getD x0.toNat ZN).2.2.2.2.2.2.2.2 x2.toNat (ByteArray.empty,(0:Int))).2)]) (x6)) (none)) (none)) (cond (decide ((x5.length + [((List.getD (x6.getD x0.toNat ZN).2.2.2.2.2.2.2.2 x2.toNat (ByteArray.empty,(0:Int))).1,(List.getD (x6.getD x0.toNat ZN).2.2.2.2.2.2.2.2 x2.toNat (ByteArray.empty,(0:Int))).2)].length) * (24:Nat)≤(140737488355328:Nat))) (lL4 (x0) (x1) (Go.IntKind.i64.wrap (x2 + (1:Int))) (x3) (x4) (x5 ++ [((List.getD (x6.getD x0.toNat ZN).2.2.2.2.2.2.2.2 x2.toNat (ByteArray.empty,(0:Int))).1,(List.getD (x6.getD x0.toNat ZN).2.2.2.2.2.2.2.2 x2.toNat (ByteArray.empty,(0:Int))).2)]) (x6)) (none))) (cond (decide ((x5.length + [((List.getD (x6.getD x0.toNat ZN).2.2.2.2.2.2.2.2 x2.toNat (ByteArray.empty,(0:Int))).1,(List.getD (x6.getD x0.toNat ZN).2.2.2.2.2.2.2.2 x2.toNat (ByteArray.empty,(0:Int))).2)].length) * (24:Nat)≤(140737488355328:Nat))) (lL4 (x0) (x1) (Go.IntKind.i64.wrap (x2 + (1:Int))) (x3) (x4) (x5 ++ [((List.getD (x6.getD x0.toNat ZN).2.2.2.2.2.2.2.2 x2.toNat (ByteArray.empty,(0:Int))).1,(List.getD (x6.getD x0.toNat ZN).2.2.2.2.2.2.2.2 x2.toNat (ByteArray.empty,(0:Int))).2)]) (x6)) (none))) (none)) (none)) (none)) (none)) (cond (!x1) (cond (decide ((x5.length + [(x3,x4)].length) * (24:Nat)≤(140737488355328:Nat))) (cond (decide ((0:Int)≤x0)) (cond (decide (x0 < (↑x6.length:Int))) (some ((x6.set x0.toNat ((x6.getD x0.toNat ZN).1,(x6.getD x0.toNat ZN).2.1,(x6.getD x0.toNat ZN).2.2.1,(x6.getD x0.toNat ZN).2.2.2.1,(x6.getD x0.toNat ZN).2.2.2.2.1,(x6.getD x0.toNat ZN).2.2.2.2.2.1,(x6.getD x0.toNat ZN).2.2.2.2.2.2.1,(x6.getD x0.toNat ZN).2.2.2.2.2.2.2.1,x5 ++ [(x3,x4)]),()),())) (none)) (none)) (none)) (cond (decide ((0:Int)≤x0)) (cond (decide (x0 < (↑x6.length:Int))) (some ((x6.set x0.toNat ((x6.getD x0.toNat ZN).1,(x6.getD x0.toNat ZN).2.1,(x6.getD x0.toNat ZN).2.2.1,(x6.getD x0.toNat ZN).2.2.2.1,(x6.getD x0.toNat ZN).2.2.2.2.1,(x6.getD x0.toNat ZN).2.2.2.2.2.1,(x6.getD x0.toNat ZN).2.2.2.2.2.2.1,(x6.getD x0.toNat ZN).2.2.2.2.2.2.2.1,x5),()),())) (none)) (none)))) (none)) (none)
theorem e104_top (n:Nat) (a:List NT) (b:Int) (c:ByteArray × Int):runF TT G104 an104 Try.f104 c104 ps104 rs104 n (a,b,c,())=st104_top n (fun x0 x1 x2 x3 x4 x5 x6=>at104 n (.head 4) [n] (sh104_L4 x0 x1 x2 x3 x4 x5 x6)) a b c:=by kernel_rfl
theorem e104_L4_0 (n:Nat) (x0:Int) (x1:Bool) (x2:Int) (x3:ByteArray) (x4:Int) (x5:List (ByteArray × Int)) (x6:List NT):at104 n (.head 4) [0] (sh104_L4 x0 x1 x2 x3 x4 x5 x6)=none:=by kernel_rfl
theorem e104_L4 (n:Nat) (m4:Nat) (x0:Int) (x1:Bool) (x2:Int) (x3:ByteArray) (x4:Int) (x5:List (ByteArray × Int)) (x6:List NT):at104 n (.head 4) [m4 + 1] (sh104_L4 x0 x1 x2 x3 x4 x5 x6)=st104_L4 n (fun x0 x1 x2 x3 x4 x5 x6=>at104 n (.head 4) [m4] (sh104_L4 x0 x1 x2 x3 x4 x5 x6)) x0 x1 x2 x3 x4 x5 x6:=by kernel_rfl
noncomputable def p104_L4 (n:Nat):Nat→Int→Bool→Int→ByteArray→Int→(List (ByteArray × Int))→(List NT)→Option R104
 | 0,_,_,_,_,_,_,_=>none
 | m + 1,x0,x1,x2,x3,x4,x5,x6=>st104_L4 n (p104_L4 n m) x0 x1 x2 x3 x4 x5 x6
noncomputable def p104 (n:Nat) (a:List NT) (b:Int) (c:ByteArray × Int):Option R104:=st104_top n (p104_L4 n n) a b c
theorem t104_L4 (n:Nat):∀ (m4:Nat) (x0:Int) (x1:Bool) (x2:Int) (x3:ByteArray) (x4:Int) (x5:List (ByteArray × Int)) (x6:List NT),at104 n (.head 4) [m4] (sh104_L4 x0 x1 x2 x3 x4 x5 x6)=p104_L4 n m4 x0 x1 x2 x3 x4 x5 x6:=by
 intro m
 induction m with
 | zero=>intros; rw [e104_L4_0]; rfl
 | succ m ih =>
  intros
  rw [e104_L4]
  try simp only [ih]
  rfl
theorem F104_eq (n:Nat) (a:List NT) (b:Int) (c:ByteArray × Int):runF TT G104 an104 Try.f104 c104 ps104 rs104 n (a,b,c,())=p104 n a b c:=by
 rw [e104_top]
 simp only [t104_L4]
 try rfl
noncomputable def q104 (n:Nat) (x:argsD ps104):Option R104:=p104 n x.1 x.2.1 x.2.2.1
noncomputable def Sm104:Sm:=⟨ps104,rs104,false,q104⟩
theorem holds104 (hg:GamOK Try.prog G104):Holds Try.prog 104 Sm104:=by
 have:=h0_104 hg
 have e:(runF TT G104 an104 Try.f104 c104 ps104 rs104)=q104:=by
  funext n x
  exact F104_eq n x.1 x.2.1 x.2.2.1
 rw [e] at this
 exact this
theorem gam104:GamOK Try.prog G104:=fun _ _ h=>by cases h
theorem hh104:Holds Try.prog 104 Sm104:=holds104 gam104
end Go.Proofs.Ythhopbicmaipgaa.Rx.S

