/- What the functions of this seat compute, each as a plain function on lists and numbers, with the proof that a call answers so. No condition. -/
import Derived.Test.YtbjgiioppmkpiaaProg
import Derived.KernelRfl
import Derived.WalkKit
import Derived.Lib.Walk
import Derived.Lib.Bytealg
import Derived.Laws.Externs
import Derived.Test.YtbjgiioppmkpiaaMK4
set_option linter.unusedVariables false
set_option linter.unusedSimpArgs false
namespace Go.Proofs.Ytbjgiioppmkpiaa.Rx
abbrev NT:Type:=Int×Int×Int×Int×Int×Int×Bool×ByteArray×List (ByteArray×Int)
abbrev ZN:NT:=((0:Int),(0:Int),(0:Int),(0:Int),(0:Int),(0:Int),false,ByteArray.empty,[])
end Go.Proofs.Ytbjgiioppmkpiaa.Rx
namespace Go.Proofs.Ytbjgiioppmkpiaa.Rx
abbrev Aq:Type:=Int×Int×Bool×Bool
abbrev Lb:Type:=List ByteArray
abbrev Lq:Type:=List Aq
abbrev Uu:AV:=AV.undef
abbrev Li:Type:=List Int
abbrev Br:Type:=Bool×Lq×Lq
abbrev Ls:Type:=List Br
abbrev Mm:Type:=(Lb×Li)×(Lb×Li)×Ls×Int
abbrev Ur(k:Nat):List AV:=List.replicate k Uu
abbrev Ai(x:Int):AV:=.one (.int .i64 x)
abbrev Si(x:Int):SV:=.int .i64 x
abbrev Sr(o:Nat):SV:=.ref o 0 [] none
abbrev Er(r:Rw):Ent:=.row r 0 none
abbrev yAq:Ty:=.pair (.int .i64) (.pair (.int .i64) (.pair .bool .bool))
abbrev ySp:Ty:=.pair .bool (.pair (.row 116 yAq) (.row 80 yAq))
end Go.Proofs.Ytbjgiioppmkpiaa.Rx
namespace Go.Proofs.Ytbjgiioppmkpiaa.Rx.S
open Go Go.RowKit Go.Proofs
def tbl:List (TypeId×TI):=[
(2,⟨.int .i64,1,8,[.int .i64],some (.int .i64),false⟩),
(3,⟨.int .i64,1,8,[.int .i64],some (.int .i64),false⟩),
(4,⟨.bool,1,1,[.bool],some .bool,false⟩),
(5,⟨.int .u8,1,1,[.int .u8],some (.int .u8),false⟩),
(6,⟨.int .u8,1,1,[.int .u8],some (.int .u8),false⟩),
(7,⟨.struct [(0,1),(1,1),(2,1),(3,1)],4,24,[.int .i64,.int .i64,.bool,.int .u8],some (.pair (.int .i64) (.pair (.int .i64) (.pair .bool (.int .u8)))),true⟩),
(8,⟨.struct [(0,1),(1,1),(2,1),(3,1)],4,24,[.int .i64,.int .i64,.bool,.int .u8],some (.pair (.int .i64) (.pair (.int .i64) (.pair .bool (.int .u8)))),true⟩),
(9,⟨.str,1,16,[.str],some .str,false⟩),
(10,⟨.str,1,16,[.str],some .str,false⟩),
(11,⟨.str,1,16,[.str],some .str,false⟩),
(12,⟨.int .u64,1,8,[.int .u64],some (.int .u64),false⟩),
(13,⟨.struct [(0,1),(1,1)],2,24,[.str,.int .u64],some (.pair .str (.int .u64)),false⟩),
(14,⟨.struct [(0,1),(1,1)],2,24,[.str,.int .u64],some (.pair .str (.int .u64)),false⟩),
(15,⟨.ptr,1,8,[.ptr],none,false⟩),
(16,⟨.ptr,1,8,[.ptr],none,false⟩),
(17,⟨.ptr,1,8,[.ptr],none,false⟩),
(18,⟨.struct [(0,1)],1,8,[.ptr],none,false⟩),
(19,⟨.struct [(0,1)],1,8,[.ptr],none,false⟩),
(21,⟨.int .i32,1,4,[.int .i32],some (.int .i32),false⟩),
(22,⟨.slice 5,1,24,[.slice],some (.row 5 (.int .u8)),false⟩),
(23,⟨.slice 37,1,24,[.slice],some (.row 37 (.pair (.int .i64) (.pair (.int .i64) (.pair (.int .i64) (.pair (.int .i64) (.pair (.int .i64) (.pair (.int .i64) (.pair .bool (.pair .str (.row 100 (.pair .str (.int .i64)))))))))))),false⟩),
(24,⟨.struct [(0,1)],1,24,[.slice],some (.row 37 (.pair (.int .i64) (.pair (.int .i64) (.pair (.int .i64) (.pair (.int .i64) (.pair (.int .i64) (.pair (.int .i64) (.pair .bool (.pair .str (.row 100 (.pair .str (.int .i64)))))))))))),false⟩),
(25,⟨.struct [(0,1)],1,24,[.slice],some (.row 37 (.pair (.int .i64) (.pair (.int .i64) (.pair (.int .i64) (.pair (.int .i64) (.pair (.int .i64) (.pair (.int .i64) (.pair .bool (.pair .str (.row 100 (.pair .str (.int .i64)))))))))))),false⟩),
(26,⟨.slice 3,1,24,[.slice],some (.row 3 (.int .i64)),false⟩),
(27,⟨.struct [(0,1),(1,1),(2,1)],3,40,[.int .i64,.int .i64,.slice],some (.pair (.int .i64) (.pair (.int .i64) (.row 3 (.int .i64)))),false⟩),
(28,⟨.struct [(0,1),(1,1),(2,1)],3,40,[.int .i64,.int .i64,.slice],some (.pair (.int .i64) (.pair (.int .i64) (.row 3 (.int .i64)))),false⟩),
(35,⟨.slice 100,1,24,[.slice],some (.row 100 (.pair .str (.int .i64))),false⟩),
(36,⟨.struct [(0,1),(1,1),(2,1),(3,1),(4,1),(5,1),(6,1),(7,1),(8,1)],9,96,[.int .i64,.int .i64,.int .i64,.int .i64,.int .i64,.int .i64,.bool,.str,.slice],some (.pair (.int .i64) (.pair (.int .i64) (.pair (.int .i64) (.pair (.int .i64) (.pair (.int .i64) (.pair (.int .i64) (.pair .bool (.pair .str (.row 100 (.pair .str (.int .i64))))))))))),false⟩),
(37,⟨.struct [(0,1),(1,1),(2,1),(3,1),(4,1),(5,1),(6,1),(7,1),(8,1)],9,96,[.int .i64,.int .i64,.int .i64,.int .i64,.int .i64,.int .i64,.bool,.str,.slice],some (.pair (.int .i64) (.pair (.int .i64) (.pair (.int .i64) (.pair (.int .i64) (.pair (.int .i64) (.pair (.int .i64) (.pair .bool (.pair .str (.row 100 (.pair .str (.int .i64))))))))))),false⟩),
(44,⟨.slice 25,1,24,[.slice],some (.row 25 (.row 37 (.pair (.int .i64) (.pair (.int .i64) (.pair (.int .i64) (.pair (.int .i64) (.pair (.int .i64) (.pair (.int .i64) (.pair .bool (.pair .str (.row 100 (.pair .str (.int .i64))))))))))))),false⟩),
(45,⟨.struct [(0,1),(1,1)],2,32,[.slice,.int .i64],some (.pair (.row 25 (.row 37 (.pair (.int .i64) (.pair (.int .i64) (.pair (.int .i64) (.pair (.int .i64) (.pair (.int .i64) (.pair (.int .i64) (.pair .bool (.pair .str (.row 100 (.pair .str (.int .i64))))))))))))) (.int .i64)),false⟩),
(46,⟨.struct [(0,1),(1,1)],2,32,[.slice,.int .i64],some (.pair (.row 25 (.row 37 (.pair (.int .i64) (.pair (.int .i64) (.pair (.int .i64) (.pair (.int .i64) (.pair (.int .i64) (.pair (.int .i64) (.pair .bool (.pair .str (.row 100 (.pair .str (.int .i64))))))))))))) (.int .i64)),false⟩),
(54,⟨.slice 68,1,24,[.slice],some (.row 68 (.row 161 (.pair (.int .i64) (.pair (.int .i64) (.pair (.int .i64) (.pair (.int .i64) (.pair (.int .i64) (.pair (.int .i64) (.pair .bool (.pair .str (.row 178 (.pair .str (.int .i64))))))))))))),false⟩),
(55,⟨.struct [(0,1),(1,1)],2,32,[.slice,.int .i64],some (.pair (.row 68 (.row 161 (.pair (.int .i64) (.pair (.int .i64) (.pair (.int .i64) (.pair (.int .i64) (.pair (.int .i64) (.pair (.int .i64) (.pair .bool (.pair .str (.row 178 (.pair .str (.int .i64))))))))))))) (.int .i64)),false⟩),
(56,⟨.struct [(0,1),(1,1)],2,32,[.slice,.int .i64],some (.pair (.row 68 (.row 161 (.pair (.int .i64) (.pair (.int .i64) (.pair (.int .i64) (.pair (.int .i64) (.pair (.int .i64) (.pair (.int .i64) (.pair .bool (.pair .str (.row 178 (.pair .str (.int .i64))))))))))))) (.int .i64)),false⟩),
(57,⟨.struct [(0,1),(1,1),(2,1)],3,40,[.int .i64,.int .i64,.slice],some (.pair (.int .i64) (.pair (.int .i64) (.row 3 (.int .i64)))),false⟩),
(66,⟨.slice 161,1,24,[.slice],some (.row 161 (.pair (.int .i64) (.pair (.int .i64) (.pair (.int .i64) (.pair (.int .i64) (.pair (.int .i64) (.pair (.int .i64) (.pair .bool (.pair .str (.row 178 (.pair .str (.int .i64)))))))))))),false⟩),
(67,⟨.struct [(0,1)],1,24,[.slice],some (.row 161 (.pair (.int .i64) (.pair (.int .i64) (.pair (.int .i64) (.pair (.int .i64) (.pair (.int .i64) (.pair (.int .i64) (.pair .bool (.pair .str (.row 178 (.pair .str (.int .i64)))))))))))),false⟩),
(68,⟨.struct [(0,1)],1,24,[.slice],some (.row 161 (.pair (.int .i64) (.pair (.int .i64) (.pair (.int .i64) (.pair (.int .i64) (.pair (.int .i64) (.pair (.int .i64) (.pair .bool (.pair .str (.row 178 (.pair .str (.int .i64)))))))))))),false⟩),
(86,⟨.ptr,1,8,[.ptr],none,false⟩),
(99,⟨.struct [(0,1),(1,1)],2,24,[.str,.int .i64],some (.pair .str (.int .i64)),true⟩),
(100,⟨.struct [(0,1),(1,1)],2,24,[.str,.int .i64],some (.pair .str (.int .i64)),true⟩),
(128,⟨.int .i64,1,8,[.int .i64],some (.int .i64),false⟩),
(132,⟨.struct [(0,1),(1,1)],2,32,[.slice,.int .i64],some (.pair (.row 5 (.int .u8)) (.int .i64)),false⟩),
(133,⟨.struct [(0,1),(1,1)],2,32,[.slice,.int .i64],some (.pair (.row 5 (.int .u8)) (.int .i64)),false⟩),
(139,⟨.slice 4,1,24,[.slice],some (.row 4 .bool),false⟩),
(144,⟨.slice 9,1,24,[.slice],some (.row 9 .str),false⟩),
(148,⟨.ptr,1,8,[.ptr],none,false⟩),
(149,⟨.ptr,1,8,[.ptr],none,false⟩),
(159,⟨.slice 178,1,24,[.slice],some (.row 178 (.pair .str (.int .i64))),false⟩),
(160,⟨.struct [(0,1),(1,1),(2,1),(3,1),(4,1),(5,1),(6,1),(7,1),(8,1)],9,96,[.int .i64,.int .i64,.int .i64,.int .i64,.int .i64,.int .i64,.bool,.str,.slice],some (.pair (.int .i64) (.pair (.int .i64) (.pair (.int .i64) (.pair (.int .i64) (.pair (.int .i64) (.pair (.int .i64) (.pair .bool (.pair .str (.row 178 (.pair .str (.int .i64))))))))))),false⟩),
(161,⟨.struct [(0,1),(1,1),(2,1),(3,1),(4,1),(5,1),(6,1),(7,1),(8,1)],9,96,[.int .i64,.int .i64,.int .i64,.int .i64,.int .i64,.int .i64,.bool,.str,.slice],some (.pair (.int .i64) (.pair (.int .i64) (.pair (.int .i64) (.pair (.int .i64) (.pair (.int .i64) (.pair (.int .i64) (.pair .bool (.pair .str (.row 178 (.pair .str (.int .i64))))))))))),false⟩),
(172,⟨.int .u64,1,8,[.int .u64],some (.int .u64),false⟩),
(178,⟨.struct [(0,1),(1,1)],2,24,[.str,.int .i64],some (.pair .str (.int .i64)),true⟩),
(183,⟨.struct [(0,1),(1,1),(2,1),(3,1)],4,40,[.ptr,.ptr,.ptr,.str],none,false⟩),
(184,⟨.struct [(0,1),(1,1),(2,1),(3,1)],4,40,[.ptr,.ptr,.ptr,.str],none,false⟩),
(186,⟨.struct [(0,0)],0,0,[],none,false⟩),
(187,⟨.struct [(0,0)],0,0,[],none,false⟩),
(189,⟨.int .u32,1,4,[.int .u32],some (.int .u32),false⟩),
(190,⟨.int .u8,1,1,[.int .u8],some (.int .u8),false⟩),
(191,⟨.int .u8,1,1,[.int .u8],some (.int .u8),false⟩),
(193,⟨.ptr,1,8,[.ptr],none,false⟩),
(194,⟨.int .i32,1,4,[.int .i32],some (.int .i32),false⟩),
(195,⟨.int .i32,1,4,[.int .i32],some (.int .i32),false⟩),
(199,⟨.other,1,8,[.ptr],none,false⟩)]
def TT:TB:=tbOf tbl
theorem zaw:TBok Try.prog TT:=tbOk (by decide +kernel)
abbrev i64:Ty:=.int .i64
abbrev tEn:Ty:=.pair .str i64
abbrev tRd:Ty:=.pair (.row 5 (.int .u8)) i64
abbrev tIn(a:TypeId):Ty:=.pair i64 (.pair i64 (.pair i64 (.pair i64 (.pair i64 (.pair i64 (.pair .bool (.pair .str (.row a tEn))))))))
abbrev tFs:Ty:=.row 37 (tIn 100)
abbrev tLf:Ty:=.row 161 (tIn 178)
abbrev tCr:Ty:=.pair i64 (.pair i64 (.row 3 i64))
theorem zau:Try.prog.follows .mixedOrders=true:=by kernel_rfl
abbrev Hp(f:FuncId)(s:Sm):Prop:=zdo Try.prog f s
theorem hOf{P:Program}{f:FuncId}{ps:List PK}{rs:List RK}{b:Bool}{F q:Nat→zai ps→Option (zah rs×zag ps)}(h:zdo P f ⟨ps,rs,b,F⟩)(e:∀ n x,F n x=q n x):zdo P f ⟨ps,rs,b,q⟩:=by
 have:F=q:=funext fun n=>funext (e n);subst this;exact h
def Gk (f:FuncId) (s:Sm):Prop:=(∃ fn c,Try.prog.funcs[f % 1000000]?=some fn ∧ fn.body=some c ∧ (fn.name == "runtime.NumGoroutine")=false) ∧ ze6 Try.prog f s
theorem gj {f:FuncId} {s t:Sm} (h:some s=some t) (y:Gk f s):(∃ fn c,Try.prog.funcs[f % 1000000]?=some fn ∧ fn.body=some c ∧ (fn.name == "runtime.NumGoroutine")=false) ∧ ze6 Try.prog f t:=by
 injection h with h;subst h;exact y
end Go.Proofs.Ytbjgiioppmkpiaa.Rx.S
namespace Go.Proofs.Ytbjgiioppmkpiaa.Rx.S
open Go Go.RowKit Go.Proofs
set_option maxRecDepth 100000
noncomputable def c102:Code:=(Try.f102.body.getD .skip)
def yqk:An:=⟨fun _=>⟨[],[]⟩,fun _ _=>none⟩
abbrev ycl:List PK:=[.bx tRd,.val i64 false]
abbrev yie:List RK:=[.val i64 false]
abbrev R102:=zah yie×zag ycl
noncomputable def G102:Gam:=fun _=>none
noncomputable def zf9(n:Nat)(a:Li×Int)(b:Int):Option R102 :=
 cond (decide (b<(1:Int))) (some (((0:Int),()),((a.1,IntKind.i64.wrap (a.2+(1:Int))),()))) (cond (decide ((↑(List.length a.1):Int)=(0:Int))) (some (((0:Int),()),((a.1,IntKind.i64.wrap (a.2+(1:Int))),()))) (cond (decide (IntKind.i64.wrap (IntKind.i64.wrap (a.2+(1:Int)) - (1:Int))<(↑(List.length a.1):Int))) (cond (decide ((0:Int)≤IntKind.i64.wrap (IntKind.i64.wrap (a.2+(1:Int)) - (1:Int)))) (cond (decide (IntKind.i64.wrap (IntKind.i64.wrap (a.2+(1:Int)) - (1:Int))<(↑(List.length a.1):Int))) (cond (!decide (b=(0:Int))) (some (((IntKind.i64.wrap (List.getD a.1 (IntKind.i64.wrap (IntKind.i64.wrap (a.2+(1:Int)) - (1:Int))).toNat (0:Int))).tmod b,()),((a.1,IntKind.i64.wrap (a.2+(1:Int))),()))) none) none) none) (cond (!decide ((↑(List.length a.1):Int)=(0:Int))) (cond (decide ((0:Int)≤(IntKind.i64.wrap (IntKind.i64.wrap (a.2+(1:Int)) - (1:Int))).tmod (↑(List.length a.1):Int))) (cond (decide ((IntKind.i64.wrap (IntKind.i64.wrap (a.2+(1:Int)) - (1:Int))).tmod (↑(List.length a.1):Int)<(↑(List.length a.1):Int))) (cond (!decide ((↑(List.length a.1):Int)=(0:Int))) (cond (decide ((0:Int)≤(IntKind.i64.wrap (IntKind.i64.wrap (IntKind.i64.wrap (IntKind.i64.wrap (a.2+(1:Int)) - (1:Int))*(7:Int))+(3:Int))).tmod (↑(List.length a.1):Int))) (cond (decide ((IntKind.i64.wrap (IntKind.i64.wrap (IntKind.i64.wrap (IntKind.i64.wrap (a.2+(1:Int)) - (1:Int))*(7:Int))+(3:Int))).tmod (↑(List.length a.1):Int)<(↑(List.length a.1):Int))) (cond (!decide ((↑(List.length a.1):Int)=(0:Int))) (cond (!decide (b=(0:Int))) (some (((IntKind.i64.wrap (↑(BitVec.ofInt IntKind.i64.bits (IntKind.i64.wrap (IntKind.i64.wrap (IntKind.i64.wrap (IntKind.i64.wrap (IntKind.i64.wrap (List.getD a.1 ((IntKind.i64.wrap (IntKind.i64.wrap (a.2+(1:Int)) - (1:Int))).tmod (↑(List.length a.1):Int)).toNat (0:Int))*(131:Int))+IntKind.i64.wrap (IntKind.i64.wrap (List.getD a.1 ((IntKind.i64.wrap (IntKind.i64.wrap (IntKind.i64.wrap (IntKind.i64.wrap (a.2+(1:Int)) - (1:Int))*(7:Int))+(3:Int))).tmod (↑(List.length a.1):Int)).toNat (0:Int))*(1117:Int)))+IntKind.i64.wrap (IntKind.i64.wrap (IntKind.i64.wrap (a.2+(1:Int)) - (1:Int))*(29:Int)))+IntKind.i64.wrap (IntKind.i64.wrap ((IntKind.i64.wrap (IntKind.i64.wrap (a.2+(1:Int)) - (1:Int))).tdiv (↑(List.length a.1):Int))*(53:Int)))) ^^^ BitVec.ofInt IntKind.i64.bits (IntKind.i64.wrap ((IntKind.i64.wrap (IntKind.i64.wrap (IntKind.i64.wrap (IntKind.i64.wrap (IntKind.i64.wrap (List.getD a.1 ((IntKind.i64.wrap (IntKind.i64.wrap (a.2+(1:Int)) - (1:Int))).tmod (↑(List.length a.1):Int)).toNat (0:Int))*(131:Int))+IntKind.i64.wrap (IntKind.i64.wrap (List.getD a.1 ((IntKind.i64.wrap (IntKind.i64.wrap (IntKind.i64.wrap (IntKind.i64.wrap (a.2+(1:Int)) - (1:Int))*(7:Int))+(3:Int))).tmod (↑(List.length a.1):Int)).toNat (0:Int))*(1117:Int)))+IntKind.i64.wrap (IntKind.i64.wrap (IntKind.i64.wrap (a.2+(1:Int)) - (1:Int))*(29:Int)))+IntKind.i64.wrap (IntKind.i64.wrap ((IntKind.i64.wrap (IntKind.i64.wrap (a.2+(1:Int)) - (1:Int))).tdiv (↑(List.length a.1):Int))*(53:Int)))).tdiv (64:Int)))).toNat:Int)).tmod b,()),((a.1,IntKind.i64.wrap (a.2+(1:Int))),()))) none) none) none) none) none) none) none) none)))
theorem yet(n:Nat)(a:Li×Int)(b:Int):runF TT G102 yqk Try.f102 c102 ycl yie n (a,b,())=zf9 n a b:=by kernel_rfl
noncomputable def p102(n:Nat)(a:Li×Int)(b:Int):Option R102:=zf9 n a b
noncomputable def q102(n:Nat)(x:zai ycl):Option R102:=p102 n x.1 x.2.1
noncomputable def zrj:Sm:=⟨ycl,yie,true,q102⟩
theorem yph:GamOK Try.prog G102:=fun _ _ h=>by cases h
theorem yom:Hp 102 zrj:=hOf (zaf (an:=yqk) (c:=c102) zaw yph zau Try.func102 (by kernel_rfl) rfl (by decide +kernel)) fun n x=>(yet n x.1 x.2.1).trans rfl
theorem y102:Gk 102 zrj:=⟨⟨Try.f102,c102,Try.func102,by kernel_rfl,by decide +kernel⟩,yom⟩
noncomputable def c55:Code:=(Try.f55.body.getD .skip)
def an55:An:=⟨fun _=>⟨[],[]⟩,fun _ _=>none⟩
abbrev ps55:List PK:=[.val (.row 5 (.int .u8)) false]
abbrev rs55:List RK:=[.bx tRd]
abbrev R55:=zah rs55×zag ps55
noncomputable def G55:Gam:=fun _=>none
noncomputable def ziw(n:Nat)(a:Li):Option R55 :=
 cond (decide ((2000:Int)<(↑a.length:Int))) (cond (decide ((2000:Int)≤(↑a.length:Int))) (some (((List.take (Int.toNat (2000:Int)) a,(0:Int)),()),())) none) (some (((a,(0:Int)),()),()))
theorem ykf(n:Nat)(a:Li):runF TT G55 an55 Try.f55 c55 ps55 rs55 n (a,())=ziw n a:=by kernel_rfl
noncomputable def p55(n:Nat)(a:Li):Option R55:=ziw n a
noncomputable def q55(n:Nat)(x:zai ps55):Option R55:=p55 n x.1
noncomputable def Sm55:Sm:=⟨ps55,rs55,true,q55⟩
theorem gam55:GamOK Try.prog G55:=fun _ _ h=>by cases h
theorem hh55:Hp 55 Sm55:=hOf (zaf (an:=an55) (c:=c55) zaw gam55 zau Try.func55 (by kernel_rfl) rfl (by decide +kernel)) fun n x=>(ykf n x.1).trans rfl
theorem y55:Gk 55 Sm55:=⟨⟨Try.f55,c55,Try.func55,by kernel_rfl,by decide +kernel⟩,hh55⟩
noncomputable def c71:Code:=(Try.f71.body.getD .skip)
def an71:An:=⟨fun _=>⟨[],[]⟩,fun _ _=>none⟩
abbrev ps71:List PK:=[.bx tRd]
abbrev rs71:List RK:=[.val .str false]
abbrev R71:=zah rs71×zag ps71
noncomputable def G71:Gam:=fun f=>match f with|102=>some zrj|_=>none
noncomputable def zil(n:Nat)(a:Li×Int):Option R71 :=
 (q102 n ((a.1,a.2),(24:Int),())).bind fun r0=>cond (decide (r0.1.1=(0:Int))) ((q102 n ((r0.2.1.1,r0.2.1.2),(5:Int),())).bind fun r1=>cond (decide ((0:Int)≤r1.1.1)) (cond (decide (r1.1.1<(↑[ByteArray.mk #[],ByteArray.mk #[(65:UInt8)],ByteArray.mk #[(97:UInt8),(98:UInt8),(99:UInt8),(100:UInt8)],ByteArray.mk #[(46:UInt8),(46:UInt8)],ByteArray.mk #[(97:UInt8),(47:UInt8)]].length:Int))) (some (([ByteArray.mk #[],ByteArray.mk #[(65:UInt8)],ByteArray.mk #[(97:UInt8),(98:UInt8),(99:UInt8),(100:UInt8)],ByteArray.mk #[(46:UInt8),(46:UInt8)],ByteArray.mk #[(97:UInt8),(47:UInt8)]].getD (Int.toNat r1.1.1) ByteArray.empty,()),((r1.2.1.1,r1.2.1.2),()))) none) none) ((q102 n ((r0.2.1.1,r0.2.1.2),(4:Int),())).bind fun r2=>cond (decide ((0:Int)≤r2.1.1)) (cond (decide (r2.1.1<(↑[ByteArray.mk #[(97:UInt8)],ByteArray.mk #[(98:UInt8)],ByteArray.mk #[(99:UInt8)],ByteArray.mk #[(97:UInt8),(98:UInt8)]].length:Int))) (some (([ByteArray.mk #[(97:UInt8)],ByteArray.mk #[(98:UInt8)],ByteArray.mk #[(99:UInt8)],ByteArray.mk #[(97:UInt8),(98:UInt8)]].getD (Int.toNat r2.1.1) ByteArray.empty,()),((r2.2.1.1,r2.2.1.2),()))) none) none)
theorem yj1(n:Nat)(a:Li×Int):runF TT G71 an71 Try.f71 c71 ps71 rs71 n (a,())=zil n a:=by kernel_rfl
noncomputable def p71(n:Nat)(a:Li×Int):Option R71:=zil n a
noncomputable def q71(n:Nat)(x:zai ps71):Option R71:=p71 n x.1
noncomputable def Sm71:Sm:=⟨ps71,rs71,true,q71⟩
theorem gam71:GamOK Try.prog G71:=by intro f s h;unfold G71 at h;split at h;exact gj h y102;cases h
theorem hh71:Hp 71 Sm71:=hOf (zaf (an:=an71) (c:=c71) zaw gam71 zau Try.func71 (by kernel_rfl) rfl (by decide +kernel)) fun n x=>(yj1 n x.1).trans rfl
theorem y71:Gk 71 Sm71:=⟨⟨Try.f71,c71,Try.func71,by kernel_rfl,by decide +kernel⟩,hh71⟩
noncomputable def c66:Code:=(Try.f66.body.getD .skip)
def an66:An:=⟨fun _=>⟨[],[]⟩,fun _ _=>none⟩
abbrev ps66:List PK:=[.val i64 false,.val i64 false,.val i64 false]
abbrev rs66:List RK:=[.val .bool false]
abbrev R66:=zah rs66×zag ps66
noncomputable def G66:Gam:=fun _=>none
noncomputable def zip(n:Nat)(a b c:Int):Option R66 :=
 cond (decide (b≤a)) (some ((decide (a≤c),()),())) (some ((false,()),()))
theorem yj6(n:Nat)(a b c:Int):runF TT G66 an66 Try.f66 c66 ps66 rs66 n (a,b,c,())=zip n a b c:=by kernel_rfl
noncomputable def p66(n:Nat)(a b c:Int):Option R66:=zip n a b c
noncomputable def q66(n:Nat)(x:zai ps66):Option R66:=p66 n x.1 x.2.1 x.2.2.1
noncomputable def Sm66:Sm:=⟨ps66,rs66,false,q66⟩
theorem gam66:GamOK Try.prog G66:=fun _ _ h=>by cases h
theorem hh66:Hp 66 Sm66:=hOf (zaf (an:=an66) (c:=c66) zaw gam66 zau Try.func66 (by kernel_rfl) rfl (by decide +kernel)) fun n x=>(yj6 n x.1 x.2.1 x.2.2.1).trans rfl
theorem y66:Gk 66 Sm66:=⟨⟨Try.f66,c66,Try.func66,by kernel_rfl,by decide +kernel⟩,hh66⟩
noncomputable def c118:Code:=(Try.f118.body.getD .skip)
def yqg:An:=⟨fun _=>⟨[],[]⟩,fun _ _=>none⟩
abbrev ycb:List PK:=[.val i64 false]
abbrev yh7:List RK:=[.val .bool false]
abbrev R118:=zah yh7×zag ycb
noncomputable def G118:Gam:=fun f=>match f with|66=>some Sm66|_=>none
noncomputable def zf1(n:Nat)(a:Int):Option R118 :=
 (q66 n (a,(0:Int),(9:Int),())).bind fun r0=>some ((r0.1.1,()),())
theorem yek(n:Nat)(a:Int):runF TT G118 yqg Try.f118 c118 ycb yh7 n (a,())=zf1 n a:=by kernel_rfl
noncomputable def p118(n:Nat)(a:Int):Option R118:=zf1 n a
noncomputable def q118(n:Nat)(x:zai ycb):Option R118:=p118 n x.1
noncomputable def zzs:Sm:=⟨ycb,yh7,false,q118⟩
theorem yo_:GamOK Try.prog G118:=by intro f s h;unfold G118 at h;split at h;exact gj h y66;cases h
theorem hh118:Hp 118 zzs:=hOf (zaf (an:=yqg) (c:=c118) zaw yo_ zau Try.func118 (by kernel_rfl) rfl (by decide +kernel)) fun n x=>(yek n x.1).trans rfl
theorem y118:Gk 118 zzs:=⟨⟨Try.f118,c118,Try.func118,by kernel_rfl,by decide +kernel⟩,hh118⟩
noncomputable def c112:Code:=(Try.f112.body.getD .skip)
def yqh:An:=⟨fun _=>⟨[],[]⟩,fun _ _=>none⟩
abbrev ych:List PK:=[.val i64 false,.val i64 false]
abbrev yia:List RK:=[.own tFs true,.val .bool false]
abbrev R112:=zah yia×zag ych
noncomputable def G112:Gam:=fun f=>match f with|66=>some Sm66|118=>some zzs|_=>none
noncomputable def zf5(n:Nat)(a b:Int):Option R112 :=
 (q118 n (a,())).bind fun r0=>cond (!r0.1.1) (some (([],(false,())),())) ((q66 n (b,(0:Int),(511:Int),())).bind fun r1=>cond (!r1.1.1) (some (([],(false,())),())) (some (((List.replicate (Int.toNat (10:Int)) ZN).set (Int.toNat (0:Int)) ((2:Int),b,a,a,(0:Int),(0:Int),false,ByteArray.empty,[]),(true,())),())))
theorem yep(n:Nat)(a b:Int):runF TT G112 yqh Try.f112 c112 ych yia n (a,b,())=zf5 n a b:=by kernel_rfl
noncomputable def p112(n:Nat)(a b:Int):Option R112:=zf5 n a b
noncomputable def q112(n:Nat)(x:zai ych):Option R112:=p112 n x.1 x.2.1
noncomputable def yl6:Sm:=⟨ych,yia,false,q112⟩
theorem ypd:GamOK Try.prog G112:=by intro f s h;unfold G112 at h;split at h;exact gj h y66;exact gj h y118;cases h
theorem hh112:Hp 112 yl6:=hOf (zaf (an:=yqh) (c:=c112) zaw ypd zau Try.func112 (by kernel_rfl) rfl (by decide +kernel)) fun n x=>(yep n x.1 x.2.1).trans rfl
theorem y112:Gk 112 yl6:=⟨⟨Try.f112,c112,Try.func112,by kernel_rfl,by decide +kernel⟩,hh112⟩
noncomputable def c57:Code:=(Try.f57.body.getD .skip)
def an57:An:=⟨fun r=>match r with|3=>⟨[0,2,3,4],[]⟩|_=>⟨[],[]⟩,fun _ _=>none⟩
abbrev ps57:List PK:=[.bx tRd]
abbrev rs57:List RK:=[.own tCr true]
abbrev R57:=zah rs57×zag ps57
noncomputable def G57:Gam:=fun f=>match f with|102=>some zrj|_=>none
noncomputable def at57:Nat→Pt→List Nat→St→Option R57:=atF TT G57 an57 Try.f57 c57 _ _
def zj4(x0:Int)(x1:Li)(x2 x3 x4 x5 x6:Int)(x7:Li):St:=(St.mk ([AV.par 0 false [SV.bptr 1000000 0],Uu,AV.one (SV.bptr 1000001 0),AV.one (SV.bptr 1000002 0),Ai x0]++Ur 48) [(1000000,(Ent.box [SV.con (⟨5,Ty.int IntKind.u8,x1⟩:Rw),Si x2])),(1000001,(Ent.box [Si x3,Si x4,SV.nil])),(1000002,(Ent.box [Si x5,Si x6,Sr 1000003])),(1000003,Er ⟨3,Ty.int .i64,x7⟩)])
noncomputable def ziu(n:Nat)(lL3:Int→Li→Int→Int→Int→Int→Int→Li→Option R57)(a:Li×Int):Option R57 :=
 (q102 n ((a.1,a.2),(4:Int),())).bind fun r0=>(q102 n ((r0.2.1.1,r0.2.1.2),(4:Int),())).bind fun r1=>lL3 (0:Int) r1.2.1.1 r1.2.1.2 (0:Int) (0:Int) r0.1.1 r1.1.1 ([])
noncomputable def zm3(n:Nat)(lL3:Int→Li→Int→Int→Int→Int→Int→Li→Option R57)(x0:Int)(x1:Li)(x2 x3 x4 x5 x6:Int)(x7:Li):Option R57 :=
 cond (decide (x0<5)) (cond (decide ((↑x7.length:Int)<(3:Int))) ((q102 n ((x1,x2),(4:Int),())).bind fun r3=>cond (decide (r3.1.1=(0:Int))) (cond (decide ((x7.length+[x0].length)*(8:Nat)≤(140737488355328:Nat))) (lL3 (IntKind.i64.wrap (x0+1)) r3.2.1.1 r3.2.1.2 x3 x4 x5 x6 (x7++[x0])) none) (lL3 (IntKind.i64.wrap (x0+1)) r3.2.1.1 r3.2.1.2 x3 x4 x5 x6 x7)) ((q102 n ((x1,x2),(30:Int),())).bind fun r4=>cond (decide (r4.1.1=(0:Int))) ((q102 n ((r4.2.1.1,r4.2.1.2),(3:Int),())).bind fun r5=>cond (decide ((0:Int)≤r5.1.1)) (cond (decide (r5.1.1<(↑[(-1:Int),(10:Int),(9:Int)].length:Int))) (some ((([(-1:Int),(10:Int),(9:Int)].getD (Int.toNat r5.1.1) (0:Int),(x6,x7)),()),((r5.2.1.1,r5.2.1.2),()))) none) none) (cond (decide (r4.1.1=(1:Int))) ((q102 n ((r4.2.1.1,r4.2.1.2),(3:Int),())).bind fun r6=>cond (decide ((0:Int)≤r6.1.1)) (cond (decide (r6.1.1<(↑[(0:Int),(9:Int),(10:Int)].length:Int))) (cond (decide ((x7.length+[[(0:Int),(9:Int),(10:Int)].getD (Int.toNat r6.1.1) (0:Int)].length)*(8:Nat)≤(140737488355328:Nat))) (some (((x5,(x6,x7++[[(0:Int),(9:Int),(10:Int)].getD (Int.toNat r6.1.1) (0:Int)])),()),((r6.2.1.1,r6.2.1.2),()))) none) none) none) (some (((x5,(x6,x7)),()),((r4.2.1.1,r4.2.1.2),())))))) ((q102 n ((x1,x2),(30:Int),())).bind fun r7=>cond (decide (r7.1.1=(0:Int))) ((q102 n ((r7.2.1.1,r7.2.1.2),(3:Int),())).bind fun r8=>cond (decide ((0:Int)≤r8.1.1)) (cond (decide (r8.1.1<(↑[(-1:Int),(10:Int),(9:Int)].length:Int))) (some ((([(-1:Int),(10:Int),(9:Int)].getD (Int.toNat r8.1.1) (0:Int),(x6,x7)),()),((r8.2.1.1,r8.2.1.2),()))) none) none) (cond (decide (r7.1.1=(1:Int))) ((q102 n ((r7.2.1.1,r7.2.1.2),(3:Int),())).bind fun r9=>cond (decide ((0:Int)≤r9.1.1)) (cond (decide (r9.1.1<(↑[(0:Int),(9:Int),(10:Int)].length:Int))) (cond (decide ((x7.length+[[(0:Int),(9:Int),(10:Int)].getD (Int.toNat r9.1.1) (0:Int)].length)*(8:Nat)≤(140737488355328:Nat))) (some (((x5,(x6,x7++[[(0:Int),(9:Int),(10:Int)].getD (Int.toNat r9.1.1) (0:Int)])),()),((r9.2.1.1,r9.2.1.2),()))) none) none) none) (some (((x5,(x6,x7)),()),((r7.2.1.1,r7.2.1.2),())))))
theorem ykd(n:Nat)(a:Li×Int):runF TT G57 an57 Try.f57 c57 ps57 rs57 n (a,())=ziu n (fun x0 x1 x2 x3 x4 x5 x6 x7=>at57 n (.head 3) [n] (zj4 x0 x1 x2 x3 x4 x5 x6 x7)) a:=by kernel_rfl
theorem ydx(n:Nat)(x0:Int)(x1:Li)(x2 x3 x4 x5 x6:Int)(x7:Li):at57 n (.head 3) [0] (zj4 x0 x1 x2 x3 x4 x5 x6 x7)=none:=by kernel_rfl
theorem ypv(n m3:Nat)(x0:Int)(x1:Li)(x2 x3 x4 x5 x6:Int)(x7:Li):at57 n (.head 3) [m3+1] (zj4 x0 x1 x2 x3 x4 x5 x6 x7)=zm3 n (fun x0 x1 x2 x3 x4 x5 x6 x7=>at57 n (.head 3) [m3] (zj4 x0 x1 x2 x3 x4 x5 x6 x7)) x0 x1 x2 x3 x4 x5 x6 x7:=by kernel_rfl
noncomputable def zl6(n:Nat):Nat→Int→Li→Int→Int→Int→Int→Int→Li→Option R57
 |0,_,_,_,_,_,_,_,_=>none
 |m+1,x0,x1,x2,x3,x4,x5,x6,x7=>zm3 n (zl6 n m) x0 x1 x2 x3 x4 x5 x6 x7
noncomputable def p57(n:Nat)(a:Li×Int):Option R57:=ziu n (zl6 n n) a
theorem yms(n:Nat):∀ (m3:Nat) (x0:Int) (x1:Li) (x2 x3 x4 x5 x6:Int) (x7:Li),at57 n (.head 3) [m3] (zj4 x0 x1 x2 x3 x4 x5 x6 x7)=zl6 n m3 x0 x1 x2 x3 x4 x5 x6 x7:=by
 intro m
 induction m with
 |zero=>intros;rw[ydx];rfl
 |succ m ih =>
  intros;rw[ypv]
  try simp only[ih]
  rfl
noncomputable def q57(n:Nat)(x:zai ps57):Option R57:=p57 n x.1
noncomputable def Sm57:Sm:=⟨ps57,rs57,true,q57⟩
theorem gam57:GamOK Try.prog G57:=by intro f s h;unfold G57 at h;split at h;exact gj h y102;cases h
theorem hh57:Hp 57 Sm57:=hOf (zaf (an:=an57) (c:=c57) zaw gam57 zau Try.func57 (by kernel_rfl) rfl (by decide +kernel)) fun n x=>(ykd n x.1).trans (by simp only[yms];try rfl)
theorem y57:Gk 57 Sm57:=⟨⟨Try.f57,c57,Try.func57,by kernel_rfl,by decide +kernel⟩,hh57⟩
noncomputable def c65:Code:=(Try.f65.body.getD .skip)
def an65:An:=⟨fun _=>⟨[],[]⟩,fun _ _=>none⟩
abbrev ps65:List PK:=[.val tFs true,.val i64 false]
abbrev rs65:List RK:=[.val .bool false]
abbrev R65:=zah rs65×zag ps65
noncomputable def G65:Gam:=fun f=>match f with|66=>some Sm66|_=>none
noncomputable def ziq(n:Nat)(a:List NT)(b:Int):Option R65 :=
 (q66 n (b,(0:Int),IntKind.i64.wrap ((↑a.length:Int) - (1:Int)),())).bind fun r0=>cond r0.1.1 (cond (decide ((0:Int)≤b)) (cond (decide (b<(↑a.length:Int))) (some ((!decide ((a.getD b.toNat ZN).1=(0:Int)),()),())) none) none) (some ((false,()),()))
theorem yj7(n:Nat)(a:List NT)(b:Int):runF TT G65 an65 Try.f65 c65 ps65 rs65 n (a,b,())=ziq n a b:=by kernel_rfl
noncomputable def p65(n:Nat)(a:List NT)(b:Int):Option R65:=ziq n a b
noncomputable def q65(n:Nat)(x:zai ps65):Option R65:=p65 n x.1 x.2.1
noncomputable def Sm65:Sm:=⟨ps65,rs65,false,q65⟩
theorem gam65:GamOK Try.prog G65:=by intro f s h;unfold G65 at h;split at h;exact gj h y66;cases h
theorem hh65:Hp 65 Sm65:=hOf (zaf (an:=an65) (c:=c65) zaw gam65 zau Try.func65 (by kernel_rfl) rfl (by decide +kernel)) fun n x=>(yj7 n x.1 x.2.1).trans rfl
theorem y65:Gk 65 Sm65:=⟨⟨Try.f65,c65,Try.func65,by kernel_rfl,by decide +kernel⟩,hh65⟩
noncomputable def c160:Code:=(Try.f160.body.getD .skip)
def ylc:An:=⟨fun r=>match r with|2=>⟨[0,1,5],[]⟩|_=>⟨[],[]⟩,fun _ _=>none⟩
abbrev ybu:List PK:=[.val (.row 3 i64) false,.val i64 false]
abbrev yhp:List RK:=[.val .bool false]
abbrev R160:=zah yhp×zag ybu
noncomputable def G160:Gam:=fun _=>none
noncomputable def zyy:Nat→Pt→List Nat→St→Option R160:=atF TT G160 ylc Try.f160 c160 _ _
def zge(x0:Li)(x1 x2:Int):St:=(St.mk ([AV.one (SV.con (⟨3,Ty.int .i64,x0⟩:Rw)),Ai x1,Uu,Uu,Uu,Ai x2]++Ur 12) [])
noncomputable def zfj(n:Nat)(lL2:Li→Int→Int→Option R160)(a:Li)(b:Int):Option R160 :=
 lL2 a b (0:Int)
noncomputable def zfk(n:Nat)(lL2:Li→Int→Int→Option R160)(x0:Li)(x1 x2:Int):Option R160 :=
 cond (decide (x2<(↑x0.length:Int))) (cond (decide (0≤x2)) (cond (decide (x2<(↑x0.length:Int))) (cond (decide (x0.getD x2.toNat (0:Int)=x1)) (some ((true,()),())) (lL2 x0 x1 (IntKind.i64.wrap (x2+1)))) none) none) (some ((false,()),()))
theorem yd2(n:Nat)(a:Li)(b:Int):runF TT G160 ylc Try.f160 c160 ybu yhp n (a,b,())=zfj n (fun x0 x1 x2=>zyy n (.head 2) [n] (zge x0 x1 x2)) a b:=by kernel_rfl
theorem zya(n:Nat)(x0:Li)(x1 x2:Int):zyy n (.head 2) [0] (zge x0 x1 x2)=none:=by kernel_rfl
theorem ykr(n m2:Nat)(x0:Li)(x1 x2:Int):zyy n (.head 2) [m2+1] (zge x0 x1 x2)=zfk n (fun x0 x1 x2=>zyy n (.head 2) [m2] (zge x0 x1 x2)) x0 x1 x2:=by kernel_rfl
noncomputable def zhk(n:Nat):Nat→Li→Int→Int→Option R160
 |0,_,_,_=>none
 |m+1,x0,x1,x2=>zfk n (zhk n m) x0 x1 x2
noncomputable def p160(n:Nat)(a:Li)(b:Int):Option R160:=zfj n (zhk n n) a b
theorem ygv(n:Nat):∀ (m2:Nat) (x0:Li) (x1 x2:Int),zyy n (.head 2) [m2] (zge x0 x1 x2)=zhk n m2 x0 x1 x2:=by
 intro m
 induction m with
 |zero=>intros;rw[zya];rfl
 |succ m ih =>
  intros;rw[ykr]
  try simp only[ih]
  rfl
noncomputable def q160(n:Nat)(x:zai ybu):Option R160:=p160 n x.1 x.2.1
noncomputable def ylq:Sm:=⟨ybu,yhp,false,q160⟩
theorem yoq:GamOK Try.prog G160:=fun _ _ h=>by cases h
theorem hh160:Hp 160 ylq:=hOf (zaf (an:=ylc) (c:=c160) zaw yoq zau Try.func160 (by kernel_rfl) rfl (by decide +kernel)) fun n x=>(yd2 n x.1 x.2.1).trans (by simp only[ygv];try rfl)
theorem y160:Gk 160 ylq:=⟨⟨Try.f160,c160,Try.func160,by kernel_rfl,by decide +kernel⟩,hh160⟩
noncomputable def c154:Code:=(Try.f154.body.getD .skip)
def yp6:An:=⟨fun _=>⟨[],[]⟩,fun _ _=>none⟩
abbrev ybv:List PK:=[.val tCr true,.val i64 false,.val i64 false,.val i64 false,.val i64 false]
abbrev yhq:List RK:=[.val .bool false]
abbrev R154:=zah yhq×zag ybv
noncomputable def G154:Gam:=fun f=>match f with|160=>some ylq|_=>none
noncomputable def zfl(n:Nat)(a:Int×Int×Li)(b c d e:Int):Option R154 :=
 cond (decide (a.1=(0:Int))) (cond (decide ((0:Int)<IntKind.i64.wrap (IntKind.i64.wrap (d.tmod (2:Int)+(IntKind.i64.wrap (d.tdiv (8:Int))).tmod (2:Int))+(IntKind.i64.wrap (d.tdiv (64:Int))).tmod (2:Int)))) (some ((decide (IntKind.i64.wrap (↑(BitVec.ofInt IntKind.i64.bits (7:Int) &&& BitVec.ofInt IntKind.i64.bits e).toNat:Int)=e),()),())) (some ((decide (IntKind.i64.wrap (↑(BitVec.ofInt IntKind.i64.bits (6:Int) &&& BitVec.ofInt IntKind.i64.bits e).toNat:Int)=e),()),()))) (cond (decide (a.1=b)) (some ((decide (IntKind.i64.wrap (↑(BitVec.ofInt IntKind.i64.bits (IntKind.i64.wrap (d.tdiv (64:Int))) &&& BitVec.ofInt IntKind.i64.bits e).toNat:Int)=e),()),())) ((q160 n (a.2.2,c,())).bind fun r0=>cond r0.1.1 (some ((decide (IntKind.i64.wrap (↑(BitVec.ofInt IntKind.i64.bits ((IntKind.i64.wrap (d.tdiv (8:Int))).tmod (8:Int)) &&& BitVec.ofInt IntKind.i64.bits e).toNat:Int)=e),()),())) (some ((decide (IntKind.i64.wrap (↑(BitVec.ofInt IntKind.i64.bits (d.tmod (8:Int)) &&& BitVec.ofInt IntKind.i64.bits e).toNat:Int)=e),()),()))))
theorem yd3(n:Nat)(a:Int×Int×Li)(b c d e:Int):runF TT G154 yp6 Try.f154 c154 ybv yhq n (a,b,c,d,e,())=zfl n a b c d e:=by kernel_rfl
noncomputable def p154(n:Nat)(a:Int×Int×Li)(b c d e:Int):Option R154:=zfl n a b c d e
noncomputable def q154(n:Nat)(x:zai ybv):Option R154:=p154 n x.1 x.2.1 x.2.2.1 x.2.2.2.1 x.2.2.2.2.1
noncomputable def ylr:Sm:=⟨ybv,yhq,false,q154⟩
theorem yor:GamOK Try.prog G154:=by intro f s h;unfold G154 at h;split at h;exact gj h y160;cases h
theorem hh154:Hp 154 ylr:=hOf (zaf (an:=yp6) (c:=c154) zaw yor zau Try.func154 (by kernel_rfl) rfl (by decide +kernel)) fun n x=>(yd3 n x.1 x.2.1 x.2.2.1 x.2.2.2.1 x.2.2.2.2.1).trans rfl
theorem y154:Gk 154 ylr:=⟨⟨Try.f154,c154,Try.func154,by kernel_rfl,by decide +kernel⟩,hh154⟩
noncomputable def c142:Code:=(Try.f142.body.getD .skip)
def yp8:An:=⟨fun _=>⟨[],[]⟩,fun _ _=>none⟩
abbrev yb0:List PK:=[.val tFs true,.val tCr true,.val i64 false,.val i64 false]
abbrev yhv:List RK:=[.val .bool false]
abbrev R142:=zah yhv×zag yb0
noncomputable def G142:Gam:=fun f=>match f with|154=>some ylr|_=>none
noncomputable def zfr(n:Nat)(a:List NT)(b:Int×Int×Li)(c d:Int):Option R142 :=
 cond (decide ((0:Int)≤c)) (cond (decide (c<(↑a.length:Int))) ((q154 n ((b.1,b.2.1,b.2.2),(a.getD c.toNat ZN).2.2.1,(a.getD c.toNat ZN).2.2.2.1,(a.getD c.toNat ZN).2.1,d,())).bind fun r0=>some ((r0.1.1,()),())) none) none
theorem yd9(n:Nat)(a:List NT)(b:Int×Int×Li)(c d:Int):runF TT G142 yp8 Try.f142 c142 yb0 yhv n (a,b,c,d,())=zfr n a b c d:=by kernel_rfl
noncomputable def p142(n:Nat)(a:List NT)(b:Int×Int×Li)(c d:Int):Option R142:=zfr n a b c d
noncomputable def q142(n:Nat)(x:zai yb0):Option R142:=p142 n x.1 x.2.1 x.2.2.1 x.2.2.2.1
noncomputable def yfc:Sm:=⟨yb0,yhv,false,q142⟩
theorem yoy:GamOK Try.prog G142:=by intro f s h;unfold G142 at h;split at h;exact gj h y154;cases h
theorem hh142:Hp 142 yfc:=hOf (zaf (an:=yp8) (c:=c142) zaw yoy zau Try.func142 (by kernel_rfl) rfl (by decide +kernel)) fun n x=>(yd9 n x.1 x.2.1 x.2.2.1 x.2.2.2.1).trans rfl
theorem y142:Gk 142 yfc:=⟨⟨Try.f142,c142,Try.func142,by kernel_rfl,by decide +kernel⟩,hh142⟩
noncomputable def c125:Code:=(Try.f125.body.getD .skip)
def yqd:An:=⟨fun _=>⟨[],[]⟩,fun _ _=>none⟩
abbrev yb9:List PK:=[.val tFs true,.val tCr true,.val i64 false,.val i64 false]
abbrev yh4:List RK:=[.val i64 false]
abbrev R125:=zah yh4×zag yb9
noncomputable def G125:Gam:=fun f=>match f with|142=>some yfc|_=>none
noncomputable def zfz(n:Nat)(a:List NT)(b:Int×Int×Li)(c d:Int):Option R125 :=
 cond (decide ((0:Int)≤c)) (cond (decide (c<(↑a.length:Int))) (cond (!decide ((a.getD c.toNat ZN).1=(2:Int))) (some (((4:Int),()),())) ((q142 n (a,(b.1,b.2.1,b.2.2),c,d,())).bind fun r0=>cond (!r0.1.1) (some (((5:Int),()),())) (some (((0:Int),()),())))) none) none
theorem yeh(n:Nat)(a:List NT)(b:Int×Int×Li)(c d:Int):runF TT G125 yqd Try.f125 c125 yb9 yh4 n (a,b,c,d,())=zfz n a b c d:=by kernel_rfl
noncomputable def p125(n:Nat)(a:List NT)(b:Int×Int×Li)(c d:Int):Option R125:=zfz n a b c d
noncomputable def q125(n:Nat)(x:zai yb9):Option R125:=p125 n x.1 x.2.1 x.2.2.1 x.2.2.2.1
noncomputable def zzr:Sm:=⟨yb9,yh4,false,q125⟩
theorem yo7:GamOK Try.prog G125:=by intro f s h;unfold G125 at h;split at h;exact gj h y142;cases h
theorem hh125:Hp 125 zzr:=hOf (zaf (an:=yqd) (c:=c125) zaw yo7 zau Try.func125 (by kernel_rfl) rfl (by decide +kernel)) fun n x=>(yeh n x.1 x.2.1 x.2.2.1 x.2.2.2.1).trans rfl
theorem y125:Gk 125 zzr:=⟨⟨Try.f125,c125,Try.func125,by kernel_rfl,by decide +kernel⟩,hh125⟩
noncomputable def c126:Code:=(Try.f126.body.getD .skip)
def yli:An:=⟨fun r=>match r with|2=>⟨[1,2,5],[]⟩|_=>⟨[],[]⟩,fun _ _=>none⟩
abbrev yb8:List PK:=[.val (tIn 100) true,.val .str false]
abbrev yh3:List RK:=[.val i64 false]
abbrev R126:=zah yh3×zag yb8
noncomputable def G126:Gam:=fun _=>none
noncomputable def zy5:Nat→Pt→List Nat→St→Option R126:=atF TT G126 yli Try.f126 c126 _ _
def zgl(x0:ByteArray)(x1 x2 x3 x4 x5 x6 x7:Int)(x8:Bool)(x9:ByteArray)(x10:List (ByteArray×Int)):St:=(St.mk ([Uu,AV.one (SV.str x0),AV.one (SV.bptr 1000000 0),Uu,Uu,Ai x1]++Ur 16) [(1000000,(Ent.box [Si x2,Si x3,Si x4,Si x5,Si x6,Si x7,SV.bool x8,SV.str x9,SV.con (⟨100,Ty.str.pair (Ty.int .i64),x10⟩:Rw)]))])
noncomputable def zfx(n:Nat)(lL2:ByteArray→Int→Int→Int→Int→Int→Int→Int→Bool→ByteArray→(List (ByteArray×Int))→Option R126)(a:NT)(b:ByteArray):Option R126 :=
 lL2 b (0:Int) a.1 a.2.1 a.2.2.1 a.2.2.2.1 a.2.2.2.2.1 a.2.2.2.2.2.1 a.2.2.2.2.2.2.1 a.2.2.2.2.2.2.2.1 a.2.2.2.2.2.2.2.2
noncomputable def zfy(n:Nat)(lL2:ByteArray→Int→Int→Int→Int→Int→Int→Int→Bool→ByteArray→(List (ByteArray×Int))→Option R126)(x0:ByteArray)(x1 x2 x3 x4 x5 x6 x7:Int)(x8:Bool)(x9:ByteArray)(x10:List (ByteArray×Int)):Option R126 :=
 cond (decide (x1<(↑x10.length:Int))) (cond (decide (0≤x1)) (cond (decide (x1<(↑x10.length:Int))) (cond (ByteArray.toList (x10.getD x1.toNat (ByteArray.empty,(0:Int))).1 == x0.toList) (some ((x1,()),())) (lL2 x0 (IntKind.i64.wrap (x1+1)) x2 x3 x4 x5 x6 x7 x8 x9 x10)) none) none) (some (((-1:Int),()),()))
theorem yeg(n:Nat)(a:NT)(b:ByteArray):runF TT G126 yli Try.f126 c126 yb8 yh3 n (a,b,())=zfx n (fun x0 x1 x2 x3 x4 x5 x6 x7 x8 x9 x10=>zy5 n (.head 2) [n] (zgl x0 x1 x2 x3 x4 x5 x6 x7 x8 x9 x10)) a b:=by kernel_rfl
theorem zyh(n:Nat)(x0:ByteArray)(x1 x2 x3 x4 x5 x6 x7:Int)(x8:Bool)(x9:ByteArray)(x10:List (ByteArray×Int)):zy5 n (.head 2) [0] (zgl x0 x1 x2 x3 x4 x5 x6 x7 x8 x9 x10)=none:=by kernel_rfl
theorem yky(n m2:Nat)(x0:ByteArray)(x1 x2 x3 x4 x5 x6 x7:Int)(x8:Bool)(x9:ByteArray)(x10:List (ByteArray×Int)):zy5 n (.head 2) [m2+1] (zgl x0 x1 x2 x3 x4 x5 x6 x7 x8 x9 x10)=zfy n (fun x0 x1 x2 x3 x4 x5 x6 x7 x8 x9 x10=>zy5 n (.head 2) [m2] (zgl x0 x1 x2 x3 x4 x5 x6 x7 x8 x9 x10)) x0 x1 x2 x3 x4 x5 x6 x7 x8 x9 x10:=by kernel_rfl
noncomputable def zho(n:Nat):Nat→ByteArray→Int→Int→Int→Int→Int→Int→Int→Bool→ByteArray→(List (ByteArray×Int))→Option R126
 |0,_,_,_,_,_,_,_,_,_,_,_=>none
 |m+1,x0,x1,x2,x3,x4,x5,x6,x7,x8,x9,x10=>zfy n (zho n m) x0 x1 x2 x3 x4 x5 x6 x7 x8 x9 x10
noncomputable def p126(n:Nat)(a:NT)(b:ByteArray):Option R126:=zfx n (zho n n) a b
theorem yg2(n:Nat):∀ (m2:Nat) (x0:ByteArray) (x1 x2 x3 x4 x5 x6 x7:Int) (x8:Bool) (x9:ByteArray) (x10:List (ByteArray×Int)),zy5 n (.head 2) [m2] (zgl x0 x1 x2 x3 x4 x5 x6 x7 x8 x9 x10)=zho n m2 x0 x1 x2 x3 x4 x5 x6 x7 x8 x9 x10:=by
 intro m
 induction m with
 |zero=>intros;rw[zyh];rfl
 |succ m ih =>
  intros;rw[yky]
  try simp only[ih]
  rfl
noncomputable def q126(n:Nat)(x:zai yb8):Option R126:=p126 n x.1 x.2.1
noncomputable def zup:Sm:=⟨yb8,yh3,false,q126⟩
theorem yo6:GamOK Try.prog G126:=fun _ _ h=>by cases h
theorem hh126:Hp 126 zup:=hOf (zaf (an:=yli) (c:=c126) zaw yo6 zau Try.func126 (by kernel_rfl) rfl (by decide +kernel)) fun n x=>(yeg n x.1 x.2.1).trans (by simp only[yg2];try rfl)
theorem y126:Gk 126 zup:=⟨⟨Try.f126,c126,Try.func126,by kernel_rfl,by decide +kernel⟩,hh126⟩
noncomputable def c140:Code:=(Try.f140.body.getD .skip)
def ylg:An:=⟨fun r=>match r with|4=>⟨[1,3,5,6,7,8,9],[]⟩|_=>⟨[],[]⟩,fun _ _=>none⟩
abbrev yb1:List PK:=[.own tFs true,.val i64 false,.val tEn true]
abbrev yhw:List RK:=[.own tFs true]
abbrev R140:=zah yhw×zag yb1
noncomputable def G140:Gam:=fun _=>none
noncomputable def zy3:Nat→Pt→List Nat→St→Option R140:=atF TT G140 ylg Try.f140 c140 _ _
def zgj(x0:Int)(x1:Bool)(x2:Int)(x3:ByteArray)(x4:Int)(x5:List (ByteArray×Int))(x6:List NT):St:=(St.mk ([Uu,Ai x0,Uu,AV.one (SV.bptr 1000000 0),Uu,AV.one (SV.bptr 1000001 0),AV.one (SV.bptr 1000002 0),AV.one (Sr 1000003),AV.one (SV.bool x1),Ai x2]++Ur 52) [(1000000,(Ent.box [Sr 1000004])),(1000001,(Ent.box [SV.str x3,Si x4])),(1000002,(Ent.box [SV.nil])),(1000003,(Er ⟨100,Ty.str.pair (Ty.int .i64),x5⟩)),(1000004,(Er ⟨37,(Ty.int .i64).pair ((Ty.int .i64).pair ((Ty.int .i64).pair ((Ty.int .i64).pair ((Ty.int .i64).pair ((Ty.int .i64).pair (Ty.bool.pair (Ty.str.pair (Ty.row (nat_lit 100) (Ty.str.pair (Ty.int .i64)))))))))),x6⟩))])
noncomputable def zfs(n:Nat)(lL4:Int→Bool→Int→ByteArray→Int→(List (ByteArray×Int))→(List NT)→Option R140)(a:List NT)(b:Int)(c:ByteArray×Int):Option R140 :=
 lL4 b false (0:Int) c.1 c.2 ([]) a
noncomputable def zcj(n:Nat)(lL4:Int→Bool→Int→ByteArray→Int→(List (ByteArray×Int))→(List NT)→Option R140)(x0:Int)(x1:Bool)(x2:Int)(x3:ByteArray)(x4:Int)(x5:List (ByteArray×Int))(x6:List NT):Option R140 :=
 cond (decide (0≤x0)) (cond (decide (x0<(↑x6.length:Int))) (cond (decide (x2<(↑(List.length (x6.getD x0.toNat ZN).2.2.2.2.2.2.2.2):Int))) (cond (decide (0≤x0)) (cond (decide (x0<(↑x6.length:Int))) (cond (decide (0≤x2)) (cond (decide (x2<(↑(List.length (x6.getD x0.toNat ZN).2.2.2.2.2.2.2.2):Int))) (cond (!x1) (cond (!(Go.Op.bytesLess (ByteArray.toList (List.getD (x6.getD x0.toNat ZN).2.2.2.2.2.2.2.2 x2.toNat (ByteArray.empty,(0:Int))).1) x3.toList || ByteArray.toList (List.getD (x6.getD x0.toNat ZN).2.2.2.2.2.2.2.2 x2.toNat (ByteArray.empty,(0:Int))).1 == x3.toList)) (cond (decide ((x5.length+[(x3,x4)].length)*(24:Nat)≤(140737488355328:Nat))) (cond (decide (((x5++[(x3,x4)]).length+[((List.getD (x6.getD x0.toNat ZN).2.2.2.2.2.2.2.2 x2.toNat (ByteArray.empty,(0:Int))).1,(List.getD (x6.getD x0.toNat ZN).2.2.2.2.2.2.2.2 x2.toNat (ByteArray.empty,(0:Int))).2)].length)*(24:Nat)≤(140737488355328:Nat))) (lL4 x0 true (IntKind.i64.wrap (x2+1)) x3 x4 (x5++[(x3,x4)]++[((List.getD (x6.getD x0.toNat ZN).2.2.2.2.2.2.2.2 x2.toNat (ByteArray.empty,(0:Int))).1,(List.getD (x6.getD x0.toNat ZN).2.2.2.2.2.2.2.2 x2.toNat (ByteArray.empty,(0:Int))).2)]) x6) none) none) (cond (decide ((x5.length+[((List.getD (x6.getD x0.toNat ZN).2.2.2.2.2.2.2.2 x2.toNat (ByteArray.empty,(0:Int))).1,(List.getD (x6.getD x0.toNat ZN).2.2.2.2.2.2.2.2 x2.toNat (ByteArray.empty,(0:Int))).2)].length)*(24:Nat)≤(140737488355328:Nat))) (lL4 x0 x1 (IntKind.i64.wrap (x2+1)) x3 x4 (x5++[((List.getD (x6.getD x0.toNat ZN).2.2.2.2.2.2.2.2 x2.toNat (ByteArray.empty,(0:Int))).1,(List.getD (x6.getD x0.toNat ZN).2.2.2.2.2.2.2.2 x2.toNat (ByteArray.empty,(0:Int))).2)]) x6) none)) (cond (decide ((x5.length+[((List.getD (x6.getD x0.toNat ZN).2.2.2.2.2.2.2.2 x2.toNat (ByteArray.empty,(0:Int))).1,(List.getD (x6.getD x0.toNat ZN).2.2.2.2.2.2.2.2 x2.toNat (ByteArray.empty,(0:Int))).2)].length)*(24:Nat)≤(140737488355328:Nat))) (lL4 x0 x1 (IntKind.i64.wrap (x2+1)) x3 x4 (x5++[((List.getD (x6.getD x0.toNat ZN).2.2.2.2.2.2.2.2 x2.toNat (ByteArray.empty,(0:Int))).1,(List.getD (x6.getD x0.toNat ZN).2.2.2.2.2.2.2.2 x2.toNat (ByteArray.empty,(0:Int))).2)]) x6) none)) none) none) none) none) (cond (!x1) (cond (decide ((x5.length+[(x3,x4)].length)*(24:Nat)≤(140737488355328:Nat))) (cond (decide (0≤x0)) (cond (decide (x0<(↑x6.length:Int))) (some ((x6.set x0.toNat ((x6.getD x0.toNat ZN).1,(x6.getD x0.toNat ZN).2.1,(x6.getD x0.toNat ZN).2.2.1,(x6.getD x0.toNat ZN).2.2.2.1,(x6.getD x0.toNat ZN).2.2.2.2.1,(x6.getD x0.toNat ZN).2.2.2.2.2.1,(x6.getD x0.toNat ZN).2.2.2.2.2.2.1,(x6.getD x0.toNat ZN).2.2.2.2.2.2.2.1,x5++[(x3,x4)]),()),())) none) none) none) (cond (decide (0≤x0)) (cond (decide (x0<(↑x6.length:Int))) (some ((x6.set x0.toNat ((x6.getD x0.toNat ZN).1,(x6.getD x0.toNat ZN).2.1,(x6.getD x0.toNat ZN).2.2.1,(x6.getD x0.toNat ZN).2.2.2.1,(x6.getD x0.toNat ZN).2.2.2.2.1,(x6.getD x0.toNat ZN).2.2.2.2.2.1,(x6.getD x0.toNat ZN).2.2.2.2.2.2.1,(x6.getD x0.toNat ZN).2.2.2.2.2.2.2.1,x5),()),())) none) none))) none) none
theorem yd_(n:Nat)(a:List NT)(b:Int)(c:ByteArray×Int):runF TT G140 ylg Try.f140 c140 yb1 yhw n (a,b,c,())=zfs n (fun x0 x1 x2 x3 x4 x5 x6=>zy3 n (.head 4) [n] (zgj x0 x1 x2 x3 x4 x5 x6)) a b c:=by kernel_rfl
theorem zyf(n:Nat)(x0:Int)(x1:Bool)(x2:Int)(x3:ByteArray)(x4:Int)(x5:List (ByteArray×Int))(x6:List NT):zy3 n (.head 4) [0] (zgj x0 x1 x2 x3 x4 x5 x6)=none:=by kernel_rfl
theorem ykw(n m4:Nat)(x0:Int)(x1:Bool)(x2:Int)(x3:ByteArray)(x4:Int)(x5:List (ByteArray×Int))(x6:List NT):zy3 n (.head 4) [m4+1] (zgj x0 x1 x2 x3 x4 x5 x6)=zcj n (fun x0 x1 x2 x3 x4 x5 x6=>zy3 n (.head 4) [m4] (zgj x0 x1 x2 x3 x4 x5 x6)) x0 x1 x2 x3 x4 x5 x6:=by kernel_rfl
noncomputable def zd0(n:Nat):Nat→Int→Bool→Int→ByteArray→Int→(List (ByteArray×Int))→(List NT)→Option R140
 |0,_,_,_,_,_,_,_=>none
 |m+1,x0,x1,x2,x3,x4,x5,x6=>zcj n (zd0 n m) x0 x1 x2 x3 x4 x5 x6
noncomputable def p140(n:Nat)(a:List NT)(b:Int)(c:ByteArray×Int):Option R140:=zfs n (zd0 n n) a b c
theorem yg0(n:Nat):∀ (m4:Nat) (x0:Int) (x1:Bool) (x2:Int) (x3:ByteArray) (x4:Int) (x5:List (ByteArray×Int)) (x6:List NT),zy3 n (.head 4) [m4] (zgj x0 x1 x2 x3 x4 x5 x6)=zd0 n m4 x0 x1 x2 x3 x4 x5 x6:=by
 intro m
 induction m with
 |zero=>intros;rw[zyf];rfl
 |succ m ih =>
  intros;rw[ykw]
  try simp only[ih]
  rfl
noncomputable def q140(n:Nat)(x:zai yb1):Option R140:=p140 n x.1 x.2.1 x.2.2.1
noncomputable def zzp:Sm:=⟨yb1,yhw,false,q140⟩
theorem yoz:GamOK Try.prog G140:=fun _ _ h=>by cases h
theorem hh140:Hp 140 zzp:=hOf (zaf (an:=ylg) (c:=c140) zaw yoz zau Try.func140 (by kernel_rfl) rfl (by decide +kernel)) fun n x=>(yd_ n x.1 x.2.1 x.2.2.1).trans (by simp only[yg0];try rfl)
theorem y140:Gk 140 zzp:=⟨⟨Try.f140,c140,Try.func140,by kernel_rfl,by decide +kernel⟩,hh140⟩
noncomputable def c106:Code:=(Try.f106.body.getD .skip)
def ylm:An:=⟨fun r=>match r with|8=>⟨[2,3,4,5,6,7,12,16,17],[]⟩|_=>⟨[],[]⟩,fun _ _=>none⟩
abbrev yck:List PK:=[.own tFs true,.val tCr true,.val i64 false,.val .str false,.val i64 false,.val i64 false]
abbrev yid:List RK:=[.own tFs true,.val i64 false,.val i64 false]
abbrev R106:=zah yid×zag yck
noncomputable def G106:Gam:=fun f=>match f with|125=>some zzr|126=>some zup|140=>some zzp|_=>none
noncomputable def zy7:Nat→Pt→List Nat→St→Option R106:=atF TT G106 ylm Try.f106 c106 _ _
def zgn(x0:Int)(x1:ByteArray)(x2 x3 x4 x5 x6 x7:Int)(x8:Li)(x9:List NT):St:=(St.mk ([Uu,Uu,Ai x0,AV.one (SV.str x1),Ai x2,Ai x3,AV.one (SV.bptr 1000000 0),AV.one (SV.bptr 1000001 0),Uu,Uu,Uu,Uu,AV.one (SV.bptr 1000002 0),Uu,Uu,Uu,Ai x4,Ai x5]++Ur 75) [(1000000,(Ent.box [Sr 1000003])),(1000001,(Ent.box [Si x6,Si x7,SV.con (⟨3,Ty.int .i64,x8⟩:Rw)])),(1000002,(Ent.box [SV.nil])),(1000003,(Er ⟨37,(Ty.int .i64).pair ((Ty.int .i64).pair ((Ty.int .i64).pair ((Ty.int .i64).pair ((Ty.int .i64).pair ((Ty.int .i64).pair (Ty.bool.pair (Ty.str.pair (Ty.row (nat_lit 100) (Ty.str.pair (Ty.int .i64)))))))))),x9⟩))])
noncomputable def zf8(n:Nat)(lL8:Int→ByteArray→Int→Int→Int→Int→Int→Int→Li→(List NT)→Option R106)(a:List NT)(b:Int×Int×Li)(c:Int)(d:ByteArray)(e f:Int):Option R106 :=
 (q125 n (a,(b.1,b.2.1,b.2.2),c,(3:Int),())).bind fun r0=>cond (!decide (r0.1.1=(0:Int))) (some ((a,((-1:Int),(r0.1.1,()))),())) (cond (decide ((0:Int)≤c)) (cond (decide (c<(↑a.length:Int))) ((q126 n (((a.getD c.toNat ZN).1,(a.getD c.toNat ZN).2.1,(a.getD c.toNat ZN).2.2.1,(a.getD c.toNat ZN).2.2.2.1,(a.getD c.toNat ZN).2.2.2.2.1,(a.getD c.toNat ZN).2.2.2.2.2.1,(a.getD c.toNat ZN).2.2.2.2.2.2.1,(a.getD c.toNat ZN).2.2.2.2.2.2.2.1,(a.getD c.toNat ZN).2.2.2.2.2.2.2.2),d,())).bind fun r1=>cond (decide ((0:Int)≤r1.1.1)) (some ((a,((-1:Int),((3:Int),()))),())) (lL8 c d e f ((-1:Int)) (IntKind.i64.wrap ((↑a.length:Int) - (1:Int))) b.1 b.2.1 b.2.2 a)) none) none)
noncomputable def zep(n:Nat)(lL8:Int→ByteArray→Int→Int→Int→Int→Int→Int→Li→(List NT)→Option R106)(x0:Int)(x1:ByteArray)(x2 x3 x4 x5 x6 x7:Int)(x8:Li)(x9:List NT):Option R106 :=
 cond (decide (0≤x5)) (cond (decide (0≤x5)) (cond (decide (x5<(↑x9.length:Int))) (cond (decide ((x9.getD x5.toNat ZN).1=(0:Int))) (lL8 x0 x1 x2 x3 x5 (IntKind.i64.wrap (x5 - 1)) x6 x7 x8 x9) (lL8 x0 x1 x2 x3 x4 (IntKind.i64.wrap (x5 - 1)) x6 x7 x8 x9)) none) none) (cond (decide (x4<0)) (some ((x9,((-1:Int),((7:Int),()))),())) (cond (decide (0≤x0)) (cond (decide (x0<(↑x9.length:Int))) (cond (decide ((6:Int)≤(↑(List.length (x9.getD x0.toNat ZN).2.2.2.2.2.2.2.2):Int))) (some ((x9,((-1:Int),((7:Int),()))),())) (cond (decide ((0:Int)<(↑x8.length:Int))) (cond (decide ((0:Int)<(↑x8.length:Int))) (cond (decide (0≤x4)) (cond (decide (x4<(↑x9.length:Int))) ((q140 n (x9.set x4.toNat (x2,x3,x6,x8.getD (Int.toNat (0:Int)) (0:Int),(1:Int),(0:Int),false,ByteArray.empty,[]),x0,(x1,x4),())).bind fun r3=>some ((r3.1.1,(x4,((0:Int),()))),())) none) none) none) (cond (decide (0≤x4)) (cond (decide (x4<(↑x9.length:Int))) ((q140 n (x9.set x4.toNat (x2,x3,x6,x6,(1:Int),(0:Int),false,ByteArray.empty,[]),x0,(x1,x4),())).bind fun r4=>some ((r4.1.1,(x4,((0:Int),()))),())) none) none))) none) none))
theorem yes(n:Nat)(a:List NT)(b:Int×Int×Li)(c:Int)(d:ByteArray)(e f:Int):runF TT G106 ylm Try.f106 c106 yck yid n (a,b,c,d,e,f,())=zf8 n (fun x0 x1 x2 x3 x4 x5 x6 x7 x8 x9=>zy7 n (.head 8) [n] (zgn x0 x1 x2 x3 x4 x5 x6 x7 x8 x9)) a b c d e f:=by kernel_rfl
theorem zyk(n:Nat)(x0:Int)(x1:ByteArray)(x2 x3 x4 x5 x6 x7:Int)(x8:Li)(x9:List NT):zy7 n (.head 8) [0] (zgn x0 x1 x2 x3 x4 x5 x6 x7 x8 x9)=none:=by kernel_rfl
theorem yk1(n m8:Nat)(x0:Int)(x1:ByteArray)(x2 x3 x4 x5 x6 x7:Int)(x8:Li)(x9:List NT):zy7 n (.head 8) [m8+1] (zgn x0 x1 x2 x3 x4 x5 x6 x7 x8 x9)=zep n (fun x0 x1 x2 x3 x4 x5 x6 x7 x8 x9=>zy7 n (.head 8) [m8] (zgn x0 x1 x2 x3 x4 x5 x6 x7 x8 x9)) x0 x1 x2 x3 x4 x5 x6 x7 x8 x9:=by kernel_rfl
noncomputable def zd2(n:Nat):Nat→Int→ByteArray→Int→Int→Int→Int→Int→Int→Li→(List NT)→Option R106
 |0,_,_,_,_,_,_,_,_,_,_=>none
 |m+1,x0,x1,x2,x3,x4,x5,x6,x7,x8,x9=>zep n (zd2 n m) x0 x1 x2 x3 x4 x5 x6 x7 x8 x9
noncomputable def p106(n:Nat)(a:List NT)(b:Int×Int×Li)(c:Int)(d:ByteArray)(e f:Int):Option R106:=zf8 n (zd2 n n) a b c d e f
theorem yg5(n:Nat):∀ (m8:Nat) (x0:Int) (x1:ByteArray) (x2 x3 x4 x5 x6 x7:Int) (x8:Li) (x9:List NT),zy7 n (.head 8) [m8] (zgn x0 x1 x2 x3 x4 x5 x6 x7 x8 x9)=zd2 n m8 x0 x1 x2 x3 x4 x5 x6 x7 x8 x9:=by
 intro m
 induction m with
 |zero=>intros;rw[zyk];rfl
 |succ m ih =>
  intros;rw[yk1]
  try simp only[ih]
  rfl
noncomputable def q106(n:Nat)(x:zai yck):Option R106:=p106 n x.1 x.2.1 x.2.2.1 x.2.2.2.1 x.2.2.2.2.1 x.2.2.2.2.2.1
noncomputable def yl9:Sm:=⟨yck,yid,false,q106⟩
theorem ypg:GamOK Try.prog G106:=by intro f s h;unfold G106 at h;split at h;exact gj h y125;exact gj h y126;exact gj h y140;cases h
theorem hh106:Hp 106 yl9:=hOf (zaf (an:=ylm) (c:=c106) zaw ypg zau Try.func106 (by kernel_rfl) rfl (by decide +kernel)) fun n x=>(yes n x.1 x.2.1 x.2.2.1 x.2.2.2.1 x.2.2.2.2.1 x.2.2.2.2.2.1).trans (by simp only[yg5];try rfl)
theorem y106:Gk 106 yl9:=⟨⟨Try.f106,c106,Try.func106,by kernel_rfl,by decide +kernel⟩,hh106⟩
noncomputable def c67:Code:=(Try.f67.body.getD .skip)
def an67:An:=⟨fun r=>match r with|3=>⟨[1,2,3,4],[]⟩|_=>⟨[],[]⟩,fun _ _=>none⟩
abbrev ps67:List PK:=[.val tFs true]
abbrev rs67:List RK:=[.own tFs true]
abbrev R67:=zah rs67×zag ps67
noncomputable def G67:Gam:=fun _=>none
noncomputable def at67:Nat→Pt→List Nat→St→Option R67:=atF TT G67 an67 Try.f67 c67 _ _
def zj1(x0:Int)(x1 x2:List NT):St:=(St.mk ([Uu,AV.one (SV.bptr 1000000 0),AV.one (SV.bptr 1000001 0),AV.one (SV.bptr 1000002 0),Ai x0]++Ur 27) [(1000000,(Ent.box [SV.con (⟨37,(Ty.int .i64).pair ((Ty.int .i64).pair ((Ty.int .i64).pair ((Ty.int .i64).pair ((Ty.int .i64).pair ((Ty.int .i64).pair (Ty.bool.pair (Ty.str.pair (Ty.row (nat_lit 100) (Ty.str.pair (Ty.int .i64)))))))))),x1⟩:Rw)])),(1000001,(Ent.box [SV.nil])),(1000002,(Ent.box [Sr 1000003])),(1000003,(Er ⟨37,(Ty.int .i64).pair ((Ty.int .i64).pair ((Ty.int .i64).pair ((Ty.int .i64).pair ((Ty.int .i64).pair ((Ty.int .i64).pair (Ty.bool.pair (Ty.str.pair (Ty.row (nat_lit 100) (Ty.str.pair (Ty.int .i64)))))))))),x2⟩))])
noncomputable def zrw(n:Nat)(lL3:Int→(List NT)→(List NT)→Option R67)(a:List NT):Option R67 :=
 lL3 (0:Int) a ([])
noncomputable def zha(n:Nat)(lL3:Int→(List NT)→(List NT)→Option R67)(x0:Int)(x1 x2:List NT):Option R67 :=
 cond (decide (x0<(↑x1.length:Int))) (cond (decide (0≤x0)) (cond (decide (x0<(↑x1.length:Int))) (cond (decide (((0:Nat)+List.length (x1.getD x0.toNat ZN).2.2.2.2.2.2.2.2)*(24:Nat)≤(140737488355328:Nat))) (cond (decide ((x2.length+[((x1.getD x0.toNat ZN).1,(x1.getD x0.toNat ZN).2.1,(x1.getD x0.toNat ZN).2.2.1,(x1.getD x0.toNat ZN).2.2.2.1,(x1.getD x0.toNat ZN).2.2.2.2.1,(x1.getD x0.toNat ZN).2.2.2.2.2.1,(x1.getD x0.toNat ZN).2.2.2.2.2.2.1,(x1.getD x0.toNat ZN).2.2.2.2.2.2.2.1,(x1.getD x0.toNat ZN).2.2.2.2.2.2.2.2)].length)*(96:Nat)≤(140737488355328:Nat))) (lL3 (IntKind.i64.wrap (x0+1)) x1 (x2++[((x1.getD x0.toNat ZN).1,(x1.getD x0.toNat ZN).2.1,(x1.getD x0.toNat ZN).2.2.1,(x1.getD x0.toNat ZN).2.2.2.1,(x1.getD x0.toNat ZN).2.2.2.2.1,(x1.getD x0.toNat ZN).2.2.2.2.2.1,(x1.getD x0.toNat ZN).2.2.2.2.2.2.1,(x1.getD x0.toNat ZN).2.2.2.2.2.2.2.1,(x1.getD x0.toNat ZN).2.2.2.2.2.2.2.2)])) none) none) none) none) (some ((x2,()),()))
theorem yj5(n:Nat)(a:List NT):runF TT G67 an67 Try.f67 c67 ps67 rs67 n (a,())=zrw n (fun x0 x1 x2=>at67 n (.head 3) [n] (zj1 x0 x1 x2)) a:=by kernel_rfl
theorem ydt(n:Nat)(x0:Int)(x1 x2:List NT):at67 n (.head 3) [0] (zj1 x0 x1 x2)=none:=by kernel_rfl
theorem ypq(n m3:Nat)(x0:Int)(x1 x2:List NT):at67 n (.head 3) [m3+1] (zj1 x0 x1 x2)=zha n (fun x0 x1 x2=>at67 n (.head 3) [m3] (zj1 x0 x1 x2)) x0 x1 x2:=by kernel_rfl
noncomputable def zl2(n:Nat):Nat→Int→(List NT)→(List NT)→Option R67
 |0,_,_,_=>none
 |m+1,x0,x1,x2=>zha n (zl2 n m) x0 x1 x2
noncomputable def p67(n:Nat)(a:List NT):Option R67:=zrw n (zl2 n n) a
theorem ymo(n:Nat):∀ (m3:Nat) (x0:Int) (x1 x2:List NT),at67 n (.head 3) [m3] (zj1 x0 x1 x2)=zl2 n m3 x0 x1 x2:=by
 intro m
 induction m with
 |zero=>intros;rw[ydt];rfl
 |succ m ih =>
  intros;rw[ypq]
  try simp only[ih]
  rfl
noncomputable def q67(n:Nat)(x:zai ps67):Option R67:=p67 n x.1
noncomputable def Sm67:Sm:=⟨ps67,rs67,false,q67⟩
theorem gam67:GamOK Try.prog G67:=fun _ _ h=>by cases h
theorem hh67:Hp 67 Sm67:=hOf (zaf (an:=an67) (c:=c67) zaw gam67 zau Try.func67 (by kernel_rfl) rfl (by decide +kernel)) fun n x=>(yj5 n x.1).trans (by simp only[ymo];try rfl)
theorem y67:Gk 67 Sm67:=⟨⟨Try.f67,c67,Try.func67,by kernel_rfl,by decide +kernel⟩,hh67⟩
noncomputable def c144:Code:=(Try.f144.body.getD .skip)
def ylf:An:=⟨fun r=>match r with|8=>⟨[1,2,3,4,8,10],[]⟩|_=>⟨[],[]⟩,fun _ _=>none⟩
abbrev ybz:List PK:=[.own tFs true,.val i64 false,.val i64 false,.val .str false]
abbrev yhu:List RK:=[.own tFs true,.val i64 false]
abbrev R144:=zah yhu×zag ybz
noncomputable def G144:Gam:=fun _=>none
noncomputable def zy1:Nat→Pt→List Nat→St→Option R144:=atF TT G144 ylf Try.f144 c144 _ _
def zgh(x0 x1:Int)(x2 x3:ByteArray)(x4:List NT):St:=(St.mk ([Uu,Ai x0,Ai x1,AV.one (SV.str x2),AV.one (SV.bptr 1000000 0),Uu,Uu,Uu,AV.one (SV.bptr 1000001 0),Uu,AV.one (SV.str x3)]++Ur 59) [(1000000,(Ent.box [Sr 1000002])),(1000001,(Ent.box [SV.nil])),(1000002,(Er ⟨37,(Ty.int .i64).pair ((Ty.int .i64).pair ((Ty.int .i64).pair ((Ty.int .i64).pair ((Ty.int .i64).pair ((Ty.int .i64).pair (Ty.bool.pair (Ty.str.pair (Ty.row (nat_lit 100) (Ty.str.pair (Ty.int .i64)))))))))),x4⟩))])
noncomputable def zfp(n:Nat)(lL8:Int→Int→ByteArray→ByteArray→(List NT)→Option R144)(a:List NT)(b c:Int)(d:ByteArray):Option R144 :=
 cond (decide ((0:Int)≤b)) (cond (decide (b<(↑a.length:Int))) (cond (decide ((0:Int)≤b)) (cond (decide (b<(↑a.length:Int))) (cond (!decide ((a.getD b.toNat ZN).1=(1:Int))) (some ((a,((4:Int),())),())) (cond (decide ((40:Int)<c)) (some ((a,((7:Int),())),())) (cond (decide ((40:Int)<IntKind.i64.wrap (c+(↑d.size:Int)))) (some ((a,((7:Int),())),())) (cond (d.toList == (ByteArray.mk #[]).toList) (some ((a,((0:Int),())),())) (lL8 b c d ((a.getD b.toNat ZN).2.2.2.2.2.2.2.1) a))))) none) none) none) none
noncomputable def zel(n:Nat)(lL8:Int→Int→ByteArray→ByteArray→(List NT)→Option R144)(x0 x1:Int)(x2 x3:ByteArray)(x4:List NT):Option R144 :=
 cond (decide ((↑x3.size:Int)<x1)) (cond (decide (x3.size+(List.foldl (fun r n=>r.push (UInt8.ofNat n.toNat)) ByteArray.empty [(0:Int)]).size≤(9223372036854775807:Nat))) (lL8 x0 x1 x2 (x3++List.foldl (fun r n=>r.push (UInt8.ofNat n.toNat)) ByteArray.empty [(0:Int)]) x4) none) (cond (decide (0≤x1)) (cond (decide (x1≤(↑x3.size:Int))) (cond (decide ((x3.extract (Int.toNat (0:Int)) x1.toNat).size+x2.size≤(9223372036854775807:Nat))) (cond (decide ((0:Int)≤if IntKind.i64.wrap (x1+(↑x2.size:Int))<(↑x3.size:Int) then IntKind.i64.wrap (x1+(↑x2.size:Int)) else (↑x3.size:Int))) (cond (decide ((if IntKind.i64.wrap (x1+(↑x2.size:Int))<(↑x3.size:Int) then IntKind.i64.wrap (x1+(↑x2.size:Int)) else (↑x3.size:Int))≤(↑x3.size:Int))) (cond (decide ((x3.extract (Int.toNat (0:Int)) x1.toNat++x2).size+(x3.extract (if IntKind.i64.wrap (x1+(↑x2.size:Int))<(↑x3.size:Int) then IntKind.i64.wrap (x1+(↑x2.size:Int)) else (↑x3.size:Int)).toNat (↑x3.size:Int).toNat).size≤(9223372036854775807:Nat))) (cond (decide (0≤x0)) (cond (decide (x0<(↑x4.length:Int))) (some ((x4.set x0.toNat ((x4.getD x0.toNat ZN).1,(x4.getD x0.toNat ZN).2.1,(x4.getD x0.toNat ZN).2.2.1,(x4.getD x0.toNat ZN).2.2.2.1,(x4.getD x0.toNat ZN).2.2.2.2.1,(x4.getD x0.toNat ZN).2.2.2.2.2.1,(x4.getD x0.toNat ZN).2.2.2.2.2.2.1,x3.extract (Int.toNat (0:Int)) x1.toNat++x2++x3.extract (if IntKind.i64.wrap (x1+(↑x2.size:Int))<(↑x3.size:Int) then IntKind.i64.wrap (x1+(↑x2.size:Int)) else (↑x3.size:Int)).toNat (↑x3.size:Int).toNat,(x4.getD x0.toNat ZN).2.2.2.2.2.2.2.2),((0:Int),())),())) none) none) none) none) none) none) none) none)
theorem yd7(n:Nat)(a:List NT)(b c:Int)(d:ByteArray):runF TT G144 ylf Try.f144 c144 ybz yhu n (a,b,c,d,())=zfp n (fun x0 x1 x2 x3 x4=>zy1 n (.head 8) [n] (zgh x0 x1 x2 x3 x4)) a b c d:=by kernel_rfl
theorem zyd(n:Nat)(x0 x1:Int)(x2 x3:ByteArray)(x4:List NT):zy1 n (.head 8) [0] (zgh x0 x1 x2 x3 x4)=none:=by kernel_rfl
theorem yku(n m8:Nat)(x0 x1:Int)(x2 x3:ByteArray)(x4:List NT):zy1 n (.head 8) [m8+1] (zgh x0 x1 x2 x3 x4)=zel n (fun x0 x1 x2 x3 x4=>zy1 n (.head 8) [m8] (zgh x0 x1 x2 x3 x4)) x0 x1 x2 x3 x4:=by kernel_rfl
noncomputable def ze_(n:Nat):Nat→Int→Int→ByteArray→ByteArray→(List NT)→Option R144
 |0,_,_,_,_,_=>none
 |m+1,x0,x1,x2,x3,x4=>zel n (ze_ n m) x0 x1 x2 x3 x4
noncomputable def p144(n:Nat)(a:List NT)(b c:Int)(d:ByteArray):Option R144:=zfp n (ze_ n n) a b c d
theorem ygy(n:Nat):∀ (m8:Nat) (x0 x1:Int) (x2 x3:ByteArray) (x4:List NT),zy1 n (.head 8) [m8] (zgh x0 x1 x2 x3 x4)=ze_ n m8 x0 x1 x2 x3 x4:=by
 intro m
 induction m with
 |zero=>intros;rw[zyd];rfl
 |succ m ih =>
  intros;rw[yku]
  try simp only[ih]
  rfl
noncomputable def q144(n:Nat)(x:zai ybz):Option R144:=p144 n x.1 x.2.1 x.2.2.1 x.2.2.2.1
noncomputable def ylv:Sm:=⟨ybz,yhu,false,q144⟩
theorem yow:GamOK Try.prog G144:=fun _ _ h=>by cases h
theorem hh144:Hp 144 ylv:=hOf (zaf (an:=ylf) (c:=c144) zaw yow zau Try.func144 (by kernel_rfl) rfl (by decide +kernel)) fun n x=>(yd7 n x.1 x.2.1 x.2.2.1 x.2.2.2.1).trans (by simp only[ygy];try rfl)
theorem y144:Gk 144 ylv:=⟨⟨Try.f144,c144,Try.func144,by kernel_rfl,by decide +kernel⟩,hh144⟩
noncomputable def c127:Code:=(Try.f127.body.getD .skip)
def yqc:An:=⟨fun _=>⟨[],[]⟩,fun _ _=>none⟩
abbrev yb7:List PK:=[.own tFs true,.val i64 false]
abbrev yh2:List RK:=[.own tFs true]
abbrev R127:=zah yh2×zag yb7
noncomputable def G127:Gam:=fun _=>none
noncomputable def zfw(n:Nat)(a:List NT)(b:Int):Option R127 :=
 cond (decide ((0:Int)<b)) (cond (decide ((0:Int)≤b)) (cond (decide (b<(↑a.length:Int))) (cond (decide ((a.getD b.toNat ZN).2.2.2.2.1=(0:Int))) (cond (decide ((0:Int)≤b)) (cond (decide (b<(↑a.length:Int))) (cond (decide ((a.getD b.toNat ZN).2.2.2.2.2.1=(0:Int))) (cond (decide ((0:Int)≤b)) (cond (decide (b<(↑a.length:Int))) (some ((a.set b.toNat ZN,()),())) none) none) (some ((a,()),()))) none) none) (some ((a,()),()))) none) none) (some ((a,()),()))
theorem yef(n:Nat)(a:List NT)(b:Int):runF TT G127 yqc Try.f127 c127 yb7 yh2 n (a,b,())=zfw n a b:=by kernel_rfl
noncomputable def p127(n:Nat)(a:List NT)(b:Int):Option R127:=zfw n a b
noncomputable def q127(n:Nat)(x:zai yb7):Option R127:=p127 n x.1 x.2.1
noncomputable def yff:Sm:=⟨yb7,yh2,false,q127⟩
theorem yo5:GamOK Try.prog G127:=fun _ _ h=>by cases h
theorem hh127:Hp 127 yff:=hOf (zaf (an:=yqc) (c:=c127) zaw yo5 zau Try.func127 (by kernel_rfl) rfl (by decide +kernel)) fun n x=>(yef n x.1 x.2.1).trans rfl
theorem y127:Gk 127 yff:=⟨⟨Try.f127,c127,Try.func127,by kernel_rfl,by decide +kernel⟩,hh127⟩
noncomputable def c132:Code:=(Try.f132.body.getD .skip)
def yp9:An:=⟨fun _=>⟨[],[]⟩,fun _ _=>none⟩
abbrev yb2:List PK:=[.own tFs true,.val i64 false,.val .bool false]
abbrev yhx:List RK:=[.own tFs true,.val i64 false]
abbrev R132:=zah yhx×zag yb2
noncomputable def G132:Gam:=fun f=>match f with|127=>some yff|_=>none
noncomputable def zft(n:Nat)(a:List NT)(b:Int)(c:Bool):Option R132 :=
 cond (decide ((0:Int)≤b)) (cond (decide (b<(↑a.length:Int))) (cond c (cond (decide ((99:Int)≤(a.getD b.toNat ZN).2.2.2.2.2.1)) (some ((a,((6:Int),())),())) (cond (!c) (cond (decide ((a.getD b.toNat ZN).2.2.2.2.2.1=(0:Int))) (some ((a,((6:Int),())),())) (cond c (cond (decide ((0:Int)≤b)) (cond (decide (b<(↑a.length:Int))) (some ((a.set b.toNat ((a.getD b.toNat ZN).1,(a.getD b.toNat ZN).2.1,(a.getD b.toNat ZN).2.2.1,(a.getD b.toNat ZN).2.2.2.1,(a.getD b.toNat ZN).2.2.2.2.1,IntKind.i64.wrap ((a.getD b.toNat ZN).2.2.2.2.2.1+(1:Int)),(a.getD b.toNat ZN).2.2.2.2.2.2),((0:Int),())),())) none) none) (cond (decide ((0:Int)≤b)) (cond (decide (b<(↑a.length:Int))) ((q127 n (a.set b.toNat ((a.getD b.toNat ZN).1,(a.getD b.toNat ZN).2.1,(a.getD b.toNat ZN).2.2.1,(a.getD b.toNat ZN).2.2.2.1,(a.getD b.toNat ZN).2.2.2.2.1,IntKind.i64.wrap ((a.getD b.toNat ZN).2.2.2.2.2.1 - (1:Int)),(a.getD b.toNat ZN).2.2.2.2.2.2),b,())).bind fun r0=>some ((r0.1.1,((0:Int),())),())) none) none))) (cond c (cond (decide ((0:Int)≤b)) (cond (decide (b<(↑a.length:Int))) (some ((a.set b.toNat ((a.getD b.toNat ZN).1,(a.getD b.toNat ZN).2.1,(a.getD b.toNat ZN).2.2.1,(a.getD b.toNat ZN).2.2.2.1,(a.getD b.toNat ZN).2.2.2.2.1,IntKind.i64.wrap ((a.getD b.toNat ZN).2.2.2.2.2.1+(1:Int)),(a.getD b.toNat ZN).2.2.2.2.2.2),((0:Int),())),())) none) none) (cond (decide ((0:Int)≤b)) (cond (decide (b<(↑a.length:Int))) ((q127 n (a.set b.toNat ((a.getD b.toNat ZN).1,(a.getD b.toNat ZN).2.1,(a.getD b.toNat ZN).2.2.1,(a.getD b.toNat ZN).2.2.2.1,(a.getD b.toNat ZN).2.2.2.2.1,IntKind.i64.wrap ((a.getD b.toNat ZN).2.2.2.2.2.1 - (1:Int)),(a.getD b.toNat ZN).2.2.2.2.2.2),b,())).bind fun r1=>some ((r1.1.1,((0:Int),())),())) none) none)))) (cond (!c) (cond (decide ((a.getD b.toNat ZN).2.2.2.2.2.1=(0:Int))) (some ((a,((6:Int),())),())) (cond c (cond (decide ((0:Int)≤b)) (cond (decide (b<(↑a.length:Int))) (some ((a.set b.toNat ((a.getD b.toNat ZN).1,(a.getD b.toNat ZN).2.1,(a.getD b.toNat ZN).2.2.1,(a.getD b.toNat ZN).2.2.2.1,(a.getD b.toNat ZN).2.2.2.2.1,IntKind.i64.wrap ((a.getD b.toNat ZN).2.2.2.2.2.1+(1:Int)),(a.getD b.toNat ZN).2.2.2.2.2.2),((0:Int),())),())) none) none) (cond (decide ((0:Int)≤b)) (cond (decide (b<(↑a.length:Int))) ((q127 n (a.set b.toNat ((a.getD b.toNat ZN).1,(a.getD b.toNat ZN).2.1,(a.getD b.toNat ZN).2.2.1,(a.getD b.toNat ZN).2.2.2.1,(a.getD b.toNat ZN).2.2.2.2.1,IntKind.i64.wrap ((a.getD b.toNat ZN).2.2.2.2.2.1 - (1:Int)),(a.getD b.toNat ZN).2.2.2.2.2.2),b,())).bind fun r2=>some ((r2.1.1,((0:Int),())),())) none) none))) (cond c (cond (decide ((0:Int)≤b)) (cond (decide (b<(↑a.length:Int))) (some ((a.set b.toNat ((a.getD b.toNat ZN).1,(a.getD b.toNat ZN).2.1,(a.getD b.toNat ZN).2.2.1,(a.getD b.toNat ZN).2.2.2.1,(a.getD b.toNat ZN).2.2.2.2.1,IntKind.i64.wrap ((a.getD b.toNat ZN).2.2.2.2.2.1+(1:Int)),(a.getD b.toNat ZN).2.2.2.2.2.2),((0:Int),())),())) none) none) (cond (decide ((0:Int)≤b)) (cond (decide (b<(↑a.length:Int))) ((q127 n (a.set b.toNat ((a.getD b.toNat ZN).1,(a.getD b.toNat ZN).2.1,(a.getD b.toNat ZN).2.2.1,(a.getD b.toNat ZN).2.2.2.1,(a.getD b.toNat ZN).2.2.2.2.1,IntKind.i64.wrap ((a.getD b.toNat ZN).2.2.2.2.2.1 - (1:Int)),(a.getD b.toNat ZN).2.2.2.2.2.2),b,())).bind fun r3=>some ((r3.1.1,((0:Int),())),())) none) none)))) none) none
theorem yea(n:Nat)(a:List NT)(b:Int)(c:Bool):runF TT G132 yp9 Try.f132 c132 yb2 yhx n (a,b,c,())=zft n a b c:=by kernel_rfl
noncomputable def p132(n:Nat)(a:List NT)(b:Int)(c:Bool):Option R132:=zft n a b c
noncomputable def q132(n:Nat)(x:zai yb2):Option R132:=p132 n x.1 x.2.1 x.2.2.1
noncomputable def ylx:Sm:=⟨yb2,yhx,false,q132⟩
theorem yo0:GamOK Try.prog G132:=by intro f s h;unfold G132 at h;split at h;exact gj h y127;cases h
theorem hh132:Hp 132 ylx:=hOf (zaf (an:=yp9) (c:=c132) zaw yo0 zau Try.func132 (by kernel_rfl) rfl (by decide +kernel)) fun n x=>(yea n x.1 x.2.1 x.2.2.1).trans rfl
theorem y132:Gk 132 ylx:=⟨⟨Try.f132,c132,Try.func132,by kernel_rfl,by decide +kernel⟩,hh132⟩
noncomputable def c145:Code:=(Try.f145.body.getD .skip)
def yle:An:=⟨fun r=>match r with|3=>⟨[0,5,6],[]⟩|_=>⟨[],[]⟩,fun _ _=>none⟩
abbrev yby:List PK:=[.bx tRd,.val i64 false]
abbrev yht:List RK:=[.val .str false]
abbrev R145:=zah yht×zag yby
noncomputable def G145:Gam:=fun f=>match f with|102=>some zrj|_=>none
noncomputable def zy0:Nat→Pt→List Nat→St→Option R145:=atF TT G145 yle Try.f145 c145 _ _
def zgg(x0:Int)(x1:Li)(x2:Int)(x3:Li):St:=(St.mk ([AV.par 0 false [SV.bptr 1000000 0],Uu,Uu,Uu,Uu,AV.one (Sr 1000001),Ai x0]++Ur 17) [(1000000,(Ent.box [SV.con (⟨5,Ty.int IntKind.u8,x1⟩:Rw),Si x2])),(1000001,Er ⟨5,Ty.int IntKind.u8,x3⟩)])
noncomputable def zfn(n:Nat)(lL3:Int→Li→Int→Li→Option R145)(a:Li×Int)(b:Int):Option R145 :=
 (q102 n ((a.1,a.2),IntKind.i64.wrap (b+(1:Int)),())).bind fun r0=>lL3 r0.1.1 r0.2.1.1 r0.2.1.2 ([])
noncomputable def zfo(n:Nat)(lL3:Int→Li→Int→Li→Option R145)(x0:Int)(x1:Li)(x2:Int)(x3:Li):Option R145 :=
 cond (decide (0<x0)) ((q102 n ((x1,x2),(12:Int),())).bind fun r2=>cond (decide ((0:Int)≤r2.1.1)) (cond (decide (r2.1.1<(↑(ByteArray.mk #[(97:UInt8),(98:UInt8),(99:UInt8),(100:UInt8),(101:UInt8),(102:UInt8),(103:UInt8),(104:UInt8),(48:UInt8),(49:UInt8),(32:UInt8),(46:UInt8)]).size:Int))) (cond (decide ((x3.length+[(↑((ByteArray.mk #[(97:UInt8),(98:UInt8),(99:UInt8),(100:UInt8),(101:UInt8),(102:UInt8),(103:UInt8),(104:UInt8),(48:UInt8),(49:UInt8),(32:UInt8),(46:UInt8)]).data.toList.getD (Int.toNat r2.1.1) (0:UInt8)).toNat:Int)].length)*(1:Nat)≤(140737488355328:Nat))) (lL3 (IntKind.i64.wrap (x0 - 1)) r2.2.1.1 r2.2.1.2 (x3++[(↑((ByteArray.mk #[(97:UInt8),(98:UInt8),(99:UInt8),(100:UInt8),(101:UInt8),(102:UInt8),(103:UInt8),(104:UInt8),(48:UInt8),(49:UInt8),(32:UInt8),(46:UInt8)]).data.toList.getD (Int.toNat r2.1.1) (0:UInt8)).toNat:Int)])) none) none) none) (some ((List.foldl (fun r n=>r.push (UInt8.ofNat n.toNat)) ByteArray.empty x3,()),((x1,x2),())))
theorem yd6(n:Nat)(a:Li×Int)(b:Int):runF TT G145 yle Try.f145 c145 yby yht n (a,b,())=zfn n (fun x0 x1 x2 x3=>zy0 n (.head 3) [n] (zgg x0 x1 x2 x3)) a b:=by kernel_rfl
theorem zyc(n:Nat)(x0:Int)(x1:Li)(x2:Int)(x3:Li):zy0 n (.head 3) [0] (zgg x0 x1 x2 x3)=none:=by kernel_rfl
theorem ykt(n m3:Nat)(x0:Int)(x1:Li)(x2:Int)(x3:Li):zy0 n (.head 3) [m3+1] (zgg x0 x1 x2 x3)=zfo n (fun x0 x1 x2 x3=>zy0 n (.head 3) [m3] (zgg x0 x1 x2 x3)) x0 x1 x2 x3:=by kernel_rfl
noncomputable def zhm(n:Nat):Nat→Int→Li→Int→Li→Option R145
 |0,_,_,_,_=>none
 |m+1,x0,x1,x2,x3=>zfo n (zhm n m) x0 x1 x2 x3
noncomputable def p145(n:Nat)(a:Li×Int)(b:Int):Option R145:=zfn n (zhm n n) a b
theorem ygx(n:Nat):∀ (m3:Nat) (x0:Int) (x1:Li) (x2:Int) (x3:Li),zy0 n (.head 3) [m3] (zgg x0 x1 x2 x3)=zhm n m3 x0 x1 x2 x3:=by
 intro m
 induction m with
 |zero=>intros;rw[zyc];rfl
 |succ m ih =>
  intros;rw[ykt]
  try simp only[ih]
  rfl
noncomputable def q145(n:Nat)(x:zai yby):Option R145:=p145 n x.1 x.2.1
noncomputable def ylu:Sm:=⟨yby,yht,true,q145⟩
theorem yov:GamOK Try.prog G145:=by intro f s h;unfold G145 at h;split at h;exact gj h y102;cases h
theorem hh145:Hp 145 ylu:=hOf (zaf (an:=yle) (c:=c145) zaw yov zau Try.func145 (by kernel_rfl) rfl (by decide +kernel)) fun n x=>(yd6 n x.1 x.2.1).trans (by simp only[ygx];try rfl)
theorem y145:Gk 145 ylu:=⟨⟨Try.f145,c145,Try.func145,by kernel_rfl,by decide +kernel⟩,hh145⟩
noncomputable def c111:Code:=(Try.f111.body.getD .skip)
def yqi:An:=⟨fun _=>⟨[],[]⟩,fun _ _=>none⟩
abbrev yci:List PK:=[.own tFs true,.val tCr true,.val i64 false,.val i64 false,.val .str false]
abbrev yib:List RK:=[.own tFs true,.val i64 false]
abbrev R111:=zah yib×zag yci
noncomputable def G111:Gam:=fun f=>match f with|125=>some zzr|126=>some zup|140=>some zzp|_=>none
noncomputable def zf6(n:Nat)(a:List NT)(b:Int×Int×Li)(c d:Int)(e:ByteArray):Option R111 :=
 cond (decide ((0:Int)≤c)) (cond (decide (c<(↑a.length:Int))) (cond (!decide ((a.getD c.toNat ZN).1=(1:Int))) (some ((a,((4:Int),())),())) ((q125 n (a,(b.1,b.2.1,b.2.2),d,(3:Int),())).bind fun r0=>cond (!decide (r0.1.1=(0:Int))) (some ((a,(r0.1.1,())),())) (cond (decide ((0:Int)≤d)) (cond (decide (d<(↑a.length:Int))) ((q126 n (((a.getD d.toNat ZN).1,(a.getD d.toNat ZN).2.1,(a.getD d.toNat ZN).2.2.1,(a.getD d.toNat ZN).2.2.2.1,(a.getD d.toNat ZN).2.2.2.2.1,(a.getD d.toNat ZN).2.2.2.2.2.1,(a.getD d.toNat ZN).2.2.2.2.2.2.1,(a.getD d.toNat ZN).2.2.2.2.2.2.2.1,(a.getD d.toNat ZN).2.2.2.2.2.2.2.2),e,())).bind fun r1=>cond (decide ((0:Int)≤r1.1.1)) (some ((a,((3:Int),())),())) (cond (decide ((0:Int)≤d)) (cond (decide (d<(↑a.length:Int))) (cond (decide ((6:Int)≤(↑(List.length (a.getD d.toNat ZN).2.2.2.2.2.2.2.2):Int))) (some ((a,((7:Int),())),())) (cond (decide ((0:Int)≤c)) (cond (decide (c<(↑a.length:Int))) (cond (decide ((99:Int)≤(a.getD c.toNat ZN).2.2.2.2.1)) (some ((a,((7:Int),())),())) (cond (decide ((0:Int)≤c)) (cond (decide (c<(↑a.length:Int))) (cond (decide ((0:Int)≤c)) (cond (decide (c<(↑a.length:Int))) ((q140 n (a.set c.toNat ((a.getD c.toNat ZN).1,(a.getD c.toNat ZN).2.1,(a.getD c.toNat ZN).2.2.1,(a.getD c.toNat ZN).2.2.2.1,IntKind.i64.wrap ((a.getD c.toNat ZN).2.2.2.2.1+(1:Int)),(a.getD c.toNat ZN).2.2.2.2.2),d,(e,c),())).bind fun r2=>some ((r2.1.1,((0:Int),())),())) none) none) none) none)) none) none)) none) none)) none) none))) none) none
theorem yeq(n:Nat)(a:List NT)(b:Int×Int×Li)(c d:Int)(e:ByteArray):runF TT G111 yqi Try.f111 c111 yci yib n (a,b,c,d,e,())=zf6 n a b c d e:=by kernel_rfl
noncomputable def p111(n:Nat)(a:List NT)(b:Int×Int×Li)(c d:Int)(e:ByteArray):Option R111:=zf6 n a b c d e
noncomputable def q111(n:Nat)(x:zai yci):Option R111:=p111 n x.1 x.2.1 x.2.2.1 x.2.2.2.1 x.2.2.2.2.1
noncomputable def yl7:Sm:=⟨yci,yib,false,q111⟩
theorem ype:GamOK Try.prog G111:=by intro f s h;unfold G111 at h;split at h;exact gj h y125;exact gj h y126;exact gj h y140;cases h
theorem hh111:Hp 111 yl7:=hOf (zaf (an:=yqi) (c:=c111) zaw ype zau Try.func111 (by kernel_rfl) rfl (by decide +kernel)) fun n x=>(yeq n x.1 x.2.1 x.2.2.1 x.2.2.2.1 x.2.2.2.2.1).trans rfl
theorem y111:Gk 111 yl7:=⟨⟨Try.f111,c111,Try.func111,by kernel_rfl,by decide +kernel⟩,hh111⟩
noncomputable def c128:Code:=(Try.f128.body.getD .skip)
def yqb:An:=⟨fun _=>⟨[],[]⟩,fun _ _=>none⟩
abbrev yb6:List PK:=[.own tFs true,.val i64 false,.val i64 false]
abbrev yh1:List RK:=[.own tFs true]
abbrev R128:=zah yh1×zag yb6
noncomputable def G128:Gam:=fun _=>none
noncomputable def zfv(n:Nat)(a:List NT)(b c:Int):Option R128 :=
 cond (decide ((0:Int)≤b)) (cond (decide (b<(↑a.length:Int))) (cond (decide ((0:Int)≤c)) (cond (decide (c≤(↑(List.length (a.getD b.toNat ZN).2.2.2.2.2.2.2.2):Int))) (cond (decide (((0:Nat)+(List.take (c - (0:Int)).toNat (List.drop ((0:Nat)+Int.toNat (0:Int)) (a.getD b.toNat ZN).2.2.2.2.2.2.2.2)).length)*(24:Nat)≤(140737488355328:Nat))) (cond (decide ((0:Int)≤IntKind.i64.wrap (c+(1:Int)))) (cond (decide (IntKind.i64.wrap (c+(1:Int))≤(↑(List.length (a.getD b.toNat ZN).2.2.2.2.2.2.2.2):Int))) (cond (decide (((List.take (c - (0:Int)).toNat (List.drop ((0:Nat)+Int.toNat (0:Int)) (a.getD b.toNat ZN).2.2.2.2.2.2.2.2)).length+(List.take ((↑(List.length (a.getD b.toNat ZN).2.2.2.2.2.2.2.2):Int) - IntKind.i64.wrap (c+(1:Int))).toNat (List.drop ((0:Nat)+(IntKind.i64.wrap (c+(1:Int))).toNat) (a.getD b.toNat ZN).2.2.2.2.2.2.2.2)).length)*(24:Nat)≤(140737488355328:Nat))) (cond (decide ((0:Int)≤b)) (cond (decide (b<(↑a.length:Int))) (some ((a.set b.toNat ((a.getD b.toNat ZN).1,(a.getD b.toNat ZN).2.1,(a.getD b.toNat ZN).2.2.1,(a.getD b.toNat ZN).2.2.2.1,(a.getD b.toNat ZN).2.2.2.2.1,(a.getD b.toNat ZN).2.2.2.2.2.1,(a.getD b.toNat ZN).2.2.2.2.2.2.1,(a.getD b.toNat ZN).2.2.2.2.2.2.2.1,List.take (c - (0:Int)).toNat (List.drop ((0:Nat)+Int.toNat (0:Int)) (a.getD b.toNat ZN).2.2.2.2.2.2.2.2)++List.take ((↑(List.length (a.getD b.toNat ZN).2.2.2.2.2.2.2.2):Int) - IntKind.i64.wrap (c+(1:Int))).toNat (List.drop ((0:Nat)+(IntKind.i64.wrap (c+(1:Int))).toNat) (a.getD b.toNat ZN).2.2.2.2.2.2.2.2)),()),())) none) none) none) none) none) none) none) none) none) none
theorem yee(n:Nat)(a:List NT)(b c:Int):runF TT G128 yqb Try.f128 c128 yb6 yh1 n (a,b,c,())=zfv n a b c:=by kernel_rfl
noncomputable def p128(n:Nat)(a:List NT)(b c:Int):Option R128:=zfv n a b c
noncomputable def q128(n:Nat)(x:zai yb6):Option R128:=p128 n x.1 x.2.1 x.2.2.1
noncomputable def yfe:Sm:=⟨yb6,yh1,false,q128⟩
theorem yo4:GamOK Try.prog G128:=fun _ _ h=>by cases h
theorem hh128:Hp 128 yfe:=hOf (zaf (an:=yqb) (c:=c128) zaw yo4 zau Try.func128 (by kernel_rfl) rfl (by decide +kernel)) fun n x=>(yee n x.1 x.2.1 x.2.2.1).trans rfl
theorem y128:Gk 128 yfe:=⟨⟨Try.f128,c128,Try.func128,by kernel_rfl,by decide +kernel⟩,hh128⟩
noncomputable def c77:Code:=(Try.f77.body.getD .skip)
def an77:An:=⟨fun _=>⟨[],[]⟩,fun _ _=>none⟩
abbrev ps77:List PK:=[.own tFs true,.val tCr true,.val i64 false,.val .str false]
abbrev rs77:List RK:=[.own tFs true,.val i64 false]
abbrev R77:=zah rs77×zag ps77
noncomputable def G77:Gam:=fun f=>match f with|125=>some zzr|126=>some zup|127=>some yff|128=>some yfe|_=>none
noncomputable def zik(n:Nat)(a:List NT)(b:Int×Int×Li)(c:Int)(d:ByteArray):Option R77 :=
 (q125 n (a,(b.1,b.2.1,b.2.2),c,(3:Int),())).bind fun r0=>cond (!decide (r0.1.1=(0:Int))) (some ((a,(r0.1.1,())),())) (cond (decide ((0:Int)≤c)) (cond (decide (c<(↑a.length:Int))) ((q126 n (((a.getD c.toNat ZN).1,(a.getD c.toNat ZN).2.1,(a.getD c.toNat ZN).2.2.1,(a.getD c.toNat ZN).2.2.2.1,(a.getD c.toNat ZN).2.2.2.2.1,(a.getD c.toNat ZN).2.2.2.2.2.1,(a.getD c.toNat ZN).2.2.2.2.2.2.1,(a.getD c.toNat ZN).2.2.2.2.2.2.2.1,(a.getD c.toNat ZN).2.2.2.2.2.2.2.2),d,())).bind fun r1=>cond (decide (r1.1.1<(0:Int))) (some ((a,((2:Int),())),())) (cond (decide ((0:Int)≤c)) (cond (decide (c<(↑a.length:Int))) (cond (decide ((0:Int)≤r1.1.1)) (cond (decide (r1.1.1<(↑(List.length (a.getD c.toNat ZN).2.2.2.2.2.2.2.2):Int))) (cond (decide ((0:Int)≤(List.getD (a.getD c.toNat ZN).2.2.2.2.2.2.2.2 (Int.toNat r1.1.1) (ByteArray.empty,(0:Int))).2)) (cond (decide ((List.getD (a.getD c.toNat ZN).2.2.2.2.2.2.2.2 (Int.toNat r1.1.1) (ByteArray.empty,(0:Int))).2<(↑a.length:Int))) (cond (decide ((a.getD (Int.toNat (List.getD (a.getD c.toNat ZN).2.2.2.2.2.2.2.2 (Int.toNat r1.1.1) (ByteArray.empty,(0:Int))).2) ZN).1=(2:Int))) (cond (decide ((0:Int)<(↑(List.length (a.getD (Int.toNat (List.getD (a.getD c.toNat ZN).2.2.2.2.2.2.2.2 (Int.toNat r1.1.1) (ByteArray.empty,(0:Int))).2) ZN).2.2.2.2.2.2.2.2):Int))) (some ((a,((6:Int),())),())) (cond (decide ((0:Int)<(a.getD (Int.toNat (List.getD (a.getD c.toNat ZN).2.2.2.2.2.2.2.2 (Int.toNat r1.1.1) (ByteArray.empty,(0:Int))).2) ZN).2.2.2.2.2.1)) (some ((a,((6:Int),())),())) (cond (decide ((0:Int)≤(List.getD (a.getD c.toNat ZN).2.2.2.2.2.2.2.2 (Int.toNat r1.1.1) (ByteArray.empty,(0:Int))).2)) (cond (decide ((List.getD (a.getD c.toNat ZN).2.2.2.2.2.2.2.2 (Int.toNat r1.1.1) (ByteArray.empty,(0:Int))).2<(↑a.length:Int))) ((q128 n (a.set (Int.toNat (List.getD (a.getD c.toNat ZN).2.2.2.2.2.2.2.2 (Int.toNat r1.1.1) (ByteArray.empty,(0:Int))).2) ((a.getD (Int.toNat (List.getD (a.getD c.toNat ZN).2.2.2.2.2.2.2.2 (Int.toNat r1.1.1) (ByteArray.empty,(0:Int))).2) ZN).1,(a.getD (Int.toNat (List.getD (a.getD c.toNat ZN).2.2.2.2.2.2.2.2 (Int.toNat r1.1.1) (ByteArray.empty,(0:Int))).2) ZN).2.1,(a.getD (Int.toNat (List.getD (a.getD c.toNat ZN).2.2.2.2.2.2.2.2 (Int.toNat r1.1.1) (ByteArray.empty,(0:Int))).2) ZN).2.2.1,(a.getD (Int.toNat (List.getD (a.getD c.toNat ZN).2.2.2.2.2.2.2.2 (Int.toNat r1.1.1) (ByteArray.empty,(0:Int))).2) ZN).2.2.2.1,IntKind.i64.wrap ((a.getD (Int.toNat (List.getD (a.getD c.toNat ZN).2.2.2.2.2.2.2.2 (Int.toNat r1.1.1) (ByteArray.empty,(0:Int))).2) ZN).2.2.2.2.1 - (1:Int)),(a.getD (Int.toNat (List.getD (a.getD c.toNat ZN).2.2.2.2.2.2.2.2 (Int.toNat r1.1.1) (ByteArray.empty,(0:Int))).2) ZN).2.2.2.2.2),c,r1.1.1,())).bind fun r2=>(q127 n (r2.1.1,(List.getD (a.getD c.toNat ZN).2.2.2.2.2.2.2.2 (Int.toNat r1.1.1) (ByteArray.empty,(0:Int))).2,())).bind fun r3=>some ((r3.1.1,((0:Int),())),())) none) none))) (cond (decide ((0:Int)≤(List.getD (a.getD c.toNat ZN).2.2.2.2.2.2.2.2 (Int.toNat r1.1.1) (ByteArray.empty,(0:Int))).2)) (cond (decide ((List.getD (a.getD c.toNat ZN).2.2.2.2.2.2.2.2 (Int.toNat r1.1.1) (ByteArray.empty,(0:Int))).2<(↑a.length:Int))) ((q128 n (a.set (Int.toNat (List.getD (a.getD c.toNat ZN).2.2.2.2.2.2.2.2 (Int.toNat r1.1.1) (ByteArray.empty,(0:Int))).2) ((a.getD (Int.toNat (List.getD (a.getD c.toNat ZN).2.2.2.2.2.2.2.2 (Int.toNat r1.1.1) (ByteArray.empty,(0:Int))).2) ZN).1,(a.getD (Int.toNat (List.getD (a.getD c.toNat ZN).2.2.2.2.2.2.2.2 (Int.toNat r1.1.1) (ByteArray.empty,(0:Int))).2) ZN).2.1,(a.getD (Int.toNat (List.getD (a.getD c.toNat ZN).2.2.2.2.2.2.2.2 (Int.toNat r1.1.1) (ByteArray.empty,(0:Int))).2) ZN).2.2.1,(a.getD (Int.toNat (List.getD (a.getD c.toNat ZN).2.2.2.2.2.2.2.2 (Int.toNat r1.1.1) (ByteArray.empty,(0:Int))).2) ZN).2.2.2.1,IntKind.i64.wrap ((a.getD (Int.toNat (List.getD (a.getD c.toNat ZN).2.2.2.2.2.2.2.2 (Int.toNat r1.1.1) (ByteArray.empty,(0:Int))).2) ZN).2.2.2.2.1 - (1:Int)),(a.getD (Int.toNat (List.getD (a.getD c.toNat ZN).2.2.2.2.2.2.2.2 (Int.toNat r1.1.1) (ByteArray.empty,(0:Int))).2) ZN).2.2.2.2.2),c,r1.1.1,())).bind fun r4=>(q127 n (r4.1.1,(List.getD (a.getD c.toNat ZN).2.2.2.2.2.2.2.2 (Int.toNat r1.1.1) (ByteArray.empty,(0:Int))).2,())).bind fun r5=>some ((r5.1.1,((0:Int),())),())) none) none)) none) none) none) none) none) none)) none) none)
theorem yjz(n:Nat)(a:List NT)(b:Int×Int×Li)(c:Int)(d:ByteArray):runF TT G77 an77 Try.f77 c77 ps77 rs77 n (a,b,c,d,())=zik n a b c d:=by kernel_rfl
noncomputable def p77(n:Nat)(a:List NT)(b:Int×Int×Li)(c:Int)(d:ByteArray):Option R77:=zik n a b c d
noncomputable def q77(n:Nat)(x:zai ps77):Option R77:=p77 n x.1 x.2.1 x.2.2.1 x.2.2.2.1
noncomputable def Sm77:Sm:=⟨ps77,rs77,false,q77⟩
theorem gam77:GamOK Try.prog G77:=by intro f s h;unfold G77 at h;split at h;exact gj h y125;exact gj h y126;exact gj h y127;exact gj h y128;cases h
theorem hh77:Hp 77 Sm77:=hOf (zaf (an:=an77) (c:=c77) zaw gam77 zau Try.func77 (by kernel_rfl) rfl (by decide +kernel)) fun n x=>(yjz n x.1 x.2.1 x.2.2.1 x.2.2.2.1).trans rfl
theorem y77:Gk 77 Sm77:=⟨⟨Try.f77,c77,Try.func77,by kernel_rfl,by decide +kernel⟩,hh77⟩
noncomputable def c143:Code:=(Try.f143.body.getD .skip)
def zzb:An:=⟨fun r=>match r with|4=>⟨[1,2,3,7],[]⟩|_=>⟨[],[]⟩,fun _ _=>none⟩
abbrev zkc:List PK:=[.val tFs true,.val i64 false,.val i64 false]
abbrev zna:List RK:=[.val .bool false]
abbrev R143:=zah zna×zag zkc
abbrev zdj:=Nat→zai zkc→Option R143
noncomputable def zzn(q:zdj):Sm:=⟨zkc,zna,false,q⟩
noncomputable def G143(qr143:zdj):Gam:=fun f=>match f with|143=>some (zzn qr143)|_=>none
theorem yoo(qr143:zdj)(hg:GamOK Try.prog (G143 qr143)):zdo Try.prog 143 ⟨zkc,zna,false,runF TT (G143 qr143) zzb Try.f143 c143 zkc zna⟩:=zaf zaw hg zau Try.func143 (by kernel_rfl) (by rfl) (by decide +kernel)
noncomputable def zy2(qr143:zdj):Nat→Pt→List Nat→St→Option R143:=atF TT (G143 qr143) zzb Try.f143 c143 _ _
def zgi(x0 x1 x2:Int)(x3:List NT):St:=(St.mk ([Uu,Ai x0,Ai x1,AV.one (SV.bptr 1000000 0),Uu,Uu,Uu,Ai x2]++Ur 38) [(1000000,(Ent.box [SV.con (⟨37,(Ty.int .i64).pair ((Ty.int .i64).pair ((Ty.int .i64).pair ((Ty.int .i64).pair ((Ty.int .i64).pair ((Ty.int .i64).pair (Ty.bool.pair (Ty.str.pair (Ty.row (nat_lit 100) (Ty.str.pair (Ty.int .i64)))))))))),x3⟩:Rw)]))])
noncomputable def zdq(qr143:zdj)(n:Nat)(lL4:Int→Int→Int→(List NT)→Option R143)(a:List NT)(b c:Int):Option R143 :=
 cond (decide (b=c)) (some ((true,()),())) (lL4 b c (0:Int) a)
noncomputable def zfq(qr143:zdj)(n:Nat)(lL4:Int→Int→Int→(List NT)→Option R143)(x0 x1 x2:Int)(x3:List NT):Option R143 :=
 cond (decide (0≤x0)) (cond (decide (x0<(↑x3.length:Int))) (cond (decide (x2<(↑(List.length (x3.getD x0.toNat ZN).2.2.2.2.2.2.2.2):Int))) (cond (decide (0≤x0)) (cond (decide (x0<(↑x3.length:Int))) (cond (decide (0≤x2)) (cond (decide (x2<(↑(List.length (x3.getD x0.toNat ZN).2.2.2.2.2.2.2.2):Int))) (cond (decide ((0:Int)≤(List.getD (x3.getD x0.toNat ZN).2.2.2.2.2.2.2.2 x2.toNat (ByteArray.empty,(0:Int))).2)) (cond (decide ((List.getD (x3.getD x0.toNat ZN).2.2.2.2.2.2.2.2 x2.toNat (ByteArray.empty,(0:Int))).2<(↑x3.length:Int))) (cond (decide ((x3.getD (Int.toNat (List.getD (x3.getD x0.toNat ZN).2.2.2.2.2.2.2.2 x2.toNat (ByteArray.empty,(0:Int))).2) ZN).1=(2:Int))) ((qr143 n (x3,(List.getD (x3.getD x0.toNat ZN).2.2.2.2.2.2.2.2 x2.toNat (ByteArray.empty,(0:Int))).2,x1,())).bind fun r1=>cond r1.1.1 (some ((true,()),())) (lL4 x0 x1 (IntKind.i64.wrap (x2+1)) x3)) (lL4 x0 x1 (IntKind.i64.wrap (x2+1)) x3)) none) none) none) none) none) none) (some ((false,()),()))) none) none
theorem yd8(qr143:zdj)(n:Nat)(a:List NT)(b c:Int):runF TT (G143 qr143) zzb Try.f143 c143 zkc zna n (a,b,c,())=(zdq qr143) n (fun x0 x1 x2 x3=>(zy2 qr143) n (.head 4) [n] (zgi x0 x1 x2 x3)) a b c:=by kernel_rfl
theorem zye(qr143:zdj)(n:Nat)(x0 x1 x2:Int)(x3:List NT):(zy2 qr143) n (.head 4) [0] (zgi x0 x1 x2 x3)=none:=by kernel_rfl
theorem ykv(qr143:zdj)(n m4:Nat)(x0 x1 x2:Int)(x3:List NT):(zy2 qr143) n (.head 4) [m4+1] (zgi x0 x1 x2 x3)=(zfq qr143) n (fun x0 x1 x2 x3=>(zy2 qr143) n (.head 4) [m4] (zgi x0 x1 x2 x3)) x0 x1 x2 x3:=by kernel_rfl
noncomputable def zhn(qr143:zdj)(n:Nat):Nat→Int→Int→Int→(List NT)→Option R143
 |0,_,_,_,_=>none
 |m+1,x0,x1,x2,x3=>(zfq qr143) n ((zhn qr143) n m) x0 x1 x2 x3
noncomputable def p143(qr143:zdj)(n:Nat)(a:List NT)(b c:Int):Option R143:=(zdq qr143) n ((zhn qr143) n n) a b c
theorem ygz(qr143:zdj)(n:Nat):∀ (m4:Nat) (x0 x1 x2:Int) (x3:List NT),(zy2 qr143) n (.head 4) [m4] (zgi x0 x1 x2 x3)=(zhn qr143) n m4 x0 x1 x2 x3:=by
 intro m
 induction m with
 |zero=>intros;rw[(zye qr143)];rfl
 |succ m ih =>
  intros;rw[(ykv qr143)]
  try simp only[ih]
  rfl
theorem ymb(qr143:zdj)(n:Nat)(a:List NT)(b c:Int):runF TT (G143 qr143) zzb Try.f143 c143 zkc zna n (a,b,c,())=(p143 qr143) n a b c:=by
 rw[(yd8 qr143)];simp only[(ygz qr143)]
 try rfl
noncomputable def yik(qr143:zdj)(n:Nat)(x:zai zkc):Option R143:=(p143 qr143) n x.1 x.2.1 x.2.2.1
theorem ydk(qr143:zdj)(hg:GamOK Try.prog (G143 qr143)):zdo Try.prog 143 ⟨zkc,zna,false,(yik qr143)⟩:=by
 have:=(yoo qr143) hg
 have e:(runF TT (G143 qr143) zzb Try.f143 c143 zkc zna)=(yik qr143):=by
  funext n x;exact(ymb qr143) n x.1 x.2.1 x.2.2.1
 rw[e]at this;exact this
theorem yox(qr143:zdj)(hq:zdo Try.prog 143 (zzn qr143)):GamOK Try.prog (G143 qr143):=by
 intro f s h;unfold G143 at h;split at h
 ·injection h with h;subst h;exact⟨⟨Try.f143,c143,Try.func143,by kernel_rfl,by decide +kernel⟩,hq⟩
 ·cases h
noncomputable def znm:Nat→zdj
 |0=>fun _ _=>none
 |k+1=>yik (znm k)
theorem ygg:∀ k,zdo Try.prog 143 (zzn (znm k))
 |0=>by intro n w Z vs x Fs y _ _ _ _ he;cases he
 |k+1=>ydk (znm k) (yox (znm k) (ygg k))
noncomputable def q143:zdj:=fun n x=>znm n n x
noncomputable def ylw:Sm:=⟨zkc,zna,false,q143⟩
theorem hh143:zdo Try.prog 143 ylw:=fun n=>ygg n n
theorem y143:Gk 143 ylw:=⟨⟨Try.f143,c143,Try.func143,by kernel_rfl,by decide +kernel⟩,hh143⟩
noncomputable def c110:Code:=(Try.f110.body.getD .skip)
def yqj:An:=⟨fun _=>⟨[],[]⟩,fun _ _=>none⟩
abbrev ycj:List PK:=[.own tFs true,.val tCr true,.val i64 false,.val .str false,.val i64 false,.val .str false]
abbrev yic:List RK:=[.own tFs true,.val i64 false]
abbrev R110:=zah yic×zag ycj
noncomputable def G110:Gam:=fun f=>match f with|126=>some zup|140=>some zzp|142=>some yfc|128=>some yfe|143=>some ylw|_=>none
noncomputable def zf7(n:Nat)(a:List NT)(b:Int×Int×Li)(c:Int)(d:ByteArray)(e:Int)(f:ByteArray):Option R110 :=
 cond (decide ((0:Int)≤c)) (cond (decide (c<(↑a.length:Int))) (cond (!decide ((a.getD c.toNat ZN).1=(2:Int))) (some ((a,((4:Int),())),())) (cond (decide ((0:Int)≤e)) (cond (decide (e<(↑a.length:Int))) (cond (!decide ((a.getD e.toNat ZN).1=(2:Int))) (some ((a,((4:Int),())),())) ((q142 n (a,(b.1,b.2.1,b.2.2),c,(3:Int),())).bind fun r0=>cond (!r0.1.1) (some ((a,((5:Int),())),())) ((q142 n (a,(b.1,b.2.1,b.2.2),e,(3:Int),())).bind fun r1=>cond (!r1.1.1) (some ((a,((5:Int),())),())) (cond (decide ((0:Int)≤c)) (cond (decide (c<(↑a.length:Int))) ((q126 n (((a.getD c.toNat ZN).1,(a.getD c.toNat ZN).2.1,(a.getD c.toNat ZN).2.2.1,(a.getD c.toNat ZN).2.2.2.1,(a.getD c.toNat ZN).2.2.2.2.1,(a.getD c.toNat ZN).2.2.2.2.2.1,(a.getD c.toNat ZN).2.2.2.2.2.2.1,(a.getD c.toNat ZN).2.2.2.2.2.2.2.1,(a.getD c.toNat ZN).2.2.2.2.2.2.2.2),d,())).bind fun r2=>cond (decide (r2.1.1<(0:Int))) (some ((a,((2:Int),())),())) (cond (decide ((0:Int)≤c)) (cond (decide (c<(↑a.length:Int))) (cond (decide ((0:Int)≤r2.1.1)) (cond (decide (r2.1.1<(↑(List.length (a.getD c.toNat ZN).2.2.2.2.2.2.2.2):Int))) (cond (decide ((0:Int)≤e)) (cond (decide (e<(↑a.length:Int))) ((q126 n (((a.getD e.toNat ZN).1,(a.getD e.toNat ZN).2.1,(a.getD e.toNat ZN).2.2.1,(a.getD e.toNat ZN).2.2.2.1,(a.getD e.toNat ZN).2.2.2.2.1,(a.getD e.toNat ZN).2.2.2.2.2.1,(a.getD e.toNat ZN).2.2.2.2.2.2.1,(a.getD e.toNat ZN).2.2.2.2.2.2.2.1,(a.getD e.toNat ZN).2.2.2.2.2.2.2.2),f,())).bind fun r3=>cond (decide ((0:Int)≤r3.1.1)) (some ((a,((3:Int),())),())) (cond (decide ((0:Int)≤(List.getD (a.getD c.toNat ZN).2.2.2.2.2.2.2.2 (Int.toNat r2.1.1) (ByteArray.empty,(0:Int))).2)) (cond (decide ((List.getD (a.getD c.toNat ZN).2.2.2.2.2.2.2.2 (Int.toNat r2.1.1) (ByteArray.empty,(0:Int))).2<(↑a.length:Int))) (cond (decide ((a.getD (Int.toNat (List.getD (a.getD c.toNat ZN).2.2.2.2.2.2.2.2 (Int.toNat r2.1.1) (ByteArray.empty,(0:Int))).2) ZN).1=(2:Int))) ((q143 n (a,(List.getD (a.getD c.toNat ZN).2.2.2.2.2.2.2.2 (Int.toNat r2.1.1) (ByteArray.empty,(0:Int))).2,e,())).bind fun r4=>cond r4.1.1 (some ((a,((6:Int),())),())) (cond (!decide (c=e)) (cond (decide ((0:Int)≤e)) (cond (decide (e<(↑a.length:Int))) (cond (decide ((6:Int)≤(↑(List.length (a.getD e.toNat ZN).2.2.2.2.2.2.2.2):Int))) (some ((a,((7:Int),())),())) ((q128 n (a,c,r2.1.1,())).bind fun r5=>(q140 n (r5.1.1,e,(f,(List.getD (a.getD c.toNat ZN).2.2.2.2.2.2.2.2 (Int.toNat r2.1.1) (ByteArray.empty,(0:Int))).2),())).bind fun r6=>some ((r6.1.1,((0:Int),())),()))) none) none) ((q128 n (a,c,r2.1.1,())).bind fun r7=>(q140 n (r7.1.1,e,(f,(List.getD (a.getD c.toNat ZN).2.2.2.2.2.2.2.2 (Int.toNat r2.1.1) (ByteArray.empty,(0:Int))).2),())).bind fun r8=>some ((r8.1.1,((0:Int),())),())))) (cond (!decide (c=e)) (cond (decide ((0:Int)≤e)) (cond (decide (e<(↑a.length:Int))) (cond (decide ((6:Int)≤(↑(List.length (a.getD e.toNat ZN).2.2.2.2.2.2.2.2):Int))) (some ((a,((7:Int),())),())) ((q128 n (a,c,r2.1.1,())).bind fun r9=>(q140 n (r9.1.1,e,(f,(List.getD (a.getD c.toNat ZN).2.2.2.2.2.2.2.2 (Int.toNat r2.1.1) (ByteArray.empty,(0:Int))).2),())).bind fun r10=>some ((r10.1.1,((0:Int),())),()))) none) none) ((q128 n (a,c,r2.1.1,())).bind fun r11=>(q140 n (r11.1.1,e,(f,(List.getD (a.getD c.toNat ZN).2.2.2.2.2.2.2.2 (Int.toNat r2.1.1) (ByteArray.empty,(0:Int))).2),())).bind fun r12=>some ((r12.1.1,((0:Int),())),())))) none) none)) none) none) none) none) none) none)) none) none)))) none) none)) none) none
theorem yer(n:Nat)(a:List NT)(b:Int×Int×Li)(c:Int)(d:ByteArray)(e:Int)(f:ByteArray):runF TT G110 yqj Try.f110 c110 ycj yic n (a,b,c,d,e,f,())=zf7 n a b c d e f:=by kernel_rfl
noncomputable def p110(n:Nat)(a:List NT)(b:Int×Int×Li)(c:Int)(d:ByteArray)(e:Int)(f:ByteArray):Option R110:=zf7 n a b c d e f
noncomputable def q110(n:Nat)(x:zai ycj):Option R110:=p110 n x.1 x.2.1 x.2.2.1 x.2.2.2.1 x.2.2.2.2.1 x.2.2.2.2.2.1
noncomputable def yl8:Sm:=⟨ycj,yic,false,q110⟩
theorem ypf:GamOK Try.prog G110:=by intro f s h;unfold G110 at h;split at h;exact gj h y126;exact gj h y140;exact gj h y142;exact gj h y128;exact gj h y143;cases h
theorem hh110:Hp 110 yl8:=hOf (zaf (an:=yqj) (c:=c110) zaw ypf zau Try.func110 (by kernel_rfl) rfl (by decide +kernel)) fun n x=>(yer n x.1 x.2.1 x.2.2.1 x.2.2.2.1 x.2.2.2.2.1 x.2.2.2.2.2.1).trans rfl
theorem y110:Gk 110 yl8:=⟨⟨Try.f110,c110,Try.func110,by kernel_rfl,by decide +kernel⟩,hh110⟩
noncomputable def c113:Code:=(Try.f113.body.getD .skip)
def yll:An:=⟨fun _=>⟨[],[]⟩,fun r i=>match r,i with|10,0=>some ⟨[0,3,4,5,6,7],[]⟩|_,_=>none⟩
abbrev ycg:List PK:=[.bx tRd,.own tFs true]
abbrev yh_:List RK:=[.own tFs true]
abbrev R113:=zah yh_×zag ycg
noncomputable def G113:Gam:=fun f=>match f with|57=>some Sm57|102=>some zrj|65=>some Sm65|106=>some yl9|67=>some Sm67|144=>some ylv|132=>some ylx|145=>some ylu|111=>some yl7|77=>some Sm77|110=>some yl8|_=>none
theorem yk_{β:Type}(t:Nat)(f:St→Option β)(S:St):at_ t f S=f S:=rfl
noncomputable def yla:Nat→Pt→List Nat→St→Option R113:=atF TT G113 yll Try.f113 c113 _ _
def ze8(x0 x1:Int)(x2:Li)(x3 x4 x5:Int)(x6:List NT)(x7:Li):St:=(St.mk ([AV.par 0 false [SV.bptr 1000000 0],Uu,Uu,AV.one (SV.bptr 1000001 0),AV.one (SV.bptr 1000002 0),AV.one (SV.bptr 1000003 0),Ai x0,Ai x1]++Ur 128) [(1000000,(Ent.box [SV.con (⟨5,Ty.int IntKind.u8,x2⟩:Rw),Si x3])),(1000001,(Ent.box [Sr 1000004])),(1000002,(Ent.box [SV.nil])),(1000003,(Ent.box [Si x4,Si x5,Sr 1000005])),(1000004,(Er ⟨37,(Ty.int .i64).pair ((Ty.int .i64).pair ((Ty.int .i64).pair ((Ty.int .i64).pair ((Ty.int .i64).pair ((Ty.int .i64).pair (Ty.bool.pair (Ty.str.pair (Ty.row (nat_lit 100) (Ty.str.pair (Ty.int .i64)))))))))),x6⟩)),(1000005,Er ⟨3,Ty.int .i64,x7⟩)])
noncomputable def zf4(n:Nat)(lC10_0:Int→Int→Li→Int→Int→Int→(List NT)→Li→Option R113)(a:Li×Int)(b:List NT):Option R113 :=
 (q57 n ((a.1,a.2),())).bind fun r0=>(q102 n ((r0.2.1.1,r0.2.1.2),(2:Int),())).bind fun r1=>cond (decide (r1.1.1=(0:Int))) ((q102 n ((r1.2.1.1,r1.2.1.2),(6:Int),())).bind fun r2=>(q102 n ((r2.2.1.1,r2.2.1.2),(6:Int),())).bind fun r3=>(q65 n (b,r2.1.1,())).bind fun r4=>cond (!r4.1.1) ((q65 n (b,r3.1.1,())).bind fun r5=>cond (!r5.1.1) (lC10_0 (0:Int) (0:Int) r3.2.1.1 r3.2.1.2 (0:Int) r0.1.1.2.1 b r0.1.1.2.2) (lC10_0 (0:Int) r3.1.1 r3.2.1.1 r3.2.1.2 (0:Int) r0.1.1.2.1 b r0.1.1.2.2)) ((q65 n (b,r3.1.1,())).bind fun r29=>cond (!r29.1.1) (lC10_0 r2.1.1 (0:Int) r3.2.1.1 r3.2.1.2 (0:Int) r0.1.1.2.1 b r0.1.1.2.2) (lC10_0 r2.1.1 r3.1.1 r3.2.1.1 r3.2.1.2 (0:Int) r0.1.1.2.1 b r0.1.1.2.2))) ((q102 n ((r1.2.1.1,r1.2.1.2),(6:Int),())).bind fun r30=>(q102 n ((r30.2.1.1,r30.2.1.2),(6:Int),())).bind fun r31=>(q65 n (b,r30.1.1,())).bind fun r32=>cond (!r32.1.1) ((q65 n (b,r31.1.1,())).bind fun r33=>cond (!r33.1.1) (lC10_0 (0:Int) (0:Int) r31.2.1.1 r31.2.1.2 r0.1.1.1 r0.1.1.2.1 b r0.1.1.2.2) (lC10_0 (0:Int) r31.1.1 r31.2.1.1 r31.2.1.2 r0.1.1.1 r0.1.1.2.1 b r0.1.1.2.2)) ((q65 n (b,r31.1.1,())).bind fun r34=>cond (!r34.1.1) (lC10_0 r30.1.1 (0:Int) r31.2.1.1 r31.2.1.2 r0.1.1.1 r0.1.1.2.1 b r0.1.1.2.2) (lC10_0 r30.1.1 r31.1.1 r31.2.1.1 r31.2.1.2 r0.1.1.1 r0.1.1.2.1 b r0.1.1.2.2)))
noncomputable def zda(n:Nat)(x0 x1:Int)(x2:Li)(x3 x4 x5:Int)(x6:List NT)(x7:Li):Option R113 :=
 (q102 n ((x2,x3),(4:Int),())).bind fun r7=>cond (decide ((0:Int)≤r7.1.1)) (cond (decide (r7.1.1<(↑[ByteArray.mk #[(97:UInt8)],ByteArray.mk #[(98:UInt8)],ByteArray.mk #[(99:UInt8)],ByteArray.mk #[(97:UInt8),(98:UInt8)]].length:Int))) ((q102 n ((r7.2.1.1,r7.2.1.2),(4:Int),())).bind fun r8=>cond (decide ((0:Int)≤r8.1.1)) (cond (decide (r8.1.1<(↑[ByteArray.mk #[(97:UInt8)],ByteArray.mk #[(98:UInt8)],ByteArray.mk #[(99:UInt8)],ByteArray.mk #[(97:UInt8),(98:UInt8)]].length:Int))) ((q67 n (x6,())).bind fun r9=>(q102 n ((r8.2.1.1,r8.2.1.2),(10:Int),())).bind fun r10=>cond (decide (r10.1.1=(0:Int))) ((q102 n ((r10.2.1.1,r10.2.1.2),(2:Int),())).bind fun r11=>(q102 n ((r11.2.1.1,r11.2.1.2),(3:Int),())).bind fun r12=>cond (decide ((0:Int)≤r12.1.1)) (cond (decide (r12.1.1<(↑[(493:Int),(511:Int),(448:Int)].length:Int))) ((q106 n (r9.1.1,(x4,x5,x7),x0,[ByteArray.mk #[(97:UInt8)],ByteArray.mk #[(98:UInt8)],ByteArray.mk #[(99:UInt8)],ByteArray.mk #[(97:UInt8),(98:UInt8)]].getD (Int.toNat r7.1.1) ByteArray.empty,IntKind.i64.wrap ((1:Int)+r11.1.1),[(493:Int),(511:Int),(448:Int)].getD (Int.toNat r12.1.1) (0:Int),())).bind fun r13=>some ((r13.1.1,()),((r12.2.1.1,r12.2.1.2),()))) none) none) (cond (decide (r10.1.1=(1:Int))) ((q102 n ((r10.2.1.1,r10.2.1.2),(2:Int),())).bind fun r14=>(q102 n ((r14.2.1.1,r14.2.1.2),(3:Int),())).bind fun r15=>cond (decide ((0:Int)≤r15.1.1)) (cond (decide (r15.1.1<(↑[(493:Int),(511:Int),(448:Int)].length:Int))) ((q106 n (r9.1.1,(x4,x5,x7),x0,[ByteArray.mk #[(97:UInt8)],ByteArray.mk #[(98:UInt8)],ByteArray.mk #[(99:UInt8)],ByteArray.mk #[(97:UInt8),(98:UInt8)]].getD (Int.toNat r7.1.1) ByteArray.empty,IntKind.i64.wrap ((1:Int)+r14.1.1),[(493:Int),(511:Int),(448:Int)].getD (Int.toNat r15.1.1) (0:Int),())).bind fun r16=>some ((r16.1.1,()),((r15.2.1.1,r15.2.1.2),()))) none) none) (cond (decide (r10.1.1=(2:Int))) ((q102 n ((r10.2.1.1,r10.2.1.2),(2:Int),())).bind fun r17=>(q102 n ((r17.2.1.1,r17.2.1.2),(3:Int),())).bind fun r18=>cond (decide ((0:Int)≤r18.1.1)) (cond (decide (r18.1.1<(↑[(493:Int),(511:Int),(448:Int)].length:Int))) ((q106 n (r9.1.1,(x4,x5,x7),x0,[ByteArray.mk #[(97:UInt8)],ByteArray.mk #[(98:UInt8)],ByteArray.mk #[(99:UInt8)],ByteArray.mk #[(97:UInt8),(98:UInt8)]].getD (Int.toNat r7.1.1) ByteArray.empty,IntKind.i64.wrap ((1:Int)+r17.1.1),[(493:Int),(511:Int),(448:Int)].getD (Int.toNat r18.1.1) (0:Int),())).bind fun r19=>some ((r19.1.1,()),((r18.2.1.1,r18.2.1.2),()))) none) none) (cond (decide (r10.1.1=(3:Int))) ((q111 n (r9.1.1,(x4,x5,x7),x1,x0,[ByteArray.mk #[(97:UInt8)],ByteArray.mk #[(98:UInt8)],ByteArray.mk #[(99:UInt8)],ByteArray.mk #[(97:UInt8),(98:UInt8)]].getD (Int.toNat r7.1.1) ByteArray.empty,())).bind fun r20=>some ((r20.1.1,()),((r10.2.1.1,r10.2.1.2),()))) (cond (decide (r10.1.1=(4:Int))) ((q77 n (r9.1.1,(x4,x5,x7),x0,[ByteArray.mk #[(97:UInt8)],ByteArray.mk #[(98:UInt8)],ByteArray.mk #[(99:UInt8)],ByteArray.mk #[(97:UInt8),(98:UInt8)]].getD (Int.toNat r7.1.1) ByteArray.empty,())).bind fun r21=>some ((r21.1.1,()),((r10.2.1.1,r10.2.1.2),()))) (cond (decide (r10.1.1=(5:Int))) ((q110 n (r9.1.1,(x4,x5,x7),x0,[ByteArray.mk #[(97:UInt8)],ByteArray.mk #[(98:UInt8)],ByteArray.mk #[(99:UInt8)],ByteArray.mk #[(97:UInt8),(98:UInt8)]].getD (Int.toNat r7.1.1) ByteArray.empty,x1,[ByteArray.mk #[(97:UInt8)],ByteArray.mk #[(98:UInt8)],ByteArray.mk #[(99:UInt8)],ByteArray.mk #[(97:UInt8),(98:UInt8)]].getD (Int.toNat r8.1.1) ByteArray.empty,())).bind fun r22=>some ((r22.1.1,()),((r10.2.1.1,r10.2.1.2),()))) (cond (decide (r10.1.1=(6:Int))) ((q102 n ((r10.2.1.1,r10.2.1.2),(3:Int),())).bind fun r23=>(q132 n (r9.1.1,x0,decide ((0:Int)<r23.1.1),())).bind fun r24=>some ((r24.1.1,()),((r23.2.1.1,r23.2.1.2),()))) (cond (decide (r10.1.1=(7:Int))) (cond (decide (0≤x0)) (cond (decide (x0<(↑(List.length r9.1.1):Int))) (cond (decide ((List.getD r9.1.1 x0.toNat ZN).1=(1:Int))) ((q102 n ((r10.2.1.1,r10.2.1.2),(2:Int),())).bind fun r25=>cond (decide (0≤x0)) (cond (decide (x0<(↑(List.length r9.1.1):Int))) (some ((List.set r9.1.1 x0.toNat ((List.getD r9.1.1 x0.toNat ZN).1,(List.getD r9.1.1 x0.toNat ZN).2.1,(List.getD r9.1.1 x0.toNat ZN).2.2.1,(List.getD r9.1.1 x0.toNat ZN).2.2.2.1,(List.getD r9.1.1 x0.toNat ZN).2.2.2.2.1,(List.getD r9.1.1 x0.toNat ZN).2.2.2.2.2.1,decide (r25.1.1=(0:Int)),(List.getD r9.1.1 x0.toNat ZN).2.2.2.2.2.2.2),()),((r25.2.1.1,r25.2.1.2),()))) none) none) (some ((r9.1.1,()),((r10.2.1.1,r10.2.1.2),())))) none) none) ((q102 n ((r10.2.1.1,r10.2.1.2),(20:Int),())).bind fun r26=>(q145 n ((r26.2.1.1,r26.2.1.2),(9:Int),())).bind fun r27=>(q144 n (r9.1.1,x0,r26.1.1,r27.1.1,())).bind fun r28=>some ((r28.1.1,()),((r27.2.1.1,r27.2.1.2),()))))))))))) none) none) none) none
theorem yeo(n:Nat)(a:Li×Int)(b:List NT):runF TT G113 yll Try.f113 c113 ycg yh_ n (a,b,())=zf4 n (fun x0 x1 x2 x3 x4 x5 x6 x7=>at_ 10000 (yla n (.op 10 0) []) (ze8 x0 x1 x2 x3 x4 x5 x6 x7)) a b:=by kernel_rfl
theorem zuf(n:Nat)(x0 x1:Int)(x2:Li)(x3 x4 x5:Int)(x6:List NT)(x7:Li):yla n (.op 10 0) [] (ze8 x0 x1 x2 x3 x4 x5 x6 x7)=zda n x0 x1 x2 x3 x4 x5 x6 x7:=by kernel_rfl
noncomputable def zbl(n:Nat)(x0 x1:Int)(x2:Li)(x3 x4 x5:Int)(x6:List NT)(x7:Li):Option R113:=zda n x0 x1 x2 x3 x4 x5 x6 x7
noncomputable def p113(n:Nat)(a:Li×Int)(b:List NT):Option R113:=zf4 n (zbl n) a b
theorem ztd(n:Nat)(x0 x1:Int)(x2:Li)(x3 x4 x5:Int)(x6:List NT)(x7:Li):yla n (.op 10 0) [] (ze8 x0 x1 x2 x3 x4 x5 x6 x7)=zbl n x0 x1 x2 x3 x4 x5 x6 x7:=by
 rw[zuf]
 skip
 try rfl
noncomputable def q113(n:Nat)(x:zai ycg):Option R113:=p113 n x.1 x.2.1
noncomputable def yl5:Sm:=⟨ycg,yh_,true,q113⟩
theorem ypc:GamOK Try.prog G113:=by intro f s h;unfold G113 at h;split at h;exact gj h y57;exact gj h y102;exact gj h y65;exact gj h y106;exact gj h y67;exact gj h y144;exact gj h y132;exact gj h y145;exact gj h y111;exact gj h y77;exact gj h y110;cases h
theorem hh113:Hp 113 yl5:=hOf (zaf (an:=yll) (c:=c113) zaw ypc zau Try.func113 (by kernel_rfl) rfl (by decide +kernel)) fun n x=>(yeo n x.1 x.2.1).trans (by simp only[yk_,ztd];try rfl)
theorem y113:Gk 113 yl5:=⟨⟨Try.f113,c113,Try.func113,by kernel_rfl,by decide +kernel⟩,hh113⟩
noncomputable def c56:Code:=(Try.f56.body.getD .skip)
def an56:An:=⟨fun r=>match r with|3=>⟨[0,2,3,5],[]⟩|_=>⟨[],[]⟩,fun _ _=>none⟩
abbrev ps56:List PK:=[.bx tRd]
abbrev rs56:List RK:=[.ro 37 (tIn 100) true]
abbrev R56:=zah rs56×zag ps56
noncomputable def G56:Gam:=fun f=>match f with|71=>some Sm71|102=>some zrj|112=>some yl6|113=>some yl5|_=>none
noncomputable def at56:Nat→Pt→List Nat→St→Option R56:=atF TT G56 an56 Try.f56 c56 _ _
def zj5(x0:Int)(x1:Li)(x2:Int)(x3:List NT):St:=(St.mk ([AV.par 0 false [SV.bptr 1000000 0],Uu,AV.one (SV.bptr 1000001 0),AV.one (SV.bptr 1000002 0),Uu,Ai x0]++Ur 84) [(1000000,(Ent.box [SV.con (⟨5,Ty.int IntKind.u8,x1⟩:Rw),Si x2])),(1000001,(Ent.box [SV.nil])),(1000002,(Ent.box [Sr 1000003])),(1000003,(Er ⟨37,(Ty.int .i64).pair ((Ty.int .i64).pair ((Ty.int .i64).pair ((Ty.int .i64).pair ((Ty.int .i64).pair ((Ty.int .i64).pair (Ty.bool.pair (Ty.str.pair (Ty.row (nat_lit 100) (Ty.str.pair (Ty.int .i64)))))))))),x3⟩))])
noncomputable def ziv(n:Nat)(lL3:Int→Li→Int→(List NT)→Option R56)(a:Li×Int):Option R56 :=
 (q102 n ((a.1,a.2),(3:Int),())).bind fun r0=>(q102 n ((r0.2.1.1,r0.2.1.2),(3:Int),())).bind fun r1=>cond (decide ((0:Int)≤r1.1.1)) (cond (decide (r1.1.1<(↑[(493:Int),(511:Int),(448:Int)].length:Int))) ((q112 n (r0.1.1,[(493:Int),(511:Int),(448:Int)].getD (Int.toNat r1.1.1) (0:Int),())).bind fun r2=>(q102 n ((r1.2.1.1,r1.2.1.2),(16:Int),())).bind fun r3=>lL3 r3.1.1 r3.2.1.1 r3.2.1.2 r2.1.1) none) none
noncomputable def zjs(n:Nat)(lL3:Int→Li→Int→(List NT)→Option R56)(x0:Int)(x1:Li)(x2:Int)(x3:List NT):Option R56 :=
 cond (decide (0<x0)) ((q113 n ((x1,x2),x3,())).bind fun r5=>lL3 (IntKind.i64.wrap (x0 - 1)) r5.2.1.1 r5.2.1.2 r5.1.1) ((q102 n ((x1,x2),(24:Int),())).bind fun r6=>cond (decide (r6.1.1=(0:Int))) ((q102 n ((r6.2.1.1,r6.2.1.2),(5:Int),())).bind fun r7=>(q102 n ((r7.2.1.1,r7.2.1.2),(3:Int),())).bind fun r8=>cond (decide ((0:Int)≤r7.1.1)) (cond (decide (r7.1.1<(↑x3.length:Int))) (some ((x3.set (Int.toNat r7.1.1) ((x3.getD (Int.toNat r7.1.1) ZN).1,(x3.getD (Int.toNat r7.1.1) ZN).2.1,(x3.getD (Int.toNat r7.1.1) ZN).2.2.1,(x3.getD (Int.toNat r7.1.1) ZN).2.2.2.1,r8.1.1,(x3.getD (Int.toNat r7.1.1) ZN).2.2.2.2.2),()),((r8.2.1.1,r8.2.1.2),()))) none) none) (cond (decide (r6.1.1=(1:Int))) ((q102 n ((r6.2.1.1,r6.2.1.2),(5:Int),())).bind fun r9=>(q102 n ((r9.2.1.1,r9.2.1.2),(5:Int),())).bind fun r10=>cond (decide ((0:Int)≤r10.1.1)) (cond (decide (r10.1.1<(↑x3.length:Int))) ((q71 n ((r10.2.1.1,r10.2.1.2),())).bind fun r11=>(q102 n ((r11.2.1.1,r11.2.1.2),(11:Int),())).bind fun r12=>cond (decide ((List.length (x3.getD (Int.toNat r10.1.1) ZN).2.2.2.2.2.2.2.2+[(r11.1.1,r12.1.1)].length)*(24:Nat)≤(140737488355328:Nat))) (cond (decide ((0:Int)≤r9.1.1)) (cond (decide (r9.1.1<(↑x3.length:Int))) (some ((x3.set (Int.toNat r9.1.1) ((x3.getD (Int.toNat r9.1.1) ZN).1,(x3.getD (Int.toNat r9.1.1) ZN).2.1,(x3.getD (Int.toNat r9.1.1) ZN).2.2.1,(x3.getD (Int.toNat r9.1.1) ZN).2.2.2.1,(x3.getD (Int.toNat r9.1.1) ZN).2.2.2.2.1,(x3.getD (Int.toNat r9.1.1) ZN).2.2.2.2.2.1,(x3.getD (Int.toNat r9.1.1) ZN).2.2.2.2.2.2.1,(x3.getD (Int.toNat r9.1.1) ZN).2.2.2.2.2.2.2.1,(x3.getD (Int.toNat r10.1.1) ZN).2.2.2.2.2.2.2.2++[(r11.1.1,r12.1.1)]),()),((r12.2.1.1,r12.2.1.2),()))) none) none) none) none) none) (cond (decide (r6.1.1=(2:Int))) ((q102 n ((r6.2.1.1,r6.2.1.2),(5:Int),())).bind fun r13=>(q102 n ((r13.2.1.1,r13.2.1.2),(4:Int),())).bind fun r14=>cond (decide ((0:Int)≤r13.1.1)) (cond (decide (r13.1.1<(↑x3.length:Int))) (some ((x3.set (Int.toNat r13.1.1) (r14.1.1,(x3.getD (Int.toNat r13.1.1) ZN).2),()),((r14.2.1.1,r14.2.1.2),()))) none) none) (cond (decide (r6.1.1=(3:Int))) (cond (decide ((1:Int)≤(↑x3.length:Int))) (some ((List.take ((↑x3.length:Int) - (1:Int)).toNat (List.drop ((0:Nat)+Int.toNat (1:Int)) x3),()),((r6.2.1.1,r6.2.1.2),()))) none) (cond (decide (r6.1.1=(4:Int))) ((q102 n ((r6.2.1.1,r6.2.1.2),(5:Int),())).bind fun r15=>(q102 n ((r15.2.1.1,r15.2.1.2),(4:Int),())).bind fun r16=>cond (decide ((0:Int)≤r16.1.1)) (cond (decide (r16.1.1<(↑[(99:Int),(100:Int),(-1:Int),(0:Int)].length:Int))) (cond (decide ((0:Int)≤r15.1.1)) (cond (decide (r15.1.1<(↑x3.length:Int))) (some ((x3.set (Int.toNat r15.1.1) ((x3.getD (Int.toNat r15.1.1) ZN).1,(x3.getD (Int.toNat r15.1.1) ZN).2.1,(x3.getD (Int.toNat r15.1.1) ZN).2.2.1,(x3.getD (Int.toNat r15.1.1) ZN).2.2.2.1,(x3.getD (Int.toNat r15.1.1) ZN).2.2.2.2.1,[(99:Int),(100:Int),(-1:Int),(0:Int)].getD (Int.toNat r16.1.1) (0:Int),(x3.getD (Int.toNat r15.1.1) ZN).2.2.2.2.2.2),()),((r16.2.1.1,r16.2.1.2),()))) none) none) none) none) (some ((x3,()),((r6.2.1.1,r6.2.1.2),()))))))))
theorem yke(n:Nat)(a:Li×Int):runF TT G56 an56 Try.f56 c56 ps56 rs56 n (a,())=ziv n (fun x0 x1 x2 x3=>at56 n (.head 3) [n] (zj5 x0 x1 x2 x3)) a:=by kernel_rfl
theorem ydy(n:Nat)(x0:Int)(x1:Li)(x2:Int)(x3:List NT):at56 n (.head 3) [0] (zj5 x0 x1 x2 x3)=none:=by kernel_rfl
theorem ypw(n m3:Nat)(x0:Int)(x1:Li)(x2:Int)(x3:List NT):at56 n (.head 3) [m3+1] (zj5 x0 x1 x2 x3)=zjs n (fun x0 x1 x2 x3=>at56 n (.head 3) [m3] (zj5 x0 x1 x2 x3)) x0 x1 x2 x3:=by kernel_rfl
noncomputable def zl7(n:Nat):Nat→Int→Li→Int→(List NT)→Option R56
 |0,_,_,_,_=>none
 |m+1,x0,x1,x2,x3=>zjs n (zl7 n m) x0 x1 x2 x3
noncomputable def p56(n:Nat)(a:Li×Int):Option R56:=ziv n (zl7 n n) a
theorem ymt(n:Nat):∀ (m3:Nat) (x0:Int) (x1:Li) (x2:Int) (x3:List NT),at56 n (.head 3) [m3] (zj5 x0 x1 x2 x3)=zl7 n m3 x0 x1 x2 x3:=by
 intro m
 induction m with
 |zero=>intros;rw[ydy];rfl
 |succ m ih =>
  intros;rw[ypw]
  try simp only[ih]
  rfl
noncomputable def q56(n:Nat)(x:zai ps56):Option R56:=p56 n x.1
noncomputable def Sm56:Sm:=⟨ps56,rs56,true,q56⟩
theorem gam56:GamOK Try.prog G56:=by intro f s h;unfold G56 at h;split at h;exact gj h y71;exact gj h y102;exact gj h y112;exact gj h y113;cases h
theorem hh56:Hp 56 Sm56:=hOf (zaf (an:=an56) (c:=c56) zaw gam56 zau Try.func56 (by kernel_rfl) rfl (by decide +kernel)) fun n x=>(yke n x.1).trans (by simp only[ymt];try rfl)
abbrev ps58:List PK:=[.bx tRd]
abbrev rs58:List RK:=[.val i64 false]
abbrev R58:=zah rs58×zag ps58
noncomputable def yao(n:Nat)(a:Li×Int):Option R58 :=
 (q102 n ((a.1,a.2),(16:Int),())).bind fun r0=>cond (decide (r0.1.1=(0:Int))) ((q102 n ((r0.2.1.1,r0.2.1.2),(3:Int),())).bind fun r1=>cond (decide ((0:Int)≤r1.1.1)) (cond (decide (r1.1.1<(↑[(-1:Int),(10:Int),(9:Int)].length:Int))) (some (([(-1:Int),(10:Int),(9:Int)].getD (Int.toNat r1.1.1) (0:Int),()),((r1.2.1.1,r1.2.1.2),()))) none) none) ((q102 n ((r0.2.1.1,r0.2.1.2),(5:Int),())).bind fun r2=>some ((r2.1.1,()),((r2.2.1.1,r2.2.1.2),())))
noncomputable def p58(n:Nat)(a:Li×Int):Option R58:=yao n a
noncomputable def q58(n:Nat)(x:zai ps58):Option R58:=p58 n x.1
abbrev ps59:List PK:=[.bx tRd]
abbrev rs59:List RK:=[.val i64 false]
abbrev R59:=zah rs59×zag ps59
noncomputable def yan(n:Nat)(a:Li×Int):Option R59 :=
 (q102 n ((a.1,a.2),(20:Int),())).bind fun r0=>cond (decide (r0.1.1=(0:Int))) ((q102 n ((r0.2.1.1,r0.2.1.2),(3:Int),())).bind fun r1=>cond (decide ((0:Int)≤r1.1.1)) (cond (decide (r1.1.1<(↑[(-1:Int),(512:Int),(511:Int)].length:Int))) (some (([(-1:Int),(512:Int),(511:Int)].getD (Int.toNat r1.1.1) (0:Int),()),((r1.2.1.1,r1.2.1.2),()))) none) none) ((q102 n ((r0.2.1.1,r0.2.1.2),(8:Int),())).bind fun r2=>(q102 n ((r2.2.1.1,r2.2.1.2),(64:Int),())).bind fun r3=>(q102 n ((r3.2.1.1,r3.2.1.2),(8:Int),())).bind fun r4=>(q102 n ((r4.2.1.1,r4.2.1.2),(7:Int),())).bind fun r5=>cond (decide ((0:Int)≤r5.1.1)) (cond (decide (r5.1.1<(↑[(493:Int),(420:Int),(448:Int),(511:Int),(0:Int),IntKind.i64.wrap (IntKind.i64.wrap (r2.1.1*(64:Int))+r3.1.1),IntKind.i64.wrap (r4.1.1*(73:Int))].length:Int))) (some (([(493:Int),(420:Int),(448:Int),(511:Int),(0:Int),IntKind.i64.wrap (IntKind.i64.wrap (r2.1.1*(64:Int))+r3.1.1),IntKind.i64.wrap (r4.1.1*(73:Int))].getD (Int.toNat r5.1.1) (0:Int),()),((r5.2.1.1,r5.2.1.2),()))) none) none)
noncomputable def p59(n:Nat)(a:Li×Int):Option R59:=yan n a
noncomputable def q59(n:Nat)(x:zai ps59):Option R59:=p59 n x.1
end Go.Proofs.Ytbjgiioppmkpiaa.Rx.S
namespace Go.Proofs.Ytbjgiioppmkpiaa.Rx.S
open Go Go.Proofs.Ytbjgiioppmkpiaa.Rx Go.RowKit Go.Proofs
abbrev ync:List PK:=[.val .str false,.val .str false]
abbrev rs148:List RK:=[.val i64 false]
abbrev R148:=zah rs148×zag ync
def cmpB(a b:ByteArray):Int:=Lib.compareBytes a.data.toList b.data.toList
def p148(n:Nat)(a b:ByteArray):Option R148:=some ((cmpB a b,()),())
def q148(n:Nat)(x:zai ync):Option R148:=p148 n x.1 x.2.1
end Go.Proofs.Ytbjgiioppmkpiaa.Rx.S
namespace Go.Proofs.Ytbjgiioppmkpiaa.Rx.S
open Go Go.RowKit Go.Proofs
set_option maxRecDepth 100000
abbrev ynl:List PK:=[.val .str false,.val .str false]
abbrev rs123:List RK:=[.val i64 false]
abbrev R123:=zah rs123×zag ynl
noncomputable def zvg(n:Nat)(a b:ByteArray):Option R123 :=
 (q148 n (a,b,())).bind fun r0=>some ((r0.1.1,()),())
noncomputable def p123(n:Nat)(a b:ByteArray):Option R123:=zvg n a b
noncomputable def q123(n:Nat)(x:zai ynl):Option R123:=p123 n x.1 x.2.1
abbrev ynm:List PK:=[.val tEn true,.val .str false]
abbrev rs122:List RK:=[.val i64 false]
abbrev R122:=zah rs122×zag ynm
noncomputable def zvh(n:Nat)(a:ByteArray×Int)(b:ByteArray):Option R122 :=
 (q123 n (a.1,b,())).bind fun r0=>some ((r0.1.1,()),())
noncomputable def p122(n:Nat)(a:ByteArray×Int)(b:ByteArray):Option R122:=zvh n a b
noncomputable def q122(n:Nat)(x:zai ynm):Option R122:=p122 n x.1 x.2.1
abbrev ynn:List PK:=[.val (.row 100 tEn) false,.val .str false,.fn 122 []]
abbrev rs121:List RK:=[.val i64 false,.val .bool false]
abbrev R121:=zah rs121×zag ynn
noncomputable def zvi(n:Nat)(lL3:(List (ByteArray×Int))→ByteArray→Int→Int→Int→Option R121)(a:List (ByteArray×Int))(b:ByteArray)(c:Unit):Option R121 :=
 lL3 a b ((↑a.length:Int)) (0:Int) ((↑a.length:Int))
noncomputable def ybg(n:Nat)(lL3:(List (ByteArray×Int))→ByteArray→Int→Int→Int→Option R121)(x0:List (ByteArray×Int))(x1:ByteArray)(x2 x3 x4:Int):Option R121 :=
 cond (decide (x3<x4)) (cond (decide ((0:Int)≤IntKind.i64.wrap ((IntKind.u64.wrap (IntKind.i64.wrap (x3+x4))).fdiv ((2:Int) ^ min (Int.toNat (1:Int)) IntKind.u64.bits)))) (cond (decide (IntKind.i64.wrap ((IntKind.u64.wrap (IntKind.i64.wrap (x3+x4))).fdiv ((2:Int) ^ min (Int.toNat (1:Int)) IntKind.u64.bits))<(↑x0.length:Int))) ((q122 n (((x0.getD (IntKind.i64.wrap ((IntKind.u64.wrap (IntKind.i64.wrap (x3+x4))).fdiv ((2:Int) ^ min (Int.toNat (1:Int)) IntKind.u64.bits))).toNat (ByteArray.empty,(0:Int))).1,(x0.getD (IntKind.i64.wrap ((IntKind.u64.wrap (IntKind.i64.wrap (x3+x4))).fdiv ((2:Int) ^ min (Int.toNat (1:Int)) IntKind.u64.bits))).toNat (ByteArray.empty,(0:Int))).2),x1,())).bind fun r1=>cond (decide (r1.1.1<(0:Int))) (lL3 x0 x1 x2 (IntKind.i64.wrap (IntKind.i64.wrap ((IntKind.u64.wrap (IntKind.i64.wrap (x3+x4))).fdiv ((2:Int) ^ min (Int.toNat (1:Int)) IntKind.u64.bits))+(1:Int))) x4) (lL3 x0 x1 x2 x3 (IntKind.i64.wrap ((IntKind.u64.wrap (IntKind.i64.wrap (x3+x4))).fdiv ((2:Int) ^ min (Int.toNat (1:Int)) IntKind.u64.bits))))) none) none) (cond (decide (x3<x2)) (cond (decide (0≤x3)) (cond (decide (x3<(↑x0.length:Int))) ((q122 n (((x0.getD x3.toNat (ByteArray.empty,(0:Int))).1,(x0.getD x3.toNat (ByteArray.empty,(0:Int))).2),x1,())).bind fun r2=>some ((x3,(decide (r2.1.1=(0:Int)),())),())) none) none) (some ((x3,(false,())),())))
noncomputable def zwm(n:Nat):Nat→(List (ByteArray×Int))→ByteArray→Int→Int→Int→Option R121
 |0,_,_,_,_,_=>none
 |m+1,x0,x1,x2,x3,x4=>ybg n (zwm n m) x0 x1 x2 x3 x4
noncomputable def p121(n:Nat)(a:List (ByteArray×Int))(b:ByteArray)(c:Unit):Option R121:=zvi n (zwm n n) a b c
noncomputable def q121(n:Nat)(x:zai ynn):Option R121:=p121 n x.1 x.2.1 x.2.2.1
abbrev ps73:List PK:=[.val (tIn 100) true,.val .str false]
abbrev rs73:List RK:=[.val i64 false,.val .bool false]
abbrev R73:=zah rs73×zag ps73
noncomputable def yak(n:Nat)(a:NT)(b:ByteArray):Option R73 :=
 (q121 n (a.2.2.2.2.2.2.2.2,b,(),())).bind fun r0=>some ((r0.1.1,(r0.1.2.1,())),())
noncomputable def p73(n:Nat)(a:NT)(b:ByteArray):Option R73:=yak n a b
noncomputable def q73(n:Nat)(x:zai ps73):Option R73:=p73 n x.1 x.2.1
noncomputable def c61:Code:=(Try.f61.body.getD .skip)
def an61:An:=⟨fun _=>⟨[],[]⟩,fun _ _=>none⟩
abbrev ps61:List PK:=[.val i64 false,.val i64 false,.val i64 false]
abbrev rs61:List RK:=[.val .bool false]
abbrev R61:=zah rs61×zag ps61
noncomputable def G61:Gam:=fun _=>none
noncomputable def zit(n:Nat)(a b c:Int):Option R61 :=
 cond (decide (b≤a)) (some ((decide (a≤c),()),())) (some ((false,()),()))
theorem ykc(n:Nat)(a b c:Int):runF TT G61 an61 Try.f61 c61 ps61 rs61 n (a,b,c,())=zit n a b c:=by kernel_rfl
noncomputable def p61(n:Nat)(a b c:Int):Option R61:=zit n a b c
noncomputable def q61(n:Nat)(x:zai ps61):Option R61:=p61 n x.1 x.2.1 x.2.2.1
noncomputable def Sm61:Sm:=⟨ps61,rs61,false,q61⟩
theorem gam61:GamOK Try.prog G61:=fun _ _ h=>by cases h
theorem hh61:Hp 61 Sm61:=hOf (zaf (an:=an61) (c:=c61) zaw gam61 zau Try.func61 (by kernel_rfl) rfl (by decide +kernel)) fun n x=>(ykc n x.1 x.2.1 x.2.2.1).trans rfl
theorem y61:Gk 61 Sm61:=⟨⟨Try.f61,c61,Try.func61,by kernel_rfl,by decide +kernel⟩,hh61⟩
noncomputable def c120:Code:=(Try.f120.body.getD .skip)
def yqe:An:=⟨fun _=>⟨[],[]⟩,fun _ _=>none⟩
abbrev yb_:List PK:=[.val (.int .i32) false]
abbrev yh5:List RK:=[.val .bool false]
abbrev R120:=zah yh5×zag yb_
noncomputable def G120:Gam:=fun _=>none
noncomputable def zf0(n:Nat)(a:Int):Option R120 :=
 cond (decide (a<(97:Int))) (some ((true,()),())) (some ((decide ((122:Int)<a),()),()))
theorem yei(n:Nat)(a:Int):runF TT G120 yqe Try.f120 c120 yb_ yh5 n (a,())=zf0 n a:=by kernel_rfl
noncomputable def p120(n:Nat)(a:Int):Option R120:=zf0 n a
noncomputable def q120(n:Nat)(x:zai yb_):Option R120:=p120 n x.1
noncomputable def ylz:Sm:=⟨yb_,yh5,false,q120⟩
theorem yo8:GamOK Try.prog G120:=fun _ _ h=>by cases h
theorem hh120:Hp 120 ylz:=hOf (zaf (an:=yqe) (c:=c120) zaw yo8 zau Try.func120 (by kernel_rfl) rfl (by decide +kernel)) fun n x=>(yei n x.1).trans rfl
theorem y120:Gk 120 ylz:=⟨⟨Try.f120,c120,Try.func120,by kernel_rfl,by decide +kernel⟩,hh120⟩
noncomputable def c147:Code:=(Try.f147.body.getD .skip)
def yld:An:=⟨fun r=>match r with|2=>⟨[1,2,10],[]⟩|_=>⟨[],[]⟩,fun _ _=>none⟩
abbrev ybw:List PK:=[.val .str false,.fn 120 [],.val .bool false]
abbrev yhr:List RK:=[.val i64 false]
abbrev R147:=zah yhr×zag ybw
noncomputable def G147:Gam:=fun f=>match f with|120=>some ylz|_=>none
noncomputable def zyz:Nat→Pt→List Nat→St→Option R147:=atF TT G147 yld Try.f147 c147 _ _
def zgf(x0:Bool)(x1:ByteArray)(x2:Int):St:=(St.mk ([Uu,AV.fn 120 [],AV.one (SV.bool x0),Uu,Uu,Uu,Uu,Uu,Uu,Uu,AV.one (SV.bptr 1000000 0)]++Ur 10) [(1000000,(Ent.iter x1 x2))])
noncomputable def zjt(n:Nat)(lL2:Bool→ByteArray→Int→Option R147)(a:ByteArray)(b:Unit)(c:Bool):Option R147 :=
 lL2 c a (0:Int)
noncomputable def zi4(n:Nat)(lL2:Bool→ByteArray→Int→Option R147)(x0:Bool)(x1:ByteArray)(x2:Int):Option R147 :=
 cond (decide (x2.toNat<x1.size)) ((q120 n ((↑(Go.Utf8.decode x1 x2.toNat).1:Int),())).bind fun r1=>cond (r1.1.1 == x0) (some (((↑x2.toNat:Int),()),())) (lL2 x0 x1 ((↑(x2.toNat+(Go.Utf8.decode x1 x2.toNat).2):Int)))) (some (((-1:Int),()),()))
theorem yd4(n:Nat)(a:ByteArray)(b:Unit)(c:Bool):runF TT G147 yld Try.f147 c147 ybw yhr n (a,b,c,())=zjt n (fun x0 x1 x2=>zyz n (.head 2) [n] (zgf x0 x1 x2)) a b c:=by kernel_rfl
theorem zyb(n:Nat)(x0:Bool)(x1:ByteArray)(x2:Int):zyz n (.head 2) [0] (zgf x0 x1 x2)=none:=by kernel_rfl
theorem yks(n m2:Nat)(x0:Bool)(x1:ByteArray)(x2:Int):zyz n (.head 2) [m2+1] (zgf x0 x1 x2)=zi4 n (fun x0 x1 x2=>zyz n (.head 2) [m2] (zgf x0 x1 x2)) x0 x1 x2:=by kernel_rfl
noncomputable def zhl(n:Nat):Nat→Bool→ByteArray→Int→Option R147
 |0,_,_,_=>none
 |m+1,x0,x1,x2=>zi4 n (zhl n m) x0 x1 x2
noncomputable def p147(n:Nat)(a:ByteArray)(b:Unit)(c:Bool):Option R147:=zjt n (zhl n n) a b c
theorem ygw(n:Nat):∀ (m2:Nat) (x0:Bool) (x1:ByteArray) (x2:Int),zyz n (.head 2) [m2] (zgf x0 x1 x2)=zhl n m2 x0 x1 x2:=by
 intro m
 induction m with
 |zero=>intros;rw[zyb];rfl
 |succ m ih =>
  intros;rw[yks]
  try simp only[ih]
  rfl
noncomputable def q147(n:Nat)(x:zai ybw):Option R147:=p147 n x.1 x.2.1 x.2.2.1
noncomputable def yls:Sm:=⟨ybw,yhr,false,q147⟩
theorem yos:GamOK Try.prog G147:=by intro f s h;unfold G147 at h;split at h;exact gj h y120;cases h
theorem hh147:Hp 147 yls:=hOf (zaf (an:=yld) (c:=c147) zaw yos zau Try.func147 (by kernel_rfl) rfl (by decide +kernel)) fun n x=>(yd4 n x.1 x.2.1 x.2.2.1).trans (by simp only[ygw];try rfl)
theorem y147:Gk 147 yls:=⟨⟨Try.f147,c147,Try.func147,by kernel_rfl,by decide +kernel⟩,hh147⟩
noncomputable def c119:Code:=(Try.f119.body.getD .skip)
def yqf:An:=⟨fun _=>⟨[],[]⟩,fun _ _=>none⟩
abbrev yca:List PK:=[.val .str false,.fn 120 []]
abbrev yh6:List RK:=[.val i64 false]
abbrev R119:=zah yh6×zag yca
noncomputable def G119:Gam:=fun f=>match f with|147=>some yls|_=>none
noncomputable def zju(n:Nat)(a:ByteArray)(b:Unit):Option R119 :=
 (q147 n (a,(),true,())).bind fun r0=>some ((r0.1.1,()),())
theorem yej(n:Nat)(a:ByteArray)(b:Unit):runF TT G119 yqf Try.f119 c119 yca yh6 n (a,b,())=zju n a b:=by kernel_rfl
noncomputable def p119(n:Nat)(a:ByteArray)(b:Unit):Option R119:=zju n a b
noncomputable def q119(n:Nat)(x:zai yca):Option R119:=p119 n x.1 x.2.1
noncomputable def yl0:Sm:=⟨yca,yh6,false,q119⟩
theorem yo9:GamOK Try.prog G119:=by intro f s h;unfold G119 at h;split at h;exact gj h y147;cases h
theorem hh119:Hp 119 yl0:=hOf (zaf (an:=yqf) (c:=c119) zaw yo9 zau Try.func119 (by kernel_rfl) rfl (by decide +kernel)) fun n x=>(yej n x.1 x.2.1).trans rfl
theorem y119:Gk 119 yl0:=⟨⟨Try.f119,c119,Try.func119,by kernel_rfl,by decide +kernel⟩,hh119⟩
noncomputable def c70:Code:=(Try.f70.body.getD .skip)
def an70:An:=⟨fun _=>⟨[],[]⟩,fun _ _=>none⟩
abbrev ps70:List PK:=[.val .str false]
abbrev rs70:List RK:=[.val .bool false]
abbrev R70:=zah rs70×zag ps70
noncomputable def G70:Gam:=fun f=>match f with|61=>some Sm61|119=>some yl0|_=>none
noncomputable def zim(n:Nat)(a:ByteArray):Option R70 :=
 (q61 n ((↑a.size:Int),(1:Int),(3:Int),())).bind fun r0=>cond r0.1.1 ((q119 n (a,(),())).bind fun r1=>some ((decide (r1.1.1<(0:Int)),()),())) (some ((false,()),()))
theorem yj2(n:Nat)(a:ByteArray):runF TT G70 an70 Try.f70 c70 ps70 rs70 n (a,())=zim n a:=by kernel_rfl
noncomputable def p70(n:Nat)(a:ByteArray):Option R70:=zim n a
noncomputable def q70(n:Nat)(x:zai ps70):Option R70:=p70 n x.1
noncomputable def Sm70:Sm:=⟨ps70,rs70,false,q70⟩
theorem gam70:GamOK Try.prog G70:=by intro f s h;unfold G70 at h;split at h;exact gj h y61;exact gj h y119;cases h
theorem hh70:Hp 70 Sm70:=hOf (zaf (an:=an70) (c:=c70) zaw gam70 zau Try.func70 (by kernel_rfl) rfl (by decide +kernel)) fun n x=>(yj2 n x.1).trans rfl
theorem y70:Gk 70 Sm70:=⟨⟨Try.f70,c70,Try.func70,by kernel_rfl,by decide +kernel⟩,hh70⟩
noncomputable def c69:Code:=(Try.f69.body.getD .skip)
def an69:An:=⟨fun _=>⟨[],[]⟩,fun _ _=>none⟩
abbrev ps69:List PK:=[.val (tIn 100) true]
abbrev rs69:List RK:=[.val .bool false]
abbrev R69:=zah rs69×zag ps69
noncomputable def G69:Gam:=fun _=>none
noncomputable def zin(n:Nat)(a:NT):Option R69 :=
 cond (decide (a.1=(0:Int))) (cond (decide (a.2.1=(0:Int))) (cond (decide (a.2.2.1=(0:Int))) (cond (decide (a.2.2.2.1=(0:Int))) (cond (decide (a.2.2.2.2.1=(0:Int))) (cond (decide (a.2.2.2.2.2.1=(0:Int))) (cond (!a.2.2.2.2.2.2.1) (cond (ByteArray.toList a.2.2.2.2.2.2.2.1 == (ByteArray.mk #[]).toList) (some ((decide ((↑(List.length a.2.2.2.2.2.2.2.2):Int)=(0:Int)),()),())) (some ((false,()),()))) (some ((false,()),()))) (some ((false,()),()))) (some ((false,()),()))) (some ((false,()),()))) (some ((false,()),()))) (some ((false,()),()))) (some ((false,()),()))
theorem yj3(n:Nat)(a:NT):runF TT G69 an69 Try.f69 c69 ps69 rs69 n (a,())=zin n a:=by kernel_rfl
noncomputable def p69(n:Nat)(a:NT):Option R69:=zin n a
noncomputable def q69(n:Nat)(x:zai ps69):Option R69:=p69 n x.1
noncomputable def Sm69:Sm:=⟨ps69,rs69,false,q69⟩
theorem gam69:GamOK Try.prog G69:=fun _ _ h=>by cases h
theorem hh69:Hp 69 Sm69:=hOf (zaf (an:=an69) (c:=c69) zaw gam69 zau Try.func69 (by kernel_rfl) rfl (by decide +kernel)) fun n x=>(yj3 n x.1).trans rfl
theorem y69:Gk 69 Sm69:=⟨⟨Try.f69,c69,Try.func69,by kernel_rfl,by decide +kernel⟩,hh69⟩
noncomputable def c19:Code:=(Try.f19.body.getD .skip)
def an19:An:=⟨fun r=>match r with|6=>⟨[1,3,4,28,29,30],[]⟩|16=>⟨[1,3,4,5,6,28,29,30,105,106,107],[]⟩|25=>⟨[3,4,163,164,165],[]⟩|36=>⟨[3,4,11,12,163,164,165],[]⟩|_=>⟨[],[]⟩,fun _ _=>none⟩
abbrev ps19:List PK:=[.val tFs true]
abbrev rs19:List RK:=[.val .bool false]
abbrev R19:=zah rs19×zag ps19
noncomputable def G19:Gam:=fun f=>match f with|70=>some Sm70|61=>some Sm61|69=>some Sm69|_=>none
noncomputable def at19:Nat→Pt→List Nat→St→Option R19:=atF TT G19 an19 Try.f19 c19 _ _
def zgd(x0:Int)(x1:List NT)(x2 x3:Int)(x4:List (ByteArray×Int))(x5 x6:Int)(x7:List NT)(x8 x9:Li)(x10 x11 x12 x13 x14 x15:Int)(x16:Bool)(x17:ByteArray)(x18:List (ByteArray×Int)):St:=(St.mk ([Uu,AV.one (SV.bptr 1000000 0),Uu,AV.one (Sr 1000001),AV.one (Sr 1000002),Ai x0,AV.one (SV.bptr 1000003 0),Uu,Uu,Uu,Uu,Uu,Uu,Uu,Uu,Uu,Uu,Uu,Uu,Uu,Uu,Uu,Uu,Uu,Uu,Uu,Uu,Uu,AV.one (SV.con (⟨37,(Ty.int .i64).pair ((Ty.int .i64).pair ((Ty.int .i64).pair ((Ty.int .i64).pair ((Ty.int .i64).pair ((Ty.int .i64).pair (Ty.bool.pair (Ty.str.pair (Ty.row (nat_lit 100) (Ty.str.pair (Ty.int .i64)))))))))),x1⟩:Rw)),Ai x2,Ai x3,Uu,Uu,Uu,Uu,Uu,Uu,Uu,Uu,Uu,Uu,Uu,Uu,Uu,Uu,Uu,Uu,Uu,Uu,Uu,Uu,Uu,Uu,Uu,Uu,Uu,Uu,Uu,Uu,Uu,Uu,Uu,Uu,Uu,Uu,Uu,Uu,Uu,Uu,Uu,Uu,Uu,Uu,Uu,Uu,Uu,Uu,Uu,Uu,Uu,Uu,Uu,Uu,Uu,Uu,Uu,Uu,Uu,Uu,Uu,Uu,Uu,Uu,Uu,Uu,Uu,Uu,Uu,Uu,Uu,Uu,Uu,Uu,Uu,Uu,AV.one (SV.con (⟨100,Ty.str.pair (Ty.int .i64),x4⟩:Rw)),Ai x5,Ai x6]++Ur 122) [(1000000,(Ent.box [SV.con (⟨37,(Ty.int .i64).pair ((Ty.int .i64).pair ((Ty.int .i64).pair ((Ty.int .i64).pair ((Ty.int .i64).pair ((Ty.int .i64).pair (Ty.bool.pair (Ty.str.pair (Ty.row (nat_lit 100) (Ty.str.pair (Ty.int .i64)))))))))),x7⟩:Rw)])),(1000001,Er ⟨3,Ty.int .i64,x8⟩),(1000002,Er ⟨3,Ty.int .i64,x9⟩),(1000003,(Ent.box [Si x10,Si x11,Si x12,Si x13,Si x14,Si x15,SV.bool x16,SV.str x17,SV.con (⟨100,Ty.str.pair (Ty.int .i64),x18⟩:Rw)]))])
def zgc(x0 x1:Int)(x2:List NT)(x3 x4:Int)(x5 x6:Li):St:=(St.mk ([Uu,Uu,Uu,AV.one (Sr 1000000),AV.one (Sr 1000001),Uu,Uu,Uu,Uu,Uu,Uu,Ai x0,Ai x1,Uu,Uu,Uu,Uu,Uu,Uu,Uu,Uu,Uu,Uu,Uu,Uu,Uu,Uu,Uu,Uu,Uu,Uu,Uu,Uu,Uu,Uu,Uu,Uu,Uu,Uu,Uu,Uu,Uu,Uu,Uu,Uu,Uu,Uu,Uu,Uu,Uu,Uu,Uu,Uu,Uu,Uu,Uu,Uu,Uu,Uu,Uu,Uu,Uu,Uu,Uu,Uu,Uu,Uu,Uu,Uu,Uu,Uu,Uu,Uu,Uu,Uu,Uu,Uu,Uu,Uu,Uu,Uu,Uu,Uu,Uu,Uu,Uu,Uu,Uu,Uu,Uu,Uu,Uu,Uu,Uu,Uu,Uu,Uu,Uu,Uu,Uu,Uu,Uu,Uu,Uu,Uu,Uu,Uu,Uu,Uu,Uu,Uu,Uu,Uu,Uu,Uu,Uu,Uu,Uu,Uu,Uu,Uu,Uu,Uu,Uu,Uu,Uu,Uu,Uu,Uu,Uu,Uu,Uu,Uu,Uu,Uu,Uu,Uu,Uu,Uu,Uu,Uu,Uu,Uu,Uu,Uu,Uu,Uu,Uu,Uu,Uu,Uu,Uu,Uu,Uu,Uu,Uu,Uu,Uu,Uu,Uu,Uu,Uu,Uu,AV.one (SV.con (⟨37,(Ty.int .i64).pair ((Ty.int .i64).pair ((Ty.int .i64).pair ((Ty.int .i64).pair ((Ty.int .i64).pair ((Ty.int .i64).pair (Ty.bool.pair (Ty.str.pair (Ty.row (nat_lit 100) (Ty.str.pair (Ty.int .i64)))))))))),x2⟩:Rw)),Ai x3,Ai x4]++Ur 64) [(1000000,Er ⟨3,Ty.int .i64,x5⟩),(1000001,Er ⟨3,Ty.int .i64,x6⟩)])
def zdb(x0:List NT)(x1 x2:Int)(x3 x4:Li):St:=(St.mk ([Uu,Uu,Uu,AV.one (Sr 1000000),AV.one (Sr 1000001),Uu,Uu,Uu,Uu,Uu,Uu,Uu,Uu,Uu,Uu,Uu,Uu,Uu,Uu,Uu,Uu,Uu,Uu,Uu,Uu,Uu,Uu,Uu,Uu,Uu,Uu,Uu,Uu,Uu,Uu,Uu,Uu,Uu,Uu,Uu,Uu,Uu,Uu,Uu,Uu,Uu,Uu,Uu,Uu,Uu,Uu,Uu,Uu,Uu,Uu,Uu,Uu,Uu,Uu,Uu,Uu,Uu,Uu,Uu,Uu,Uu,Uu,Uu,Uu,Uu,Uu,Uu,Uu,Uu,Uu,Uu,Uu,Uu,Uu,Uu,Uu,Uu,Uu,Uu,Uu,Uu,Uu,Uu,Uu,Uu,Uu,Uu,Uu,Uu,Uu,Uu,Uu,Uu,Uu,Uu,Uu,Uu,Uu,Uu,Uu,Uu,Uu,Uu,Uu,Uu,Uu,Uu,Uu,Uu,Uu,Uu,Uu,Uu,Uu,Uu,Uu,Uu,Uu,Uu,Uu,Uu,Uu,Uu,Uu,Uu,Uu,Uu,Uu,Uu,Uu,Uu,Uu,Uu,Uu,Uu,Uu,Uu,Uu,Uu,Uu,Uu,Uu,Uu,Uu,Uu,Uu,Uu,Uu,Uu,Uu,Uu,Uu,Uu,Uu,Uu,Uu,Uu,Uu,AV.one (SV.con (⟨37,(Ty.int .i64).pair ((Ty.int .i64).pair ((Ty.int .i64).pair ((Ty.int .i64).pair ((Ty.int .i64).pair ((Ty.int .i64).pair (Ty.bool.pair (Ty.str.pair (Ty.row (nat_lit 100) (Ty.str.pair (Ty.int .i64)))))))))),x0⟩:Rw)),Ai x1,Ai x2]++Ur 64) [(1000000,Er ⟨3,Ty.int .i64,x3⟩),(1000001,Er ⟨3,Ty.int .i64,x4⟩)])
def ze7(x0:List NT)(x1 x2:Int)(x3:List NT)(x4 x5:Li):St:=(St.mk ([Uu,AV.one (SV.bptr 1000000 0),Uu,AV.one (Sr 1000001),AV.one (Sr 1000002),Uu,Uu,Uu,Uu,Uu,Uu,Uu,Uu,Uu,Uu,Uu,Uu,Uu,Uu,Uu,Uu,Uu,Uu,Uu,Uu,Uu,Uu,Uu,AV.one (SV.con (⟨37,(Ty.int .i64).pair ((Ty.int .i64).pair ((Ty.int .i64).pair ((Ty.int .i64).pair ((Ty.int .i64).pair ((Ty.int .i64).pair (Ty.bool.pair (Ty.str.pair (Ty.row (nat_lit 100) (Ty.str.pair (Ty.int .i64)))))))))),x0⟩:Rw)),Ai x1,Ai x2]++Ur 199) [(1000000,(Ent.box [SV.con (⟨37,(Ty.int .i64).pair ((Ty.int .i64).pair ((Ty.int .i64).pair ((Ty.int .i64).pair ((Ty.int .i64).pair ((Ty.int .i64).pair (Ty.bool.pair (Ty.str.pair (Ty.row (nat_lit 100) (Ty.str.pair (Ty.int .i64)))))))))),x3⟩:Rw)])),(1000001,Er ⟨3,Ty.int .i64,x4⟩),(1000002,Er ⟨3,Ty.int .i64,x5⟩)])
noncomputable def zfi(n:Nat)(lL6:(List NT)→Int→Int→(List NT)→Li→Li→Option R19)(a:List NT):Option R19 :=
 cond (!decide ((↑a.length:Int)=(10:Int))) (some ((false,()),())) (cond (decide ((0:Int)<(↑a.length:Int))) (cond (!decide ((a.getD (Int.toNat (0:Int)) ZN).1=(2:Int))) (some ((false,()),())) (lL6 a ((↑a.length:Int)) (0:Int) a (List.replicate (Int.toNat (10:Int)) (0:Int)) (List.replicate (Int.toNat (10:Int)) (0:Int)))) none)
noncomputable def zek(n:Nat)(lL16:Int→(List NT)→Int→Int→(List (ByteArray×Int))→Int→Int→(List NT)→Li→Li→Int→Int→Int→Int→Int→Int→Bool→ByteArray→(List (ByteArray×Int))→Option R19)(lL6:(List NT)→Int→Int→(List NT)→Li→Li→Option R19)(x0:Int)(x1:List NT)(x2 x3:Int)(x4:List (ByteArray×Int))(x5 x6:Int)(x7:List NT)(x8 x9:Li)(x10 x11 x12 x13 x14 x15:Int)(x16:Bool)(x17:ByteArray)(x18:List (ByteArray×Int)):Option R19 :=
 cond (decide (x6<x5)) (cond (decide (0≤x6)) (cond (decide (x6<(↑x4.length:Int))) ((q70 n ((x4.getD x6.toNat (ByteArray.empty,(0:Int))).1,())).bind fun r8=>cond (!r8.1.1) (some ((false,()),())) ((q61 n ((x4.getD x6.toNat (ByteArray.empty,(0:Int))).2,(0:Int),(9:Int),())).bind fun r9=>cond (!r9.1.1) (some ((false,()),())) (cond (decide ((0:Int)≤(x4.getD x6.toNat (ByteArray.empty,(0:Int))).2)) (cond (decide ((x4.getD x6.toNat (ByteArray.empty,(0:Int))).2<(↑x7.length:Int))) (cond (decide ((x7.getD (Int.toNat (x4.getD x6.toNat (ByteArray.empty,(0:Int))).2) ZN).1=(0:Int))) (some ((false,()),())) (cond (decide (0<x6)) (cond (decide ((0:Int)≤IntKind.i64.wrap (x6 - 1))) (cond (decide (IntKind.i64.wrap (x6 - 1)<(↑x18.length:Int))) (cond (!Go.Op.bytesLess (ByteArray.toList (x18.getD (IntKind.i64.wrap (x6 - 1)).toNat (ByteArray.empty,(0:Int))).1) (ByteArray.toList (x4.getD x6.toNat (ByteArray.empty,(0:Int))).1)) (some ((false,()),())) (cond (decide ((0:Int)≤(x4.getD x6.toNat (ByteArray.empty,(0:Int))).2)) (cond (decide ((x4.getD x6.toNat (ByteArray.empty,(0:Int))).2<(↑x8.length:Int))) (cond (decide ((0:Int)≤(x4.getD x6.toNat (ByteArray.empty,(0:Int))).2)) (cond (decide ((x4.getD x6.toNat (ByteArray.empty,(0:Int))).2<(↑x8.length:Int))) (cond (decide ((0:Int)≤(x4.getD x6.toNat (ByteArray.empty,(0:Int))).2)) (cond (decide ((x4.getD x6.toNat (ByteArray.empty,(0:Int))).2<(↑x9.length:Int))) (lL16 x0 x1 x2 x3 x4 x5 (IntKind.i64.wrap (x6+1)) x7 (x8.set (Int.toNat (x4.getD x6.toNat (ByteArray.empty,(0:Int))).2) (IntKind.i64.wrap (x8.getD (Int.toNat (x4.getD x6.toNat (ByteArray.empty,(0:Int))).2) (0:Int)+(1:Int)))) (x9.set (Int.toNat (x4.getD x6.toNat (ByteArray.empty,(0:Int))).2) x0) x10 x11 x12 x13 x14 x15 x16 x17 x18) none) none) none) none) none) none)) none) none) (cond (decide ((0:Int)≤(x4.getD x6.toNat (ByteArray.empty,(0:Int))).2)) (cond (decide ((x4.getD x6.toNat (ByteArray.empty,(0:Int))).2<(↑x8.length:Int))) (cond (decide ((0:Int)≤(x4.getD x6.toNat (ByteArray.empty,(0:Int))).2)) (cond (decide ((x4.getD x6.toNat (ByteArray.empty,(0:Int))).2<(↑x8.length:Int))) (cond (decide ((0:Int)≤(x4.getD x6.toNat (ByteArray.empty,(0:Int))).2)) (cond (decide ((x4.getD x6.toNat (ByteArray.empty,(0:Int))).2<(↑x9.length:Int))) (lL16 x0 x1 x2 x3 x4 x5 (IntKind.i64.wrap (x6+1)) x7 (x8.set (Int.toNat (x4.getD x6.toNat (ByteArray.empty,(0:Int))).2) (IntKind.i64.wrap (x8.getD (Int.toNat (x4.getD x6.toNat (ByteArray.empty,(0:Int))).2) (0:Int)+(1:Int)))) (x9.set (Int.toNat (x4.getD x6.toNat (ByteArray.empty,(0:Int))).2) x0) x10 x11 x12 x13 x14 x15 x16 x17 x18) none) none) none) none) none) none))) none) none))) none) none) (lL6 x1 x2 (IntKind.i64.wrap (x3+1)) x7 x8 x9)
noncomputable def zc_(n:Nat)(lL36:Int→Int→(List NT)→Int→Int→Li→Li→Option R19)(lL25:(List NT)→Int→Int→Li→Li→Option R19)(x0 x1:Int)(x2:List NT)(x3 x4:Int)(x5 x6:Li):Option R19 :=
 cond (!decide (x0=0)) (cond (decide (10<x1)) (some ((false,()),())) (cond (decide (0≤x0)) (cond (decide (x0<(↑x6.length:Int))) (lL36 (x6.getD x0.toNat (0:Int)) (IntKind.i64.wrap (x1+1)) x2 x3 x4 x5 x6) none) none)) (lL25 x2 x3 (IntKind.i64.wrap (x4+1)) x5 x6)
noncomputable def zi2(n:Nat)(lL25:(List NT)→Int→Int→Li→Li→Option R19)(lL36:Int→Int→(List NT)→Int→Int→Li→Li→Option R19)(x0:List NT)(x1 x2:Int)(x3 x4:Li):Option R19 :=
 cond (decide (x2<x1)) (cond (decide (0≤x2)) (cond (decide (x2<(↑x0.length:Int))) (cond (decide ((x0.getD x2.toNat ZN).1=(0:Int))) (lL25 x0 x1 (IntKind.i64.wrap (x2+1)) x3 x4) (cond (decide (0≤x2)) (cond (decide (x2<(↑x3.length:Int))) (cond (!decide ((x0.getD x2.toNat ZN).2.2.2.2.1=x3.getD x2.toNat (0:Int))) (some ((false,()),())) (cond (decide ((x0.getD x2.toNat ZN).1=(1:Int))) (cond (decide ((x0.getD x2.toNat ZN).2.2.2.2.1=(0:Int))) (cond (decide ((x0.getD x2.toNat ZN).2.2.2.2.2.1=(0:Int))) (some ((false,()),())) (cond (decide ((x0.getD x2.toNat ZN).1=(2:Int))) (cond (decide (0<x2)) (cond (!decide ((x0.getD x2.toNat ZN).2.2.2.2.1=(1:Int))) (some ((false,()),())) (cond (decide (x2=0)) (cond (!decide ((x0.getD x2.toNat ZN).2.2.2.2.1=(0:Int))) (some ((false,()),())) (cond (decide ((x0.getD x2.toNat ZN).1=(2:Int))) (lL36 x2 (0:Int) x0 x1 x2 x3 x4) (lL25 x0 x1 (IntKind.i64.wrap (x2+1)) x3 x4))) (cond (decide ((x0.getD x2.toNat ZN).1=(2:Int))) (lL36 x2 (0:Int) x0 x1 x2 x3 x4) (lL25 x0 x1 (IntKind.i64.wrap (x2+1)) x3 x4)))) (cond (decide (x2=0)) (cond (!decide ((x0.getD x2.toNat ZN).2.2.2.2.1=(0:Int))) (some ((false,()),())) (cond (decide ((x0.getD x2.toNat ZN).1=(2:Int))) (lL36 x2 (0:Int) x0 x1 x2 x3 x4) (lL25 x0 x1 (IntKind.i64.wrap (x2+1)) x3 x4))) (cond (decide ((x0.getD x2.toNat ZN).1=(2:Int))) (lL36 x2 (0:Int) x0 x1 x2 x3 x4) (lL25 x0 x1 (IntKind.i64.wrap (x2+1)) x3 x4)))) (cond (decide (x2=0)) (cond (!decide ((x0.getD x2.toNat ZN).2.2.2.2.1=(0:Int))) (some ((false,()),())) (cond (decide ((x0.getD x2.toNat ZN).1=(2:Int))) (lL36 x2 (0:Int) x0 x1 x2 x3 x4) (lL25 x0 x1 (IntKind.i64.wrap (x2+1)) x3 x4))) (cond (decide ((x0.getD x2.toNat ZN).1=(2:Int))) (lL36 x2 (0:Int) x0 x1 x2 x3 x4) (lL25 x0 x1 (IntKind.i64.wrap (x2+1)) x3 x4))))) (cond (decide ((x0.getD x2.toNat ZN).1=(2:Int))) (cond (decide (0<x2)) (cond (!decide ((x0.getD x2.toNat ZN).2.2.2.2.1=(1:Int))) (some ((false,()),())) (cond (decide (x2=0)) (cond (!decide ((x0.getD x2.toNat ZN).2.2.2.2.1=(0:Int))) (some ((false,()),())) (cond (decide ((x0.getD x2.toNat ZN).1=(2:Int))) (lL36 x2 (0:Int) x0 x1 x2 x3 x4) (lL25 x0 x1 (IntKind.i64.wrap (x2+1)) x3 x4))) (cond (decide ((x0.getD x2.toNat ZN).1=(2:Int))) (lL36 x2 (0:Int) x0 x1 x2 x3 x4) (lL25 x0 x1 (IntKind.i64.wrap (x2+1)) x3 x4)))) (cond (decide (x2=0)) (cond (!decide ((x0.getD x2.toNat ZN).2.2.2.2.1=(0:Int))) (some ((false,()),())) (cond (decide ((x0.getD x2.toNat ZN).1=(2:Int))) (lL36 x2 (0:Int) x0 x1 x2 x3 x4) (lL25 x0 x1 (IntKind.i64.wrap (x2+1)) x3 x4))) (cond (decide ((x0.getD x2.toNat ZN).1=(2:Int))) (lL36 x2 (0:Int) x0 x1 x2 x3 x4) (lL25 x0 x1 (IntKind.i64.wrap (x2+1)) x3 x4)))) (cond (decide (x2=0)) (cond (!decide ((x0.getD x2.toNat ZN).2.2.2.2.1=(0:Int))) (some ((false,()),())) (cond (decide ((x0.getD x2.toNat ZN).1=(2:Int))) (lL36 x2 (0:Int) x0 x1 x2 x3 x4) (lL25 x0 x1 (IntKind.i64.wrap (x2+1)) x3 x4))) (cond (decide ((x0.getD x2.toNat ZN).1=(2:Int))) (lL36 x2 (0:Int) x0 x1 x2 x3 x4) (lL25 x0 x1 (IntKind.i64.wrap (x2+1)) x3 x4))))) (cond (decide ((x0.getD x2.toNat ZN).1=(2:Int))) (cond (decide (0<x2)) (cond (!decide ((x0.getD x2.toNat ZN).2.2.2.2.1=(1:Int))) (some ((false,()),())) (cond (decide (x2=0)) (cond (!decide ((x0.getD x2.toNat ZN).2.2.2.2.1=(0:Int))) (some ((false,()),())) (cond (decide ((x0.getD x2.toNat ZN).1=(2:Int))) (lL36 x2 (0:Int) x0 x1 x2 x3 x4) (lL25 x0 x1 (IntKind.i64.wrap (x2+1)) x3 x4))) (cond (decide ((x0.getD x2.toNat ZN).1=(2:Int))) (lL36 x2 (0:Int) x0 x1 x2 x3 x4) (lL25 x0 x1 (IntKind.i64.wrap (x2+1)) x3 x4)))) (cond (decide (x2=0)) (cond (!decide ((x0.getD x2.toNat ZN).2.2.2.2.1=(0:Int))) (some ((false,()),())) (cond (decide ((x0.getD x2.toNat ZN).1=(2:Int))) (lL36 x2 (0:Int) x0 x1 x2 x3 x4) (lL25 x0 x1 (IntKind.i64.wrap (x2+1)) x3 x4))) (cond (decide ((x0.getD x2.toNat ZN).1=(2:Int))) (lL36 x2 (0:Int) x0 x1 x2 x3 x4) (lL25 x0 x1 (IntKind.i64.wrap (x2+1)) x3 x4)))) (cond (decide (x2=0)) (cond (!decide ((x0.getD x2.toNat ZN).2.2.2.2.1=(0:Int))) (some ((false,()),())) (cond (decide ((x0.getD x2.toNat ZN).1=(2:Int))) (lL36 x2 (0:Int) x0 x1 x2 x3 x4) (lL25 x0 x1 (IntKind.i64.wrap (x2+1)) x3 x4))) (cond (decide ((x0.getD x2.toNat ZN).1=(2:Int))) (lL36 x2 (0:Int) x0 x1 x2 x3 x4) (lL25 x0 x1 (IntKind.i64.wrap (x2+1)) x3 x4)))))) none) none)) none) none) (some ((true,()),()))
noncomputable def zhf(n:Nat)(lL6:(List NT)→Int→Int→(List NT)→Li→Li→Option R19)(lL16:Int→(List NT)→Int→Int→(List (ByteArray×Int))→Int→Int→(List NT)→Li→Li→Int→Int→Int→Int→Int→Int→Bool→ByteArray→(List (ByteArray×Int))→Option R19)(lL25:(List NT)→Int→Int→Li→Li→Option R19)(x0:List NT)(x1 x2:Int)(x3:List NT)(x4 x5:Li):Option R19 :=
 cond (decide (x2<x1)) (cond (decide (0≤x2)) (cond (decide (x2<(↑x0.length:Int))) (cond (decide ((x0.getD x2.toNat ZN).1=(0:Int))) ((q69 n (((x0.getD x2.toNat ZN).1,(x0.getD x2.toNat ZN).2.1,(x0.getD x2.toNat ZN).2.2.1,(x0.getD x2.toNat ZN).2.2.2.1,(x0.getD x2.toNat ZN).2.2.2.2.1,(x0.getD x2.toNat ZN).2.2.2.2.2.1,(x0.getD x2.toNat ZN).2.2.2.2.2.2.1,(x0.getD x2.toNat ZN).2.2.2.2.2.2.2.1,(x0.getD x2.toNat ZN).2.2.2.2.2.2.2.2),())).bind fun r1=>cond (!r1.1.1) (some ((false,()),())) (lL6 x0 x1 (IntKind.i64.wrap (x2+1)) x3 x4 x5)) ((q61 n ((x0.getD x2.toNat ZN).1,(1:Int),(2:Int),())).bind fun r2=>cond (!r2.1.1) (some ((false,()),())) ((q61 n ((x0.getD x2.toNat ZN).2.1,(0:Int),(511:Int),())).bind fun r3=>cond (!r3.1.1) (some ((false,()),())) ((q61 n ((x0.getD x2.toNat ZN).2.2.1,(0:Int),(9:Int),())).bind fun r4=>cond (!r4.1.1) (some ((false,()),())) ((q61 n ((x0.getD x2.toNat ZN).2.2.2.1,(0:Int),(9:Int),())).bind fun r5=>cond (!r5.1.1) (some ((false,()),())) ((q61 n ((x0.getD x2.toNat ZN).2.2.2.2.2.1,(0:Int),(99:Int),())).bind fun r6=>cond (!r6.1.1) (some ((false,()),())) (cond (decide ((x0.getD x2.toNat ZN).1=(1:Int))) (cond (decide ((40:Int)<(↑(ByteArray.size (x0.getD x2.toNat ZN).2.2.2.2.2.2.2.1):Int))) (some ((false,()),())) (cond (decide ((0:Int)<(↑(List.length (x0.getD x2.toNat ZN).2.2.2.2.2.2.2.2):Int))) (some ((false,()),())) (cond (decide ((x0.getD x2.toNat ZN).1=(2:Int))) (cond (!ByteArray.toList (x0.getD x2.toNat ZN).2.2.2.2.2.2.2.1 == (ByteArray.mk #[]).toList) (some ((false,()),())) (cond ((x0.getD x2.toNat ZN).2.2.2.2.2.2.1) (some ((false,()),())) (cond (decide ((6:Int)<(↑(List.length (x0.getD x2.toNat ZN).2.2.2.2.2.2.2.2):Int))) (some ((false,()),())) (lL16 x2 x0 x1 x2 ((x0.getD x2.toNat ZN).2.2.2.2.2.2.2.2) ((↑(List.length (x0.getD x2.toNat ZN).2.2.2.2.2.2.2.2):Int)) (0:Int) x3 x4 x5 ((x0.getD x2.toNat ZN).1) ((x0.getD x2.toNat ZN).2.1) ((x0.getD x2.toNat ZN).2.2.1) ((x0.getD x2.toNat ZN).2.2.2.1) ((x0.getD x2.toNat ZN).2.2.2.2.1) ((x0.getD x2.toNat ZN).2.2.2.2.2.1) ((x0.getD x2.toNat ZN).2.2.2.2.2.2.1) ((x0.getD x2.toNat ZN).2.2.2.2.2.2.2.1) ((x0.getD x2.toNat ZN).2.2.2.2.2.2.2.2))))) (lL16 x2 x0 x1 x2 ((x0.getD x2.toNat ZN).2.2.2.2.2.2.2.2) ((↑(List.length (x0.getD x2.toNat ZN).2.2.2.2.2.2.2.2):Int)) (0:Int) x3 x4 x5 ((x0.getD x2.toNat ZN).1) ((x0.getD x2.toNat ZN).2.1) ((x0.getD x2.toNat ZN).2.2.1) ((x0.getD x2.toNat ZN).2.2.2.1) ((x0.getD x2.toNat ZN).2.2.2.2.1) ((x0.getD x2.toNat ZN).2.2.2.2.2.1) ((x0.getD x2.toNat ZN).2.2.2.2.2.2.1) ((x0.getD x2.toNat ZN).2.2.2.2.2.2.2.1) ((x0.getD x2.toNat ZN).2.2.2.2.2.2.2.2))))) (cond (decide ((x0.getD x2.toNat ZN).1=(2:Int))) (cond (!ByteArray.toList (x0.getD x2.toNat ZN).2.2.2.2.2.2.2.1 == (ByteArray.mk #[]).toList) (some ((false,()),())) (cond ((x0.getD x2.toNat ZN).2.2.2.2.2.2.1) (some ((false,()),())) (cond (decide ((6:Int)<(↑(List.length (x0.getD x2.toNat ZN).2.2.2.2.2.2.2.2):Int))) (some ((false,()),())) (lL16 x2 x0 x1 x2 ((x0.getD x2.toNat ZN).2.2.2.2.2.2.2.2) ((↑(List.length (x0.getD x2.toNat ZN).2.2.2.2.2.2.2.2):Int)) (0:Int) x3 x4 x5 ((x0.getD x2.toNat ZN).1) ((x0.getD x2.toNat ZN).2.1) ((x0.getD x2.toNat ZN).2.2.1) ((x0.getD x2.toNat ZN).2.2.2.1) ((x0.getD x2.toNat ZN).2.2.2.2.1) ((x0.getD x2.toNat ZN).2.2.2.2.2.1) ((x0.getD x2.toNat ZN).2.2.2.2.2.2.1) ((x0.getD x2.toNat ZN).2.2.2.2.2.2.2.1) ((x0.getD x2.toNat ZN).2.2.2.2.2.2.2.2))))) (lL16 x2 x0 x1 x2 ((x0.getD x2.toNat ZN).2.2.2.2.2.2.2.2) ((↑(List.length (x0.getD x2.toNat ZN).2.2.2.2.2.2.2.2):Int)) (0:Int) x3 x4 x5 ((x0.getD x2.toNat ZN).1) ((x0.getD x2.toNat ZN).2.1) ((x0.getD x2.toNat ZN).2.2.1) ((x0.getD x2.toNat ZN).2.2.2.1) ((x0.getD x2.toNat ZN).2.2.2.2.1) ((x0.getD x2.toNat ZN).2.2.2.2.2.1) ((x0.getD x2.toNat ZN).2.2.2.2.2.2.1) ((x0.getD x2.toNat ZN).2.2.2.2.2.2.2.1) ((x0.getD x2.toNat ZN).2.2.2.2.2.2.2.2)))))))))) none) none) (lL25 x3 ((↑x3.length:Int)) (0:Int) x4 x5)
theorem ykm(n:Nat)(a:List NT):runF TT G19 an19 Try.f19 c19 ps19 rs19 n (a,())=zfi n (fun x0 x1 x2 x3 x4 x5=>at19 n (.head 6) [n] (ze7 x0 x1 x2 x3 x4 x5)) a:=by kernel_rfl
theorem zx_(n m6:Nat)(x0:Int)(x1:List NT)(x2 x3:Int)(x4:List (ByteArray×Int))(x5 x6:Int)(x7:List NT)(x8 x9:Li)(x10 x11 x12 x13 x14 x15:Int)(x16:Bool)(x17:ByteArray)(x18:List (ByteArray×Int)):at19 n (.head 16) [m6,0] (zgd x0 x1 x2 x3 x4 x5 x6 x7 x8 x9 x10 x11 x12 x13 x14 x15 x16 x17 x18)=none:=by kernel_rfl
theorem ykp(n m6 m16:Nat)(x0:Int)(x1:List NT)(x2 x3:Int)(x4:List (ByteArray×Int))(x5 x6:Int)(x7:List NT)(x8 x9:Li)(x10 x11 x12 x13 x14 x15:Int)(x16:Bool)(x17:ByteArray)(x18:List (ByteArray×Int)):at19 n (.head 16) [m6,m16+1] (zgd x0 x1 x2 x3 x4 x5 x6 x7 x8 x9 x10 x11 x12 x13 x14 x15 x16 x17 x18)=zek n (fun x0 x1 x2 x3 x4 x5 x6 x7 x8 x9 x10 x11 x12 x13 x14 x15 x16 x17 x18=>at19 n (.head 16) [m6,m16] (zgd x0 x1 x2 x3 x4 x5 x6 x7 x8 x9 x10 x11 x12 x13 x14 x15 x16 x17 x18)) (fun x0 x1 x2 x3 x4 x5=>at19 n (.head 6) [m6] (ze7 x0 x1 x2 x3 x4 x5)) x0 x1 x2 x3 x4 x5 x6 x7 x8 x9 x10 x11 x12 x13 x14 x15 x16 x17 x18:=by kernel_rfl
theorem zx8(n m25:Nat)(x0 x1:Int)(x2:List NT)(x3 x4:Int)(x5 x6:Li):at19 n (.head 36) [m25,0] (zgc x0 x1 x2 x3 x4 x5 x6)=none:=by kernel_rfl
theorem ykn(n m25 m36:Nat)(x0 x1:Int)(x2:List NT)(x3 x4:Int)(x5 x6:Li):at19 n (.head 36) [m25,m36+1] (zgc x0 x1 x2 x3 x4 x5 x6)=zc_ n (fun x0 x1 x2 x3 x4 x5 x6=>at19 n (.head 36) [m25,m36] (zgc x0 x1 x2 x3 x4 x5 x6)) (fun x0 x1 x2 x3 x4=>at19 n (.head 25) [m25] (zdb x0 x1 x2 x3 x4)) x0 x1 x2 x3 x4 x5 x6:=by kernel_rfl
theorem zx9(n:Nat)(x0:List NT)(x1 x2:Int)(x3 x4:Li):at19 n (.head 25) [0] (zdb x0 x1 x2 x3 x4)=none:=by kernel_rfl
theorem yko(n m25:Nat)(x0:List NT)(x1 x2:Int)(x3 x4:Li):at19 n (.head 25) [m25+1] (zdb x0 x1 x2 x3 x4)=zi2 n (fun x0 x1 x2 x3 x4=>at19 n (.head 25) [m25] (zdb x0 x1 x2 x3 x4)) (fun x0 x1 x2 x3 x4 x5 x6=>at19 n (.head 36) [m25,n] (zgc x0 x1 x2 x3 x4 x5 x6)) x0 x1 x2 x3 x4:=by kernel_rfl
theorem yd0(n:Nat)(x0:List NT)(x1 x2:Int)(x3:List NT)(x4 x5:Li):at19 n (.head 6) [0] (ze7 x0 x1 x2 x3 x4 x5)=none:=by kernel_rfl
theorem ypy(n m6:Nat)(x0:List NT)(x1 x2:Int)(x3:List NT)(x4 x5:Li):at19 n (.head 6) [m6+1] (ze7 x0 x1 x2 x3 x4 x5)=zhf n (fun x0 x1 x2 x3 x4 x5=>at19 n (.head 6) [m6] (ze7 x0 x1 x2 x3 x4 x5)) (fun x0 x1 x2 x3 x4 x5 x6 x7 x8 x9 x10 x11 x12 x13 x14 x15 x16 x17 x18=>at19 n (.head 16) [m6,n] (zgd x0 x1 x2 x3 x4 x5 x6 x7 x8 x9 x10 x11 x12 x13 x14 x15 x16 x17 x18)) (fun x0 x1 x2 x3 x4=>at19 n (.head 25) [n] (zdb x0 x1 x2 x3 x4)) x0 x1 x2 x3 x4 x5:=by kernel_rfl
noncomputable def zde(g6:(List NT)→Int→Int→(List NT)→Li→Li→Option R19)(n:Nat):Nat→Int→(List NT)→Int→Int→(List (ByteArray×Int))→Int→Int→(List NT)→Li→Li→Int→Int→Int→Int→Int→Int→Bool→ByteArray→(List (ByteArray×Int))→Option R19
 |0,_,_,_,_,_,_,_,_,_,_,_,_,_,_,_,_,_,_,_=>none
 |m+1,x0,x1,x2,x3,x4,x5,x6,x7,x8,x9,x10,x11,x12,x13,x14,x15,x16,x17,x18=>zek n (zde g6 n m) g6 x0 x1 x2 x3 x4 x5 x6 x7 x8 x9 x10 x11 x12 x13 x14 x15 x16 x17 x18
noncomputable def zdz(g25:(List NT)→Int→Int→Li→Li→Option R19)(n:Nat):Nat→Int→Int→(List NT)→Int→Int→Li→Li→Option R19
 |0,_,_,_,_,_,_,_=>none
 |m+1,x0,x1,x2,x3,x4,x5,x6=>zc_ n (zdz g25 n m) g25 x0 x1 x2 x3 x4 x5 x6
noncomputable def zb4(n:Nat):Nat→(List NT)→Int→Int→Li→Li→Option R19
 |0,_,_,_,_,_=>none
 |m+1,x0,x1,x2,x3,x4=>zi2 n (zb4 n m) (zdz (zb4 n m) n n) x0 x1 x2 x3 x4
noncomputable def zcl(n:Nat):Nat→(List NT)→Int→Int→(List NT)→Li→Li→Option R19
 |0,_,_,_,_,_,_=>none
 |m+1,x0,x1,x2,x3,x4,x5=>zhf n (zcl n m) (zde (zcl n m) n n) (zb4 n n) x0 x1 x2 x3 x4 x5
noncomputable def p19(n:Nat)(a:List NT):Option R19:=zfi n (zcl n n) a
theorem ygu(n m6:Nat):∀ (m16:Nat) (x0:Int) (x1:List NT) (x2 x3:Int) (x4:List (ByteArray×Int)) (x5 x6:Int) (x7:List NT) (x8 x9:Li) (x10 x11 x12 x13 x14 x15:Int) (x16:Bool) (x17:ByteArray) (x18:List (ByteArray×Int)),at19 n (.head 16) [m6,m16] (zgd x0 x1 x2 x3 x4 x5 x6 x7 x8 x9 x10 x11 x12 x13 x14 x15 x16 x17 x18)=zde (fun x0 x1 x2 x3 x4 x5=>at19 n (.head 6) [m6] (ze7 x0 x1 x2 x3 x4 x5)) n m16 x0 x1 x2 x3 x4 x5 x6 x7 x8 x9 x10 x11 x12 x13 x14 x15 x16 x17 x18:=by
 intro m
 induction m with
 |zero=>intros;rw[zx_];rfl
 |succ m ih =>
  intros;rw[ykp]
  try simp only[ih]
  rfl
theorem ygs(n m25:Nat):∀ (m36:Nat) (x0 x1:Int) (x2:List NT) (x3 x4:Int) (x5 x6:Li),at19 n (.head 36) [m25,m36] (zgc x0 x1 x2 x3 x4 x5 x6)=zdz (fun x0 x1 x2 x3 x4=>at19 n (.head 25) [m25] (zdb x0 x1 x2 x3 x4)) n m36 x0 x1 x2 x3 x4 x5 x6:=by
 intro m
 induction m with
 |zero=>intros;rw[zx8];rfl
 |succ m ih =>
  intros;rw[ykn]
  try simp only[ih]
  rfl
theorem ygt(n:Nat):∀ (m25:Nat) (x0:List NT) (x1 x2:Int) (x3 x4:Li),at19 n (.head 25) [m25] (zdb x0 x1 x2 x3 x4)=zb4 n m25 x0 x1 x2 x3 x4:=by
 intro m
 induction m with
 |zero=>intros;rw[zx9];rfl
 |succ m ih =>
  intros;rw[yko]
  try simp only[ygs,ih]
  rfl
theorem ymv(n:Nat):∀ (m6:Nat) (x0:List NT) (x1 x2:Int) (x3:List NT) (x4 x5:Li),at19 n (.head 6) [m6] (ze7 x0 x1 x2 x3 x4 x5)=zcl n m6 x0 x1 x2 x3 x4 x5:=by
 intro m
 induction m with
 |zero=>intros;rw[yd0];rfl
 |succ m ih =>
  intros;rw[ypy]
  try simp only[ygu,ygt,ih]
  rfl
noncomputable def q19(n:Nat)(x:zai ps19):Option R19:=p19 n x.1
noncomputable def Sm19:Sm:=⟨ps19,rs19,false,q19⟩
theorem gam19:GamOK Try.prog G19:=by intro f s h;unfold G19 at h;split at h;exact gj h y70;exact gj h y61;exact gj h y69;cases h
theorem hh19:Hp 19 Sm19:=hOf (zaf (an:=an19) (c:=c19) zaw gam19 zau Try.func19 (by kernel_rfl) rfl (by decide +kernel)) fun n x=>(ykm n x.1).trans (by simp only[ymv];try rfl)
theorem y19:Gk 19 Sm19:=⟨⟨Try.f19,c19,Try.func19,by kernel_rfl,by decide +kernel⟩,hh19⟩
noncomputable def c86:Code:=(Try.f86.body.getD .skip)
def an86:An:=⟨fun _=>⟨[],[]⟩,fun _ _=>none⟩
abbrev ps86:List PK:=[.val tFs true,.val i64 false]
abbrev rs86:List RK:=[.val .bool false]
abbrev R86:=zah rs86×zag ps86
noncomputable def G86:Gam:=fun f=>match f with|61=>some Sm61|_=>none
noncomputable def zih(n:Nat)(a:List NT)(b:Int):Option R86 :=
 (q61 n (b,(0:Int),IntKind.i64.wrap ((↑a.length:Int) - (1:Int)),())).bind fun r0=>cond r0.1.1 (cond (decide ((0:Int)≤b)) (cond (decide (b<(↑a.length:Int))) (some ((!decide ((a.getD b.toNat ZN).1=(0:Int)),()),())) none) none) (some ((false,()),()))
theorem yjs(n:Nat)(a:List NT)(b:Int):runF TT G86 an86 Try.f86 c86 ps86 rs86 n (a,b,())=zih n a b:=by kernel_rfl
noncomputable def p86(n:Nat)(a:List NT)(b:Int):Option R86:=zih n a b
noncomputable def q86(n:Nat)(x:zai ps86):Option R86:=p86 n x.1 x.2.1
noncomputable def Sm86:Sm:=⟨ps86,rs86,false,q86⟩
theorem gam86:GamOK Try.prog G86:=by intro f s h;unfold G86 at h;split at h;exact gj h y61;cases h
theorem hh86:Hp 86 Sm86:=hOf (zaf (an:=an86) (c:=c86) zaw gam86 zau Try.func86 (by kernel_rfl) rfl (by decide +kernel)) fun n x=>(yjs n x.1 x.2.1).trans rfl
theorem y86:Gk 86 Sm86:=⟨⟨Try.f86,c86,Try.func86,by kernel_rfl,by decide +kernel⟩,hh86⟩
noncomputable def c79:Code:=(Try.f79.body.getD .skip)
def an79:An:=⟨fun r=>match r with|2=>⟨[1,6,7,8],[]⟩|_=>⟨[],[]⟩,fun _ _=>none⟩
abbrev ps79:List PK:=[.val tCr true]
abbrev rs79:List RK:=[.val .bool false]
abbrev R79:=zah rs79×zag ps79
noncomputable def G79:Gam:=fun f=>match f with|61=>some Sm61|_=>none
noncomputable def at79:Nat→Pt→List Nat→St→Option R79:=atF TT G79 an79 Try.f79 c79 _ _
def zjy(x0:Li)(x1 x2 x3 x4:Int)(x5:Li):St:=(St.mk ([Uu,AV.one (SV.bptr 1000000 0),Uu,Uu,Uu,Uu,AV.one (SV.con (⟨3,Ty.int .i64,x0⟩:Rw)),Ai x1,Ai x2]++Ur 36) [(1000000,(Ent.box [Si x3,Si x4,SV.con (⟨3,Ty.int .i64,x5⟩:Rw)]))])
noncomputable def zru(n:Nat)(lL2:Li→Int→Int→Int→Int→Li→Option R79)(a:Int×Int×Li):Option R79 :=
 lL2 a.2.2 ((↑(List.length a.2.2):Int)) (0:Int) a.1 a.2.1 a.2.2
noncomputable def zg9(n:Nat)(lL2:Li→Int→Int→Int→Int→Li→Option R79)(x0:Li)(x1 x2 x3 x4:Int)(x5:Li):Option R79 :=
 cond (decide (x2<x1)) (cond (decide (0≤x2)) (cond (decide (x2<(↑x0.length:Int))) ((q61 n (x0.getD x2.toNat (0:Int),(0:Int),(9:Int),())).bind fun r1=>cond (!r1.1.1) (some ((false,()),())) (cond (decide (0<x2)) (cond (decide ((0:Int)≤IntKind.i64.wrap (x2 - 1))) (cond (decide (IntKind.i64.wrap (x2 - 1)<(↑x5.length:Int))) (cond (decide (x0.getD x2.toNat (0:Int)≤x5.getD (IntKind.i64.wrap (x2 - 1)).toNat (0:Int))) (some ((false,()),())) (lL2 x0 x1 (IntKind.i64.wrap (x2+1)) x3 x4 x5)) none) none) (lL2 x0 x1 (IntKind.i64.wrap (x2+1)) x3 x4 x5))) none) none) ((q61 n (x3,(0:Int),(9:Int),())).bind fun r2=>cond r2.1.1 ((q61 n (x4,(0:Int),(9:Int),())).bind fun r3=>cond r3.1.1 (some ((decide ((↑x5.length:Int)≤(3:Int)),()),())) (some ((false,()),()))) (some ((false,()),())))
theorem yjy(n:Nat)(a:Int×Int×Li):runF TT G79 an79 Try.f79 c79 ps79 rs79 n (a,())=zru n (fun x0 x1 x2 x3 x4 x5=>at79 n (.head 2) [n] (zjy x0 x1 x2 x3 x4 x5)) a:=by kernel_rfl
theorem ydq(n:Nat)(x0:Li)(x1 x2 x3 x4:Int)(x5:Li):at79 n (.head 2) [0] (zjy x0 x1 x2 x3 x4 x5)=none:=by kernel_rfl
theorem ypn(n m2:Nat)(x0:Li)(x1 x2 x3 x4:Int)(x5:Li):at79 n (.head 2) [m2+1] (zjy x0 x1 x2 x3 x4 x5)=zg9 n (fun x0 x1 x2 x3 x4 x5=>at79 n (.head 2) [m2] (zjy x0 x1 x2 x3 x4 x5)) x0 x1 x2 x3 x4 x5:=by kernel_rfl
noncomputable def zl1(n:Nat):Nat→Li→Int→Int→Int→Int→Li→Option R79
 |0,_,_,_,_,_,_=>none
 |m+1,x0,x1,x2,x3,x4,x5=>zg9 n (zl1 n m) x0 x1 x2 x3 x4 x5
noncomputable def p79(n:Nat)(a:Int×Int×Li):Option R79:=zru n (zl1 n n) a
theorem yml(n:Nat):∀ (m2:Nat) (x0:Li) (x1 x2 x3 x4:Int) (x5:Li),at79 n (.head 2) [m2] (zjy x0 x1 x2 x3 x4 x5)=zl1 n m2 x0 x1 x2 x3 x4 x5:=by
 intro m
 induction m with
 |zero=>intros;rw[ydq];rfl
 |succ m ih =>
  intros;rw[ypn]
  try simp only[ih]
  rfl
noncomputable def q79(n:Nat)(x:zai ps79):Option R79:=p79 n x.1
noncomputable def Sm79:Sm:=⟨ps79,rs79,false,q79⟩
theorem gam79:GamOK Try.prog G79:=by intro f s h;unfold G79 at h;split at h;exact gj h y61;cases h
theorem hh79:Hp 79 Sm79:=hOf (zaf (an:=an79) (c:=c79) zaw gam79 zau Try.func79 (by kernel_rfl) rfl (by decide +kernel)) fun n x=>(yjy n x.1).trans (by simp only[yml];try rfl)
theorem y79:Gk 79 Sm79:=⟨⟨Try.f79,c79,Try.func79,by kernel_rfl,by decide +kernel⟩,hh79⟩
abbrev ps60:List PK:=[.val tFs true,.val tCr true,.val (.row 3 i64) false]
abbrev rs60:List RK:=[.val .bool false]
abbrev R60:=zah rs60×zag ps60
noncomputable def yam(n:Nat)(lL4:Li→Int→Int→(List NT)→Option R60)(a:List NT)(b:Int×Int×Li)(c:Li):Option R60 :=
 (q19 n (a,())).bind fun r0=>cond (!r0.1.1) (some ((false,()),())) ((q79 n ((b.1,b.2.1,b.2.2),())).bind fun r1=>cond (!r1.1.1) (some ((false,()),())) (lL4 c ((↑c.length:Int)) (0:Int) a))
noncomputable def yhl(n:Nat)(lL4:Li→Int→Int→(List NT)→Option R60)(x0:Li)(x1 x2:Int)(x3:List NT):Option R60 :=
 cond (decide (x2<x1)) (cond (decide (0≤x2)) (cond (decide (x2<(↑x0.length:Int))) ((q86 n (x3,x0.getD x2.toNat (0:Int),())).bind fun r3=>cond (!r3.1.1) (some ((false,()),())) (lL4 x0 x1 (IntKind.i64.wrap (x2+1)) x3)) none) none) (some ((true,()),()))
noncomputable def yf8(n:Nat):Nat→Li→Int→Int→(List NT)→Option R60
 |0,_,_,_,_=>none
 |m+1,x0,x1,x2,x3=>yhl n (yf8 n m) x0 x1 x2 x3
noncomputable def p60(n:Nat)(a:List NT)(b:Int×Int×Li)(c:Li):Option R60:=yam n (yf8 n n) a b c
noncomputable def q60(n:Nat)(x:zai ps60):Option R60:=p60 n x.1 x.2.1 x.2.2.1
noncomputable def c114:Code:=(Try.f114.body.getD .skip)
abbrev ycf:List PK:=[.val (.row 37 (tIn 100)) false]
abbrev ym3:List RK:=[.half 37 (tIn 100) 8]
abbrev R114:=zah ym3×zag ycf
noncomputable def p114(n:Nat)(a:List NT):Option R114:=cond (decide (a.length*(96:Nat)≤(140737488355328:Nat))) (some ((a,()),())) none
noncomputable def q114(n:Nat)(x:zai ycf):Option R114:=p114 n x.1
noncomputable def yl4:Sm:=⟨ycf,ym3,true,q114⟩
noncomputable def yqo(n:Nat)(xs:List NT):St:=(zo_ Try.f114.ntmps ycf (xs,())).put (some 2) (.one .nil)
noncomputable def S1_93(n:Nat)(xs:List NT):St:=(yqo n xs).put (some 3) (.one (.con ⟨37,(tIn 100),xs⟩))
theorem yjk:GamOK Try.prog (fun _=>none):=fun f s h=>by cases h
theorem hh114:zdo Try.prog 114 yl4:=by
 refine zmr zaw yjk zau (an:=⟨fun _=>⟨[],[]⟩,fun _ _=>none⟩) Try.func114 (by rfl) rfl (by first|exact Try.underlying23|kernel_rfl) (by decide +kernel) yqo (fun n xs=>by kernel_rfl) S1_93 (fun n xs=>by kernel_rfl) (fun n xs=>rfl) (fun n xs b=>by kernel_rfl) (fun n y h=>?_) (fun n xs y h=>?_)
 ·have h':some (([],()),())=some y:=h;refine Eq.trans ?_ h'
  kernel_rfl
 ·have h':cond (decide (xs.length*(96:Nat)≤(140737488355328:Nat))) (some ((xs,()),())) none=some y:=h;refine Eq.trans ?_ h'
  kernel_rfl
theorem y114:Gk 114 yl4:=⟨⟨Try.f114,c114,Try.func114,by kernel_rfl,by decide +kernel⟩,hh114⟩
noncomputable def c115:Code:=(Try.f115.body.getD .skip)
abbrev yce:List PK:=[.val (.row 100 tEn) false]
abbrev ym2:List RK:=[.own (.row 100 tEn) false]
abbrev R115:=zah ym2×zag yce
noncomputable def p115(n:Nat)(a:List (ByteArray×Int)):Option R115:=cond (decide ((0+a.length)*(24:Nat)≤(140737488355328:Nat))) (some ((a,()),())) none
noncomputable def q115(n:Nat)(x:zai yce):Option R115:=p115 n x.1
noncomputable def yl3:Sm:=⟨yce,ym2,false,q115⟩
noncomputable def yqn(n:Nat)(xs:List (ByteArray×Int)):St:=(zo_ Try.f115.ntmps yce (xs,())).put (some 2) (.one .nil)
noncomputable def S1_94(n:Nat)(xs:List (ByteArray×Int)):St:=(yqn n xs).put (some 3) (.one (.con ⟨100,tEn,xs⟩))
theorem yjj:GamOK Try.prog (fun _=>none):=fun f s h=>by cases h
theorem hh115:zdo Try.prog 115 yl3:=by
 refine zmr zaw yjj zau (an:=⟨fun _=>⟨[],[]⟩,fun _ _=>none⟩) Try.func115 (by rfl) rfl (by first|exact Try.underlying37|kernel_rfl) (by decide +kernel) yqn (fun n xs=>by kernel_rfl) S1_94 (fun n xs=>by kernel_rfl) (fun n xs=>rfl) (fun n xs b=>by kernel_rfl) (fun n y h=>?_) (fun n xs y h=>?_)
 ·have h':some (([],()),())=some y:=h;refine Eq.trans ?_ h'
  kernel_rfl
 ·have h':cond (decide ((0+xs.length)*(24:Nat)≤(140737488355328:Nat))) (some ((xs,()),())) none=some y:=h;refine Eq.trans ?_ h'
  kernel_rfl
theorem y115:Gk 115 yl3:=⟨⟨Try.f115,c115,Try.func115,by kernel_rfl,by decide +kernel⟩,hh115⟩
noncomputable def c62:Code:=(Try.f62.body.getD .skip)
def an62:An:=⟨fun r=>match r with|3=>⟨[2,3,11,12],[]⟩|_=>⟨[],[]⟩,fun _ _=>none⟩
abbrev ps62:List PK:=[.val tFs true]
abbrev rs62:List RK:=[.own tFs true]
abbrev R62:=zah rs62×zag ps62
noncomputable def G62:Gam:=fun f=>match f with|114=>some yl4|115=>some yl3|_=>none
noncomputable def at62:Nat→Pt→List Nat→St→Option R62:=atF TT G62 an62 Try.f62 c62 _ _
def zj3(x0 x1:Int)(x2:List NT)(x3:Int):St:=(St.mk ([Uu,Uu,AV.one (SV.bptr 1000000 0),AV.one (SV.bptr 1000001 0),Uu,Uu,Uu,Uu,Uu,Uu,Uu,Ai x0,Ai x1]++Ur 16) [(1000000,(Ent.box [SV.nil])),(1000001,(Ent.box [Sr 1000002])),(1000002,(Ent.half (⟨37,(Ty.int .i64).pair ((Ty.int .i64).pair ((Ty.int .i64).pair ((Ty.int .i64).pair ((Ty.int .i64).pair ((Ty.int .i64).pair (Ty.bool.pair (Ty.str.pair (Ty.row (nat_lit 100) (Ty.str.pair (Ty.int .i64)))))))))),x2⟩:Rw) x3 8))])
noncomputable def zis(n:Nat)(lL3:Int→Int→(List NT)→Int→Option R62)(a:List NT):Option R62 :=
 (q114 n (a,())).bind fun r0=>lL3 ((↑(List.length r0.1.1):Int)) (0:Int) r0.1.1 (0:Int)
noncomputable def zhd(n:Nat)(lL3:Int→Int→(List NT)→Int→Option R62)(x0 x1:Int)(x2:List NT)(x3:Int):Option R62 :=
 cond (decide (x1<x0)) (cond (decide (0≤x1)) (cond (decide (x1<(↑x2.length:Int))) (cond (decide (x3≤(↑x1.toNat:Int))) ((q115 n ((x2.getD x1.toNat ZN).2.2.2.2.2.2.2.2,())).bind fun r2=>cond (decide (0≤x1)) (cond (decide (x1<(↑x2.length:Int))) (cond (decide (x3=(↑x1.toNat:Int))) (lL3 x0 (IntKind.i64.wrap (x1+1)) (x2.set x1.toNat ((x2.getD x1.toNat ZN).1,(x2.getD x1.toNat ZN).2.1,(x2.getD x1.toNat ZN).2.2.1,(x2.getD x1.toNat ZN).2.2.2.1,(x2.getD x1.toNat ZN).2.2.2.2.1,(x2.getD x1.toNat ZN).2.2.2.2.2.1,(x2.getD x1.toNat ZN).2.2.2.2.2.2.1,(x2.getD x1.toNat ZN).2.2.2.2.2.2.2.1,r2.1.1)) (x3+1)) none) none) none) none) none) none) (cond (decide ((↑x2.length:Int)≤x3)) (some ((x2,()),())) none)
theorem ykb(n:Nat)(a:List NT):runF TT G62 an62 Try.f62 c62 ps62 rs62 n (a,())=zis n (fun x0 x1 x2 x3=>at62 n (.head 3) [n] (zj3 x0 x1 x2 x3)) a:=by kernel_rfl
theorem ydw(n:Nat)(x0 x1:Int)(x2:List NT)(x3:Int):at62 n (.head 3) [0] (zj3 x0 x1 x2 x3)=none:=by kernel_rfl
theorem ypt(n m3:Nat)(x0 x1:Int)(x2:List NT)(x3:Int):at62 n (.head 3) [m3+1] (zj3 x0 x1 x2 x3)=zhd n (fun x0 x1 x2 x3=>at62 n (.head 3) [m3] (zj3 x0 x1 x2 x3)) x0 x1 x2 x3:=by kernel_rfl
noncomputable def zkm(n:Nat):Nat→Int→Int→(List NT)→Int→Option R62
 |0,_,_,_,_=>none
 |m+1,x0,x1,x2,x3=>zhd n (zkm n m) x0 x1 x2 x3
noncomputable def p62(n:Nat)(a:List NT):Option R62:=zis n (zkm n n) a
theorem ymr(n:Nat):∀ (m3:Nat) (x0 x1:Int) (x2:List NT) (x3:Int),at62 n (.head 3) [m3] (zj3 x0 x1 x2 x3)=zkm n m3 x0 x1 x2 x3:=by
 intro m
 induction m with
 |zero=>intros;rw[ydw];rfl
 |succ m ih =>
  intros;rw[ypt]
  try simp only[ih]
  rfl
noncomputable def q62(n:Nat)(x:zai ps62):Option R62:=p62 n x.1
noncomputable def Sm62:Sm:=⟨ps62,rs62,false,q62⟩
theorem gam62:GamOK Try.prog G62:=by intro f s h;unfold G62 at h;split at h;exact gj h y114;exact gj h y115;cases h
theorem hh62:Hp 62 Sm62:=hOf (zaf (an:=an62) (c:=c62) zaw gam62 zau Try.func62 (by kernel_rfl) rfl (by decide +kernel)) fun n x=>(ykb n x.1).trans (by simp only[ymr];try rfl)
theorem y62:Gk 62 Sm62:=⟨⟨Try.f62,c62,Try.func62,by kernel_rfl,by decide +kernel⟩,hh62⟩
abbrev ynp:List PK:=[.val i64 false,.val i64 false]
abbrev rs107:List RK:=[.val i64 false]
abbrev R107:=zah rs107×zag ynp
noncomputable def zvk(n:Nat)(a b:Int):Option R107 :=
 cond (decide ((0:Int)≤IntKind.i64.wrap ((3:Int)*IntKind.i64.wrap ((2:Int) - b)))) (some ((IntKind.i64.wrap (↑(BitVec.ofInt IntKind.i64.bits (a.fdiv ((2:Int) ^ min (IntKind.i64.wrap ((3:Int)*IntKind.i64.wrap ((2:Int) - b))).toNat IntKind.i64.bits)) &&& BitVec.ofInt IntKind.i64.bits (7:Int)).toNat:Int),()),())) none
noncomputable def p107(n:Nat)(a b:Int):Option R107:=zvk n a b
noncomputable def q107(n:Nat)(x:zai ynp):Option R107:=p107 n x.1 x.2.1
abbrev ynd:List PK:=[.val (.row 3 i64) false,.val i64 false]
abbrev rs141:List RK:=[.val i64 false]
abbrev R141:=zah rs141×zag ynd
noncomputable def zu_(n:Nat)(lL2:Li→Int→Int→Int→Option R141)(a:Li)(b:Int):Option R141 :=
 lL2 a b ((↑a.length:Int)) (0:Int)
noncomputable def ybc(n:Nat)(lL2:Li→Int→Int→Int→Option R141)(x0:Li)(x1 x2 x3:Int):Option R141 :=
 cond (decide (x3<x2)) (cond (decide (0≤x3)) (cond (decide (x3<(↑x0.length:Int))) (cond (decide (x1=x0.getD x3.toNat (0:Int))) (some ((x3,()),())) (lL2 x0 x1 x2 (IntKind.i64.wrap (x3+1)))) none) none) (some (((-1:Int),()),()))
noncomputable def zwf(n:Nat):Nat→Li→Int→Int→Int→Option R141
 |0,_,_,_,_=>none
 |m+1,x0,x1,x2,x3=>ybc n (zwf n m) x0 x1 x2 x3
noncomputable def p141(n:Nat)(a:Li)(b:Int):Option R141:=zu_ n (zwf n n) a b
noncomputable def q141(n:Nat)(x:zai ynd):Option R141:=p141 n x.1 x.2.1
abbrev yno:List PK:=[.val (.row 3 i64) false,.val i64 false]
abbrev rs108:List RK:=[.val .bool false]
abbrev R108:=zah rs108×zag yno
noncomputable def zvj(n:Nat)(a:Li)(b:Int):Option R108 :=
 (q141 n (a,b,())).bind fun r0=>some ((decide ((0:Int)≤r0.1.1),()),())
noncomputable def p108(n:Nat)(a:Li)(b:Int):Option R108:=zvj n a b
noncomputable def q108(n:Nat)(x:zai yno):Option R108:=p108 n x.1 x.2.1
abbrev ps48:List PK:=[.val tCr true,.val i64 false,.val i64 false,.val i64 false,.val i64 false]
abbrev rs48:List RK:=[.val .bool false]
abbrev R48:=zah rs48×zag ps48
noncomputable def yap(n:Nat)(a:Int×Int×Li)(b c d e:Int):Option R48 :=
 (q79 n ((a.1,a.2.1,a.2.2),())).bind fun r0=>cond (!r0.1.1) (some ((false,()),())) ((q61 n (b,(0:Int),(9:Int),())).bind fun r1=>cond (!r1.1.1) (some ((false,()),())) ((q61 n (c,(0:Int),(9:Int),())).bind fun r2=>cond (!r2.1.1) (some ((false,()),())) ((q61 n (d,(0:Int),(511:Int),())).bind fun r3=>cond (!r3.1.1) (some ((false,()),())) ((q61 n (e,(1:Int),(7:Int),())).bind fun r4=>cond (!r4.1.1) (some ((false,()),())) (cond (decide (a.1=(0:Int))) (cond (decide (IntKind.i64.wrap (↑(BitVec.ofInt IntKind.i64.bits e &&& BitVec.ofInt IntKind.i64.bits (1:Int)).toNat:Int)=(0:Int))) (some ((true,()),())) ((q107 n (d,(0:Int),())).bind fun r5=>(q107 n (d,(1:Int),())).bind fun r6=>(q107 n (d,(2:Int),())).bind fun r7=>some ((decide (IntKind.i64.wrap (↑(BitVec.ofInt IntKind.i64.bits (IntKind.i64.wrap (↑(BitVec.ofInt IntKind.i64.bits (IntKind.i64.wrap (↑(BitVec.ofInt IntKind.i64.bits r5.1.1|||BitVec.ofInt IntKind.i64.bits r6.1.1).toNat:Int))|||BitVec.ofInt IntKind.i64.bits r7.1.1).toNat:Int)) &&& BitVec.ofInt IntKind.i64.bits (1:Int)).toNat:Int)=(1:Int)),()),()))) (cond (decide (a.1=b)) ((q107 n (d,(0:Int),())).bind fun r8=>some ((decide (IntKind.i64.wrap (↑(BitVec.ofInt IntKind.i64.bits r8.1.1 &&& BitVec.ofInt IntKind.i64.bits e).toNat:Int)=e),()),())) ((q108 n (a.2.2,c,())).bind fun r9=>cond r9.1.1 ((q107 n (d,(1:Int),())).bind fun r10=>some ((decide (IntKind.i64.wrap (↑(BitVec.ofInt IntKind.i64.bits r10.1.1 &&& BitVec.ofInt IntKind.i64.bits e).toNat:Int)=e),()),())) ((q107 n (d,(2:Int),())).bind fun r11=>some ((decide (IntKind.i64.wrap (↑(BitVec.ofInt IntKind.i64.bits r11.1.1 &&& BitVec.ofInt IntKind.i64.bits e).toNat:Int)=e),()),())))))))))
noncomputable def p48(n:Nat)(a:Int×Int×Li)(b c d e:Int):Option R48:=yap n a b c d e
noncomputable def q48(n:Nat)(x:zai ps48):Option R48:=p48 n x.1 x.2.1 x.2.2.1 x.2.2.2.1 x.2.2.2.2.1
abbrev ps72:List PK:=[.val (tIn 100) true,.val tCr true,.val i64 false]
abbrev rs72:List RK:=[.val .bool false]
abbrev R72:=zah rs72×zag ps72
noncomputable def yal(n:Nat)(a:NT)(b:Int×Int×Li)(c:Int):Option R72 :=
 (q48 n ((b.1,b.2.1,b.2.2),a.2.2.1,a.2.2.2.1,a.2.1,c,())).bind fun r0=>some ((r0.1.1,()),())
noncomputable def p72(n:Nat)(a:NT)(b:Int×Int×Li)(c:Int):Option R72:=yal n a b c
noncomputable def q72(n:Nat)(x:zai ps72):Option R72:=p72 n x.1 x.2.1 x.2.2.1
abbrev ps74:List PK:=[.bo tFs,.val i64 false]
abbrev rs74:List RK:=[]
abbrev R74:=zah rs74×zag ps74
noncomputable def yaj(n:Nat)(a:List NT)(b:Int):Option R74 :=
 cond (decide ((0:Int)≤b)) (cond (decide (b<(↑a.length:Int))) (cond (!decide (b=(0:Int))) (cond (decide ((a.getD b.toNat ZN).2.2.2.2.1=(0:Int))) (cond (decide ((a.getD b.toNat ZN).2.2.2.2.2.1=(0:Int))) (some ((),(a.set b.toNat ZN,()))) (some ((),(a,())))) (some ((),(a,())))) (some ((),(a,())))) none) none
noncomputable def p74(n:Nat)(a:List NT)(b:Int):Option R74:=yaj n a b
noncomputable def q74(n:Nat)(x:zai ps74):Option R74:=p74 n x.1 x.2.1
end Go.Proofs.Ytbjgiioppmkpiaa.Rx.S
namespace Go.Proofs.Ytbjgiioppmkpiaa.Rx.S
open Go Go.Proofs.Ytbjgiioppmkpiaa.Rx Go.RowKit Go.Proofs
abbrev ynk:List PK:=[.own (.row 100 tEn) false,.val i64 false,.val i64 false]
abbrev rs124:List RK:=[.own (.row 100 tEn) false]
abbrev R124:=zah rs124×zag ynk
def p124(n:Nat)(a:List (ByteArray×Int))(b c:Int):Option R124 :=
 cond (decide (0≤b)) (cond (decide (b<a.length)) (cond (decide (c=b+1)) (some ((a.take b.toNat++a.drop (b.toNat+1),()),())) none) none) none
noncomputable def q124(n:Nat)(x:zai ynk):Option R124:=p124 n x.1 x.2.1 x.2.2.1
end Go.Proofs.Ytbjgiioppmkpiaa.Rx.S
namespace Go.Proofs.Ytbjgiioppmkpiaa.Rx.S
open Go Go.RowKit Go.Proofs
set_option maxRecDepth 100000
abbrev ps75:List PK:=[.bo tFs,.val i64 false,.val .str false]
abbrev rs75:List RK:=[.val i64 false]
abbrev R75:=zah rs75×zag ps75
noncomputable def yai(n:Nat)(a:List NT)(b:Int)(c:ByteArray):Option R75 :=
 cond (decide ((0:Int)≤b)) (cond (decide (b<(↑a.length:Int))) ((q73 n (((a.getD b.toNat ZN).1,(a.getD b.toNat ZN).2.1,(a.getD b.toNat ZN).2.2.1,(a.getD b.toNat ZN).2.2.2.1,(a.getD b.toNat ZN).2.2.2.2.1,(a.getD b.toNat ZN).2.2.2.2.2.1,(a.getD b.toNat ZN).2.2.2.2.2.2.1,(a.getD b.toNat ZN).2.2.2.2.2.2.2.1,(a.getD b.toNat ZN).2.2.2.2.2.2.2.2),c,())).bind fun r0=>cond (decide ((0:Int)≤r0.1.1)) (cond (decide (r0.1.1<(↑(List.length (a.getD b.toNat ZN).2.2.2.2.2.2.2.2):Int))) ((q124 n ((a.getD b.toNat ZN).2.2.2.2.2.2.2.2,r0.1.1,IntKind.i64.wrap (r0.1.1+(1:Int)),())).bind fun r1=>cond (decide ((↑b.toNat:Int)=(↑b.toNat:Int))) (cond (decide ((0:Int)≤(List.getD (a.getD b.toNat ZN).2.2.2.2.2.2.2.2 (Int.toNat r0.1.1) (ByteArray.empty,(0:Int))).2)) (cond (decide ((List.getD (a.getD b.toNat ZN).2.2.2.2.2.2.2.2 (Int.toNat r0.1.1) (ByteArray.empty,(0:Int))).2<(↑(a.set b.toNat ((a.getD b.toNat ZN).1,(a.getD b.toNat ZN).2.1,(a.getD b.toNat ZN).2.2.1,(a.getD b.toNat ZN).2.2.2.1,(a.getD b.toNat ZN).2.2.2.2.1,(a.getD b.toNat ZN).2.2.2.2.2.1,(a.getD b.toNat ZN).2.2.2.2.2.2.1,(a.getD b.toNat ZN).2.2.2.2.2.2.2.1,r1.1.1)).length:Int))) (cond (decide ((0:Int)≤(List.getD (a.getD b.toNat ZN).2.2.2.2.2.2.2.2 (Int.toNat r0.1.1) (ByteArray.empty,(0:Int))).2)) (cond (decide ((List.getD (a.getD b.toNat ZN).2.2.2.2.2.2.2.2 (Int.toNat r0.1.1) (ByteArray.empty,(0:Int))).2<(↑(a.set b.toNat ((a.getD b.toNat ZN).1,(a.getD b.toNat ZN).2.1,(a.getD b.toNat ZN).2.2.1,(a.getD b.toNat ZN).2.2.2.1,(a.getD b.toNat ZN).2.2.2.2.1,(a.getD b.toNat ZN).2.2.2.2.2.1,(a.getD b.toNat ZN).2.2.2.2.2.2.1,(a.getD b.toNat ZN).2.2.2.2.2.2.2.1,r1.1.1)).length:Int))) (some (((List.getD (a.getD b.toNat ZN).2.2.2.2.2.2.2.2 (Int.toNat r0.1.1) (ByteArray.empty,(0:Int))).2,()),((a.set b.toNat ((a.getD b.toNat ZN).1,(a.getD b.toNat ZN).2.1,(a.getD b.toNat ZN).2.2.1,(a.getD b.toNat ZN).2.2.2.1,(a.getD b.toNat ZN).2.2.2.2.1,(a.getD b.toNat ZN).2.2.2.2.2.1,(a.getD b.toNat ZN).2.2.2.2.2.2.1,(a.getD b.toNat ZN).2.2.2.2.2.2.2.1,r1.1.1)).set (Int.toNat (List.getD (a.getD b.toNat ZN).2.2.2.2.2.2.2.2 (Int.toNat r0.1.1) (ByteArray.empty,(0:Int))).2) (((a.set b.toNat ((a.getD b.toNat ZN).1,(a.getD b.toNat ZN).2.1,(a.getD b.toNat ZN).2.2.1,(a.getD b.toNat ZN).2.2.2.1,(a.getD b.toNat ZN).2.2.2.2.1,(a.getD b.toNat ZN).2.2.2.2.2.1,(a.getD b.toNat ZN).2.2.2.2.2.2.1,(a.getD b.toNat ZN).2.2.2.2.2.2.2.1,r1.1.1)).getD (Int.toNat (List.getD (a.getD b.toNat ZN).2.2.2.2.2.2.2.2 (Int.toNat r0.1.1) (ByteArray.empty,(0:Int))).2) ZN).1,((a.set b.toNat ((a.getD b.toNat ZN).1,(a.getD b.toNat ZN).2.1,(a.getD b.toNat ZN).2.2.1,(a.getD b.toNat ZN).2.2.2.1,(a.getD b.toNat ZN).2.2.2.2.1,(a.getD b.toNat ZN).2.2.2.2.2.1,(a.getD b.toNat ZN).2.2.2.2.2.2.1,(a.getD b.toNat ZN).2.2.2.2.2.2.2.1,r1.1.1)).getD (Int.toNat (List.getD (a.getD b.toNat ZN).2.2.2.2.2.2.2.2 (Int.toNat r0.1.1) (ByteArray.empty,(0:Int))).2) ZN).2.1,((a.set b.toNat ((a.getD b.toNat ZN).1,(a.getD b.toNat ZN).2.1,(a.getD b.toNat ZN).2.2.1,(a.getD b.toNat ZN).2.2.2.1,(a.getD b.toNat ZN).2.2.2.2.1,(a.getD b.toNat ZN).2.2.2.2.2.1,(a.getD b.toNat ZN).2.2.2.2.2.2.1,(a.getD b.toNat ZN).2.2.2.2.2.2.2.1,r1.1.1)).getD (Int.toNat (List.getD (a.getD b.toNat ZN).2.2.2.2.2.2.2.2 (Int.toNat r0.1.1) (ByteArray.empty,(0:Int))).2) ZN).2.2.1,((a.set b.toNat ((a.getD b.toNat ZN).1,(a.getD b.toNat ZN).2.1,(a.getD b.toNat ZN).2.2.1,(a.getD b.toNat ZN).2.2.2.1,(a.getD b.toNat ZN).2.2.2.2.1,(a.getD b.toNat ZN).2.2.2.2.2.1,(a.getD b.toNat ZN).2.2.2.2.2.2.1,(a.getD b.toNat ZN).2.2.2.2.2.2.2.1,r1.1.1)).getD (Int.toNat (List.getD (a.getD b.toNat ZN).2.2.2.2.2.2.2.2 (Int.toNat r0.1.1) (ByteArray.empty,(0:Int))).2) ZN).2.2.2.1,IntKind.i64.wrap (((a.set b.toNat ((a.getD b.toNat ZN).1,(a.getD b.toNat ZN).2.1,(a.getD b.toNat ZN).2.2.1,(a.getD b.toNat ZN).2.2.2.1,(a.getD b.toNat ZN).2.2.2.2.1,(a.getD b.toNat ZN).2.2.2.2.2.1,(a.getD b.toNat ZN).2.2.2.2.2.2.1,(a.getD b.toNat ZN).2.2.2.2.2.2.2.1,r1.1.1)).getD (Int.toNat (List.getD (a.getD b.toNat ZN).2.2.2.2.2.2.2.2 (Int.toNat r0.1.1) (ByteArray.empty,(0:Int))).2) ZN).2.2.2.2.1 - (1:Int)),((a.set b.toNat ((a.getD b.toNat ZN).1,(a.getD b.toNat ZN).2.1,(a.getD b.toNat ZN).2.2.1,(a.getD b.toNat ZN).2.2.2.1,(a.getD b.toNat ZN).2.2.2.2.1,(a.getD b.toNat ZN).2.2.2.2.2.1,(a.getD b.toNat ZN).2.2.2.2.2.2.1,(a.getD b.toNat ZN).2.2.2.2.2.2.2.1,r1.1.1)).getD (Int.toNat (List.getD (a.getD b.toNat ZN).2.2.2.2.2.2.2.2 (Int.toNat r0.1.1) (ByteArray.empty,(0:Int))).2) ZN).2.2.2.2.2),()))) none) none) none) none) none) none) none) none) none
noncomputable def p75(n:Nat)(a:List NT)(b:Int)(c:ByteArray):Option R75:=yai n a b c
noncomputable def q75(n:Nat)(x:zai ps75):Option R75:=p75 n x.1 x.2.1 x.2.2.1
abbrev ps21:List PK:=[.val tFs true,.val tCr true,.val i64 false,.val .str false]
abbrev rs21:List RK:=[.own tFs true,.val i64 false]
abbrev R21:=zah rs21×zag ps21
noncomputable def ya6(n:Nat)(a:List NT)(b:Int×Int×Li)(c:Int)(d:ByteArray):Option R21 :=
 (q60 n (a,(b.1,b.2.1,b.2.2),[c],())).bind fun r0=>cond (!r0.1.1) (some (([],((1:Int),())),())) ((q70 n (d,())).bind fun r1=>cond (!r1.1.1) (some (([],((1:Int),())),())) ((q62 n (a,())).bind fun r2=>cond (decide ((0:Int)≤c)) (cond (decide (c<(↑a.length:Int))) (cond (!decide ((a.getD c.toNat ZN).1=(2:Int))) (some ((r2.1.1,((4:Int),())),())) ((q72 n (((a.getD c.toNat ZN).1,(a.getD c.toNat ZN).2.1,(a.getD c.toNat ZN).2.2.1,(a.getD c.toNat ZN).2.2.2.1,(a.getD c.toNat ZN).2.2.2.2.1,(a.getD c.toNat ZN).2.2.2.2.2.1,(a.getD c.toNat ZN).2.2.2.2.2.2.1,(a.getD c.toNat ZN).2.2.2.2.2.2.2.1,(a.getD c.toNat ZN).2.2.2.2.2.2.2.2),(b.1,b.2.1,b.2.2),(3:Int),())).bind fun r3=>cond (!r3.1.1) (some ((r2.1.1,((5:Int),())),())) ((q73 n (((a.getD c.toNat ZN).1,(a.getD c.toNat ZN).2.1,(a.getD c.toNat ZN).2.2.1,(a.getD c.toNat ZN).2.2.2.1,(a.getD c.toNat ZN).2.2.2.2.1,(a.getD c.toNat ZN).2.2.2.2.2.1,(a.getD c.toNat ZN).2.2.2.2.2.2.1,(a.getD c.toNat ZN).2.2.2.2.2.2.2.1,(a.getD c.toNat ZN).2.2.2.2.2.2.2.2),d,())).bind fun r4=>cond (!r4.1.2.1) (some ((r2.1.1,((2:Int),())),())) (cond (decide ((0:Int)≤r4.1.1)) (cond (decide (r4.1.1<(↑(List.length (a.getD c.toNat ZN).2.2.2.2.2.2.2.2):Int))) (cond (decide ((0:Int)≤(List.getD (a.getD c.toNat ZN).2.2.2.2.2.2.2.2 (Int.toNat r4.1.1) (ByteArray.empty,(0:Int))).2)) (cond (decide ((List.getD (a.getD c.toNat ZN).2.2.2.2.2.2.2.2 (Int.toNat r4.1.1) (ByteArray.empty,(0:Int))).2<(↑a.length:Int))) (cond (decide ((a.getD (Int.toNat (List.getD (a.getD c.toNat ZN).2.2.2.2.2.2.2.2 (Int.toNat r4.1.1) (ByteArray.empty,(0:Int))).2) ZN).1=(2:Int))) (cond (decide ((0:Int)<(↑(List.length (a.getD (Int.toNat (List.getD (a.getD c.toNat ZN).2.2.2.2.2.2.2.2 (Int.toNat r4.1.1) (ByteArray.empty,(0:Int))).2) ZN).2.2.2.2.2.2.2.2):Int))) (some ((r2.1.1,((6:Int),())),())) (cond (decide ((0:Int)<(a.getD (Int.toNat (List.getD (a.getD c.toNat ZN).2.2.2.2.2.2.2.2 (Int.toNat r4.1.1) (ByteArray.empty,(0:Int))).2) ZN).2.2.2.2.2.1)) (some ((r2.1.1,((6:Int),())),())) ((q75 n (r2.1.1,c,d,())).bind fun r5=>(q74 n (r5.2.1,r5.1.1,())).bind fun r6=>some ((r6.2.1,((0:Int),())),())))) ((q75 n (r2.1.1,c,d,())).bind fun r7=>(q74 n (r7.2.1,r7.1.1,())).bind fun r8=>some ((r8.2.1,((0:Int),())),()))) none) none) none) none)))) none) none))
noncomputable def p21(n:Nat)(a:List NT)(b:Int×Int×Li)(c:Int)(d:ByteArray):Option R21:=ya6 n a b c d
noncomputable def q21(n:Nat)(x:zai ps21):Option R21:=p21 n x.1 x.2.1 x.2.2.1 x.2.2.2.1
noncomputable def c76:Code:=(Try.f76.body.getD .skip)
def an76:An:=⟨fun r=>match r with|2=>⟨[0,3],[]⟩|_=>⟨[],[]⟩,fun _ _=>none⟩
abbrev ps76:List PK:=[.val .str false]
abbrev rs76:List RK:=[.val .bool false]
abbrev R76:=zah rs76×zag ps76
noncomputable def G76:Gam:=fun f=>match f with|66=>some Sm66|_=>none
noncomputable def at76:Nat→Pt→List Nat→St→Option R76:=atF TT G76 an76 Try.f76 c76 _ _
def zjz(x0:ByteArray)(x1:Int):St:=(St.mk ([AV.one (SV.str x0),Uu,Uu,Ai x1]++Ur 19) [])
noncomputable def zrv(n:Nat)(lL2:ByteArray→Int→Option R76)(a:ByteArray):Option R76 :=
 lL2 a (0:Int)
noncomputable def zm2(n:Nat)(lL2:ByteArray→Int→Option R76)(x0:ByteArray)(x1:Int):Option R76 :=
 cond (decide (x1<(↑x0.size:Int))) (cond (decide (0≤x1)) (cond (decide (x1<(↑x0.size:Int))) (cond (decide ((↑(x0.data.toList.getD x1.toNat (0:UInt8)).toNat:Int)<(97:Int))) (some ((false,()),())) (cond (decide (0≤x1)) (cond (decide (x1<(↑x0.size:Int))) (cond (decide ((122:Int)<(↑(x0.data.toList.getD x1.toNat (0:UInt8)).toNat:Int))) (some ((false,()),())) (lL2 x0 (IntKind.i64.wrap (x1+1)))) none) none)) none) none) ((q66 n ((↑x0.size:Int),(1:Int),(3:Int),())).bind fun r1=>some ((r1.1.1,()),()))
theorem yj0(n:Nat)(a:ByteArray):runF TT G76 an76 Try.f76 c76 ps76 rs76 n (a,())=zrv n (fun x0 x1=>at76 n (.head 2) [n] (zjz x0 x1)) a:=by kernel_rfl
theorem ydr(n:Nat)(x0:ByteArray)(x1:Int):at76 n (.head 2) [0] (zjz x0 x1)=none:=by kernel_rfl
theorem ypo(n m2:Nat)(x0:ByteArray)(x1:Int):at76 n (.head 2) [m2+1] (zjz x0 x1)=zm2 n (fun x0 x1=>at76 n (.head 2) [m2] (zjz x0 x1)) x0 x1:=by kernel_rfl
noncomputable def zot(n:Nat):Nat→ByteArray→Int→Option R76
 |0,_,_=>none
 |m+1,x0,x1=>zm2 n (zot n m) x0 x1
noncomputable def p76(n:Nat)(a:ByteArray):Option R76:=zrv n (zot n n) a
theorem ymm(n:Nat):∀ (m2:Nat) (x0:ByteArray) (x1:Int),at76 n (.head 2) [m2] (zjz x0 x1)=zot n m2 x0 x1:=by
 intro m
 induction m with
 |zero=>intros;rw[ydr];rfl
 |succ m ih =>
  intros;rw[ypo]
  try simp only[ih]
  rfl
noncomputable def q76(n:Nat)(x:zai ps76):Option R76:=p76 n x.1
noncomputable def Sm76:Sm:=⟨ps76,rs76,false,q76⟩
theorem gam76:GamOK Try.prog G76:=by intro f s h;unfold G76 at h;split at h;exact gj h y66;cases h
theorem hh76:Hp 76 Sm76:=hOf (zaf (an:=an76) (c:=c76) zaw gam76 zau Try.func76 (by kernel_rfl) rfl (by decide +kernel)) fun n x=>(yj0 n x.1).trans (by simp only[ymm];try rfl)
theorem y76:Gk 76 Sm76:=⟨⟨Try.f76,c76,Try.func76,by kernel_rfl,by decide +kernel⟩,hh76⟩
noncomputable def c146:Code:=(Try.f146.body.getD .skip)
def yp7:An:=⟨fun _=>⟨[],[]⟩,fun _ _=>none⟩
abbrev ybx:List PK:=[.val (tIn 100) true]
abbrev yhs:List RK:=[.val .bool false]
abbrev R146:=zah yhs×zag ybx
noncomputable def G146:Gam:=fun _=>none
noncomputable def zfm(n:Nat)(a:NT):Option R146 :=
 cond (decide (a.1=(0:Int))) (cond (decide (a.2.1=(0:Int))) (cond (decide (a.2.2.1=(0:Int))) (cond (decide (a.2.2.2.1=(0:Int))) (cond (decide (a.2.2.2.2.1=(0:Int))) (cond (decide (a.2.2.2.2.2.1=(0:Int))) (cond (!a.2.2.2.2.2.2.1) (cond (ByteArray.toList a.2.2.2.2.2.2.2.1 == (ByteArray.mk #[]).toList) (some ((decide ((↑(List.length a.2.2.2.2.2.2.2.2):Int)=(0:Int)),()),())) (some ((false,()),()))) (some ((false,()),()))) (some ((false,()),()))) (some ((false,()),()))) (some ((false,()),()))) (some ((false,()),()))) (some ((false,()),()))) (some ((false,()),()))
theorem yd5(n:Nat)(a:NT):runF TT G146 yp7 Try.f146 c146 ybx yhs n (a,())=zfm n a:=by kernel_rfl
noncomputable def p146(n:Nat)(a:NT):Option R146:=zfm n a
noncomputable def q146(n:Nat)(x:zai ybx):Option R146:=p146 n x.1
noncomputable def ylt:Sm:=⟨ybx,yhs,false,q146⟩
theorem yot:GamOK Try.prog G146:=fun _ _ h=>by cases h
theorem hh146:Hp 146 ylt:=hOf (zaf (an:=yp7) (c:=c146) zaw yot zau Try.func146 (by kernel_rfl) rfl (by decide +kernel)) fun n x=>(yd5 n x.1).trans rfl
theorem y146:Gk 146 ylt:=⟨⟨Try.f146,c146,Try.func146,by kernel_rfl,by decide +kernel⟩,hh146⟩
noncomputable def c116:Code:=(Try.f116.body.getD .skip)
def ylk:An:=⟨fun r=>match r with|8=>⟨[1,3],[]⟩|_=>⟨[],[]⟩,fun _ _=>none⟩
abbrev ycd:List PK:=[.val (tIn 100) true]
abbrev yh9:List RK:=[.val .bool false]
abbrev R116:=zah yh9×zag ycd
noncomputable def G116:Gam:=fun f=>match f with|76=>some Sm76|66=>some Sm66|118=>some zzs|146=>some ylt|_=>none
noncomputable def zy6:Nat→Pt→List Nat→St→Option R116:=atF TT G116 ylk Try.f116 c116 _ _
def zgm(x0 x1 x2 x3 x4 x5 x6:Int)(x7:Bool)(x8:ByteArray)(x9:List (ByteArray×Int)):St:=(St.mk ([Uu,AV.one (SV.bptr 1000000 0),Uu,Ai x0]++Ur 113) [(1000000,(Ent.box [Si x1,Si x2,Si x3,Si x4,Si x5,Si x6,SV.bool x7,SV.str x8,SV.con (⟨100,Ty.str.pair (Ty.int .i64),x9⟩:Rw)]))])
noncomputable def zf3(n:Nat)(lL8:Int→Int→Int→Int→Int→Int→Int→Bool→ByteArray→(List (ByteArray×Int))→Option R116)(a:NT):Option R116 :=
 cond (decide (a.1=(0:Int))) ((q146 n ((a.1,a.2.1,a.2.2.1,a.2.2.2.1,a.2.2.2.2.1,a.2.2.2.2.2.1,a.2.2.2.2.2.2.1,a.2.2.2.2.2.2.2.1,a.2.2.2.2.2.2.2.2),())).bind fun r0=>some ((r0.1.1,()),())) ((q66 n (a.1,(1:Int),(2:Int),())).bind fun r1=>cond (!r1.1.1) (some ((false,()),())) ((q66 n (a.2.1,(0:Int),(511:Int),())).bind fun r2=>cond (!r2.1.1) (some ((false,()),())) ((q118 n (a.2.2.1,())).bind fun r3=>cond (!r3.1.1) (some ((false,()),())) ((q118 n (a.2.2.2.1,())).bind fun r4=>cond (!r4.1.1) (some ((false,()),())) ((q66 n (a.2.2.2.2.2.1,(0:Int),(99:Int),())).bind fun r5=>cond (!r5.1.1) (some ((false,()),())) ((q66 n (a.2.2.2.2.1,(0:Int),(99:Int),())).bind fun r6=>cond (!r6.1.1) (some ((false,()),())) (cond (decide ((40:Int)<(↑(ByteArray.size a.2.2.2.2.2.2.2.1):Int))) (some ((false,()),())) (cond (decide ((6:Int)<(↑(List.length a.2.2.2.2.2.2.2.2):Int))) (some ((false,()),())) (cond (decide (a.1=(2:Int))) (cond (!ByteArray.toList a.2.2.2.2.2.2.2.1 == (ByteArray.mk #[]).toList) (some ((false,()),())) (cond a.2.2.2.2.2.2.1 (some ((false,()),())) (cond (decide (a.1=(1:Int))) (cond (decide ((0:Int)<(↑(List.length a.2.2.2.2.2.2.2.2):Int))) (some ((false,()),())) (lL8 (0:Int) a.1 a.2.1 a.2.2.1 a.2.2.2.1 a.2.2.2.2.1 a.2.2.2.2.2.1 a.2.2.2.2.2.2.1 a.2.2.2.2.2.2.2.1 a.2.2.2.2.2.2.2.2)) (lL8 (0:Int) a.1 a.2.1 a.2.2.1 a.2.2.2.1 a.2.2.2.2.1 a.2.2.2.2.2.1 a.2.2.2.2.2.2.1 a.2.2.2.2.2.2.2.1 a.2.2.2.2.2.2.2.2)))) (cond (decide (a.1=(1:Int))) (cond (decide ((0:Int)<(↑(List.length a.2.2.2.2.2.2.2.2):Int))) (some ((false,()),())) (lL8 (0:Int) a.1 a.2.1 a.2.2.1 a.2.2.2.1 a.2.2.2.2.1 a.2.2.2.2.2.1 a.2.2.2.2.2.2.1 a.2.2.2.2.2.2.2.1 a.2.2.2.2.2.2.2.2)) (lL8 (0:Int) a.1 a.2.1 a.2.2.1 a.2.2.2.1 a.2.2.2.2.1 a.2.2.2.2.2.1 a.2.2.2.2.2.2.1 a.2.2.2.2.2.2.2.1 a.2.2.2.2.2.2.2.2)))))))))))
noncomputable def zeo(n:Nat)(lL8:Int→Int→Int→Int→Int→Int→Int→Bool→ByteArray→(List (ByteArray×Int))→Option R116)(x0 x1 x2 x3 x4 x5 x6:Int)(x7:Bool)(x8:ByteArray)(x9:List (ByteArray×Int)):Option R116 :=
 cond (decide (x0<(↑x9.length:Int))) (cond (decide (0≤x0)) (cond (decide (x0<(↑x9.length:Int))) ((q76 n ((x9.getD x0.toNat (ByteArray.empty,(0:Int))).1,())).bind fun r8=>cond (!r8.1.1) (some ((false,()),())) ((q66 n ((x9.getD x0.toNat (ByteArray.empty,(0:Int))).2,(1:Int),(9:Int),())).bind fun r9=>cond (!r9.1.1) (some ((false,()),())) (cond (decide (0<x0)) (cond (decide ((0:Int)≤IntKind.i64.wrap (x0 - 1))) (cond (decide (IntKind.i64.wrap (x0 - 1)<(↑x9.length:Int))) (cond (!Go.Op.bytesLess (ByteArray.toList (x9.getD (IntKind.i64.wrap (x0 - 1)).toNat (ByteArray.empty,(0:Int))).1) (ByteArray.toList (x9.getD x0.toNat (ByteArray.empty,(0:Int))).1)) (some ((false,()),())) (lL8 (IntKind.i64.wrap (x0+1)) x1 x2 x3 x4 x5 x6 x7 x8 x9)) none) none) (lL8 (IntKind.i64.wrap (x0+1)) x1 x2 x3 x4 x5 x6 x7 x8 x9)))) none) none) (some ((true,()),()))
theorem yen(n:Nat)(a:NT):runF TT G116 ylk Try.f116 c116 ycd yh9 n (a,())=zf3 n (fun x0 x1 x2 x3 x4 x5 x6 x7 x8 x9=>zy6 n (.head 8) [n] (zgm x0 x1 x2 x3 x4 x5 x6 x7 x8 x9)) a:=by kernel_rfl
theorem zyj(n:Nat)(x0 x1 x2 x3 x4 x5 x6:Int)(x7:Bool)(x8:ByteArray)(x9:List (ByteArray×Int)):zy6 n (.head 8) [0] (zgm x0 x1 x2 x3 x4 x5 x6 x7 x8 x9)=none:=by kernel_rfl
theorem yk0(n m8:Nat)(x0 x1 x2 x3 x4 x5 x6:Int)(x7:Bool)(x8:ByteArray)(x9:List (ByteArray×Int)):zy6 n (.head 8) [m8+1] (zgm x0 x1 x2 x3 x4 x5 x6 x7 x8 x9)=zeo n (fun x0 x1 x2 x3 x4 x5 x6 x7 x8 x9=>zy6 n (.head 8) [m8] (zgm x0 x1 x2 x3 x4 x5 x6 x7 x8 x9)) x0 x1 x2 x3 x4 x5 x6 x7 x8 x9:=by kernel_rfl
noncomputable def zd1(n:Nat):Nat→Int→Int→Int→Int→Int→Int→Int→Bool→ByteArray→(List (ByteArray×Int))→Option R116
 |0,_,_,_,_,_,_,_,_,_,_=>none
 |m+1,x0,x1,x2,x3,x4,x5,x6,x7,x8,x9=>zeo n (zd1 n m) x0 x1 x2 x3 x4 x5 x6 x7 x8 x9
noncomputable def p116(n:Nat)(a:NT):Option R116:=zf3 n (zd1 n n) a
theorem yg4(n:Nat):∀ (m8:Nat) (x0 x1 x2 x3 x4 x5 x6:Int) (x7:Bool) (x8:ByteArray) (x9:List (ByteArray×Int)),zy6 n (.head 8) [m8] (zgm x0 x1 x2 x3 x4 x5 x6 x7 x8 x9)=zd1 n m8 x0 x1 x2 x3 x4 x5 x6 x7 x8 x9:=by
 intro m
 induction m with
 |zero=>intros;rw[zyj];rfl
 |succ m ih =>
  intros;rw[yk0]
  try simp only[ih]
  rfl
noncomputable def q116(n:Nat)(x:zai ycd):Option R116:=p116 n x.1
noncomputable def yl2:Sm:=⟨ycd,yh9,false,q116⟩
theorem ypb:GamOK Try.prog G116:=by intro f s h;unfold G116 at h;split at h;exact gj h y76;exact gj h y66;exact gj h y118;exact gj h y146;cases h
theorem hh116:Hp 116 yl2:=hOf (zaf (an:=ylk) (c:=c116) zaw ypb zau Try.func116 (by kernel_rfl) rfl (by decide +kernel)) fun n x=>(yen n x.1).trans (by simp only[yg4];try rfl)
theorem y116:Gk 116 yl2:=⟨⟨Try.f116,c116,Try.func116,by kernel_rfl,by decide +kernel⟩,hh116⟩
noncomputable def c117:Code:=(Try.f117.body.getD .skip)
def ylj:An:=⟨fun r=>match r with|3=>⟨[1,4,5],[]⟩|10=>⟨[1,4,5,6,7],[]⟩|_=>⟨[],[]⟩,fun _ _=>none⟩
abbrev ycc:List PK:=[.val tFs true]
abbrev yh8:List RK:=[.own (.row 4 .bool) false,.val .bool false]
abbrev R117:=zah yh8×zag ycc
noncomputable def G117:Gam:=fun _=>none
noncomputable def zld:Nat→Pt→List Nat→St→Option R117:=atF TT G117 ylj Try.f117 c117 _ _
def zds(x0 x1:Int)(x2:List NT)(x3:List Bool)(x4:Li):St:=(St.mk ([Uu,AV.one (SV.bptr 1000000 0),Uu,Uu,AV.one (Sr 1000001),AV.one (Sr 1000002),Ai x0,Ai x1]++Ur 57) [(1000000,(Ent.box [SV.con (⟨37,(Ty.int .i64).pair ((Ty.int .i64).pair ((Ty.int .i64).pair ((Ty.int .i64).pair ((Ty.int .i64).pair ((Ty.int .i64).pair (Ty.bool.pair (Ty.str.pair (Ty.row (nat_lit 100) (Ty.str.pair (Ty.int .i64)))))))))),x2⟩:Rw)])),(1000001,Er ⟨4,Ty.bool,x3⟩),(1000002,Er ⟨3,Ty.int .i64,x4⟩)])
def zeq(x0:List NT)(x1:List Bool)(x2:Li):St:=(St.mk ([Uu,AV.one (SV.bptr 1000000 0),Uu,Uu,AV.one (Sr 1000001),AV.one (Sr 1000002)]++Ur 59) [(1000000,(Ent.box [SV.con (⟨37,(Ty.int .i64).pair ((Ty.int .i64).pair ((Ty.int .i64).pair ((Ty.int .i64).pair ((Ty.int .i64).pair ((Ty.int .i64).pair (Ty.bool.pair (Ty.str.pair (Ty.row (nat_lit 100) (Ty.str.pair (Ty.int .i64)))))))))),x0⟩:Rw)])),(1000001,Er ⟨4,Ty.bool,x1⟩),(1000002,Er ⟨3,Ty.int .i64,x2⟩)])
noncomputable def zf2(n:Nat)(lL3:(List NT)→(List Bool)→Li→Option R117)(a:List NT):Option R117 :=
 cond (decide ((↑a.length:Int)*(↑(1:Nat):Int)≤(140737488355328:Int))) (lL3 a (List.replicate (↑a.length:Int).toNat false) ([(0:Int)])) none
noncomputable def zcu(n:Nat)(lL10:Int→Int→(List NT)→(List Bool)→Li→Option R117)(lL3:(List NT)→(List Bool)→Li→Option R117)(x0 x1:Int)(x2:List NT)(x3:List Bool)(x4:Li):Option R117 :=
 cond (decide (0≤x0)) (cond (decide (x0<(↑x2.length:Int))) (cond (decide (x1<(↑(List.length (x2.getD x0.toNat ZN).2.2.2.2.2.2.2.2):Int))) (cond (decide (0≤x0)) (cond (decide (x0<(↑x2.length:Int))) (cond (decide (0≤x1)) (cond (decide (x1<(↑(List.length (x2.getD x0.toNat ZN).2.2.2.2.2.2.2.2):Int))) (cond (decide ((0:Int)≤(List.getD (x2.getD x0.toNat ZN).2.2.2.2.2.2.2.2 x1.toNat (ByteArray.empty,(0:Int))).2)) (cond (decide ((List.getD (x2.getD x0.toNat ZN).2.2.2.2.2.2.2.2 x1.toNat (ByteArray.empty,(0:Int))).2<(↑x2.length:Int))) (cond (decide ((x2.getD (Int.toNat (List.getD (x2.getD x0.toNat ZN).2.2.2.2.2.2.2.2 x1.toNat (ByteArray.empty,(0:Int))).2) ZN).1=(2:Int))) (cond (decide ((x4.length+[(List.getD (x2.getD x0.toNat ZN).2.2.2.2.2.2.2.2 x1.toNat (ByteArray.empty,(0:Int))).2].length)*(8:Nat)≤(140737488355328:Nat))) (lL10 x0 (IntKind.i64.wrap (x1+1)) x2 x3 (x4++[(List.getD (x2.getD x0.toNat ZN).2.2.2.2.2.2.2.2 x1.toNat (ByteArray.empty,(0:Int))).2])) none) (lL10 x0 (IntKind.i64.wrap (x1+1)) x2 x3 x4)) none) none) none) none) none) none) (lL3 x2 x3 x4)) none) none
noncomputable def zen(n:Nat)(lL10:Int→Int→(List NT)→(List Bool)→Li→Option R117)(x0:List NT)(x1:List Bool)(x2:Li):Option R117 :=
 cond (decide ((0:Int)<(↑x2.length:Int))) (cond (decide ((0:Int)<(↑x2.length:Int))) (cond (decide ((1:Int)≤(↑x2.length:Int))) (cond (decide (((0:Nat)+(List.take ((↑x2.length:Int) - (1:Int)).toNat (List.drop ((0:Nat)+Int.toNat (1:Int)) x2)).length)*(8:Nat)≤(140737488355328:Nat))) (cond (decide ((0:Int)≤x2.getD (Int.toNat (0:Int)) (0:Int))) (cond (decide (x2.getD (Int.toNat (0:Int)) (0:Int)<(↑x1.length:Int))) (cond (x1.getD (Int.toNat (x2.getD (Int.toNat (0:Int)) (0:Int))) false) (some ((x1,(false,())),())) (cond (decide ((0:Int)≤x2.getD (Int.toNat (0:Int)) (0:Int))) (cond (decide (x2.getD (Int.toNat (0:Int)) (0:Int)<(↑x1.length:Int))) (lL10 (x2.getD (Int.toNat (0:Int)) (0:Int)) (0:Int) x0 (x1.set (Int.toNat (x2.getD (Int.toNat (0:Int)) (0:Int))) true) (List.take ((↑x2.length:Int) - (1:Int)).toNat (List.drop ((0:Nat)+Int.toNat (1:Int)) x2))) none) none)) none) none) none) none) none) (some ((x1,(true,())),()))
theorem yel(n:Nat)(a:List NT):runF TT G117 ylj Try.f117 c117 ycc yh8 n (a,())=zf2 n (fun x0 x1 x2=>zld n (.head 3) [n] (zeq x0 x1 x2)) a:=by kernel_rfl
theorem zue(n m3:Nat)(x0 x1:Int)(x2:List NT)(x3:List Bool)(x4:Li):zld n (.head 10) [m3,0] (zds x0 x1 x2 x3 x4)=none:=by kernel_rfl
theorem yem(n m3 m10:Nat)(x0 x1:Int)(x2:List NT)(x3:List Bool)(x4:Li):zld n (.head 10) [m3,m10+1] (zds x0 x1 x2 x3 x4)=zcu n (fun x0 x1 x2 x3 x4=>zld n (.head 10) [m3,m10] (zds x0 x1 x2 x3 x4)) (fun x0 x1 x2=>zld n (.head 3) [m3] (zeq x0 x1 x2)) x0 x1 x2 x3 x4:=by kernel_rfl
theorem zyi(n:Nat)(x0:List NT)(x1:List Bool)(x2:Li):zld n (.head 3) [0] (zeq x0 x1 x2)=none:=by kernel_rfl
theorem ykz(n m3:Nat)(x0:List NT)(x1:List Bool)(x2:Li):zld n (.head 3) [m3+1] (zeq x0 x1 x2)=zen n (fun x0 x1 x2 x3 x4=>zld n (.head 10) [m3,n] (zds x0 x1 x2 x3 x4)) x0 x1 x2:=by kernel_rfl
noncomputable def zb7(g3:(List NT)→(List Bool)→Li→Option R117)(n:Nat):Nat→Int→Int→(List NT)→(List Bool)→Li→Option R117
 |0,_,_,_,_,_=>none
 |m+1,x0,x1,x2,x3,x4=>zcu n (zb7 g3 n m) g3 x0 x1 x2 x3 x4
noncomputable def zdf(n:Nat):Nat→(List NT)→(List Bool)→Li→Option R117
 |0,_,_,_=>none
 |m+1,x0,x1,x2=>zen n (zb7 (zdf n m) n n) x0 x1 x2
noncomputable def p117(n:Nat)(a:List NT):Option R117:=zf2 n (zdf n n) a
theorem zz3(n m3:Nat):∀ (m10:Nat) (x0 x1:Int) (x2:List NT) (x3:List Bool) (x4:Li),zld n (.head 10) [m3,m10] (zds x0 x1 x2 x3 x4)=zb7 (fun x0 x1 x2=>zld n (.head 3) [m3] (zeq x0 x1 x2)) n m10 x0 x1 x2 x3 x4:=by
 intro m
 induction m with
 |zero=>intros;rw[zue];rfl
 |succ m ih =>
  intros;rw[yem]
  try simp only[ih]
  rfl
theorem yg3(n:Nat):∀ (m3:Nat) (x0:List NT) (x1:List Bool) (x2:Li),zld n (.head 3) [m3] (zeq x0 x1 x2)=zdf n m3 x0 x1 x2:=by
 intro m
 induction m with
 |zero=>intros;rw[zyi];rfl
 |succ m ih =>
  intros;rw[ykz]
  try simp only[zz3,ih]
  rfl
noncomputable def q117(n:Nat)(x:zai ycc):Option R117:=p117 n x.1
noncomputable def yl1:Sm:=⟨ycc,yh8,false,q117⟩
theorem ypa:GamOK Try.prog G117:=fun _ _ h=>by cases h
theorem hh117:Hp 117 yl1:=hOf (zaf (an:=ylj) (c:=c117) zaw ypa zau Try.func117 (by kernel_rfl) rfl (by decide +kernel)) fun n x=>(yel n x.1).trans (by simp only[yg3];try rfl)
theorem y117:Gk 117 yl1:=⟨⟨Try.f117,c117,Try.func117,by kernel_rfl,by decide +kernel⟩,hh117⟩
end Go.Proofs.Ytbjgiioppmkpiaa.Rx.S
