/- What the functions of this seat compute, each as a plain function on lists and numbers, with the proof that a call answers so. No condition. -/
import Derived.Test.YtdkaagpkeomhmaaProg
import Derived.KernelRfl
import Derived.Test.YtdkaagpkeomhmaaDK4
set_option linter.unusedVariables false
set_option linter.unusedSimpArgs false
noncomputable section
namespace Go.Proofs.Ytdkaagpkeomhmaa.Rx
abbrev Aq:Type:=Int × Int × Bool × Bool
abbrev Lb:Type:=List ByteArray
abbrev Lq:Type:=List Aq
abbrev Uu:AV:=AV.undef
abbrev Li:Type:=List Int
abbrev Br:Type:=Bool × Lq × Lq
abbrev Ls:Type:=List Br
abbrev Mm:Type:=(Lb × Li) × (Lb × Li) × Ls × Int
abbrev Ur (k:Nat):List AV:=List.replicate k Uu
abbrev Ai (x:Int):AV:=.one (.int .i64 x)
abbrev Si (x:Int):SV:=.int .i64 x
abbrev Sr (o:Nat):SV:=.ref o 0 [] none
abbrev Er (r:Rw):Ent:=.row r 0 none
abbrev yAq:Ty:=.pair (.int .i64) (.pair (.int .i64) (.pair .bool .bool))
abbrev ySp:Ty:=.pair .bool (.pair (.row 116 yAq) (.row 80 yAq))
end Go.Proofs.Ytdkaagpkeomhmaa.Rx
namespace Go.Proofs.Ytdkaagpkeomhmaa.Rx.S
open Go Go.RowKit Go.Proofs
def tbl:List (TypeId × TI):=[
(2,⟨.int .i64,1,8,[.int .i64],some (.int .i64),false⟩),
(3,⟨.int .i64,1,8,[.int .i64],some (.int .i64),false⟩),
(4,⟨.bool,1,1,[.bool],some .bool,false⟩),
(5,⟨.int .u8,1,1,[.int .u8],some (.int .u8),false⟩),
(6,⟨.int .u8,1,1,[.int .u8],some (.int .u8),false⟩),
(7,⟨.struct [(0,1),(1,1),(2,1),(3,1)],4,24,[.int .i64,.int .i64,.bool,.int .u8],some (.pair (.int .i64) (.pair (.int .i64) (.pair .bool (.int .u8)))),true⟩),
(8,⟨.struct [(0,1),(1,1),(2,1),(3,1)],4,24,[.int .i64,.int .i64,.bool,.int .u8],some (.pair (.int .i64) (.pair (.int .i64) (.pair .bool (.int .u8)))),true⟩),
(9,⟨.str,1,16,[.str],some .str,false⟩),
(10,⟨.str,1,16,[.str],some .str,false⟩),
(11,⟨.str,1,16,[.str],some .str,false⟩),
(12,⟨.int .u64,1,8,[.int .u64],some (.int .u64),false⟩),
(13,⟨.struct [(0,1),(1,1)],2,24,[.str,.int .u64],some (.pair .str (.int .u64)),false⟩),
(14,⟨.struct [(0,1),(1,1)],2,24,[.str,.int .u64],some (.pair .str (.int .u64)),false⟩),
(15,⟨.ptr,1,8,[.ptr],none,false⟩),
(16,⟨.ptr,1,8,[.ptr],none,false⟩),
(17,⟨.ptr,1,8,[.ptr],none,false⟩),
(18,⟨.struct [(0,1)],1,8,[.ptr],none,false⟩),
(19,⟨.struct [(0,1)],1,8,[.ptr],none,false⟩),
(21,⟨.int .i32,1,4,[.int .i32],some (.int .i32),false⟩),
(22,⟨.slice 5,1,24,[.slice],some (.row 5 (.int .u8)),false⟩),
(23,⟨.slice 9,1,24,[.slice],some (.row 9 .str),false⟩),
(24,⟨.slice 3,1,24,[.slice],some (.row 3 (.int .i64)),false⟩),
(25,⟨.struct [(0,1),(1,1)],2,48,[.slice,.slice],some (.pair (.row 9 .str) (.row 3 (.int .i64))),false⟩),
(26,⟨.struct [(0,1),(1,1)],2,48,[.slice,.slice],some (.pair (.row 9 .str) (.row 3 (.int .i64))),false⟩),
(27,⟨.slice 71,1,24,[.slice],some (.row 71 (.pair .bool (.pair (.row 116 (.pair (.int .i64) (.pair (.int .i64) (.pair .bool .bool)))) (.row 80 (.pair (.int .i64) (.pair (.int .i64) (.pair .bool .bool))))))),false⟩),
(28,⟨.struct [(0,2),(2,2),(4,1),(5,1)],6,128,[.slice,.slice,.slice,.slice,.slice,.int .i64],some (.pair (.pair (.row 9 .str) (.row 3 (.int .i64))) (.pair (.pair (.row 9 .str) (.row 3 (.int .i64))) (.pair (.row 71 (.pair .bool (.pair (.row 116 (.pair (.int .i64) (.pair (.int .i64) (.pair .bool .bool)))) (.row 80 (.pair (.int .i64) (.pair (.int .i64) (.pair .bool .bool))))))) (.int .i64)))),false⟩),
(29,⟨.struct [(0,2),(2,2),(4,1),(5,1)],6,128,[.slice,.slice,.slice,.slice,.slice,.int .i64],some (.pair (.pair (.row 9 .str) (.row 3 (.int .i64))) (.pair (.pair (.row 9 .str) (.row 3 (.int .i64))) (.pair (.row 71 (.pair .bool (.pair (.row 116 (.pair (.int .i64) (.pair (.int .i64) (.pair .bool .bool)))) (.row 80 (.pair (.int .i64) (.pair (.int .i64) (.pair .bool .bool))))))) (.int .i64)))),false⟩),
(39,⟨.slice 165,1,24,[.slice],some (.row 165 (.pair .bool (.pair (.row 205 (.pair (.int .i64) (.pair (.int .i64) (.pair .bool .bool)))) (.pair (.row 3 (.int .i64)) (.row 9 .str))))),false⟩),
(40,⟨.struct [(0,1)],1,24,[.slice],some (.row 165 (.pair .bool (.pair (.row 205 (.pair (.int .i64) (.pair (.int .i64) (.pair .bool .bool)))) (.pair (.row 3 (.int .i64)) (.row 9 .str))))),false⟩),
(41,⟨.struct [(0,1)],1,24,[.slice],some (.row 165 (.pair .bool (.pair (.row 205 (.pair (.int .i64) (.pair (.int .i64) (.pair .bool .bool)))) (.pair (.row 3 (.int .i64)) (.row 9 .str))))),false⟩),
(43,⟨.slice 75,1,24,[.slice],some (.row 75 (.pair .bool (.pair (.row 116 (.pair (.int .i64) (.pair (.int .i64) (.pair .bool .bool)))) (.pair (.row 3 (.int .i64)) (.row 9 .str))))),false⟩),
(44,⟨.struct [(0,1)],1,24,[.slice],some (.row 75 (.pair .bool (.pair (.row 116 (.pair (.int .i64) (.pair (.int .i64) (.pair .bool .bool)))) (.pair (.row 3 (.int .i64)) (.row 9 .str))))),false⟩),
(45,⟨.struct [(0,1)],1,24,[.slice],some (.row 75 (.pair .bool (.pair (.row 116 (.pair (.int .i64) (.pair (.int .i64) (.pair .bool .bool)))) (.pair (.row 3 (.int .i64)) (.row 9 .str))))),false⟩),
(55,⟨.struct [(0,1),(1,1)],2,48,[.slice,.slice],some (.pair (.row 9 .str) (.row 3 (.int .i64))),false⟩),
(56,⟨.slice 174,1,24,[.slice],some (.row 174 (.pair .bool (.pair (.row 205 (.pair (.int .i64) (.pair (.int .i64) (.pair .bool .bool)))) (.row 208 (.pair (.int .i64) (.pair (.int .i64) (.pair .bool .bool))))))),false⟩),
(57,⟨.struct [(0,2),(2,2),(4,1),(5,1)],6,128,[.slice,.slice,.slice,.slice,.slice,.int .i64],some (.pair (.pair (.row 9 .str) (.row 3 (.int .i64))) (.pair (.pair (.row 9 .str) (.row 3 (.int .i64))) (.pair (.row 174 (.pair .bool (.pair (.row 205 (.pair (.int .i64) (.pair (.int .i64) (.pair .bool .bool)))) (.row 208 (.pair (.int .i64) (.pair (.int .i64) (.pair .bool .bool))))))) (.int .i64)))),false⟩),
(58,⟨.struct [(0,2),(2,2),(4,1),(5,1)],6,128,[.slice,.slice,.slice,.slice,.slice,.int .i64],some (.pair (.pair (.row 9 .str) (.row 3 (.int .i64))) (.pair (.pair (.row 9 .str) (.row 3 (.int .i64))) (.pair (.row 174 (.pair .bool (.pair (.row 205 (.pair (.int .i64) (.pair (.int .i64) (.pair .bool .bool)))) (.row 208 (.pair (.int .i64) (.pair (.int .i64) (.pair .bool .bool))))))) (.int .i64)))),false⟩),
(68,⟨.slice 116,1,24,[.slice],some (.row 116 (.pair (.int .i64) (.pair (.int .i64) (.pair .bool .bool)))),false⟩),
(69,⟨.slice 80,1,24,[.slice],some (.row 80 (.pair (.int .i64) (.pair (.int .i64) (.pair .bool .bool)))),false⟩),
(70,⟨.struct [(0,1),(1,1),(2,1)],3,56,[.bool,.slice,.slice],some (.pair .bool (.pair (.row 116 (.pair (.int .i64) (.pair (.int .i64) (.pair .bool .bool)))) (.row 80 (.pair (.int .i64) (.pair (.int .i64) (.pair .bool .bool)))))),false⟩),
(71,⟨.struct [(0,1),(1,1),(2,1)],3,56,[.bool,.slice,.slice],some (.pair .bool (.pair (.row 116 (.pair (.int .i64) (.pair (.int .i64) (.pair .bool .bool)))) (.row 80 (.pair (.int .i64) (.pair (.int .i64) (.pair .bool .bool)))))),false⟩),
(74,⟨.struct [(0,1),(1,1),(2,1),(3,1)],4,80,[.bool,.slice,.slice,.slice],some (.pair .bool (.pair (.row 116 (.pair (.int .i64) (.pair (.int .i64) (.pair .bool .bool)))) (.pair (.row 3 (.int .i64)) (.row 9 .str)))),false⟩),
(75,⟨.struct [(0,1),(1,1),(2,1),(3,1)],4,80,[.bool,.slice,.slice,.slice],some (.pair .bool (.pair (.row 116 (.pair (.int .i64) (.pair (.int .i64) (.pair .bool .bool)))) (.pair (.row 3 (.int .i64)) (.row 9 .str)))),false⟩),
(79,⟨.struct [(0,1),(1,1),(2,1),(3,1)],4,24,[.int .i64,.int .i64,.bool,.bool],some (.pair (.int .i64) (.pair (.int .i64) (.pair .bool .bool))),true⟩),
(80,⟨.struct [(0,1),(1,1),(2,1),(3,1)],4,24,[.int .i64,.int .i64,.bool,.bool],some (.pair (.int .i64) (.pair (.int .i64) (.pair .bool .bool))),true⟩),
(86,⟨.ptr,1,8,[.ptr],none,false⟩),
(96,⟨.ptr,1,8,[.ptr],none,false⟩),
(105,⟨.map 107 108,1,8,[.map],none,false⟩),
(107,⟨.arr 2 3,2,16,[.int .i64,.int .i64],none,false⟩),
(108,⟨.slice 110,1,24,[.slice],some (.row 110 (.pair .bool .bool)),false⟩),
(109,⟨.struct [(0,1),(1,1)],2,2,[.bool,.bool],some (.pair .bool .bool),true⟩),
(110,⟨.struct [(0,1),(1,1)],2,2,[.bool,.bool],some (.pair .bool .bool),true⟩),
(111,⟨.map 3 26,1,8,[.map],none,false⟩),
(115,⟨.struct [(0,1),(1,1),(2,1),(3,1)],4,24,[.int .i64,.int .i64,.bool,.bool],some (.pair (.int .i64) (.pair (.int .i64) (.pair .bool .bool))),true⟩),
(116,⟨.struct [(0,1),(1,1),(2,1),(3,1)],4,24,[.int .i64,.int .i64,.bool,.bool],some (.pair (.int .i64) (.pair (.int .i64) (.pair .bool .bool))),true⟩),
(120,⟨.ptr,1,8,[.ptr],none,false⟩),
(127,⟨.struct [(0,1),(1,1)],2,16,[.int .i64,.int .i64],some (.pair (.int .i64) (.int .i64)),true⟩),
(128,⟨.struct [(0,1),(1,1)],2,16,[.int .i64,.int .i64],some (.pair (.int .i64) (.int .i64)),true⟩),
(146,⟨.struct [(0,1),(1,1)],2,32,[.slice,.int .i64],some (.pair (.row 5 (.int .u8)) (.int .i64)),false⟩),
(147,⟨.struct [(0,1),(1,1)],2,32,[.slice,.int .i64],some (.pair (.row 5 (.int .u8)) (.int .i64)),false⟩),
(154,⟨.ptr,1,8,[.ptr],none,false⟩),
(163,⟨.slice 205,1,24,[.slice],some (.row 205 (.pair (.int .i64) (.pair (.int .i64) (.pair .bool .bool)))),false⟩),
(164,⟨.struct [(0,1),(1,1),(2,1),(3,1)],4,80,[.bool,.slice,.slice,.slice],some (.pair .bool (.pair (.row 205 (.pair (.int .i64) (.pair (.int .i64) (.pair .bool .bool)))) (.pair (.row 3 (.int .i64)) (.row 9 .str)))),false⟩),
(165,⟨.struct [(0,1),(1,1),(2,1),(3,1)],4,80,[.bool,.slice,.slice,.slice],some (.pair .bool (.pair (.row 205 (.pair (.int .i64) (.pair (.int .i64) (.pair .bool .bool)))) (.pair (.row 3 (.int .i64)) (.row 9 .str)))),false⟩),
(172,⟨.slice 208,1,24,[.slice],some (.row 208 (.pair (.int .i64) (.pair (.int .i64) (.pair .bool .bool)))),false⟩),
(173,⟨.struct [(0,1),(1,1),(2,1)],3,56,[.bool,.slice,.slice],some (.pair .bool (.pair (.row 205 (.pair (.int .i64) (.pair (.int .i64) (.pair .bool .bool)))) (.row 208 (.pair (.int .i64) (.pair (.int .i64) (.pair .bool .bool)))))),false⟩),
(174,⟨.struct [(0,1),(1,1),(2,1)],3,56,[.bool,.slice,.slice],some (.pair .bool (.pair (.row 205 (.pair (.int .i64) (.pair (.int .i64) (.pair .bool .bool)))) (.row 208 (.pair (.int .i64) (.pair (.int .i64) (.pair .bool .bool)))))),false⟩),
(186,⟨.ptr,1,8,[.ptr],none,false⟩),
(205,⟨.struct [(0,1),(1,1),(2,1),(3,1)],4,24,[.int .i64,.int .i64,.bool,.bool],some (.pair (.int .i64) (.pair (.int .i64) (.pair .bool .bool))),true⟩),
(208,⟨.struct [(0,1),(1,1),(2,1),(3,1)],4,24,[.int .i64,.int .i64,.bool,.bool],some (.pair (.int .i64) (.pair (.int .i64) (.pair .bool .bool))),true⟩),
(211,⟨.struct [(0,1),(1,1),(2,1),(3,1)],4,40,[.ptr,.ptr,.ptr,.str],none,false⟩),
(212,⟨.struct [(0,1),(1,1),(2,1),(3,1)],4,40,[.ptr,.ptr,.ptr,.str],none,false⟩),
(214,⟨.struct [(0,0)],0,0,[],none,false⟩),
(215,⟨.struct [(0,0)],0,0,[],none,false⟩),
(216,⟨.int .u32,1,4,[.int .u32],some (.int .u32),false⟩),
(217,⟨.int .u8,1,1,[.int .u8],some (.int .u8),false⟩),
(218,⟨.int .u8,1,1,[.int .u8],some (.int .u8),false⟩),
(220,⟨.ptr,1,8,[.ptr],none,false⟩),
(221,⟨.int .i32,1,4,[.int .i32],some (.int .i32),false⟩),
(222,⟨.int .i32,1,4,[.int .i32],some (.int .i32),false⟩),
(225,⟨.other,1,8,[.ptr],none,false⟩)]
def TT:TB:=tbOf tbl
theorem tt_ok:TBok Try.prog TT:=tbOk (by decide +kernel)
abbrev i64:Ty:=.int .i64
abbrev tAr:Ty:=.pair i64 (.pair i64 (.pair .bool .bool))
abbrev tRd:Ty:=.pair (.row 5 (.int .u8)) i64
abbrev tSl:Ty:=.pair i64 (.pair i64 (.pair .bool .bool))
abbrev tPg:Ty:=.pair (.row 9 .str) (.row 3 i64)
abbrev tSp (a s:TypeId):Ty:=.pair .bool (.pair (.row a tAr) (.row s tSl))
abbrev tMem:Ty:=.pair tPg (.pair tPg (.pair (.row 71 (tSp 116 80)) i64))
theorem mixed:Try.prog.follows .mixedOrders=true:=by kernel_rfl
abbrev Hp (f:FuncId) (s:Sm):Prop:=Holds Try.prog f s
theorem hOf {P:Program} {f:FuncId} {ps:List PK} {rs:List RK} {b:Bool} {F q:Nat→argsD ps→Option (retsD rs × outsD ps)} (h:Holds P f ⟨ps,rs,b,F⟩) (e:∀ n x,F n x=q n x):Holds P f ⟨ps,rs,b,q⟩:=by
 have:F=q:=funext fun n=>funext (e n)
 subst this; exact h
def Gk (f:FuncId) (s:Sm):Prop:=(∃ fn c,Try.prog.funcs[f % 1000000]?=some fn ∧ fn.body=some c ∧ (fn.name == "runtime.NumGoroutine")=false) ∧ zd2 Try.prog f s
theorem gj {f:FuncId} {s t:Sm} (h:some s=some t) (y:Gk f s):(∃ fn c,Try.prog.funcs[f % 1000000]?=some fn ∧ fn.body=some c ∧ (fn.name == "runtime.NumGoroutine")=false) ∧ zd2 Try.prog f t:=by
 injection h with h; subst h; exact y
end Go.Proofs.Ytdkaagpkeomhmaa.Rx.S
namespace Go.Proofs.Ytdkaagpkeomhmaa.Rx.S
open Go Go.RowKit Go.Proofs
set_option maxRecDepth 100000
def c69:Code:=(Try.f69.body.getD .skip)
def an69:An:=⟨fun _=>⟨[],[]⟩,fun _ _=>none⟩
abbrev ps69:List PK:=[.val i64 false,.val i64 false,.val i64 false]
abbrev rs69:List RK:=[.val .bool false]
abbrev R69:=retsD rs69 × outsD ps69
def G69:Gam:=fun _=>none
def zic (n:Nat) (a:Int) (b:Int) (c:Int):Option R69 :=
 cond (decide (b≤a)) (some ((decide (a≤c),()),())) (some ((false,()),()))
theorem e69_top (n:Nat) (a:Int) (b:Int) (c:Int):runF TT G69 an69 Try.f69 c69 ps69 rs69 n (a,b,c,())=zic n a b c:=by kernel_rfl
def p69 (n:Nat) (a:Int) (b:Int) (c:Int):Option R69:=zic n a b c
def q69 (n:Nat) (x:argsD ps69):Option R69:=p69 n x.1 x.2.1 x.2.2.1
def Sm69:Sm:=⟨ps69,rs69,false,q69⟩
theorem gam69:GamOK Try.prog G69:=fun _ _ h=>by cases h
theorem hh69:Hp 69 Sm69:=hOf (zae (an:=an69) (c:=c69) tt_ok gam69 mixed Try.func69 (by kernel_rfl) rfl (by decide +kernel)) fun n x=>(e69_top n x.1 x.2.1 x.2.2.1).trans rfl
theorem y69:Gk 69 Sm69:=⟨⟨Try.f69,c69,Try.func69,by kernel_rfl,by decide +kernel⟩,hh69⟩
def c117:Code:=(Try.f117.body.getD .skip)
def an117:An:=⟨fun r=>match r with | 4=>⟨[1,3],[]⟩ | _=>⟨[],[]⟩,fun _ _=>none⟩
abbrev ps117:List PK:=[.val tPg true]
abbrev rs117:List RK:=[.val .bool false]
abbrev R117:=retsD rs117 × outsD ps117
def G117:Gam:=fun f=>match f with | 69=>some Sm69 | _=>none
def at117:Nat→Pt→List Nat→St→Option R117:=atF TT G117 an117 Try.f117 c117 _ _
def zgo (x0:Int) (x1:Lb) (x2:Li):St:=(St.mk ([Uu,AV.one (SV.bptr 1000000 0),Uu,Ai x0]++Ur 45) [(1000000,(Ent.box [SV.con (⟨9,Ty.str,x1⟩:Rw),SV.con (⟨3,Ty.int .i64,x2⟩:Rw)]))])
def zbg (n:Nat) (lL4:Int→Lb→Li→Option R117) (a:Lb × Li):Option R117 :=
 cond (!decide ((↑(List.length a.1):Int)=(↑(List.length a.2):Int))) (some ((false,()),())) ((q69 n ((↑(List.length a.1):Int),(1:Int),(12:Int),())).bind fun r0=>cond (!r0.1.1) (some ((false,()),())) (lL4 (0:Int) a.1 a.2))
def zb2 (n:Nat) (lL4:Int→Lb→Li→Option R117) (x0:Int) (x1:Lb) (x2:Li):Option R117 :=
 cond (decide (x0 < (↑x1.length:Int))) (cond (decide (0≤x0)) (cond (decide (x0 < (↑x2.length:Int))) (cond (decide (x2.getD x0.toNat (0:Int)=(0:Int))) (cond (decide (0≤x0)) (cond (decide (x0 < (↑x2.length:Int))) ((q69 n (x2.getD x0.toNat (0:Int),(0:Int),(99:Int),())).bind fun r2=>cond (!r2.1.1) (some ((false,()),())) (cond (decide (0≤x0)) (cond (decide (x0 < (↑x1.length:Int))) (cond (!decide ((↑(ByteArray.size (x1.getD x0.toNat ByteArray.empty)):Int)=(0:Int))) (some ((false,()),())) (lL4 (IntKind.i64.wrap (x0 + 1)) x1 x2)) none) none)) none) none) (cond (decide (0≤x0)) (cond (decide (x0 < (↑x2.length:Int))) ((q69 n (x2.getD x0.toNat (0:Int),(0:Int),(99:Int),())).bind fun r3=>cond (!r3.1.1) (some ((false,()),())) (cond (decide (0≤x0)) (cond (decide (x0 < (↑x1.length:Int))) (cond (!decide ((↑(ByteArray.size (x1.getD x0.toNat ByteArray.empty)):Int)=(4:Int))) (some ((false,()),())) (lL4 (IntKind.i64.wrap (x0 + 1)) x1 x2)) none) none)) none) none)) none) none) (some ((true,()),()))
theorem e117_top (n:Nat) (a:Lb × Li):runF TT G117 an117 Try.f117 c117 ps117 rs117 n (a,())=zbg n (fun x0 x1 x2=>at117 n (.head 4) [n] (zgo x0 x1 x2)) a:=by kernel_rfl
theorem e117_L4_0 (n:Nat) (x0:Int) (x1:Lb) (x2:Li):at117 n (.head 4) [0] (zgo x0 x1 x2)=none:=by kernel_rfl
theorem e117_L4 (n:Nat) (m4:Nat) (x0:Int) (x1:Lb) (x2:Li):at117 n (.head 4) [m4 + 1] (zgo x0 x1 x2)=zb2 n (fun x0 x1 x2=>at117 n (.head 4) [m4] (zgo x0 x1 x2)) x0 x1 x2:=by kernel_rfl
def zdb (n:Nat):Nat→Int→Lb→Li→Option R117
 | 0,_,_,_=>none
 | m + 1,x0,x1,x2=>zb2 n (zdb n m) x0 x1 x2
def p117 (n:Nat) (a:Lb × Li):Option R117:=zbg n (zdb n n) a
theorem t117_L4 (n:Nat):∀ (m4:Nat) (x0:Int) (x1:Lb) (x2:Li),at117 n (.head 4) [m4] (zgo x0 x1 x2)=zdb n m4 x0 x1 x2:=by
 intro m
 induction m with
 | zero=>intros; rw [e117_L4_0]; rfl
 | succ m ih =>
  intros
  rw [e117_L4]
  try simp only [ih]
  rfl
def q117 (n:Nat) (x:argsD ps117):Option R117:=p117 n x.1
def Sm117:Sm:=⟨ps117,rs117,false,q117⟩
theorem gam117:GamOK Try.prog G117:=by intro f s h; unfold G117 at h; split at h; exact gj h y69; cases h
theorem hh117:Hp 117 Sm117:=hOf (zae (an:=an117) (c:=c117) tt_ok gam117 mixed Try.func117 (by kernel_rfl) rfl (by decide +kernel)) fun n x=>(e117_top n x.1).trans (by simp only [t117_L4]; try rfl)
theorem y117:Gk 117 Sm117:=⟨⟨Try.f117,c117,Try.func117,by kernel_rfl,by decide +kernel⟩,hh117⟩
def c71:Code:=(Try.f71.body.getD .skip)
def an71:An:=⟨fun r=>match r with | 2=>⟨[0,1,5],[]⟩ | _=>⟨[],[]⟩,fun _ _=>none⟩
abbrev ps71:List PK:=[.val (.row 116 tAr) false,.val i64 false]
abbrev rs71:List RK:=[.val i64 false]
abbrev R71:=retsD rs71 × outsD ps71
def G71:Gam:=fun f=>match f with | 69=>some Sm69 | _=>none
def at71:Nat→Pt→List Nat→St→Option R71:=atF TT G71 an71 Try.f71 c71 _ _
def zjn (x0:Lq) (x1 x2:Int):St:=(St.mk ([AV.one (SV.con (⟨116,yAq,x0⟩:Rw)),Ai x1,Uu,Uu,Uu,Ai x2]++Ur 26) [])
def st71_top (n:Nat) (lL2:Lq→Int→Int→Option R71) (a:Lq) (b:Int):Option R71 :=
 lL2 a b (0:Int)
def zg7 (n:Nat) (lL2:Lq→Int→Int→Option R71) (x0:Lq) (x1 x2:Int):Option R71 :=
 cond (decide (x2 < (↑x0.length:Int))) (cond (decide (0≤x2)) (cond (decide (x2 < (↑x0.length:Int))) (cond (decide (0≤x2)) (cond (decide (x2 < (↑x0.length:Int))) (cond (decide (0≤x2)) (cond (decide (x2 < (↑x0.length:Int))) ((q69 n (x1,(x0.getD x2.toNat ((0:Int),(0:Int),false,false)).1,IntKind.i64.wrap (IntKind.i64.wrap ((x0.getD x2.toNat ((0:Int),(0:Int),false,false)).1 + (x0.getD x2.toNat ((0:Int),(0:Int),false,false)).2.1) - (1:Int)),())).bind fun r1=>cond r1.1.1 (some ((x2,()),())) (lL2 x0 x1 (IntKind.i64.wrap (x2 + 1)))) none) none) none) none) none) none) (some (((-1:Int),()),()))
theorem e71_top (n:Nat) (a:Lq) (b:Int):runF TT G71 an71 Try.f71 c71 ps71 rs71 n (a,b,())=st71_top n (fun x0 x1 x2=>at71 n (.head 2) [n] (zjn x0 x1 x2)) a b:=by kernel_rfl
theorem e71_L2_0 (n:Nat) (x0:Lq) (x1 x2:Int):at71 n (.head 2) [0] (zjn x0 x1 x2)=none:=by kernel_rfl
theorem e71_L2 (n:Nat) (m2:Nat) (x0:Lq) (x1 x2:Int):at71 n (.head 2) [m2 + 1] (zjn x0 x1 x2)=zg7 n (fun x0 x1 x2=>at71 n (.head 2) [m2] (zjn x0 x1 x2)) x0 x1 x2:=by kernel_rfl
def p71_L2 (n:Nat):Nat→Lq→Int→Int→Option R71
 | 0,_,_,_=>none
 | m + 1,x0,x1,x2=>zg7 n (p71_L2 n m) x0 x1 x2
def p71 (n:Nat) (a:Lq) (b:Int):Option R71:=st71_top n (p71_L2 n n) a b
theorem t71_L2 (n:Nat):∀ (m2:Nat) (x0:Lq) (x1 x2:Int),at71 n (.head 2) [m2] (zjn x0 x1 x2)=p71_L2 n m2 x0 x1 x2:=by
 intro m
 induction m with
 | zero=>intros; rw [e71_L2_0]; rfl
 | succ m ih =>
  intros
  rw [e71_L2]
  try simp only [ih]
  rfl
def q71 (n:Nat) (x:argsD ps71):Option R71:=p71 n x.1 x.2.1
def Sm71:Sm:=⟨ps71,rs71,false,q71⟩
theorem gam71:GamOK Try.prog G71:=by intro f s h; unfold G71 at h; split at h; exact gj h y69; cases h
theorem hh71:Hp 71 Sm71:=hOf (zae (an:=an71) (c:=c71) tt_ok gam71 mixed Try.func71 (by kernel_rfl) rfl (by decide +kernel)) fun n x=>(e71_top n x.1 x.2.1).trans (by simp only [t71_L2]; try rfl)
theorem y71:Gk 71 Sm71:=⟨⟨Try.f71,c71,Try.func71,by kernel_rfl,by decide +kernel⟩,hh71⟩
def c158:Code:=(Try.f158.body.getD .skip)
def an158:An:=⟨fun _=>⟨[],[]⟩,fun _ _=>none⟩
abbrev ps158:List PK:=[.val tAr true]
abbrev rs158:List RK:=[.val .bool false]
abbrev R158:=retsD rs158 × outsD ps158
def G158:Gam:=fun f=>match f with | 69=>some Sm69 | _=>none
def zcx (n:Nat) (a:Aq):Option R158 :=
 (q69 n (a.1,(0:Int),(15:Int),())).bind fun r0=>cond r0.1.1 ((q69 n (a.2.1,(1:Int),IntKind.i64.wrap ((16:Int) - a.1),())).bind fun r1=>some ((r1.1.1,()),())) (some ((false,()),()))
theorem e158_top (n:Nat) (a:Aq):runF TT G158 an158 Try.f158 c158 ps158 rs158 n (a,())=zcx n a:=by kernel_rfl
def p158 (n:Nat) (a:Aq):Option R158:=zcx n a
def q158 (n:Nat) (x:argsD ps158):Option R158:=p158 n x.1
def Sm158:Sm:=⟨ps158,rs158,false,q158⟩
theorem gam158:GamOK Try.prog G158:=by intro f s h; unfold G158 at h; split at h; exact gj h y69; cases h
theorem hh158:Hp 158 Sm158:=hOf (zae (an:=an158) (c:=c158) tt_ok gam158 mixed Try.func158 (by kernel_rfl) rfl (by decide +kernel)) fun n x=>(e158_top n x.1).trans rfl
theorem y158:Gk 158 Sm158:=⟨⟨Try.f158,c158,Try.func158,by kernel_rfl,by decide +kernel⟩,hh158⟩
def c127:Code:=(Try.f127.body.getD .skip)
def an127:An:=⟨fun r=>match r with | 2=>⟨[0,3],[]⟩ | _=>⟨[],[]⟩,fun _ _=>none⟩
abbrev ps127:List PK:=[.val (.row 116 tAr) false]
abbrev rs127:List RK:=[.val .bool false]
abbrev R127:=retsD rs127 × outsD ps127
def G127:Gam:=fun f=>match f with | 158=>some Sm158 | _=>none
def at127:Nat→Pt→List Nat→St→Option R127:=atF TT G127 an127 Try.f127 c127 _ _
def zgj (x0:Lq) (x1:Int):St:=(St.mk ([AV.one (SV.con (⟨116,yAq,x0⟩:Rw)),Uu,Uu,Ai x1]++Ur 40) [])
def st127_top (n:Nat) (lL2:Lq→Int→Option R127) (a:Lq):Option R127 :=
 lL2 a (0:Int)
def za5 (n:Nat) (lL2:Lq→Int→Option R127) (x0:Lq) (x1:Int):Option R127 :=
 cond (decide (x1 < (↑x0.length:Int))) (cond (decide (0≤x1)) (cond (decide (x1 < (↑x0.length:Int))) ((q158 n (((x0.getD x1.toNat ((0:Int),(0:Int),false,false)).1,(x0.getD x1.toNat ((0:Int),(0:Int),false,false)).2.1,(x0.getD x1.toNat ((0:Int),(0:Int),false,false)).2.2.1,(x0.getD x1.toNat ((0:Int),(0:Int),false,false)).2.2.2),())).bind fun r1=>cond (!r1.1.1) (some ((false,()),())) (cond (decide (0 < x1)) (cond (decide ((0:Int)≤IntKind.i64.wrap (x1 - 1))) (cond (decide (IntKind.i64.wrap (x1 - 1) < (↑x0.length:Int))) (cond (decide ((0:Int)≤IntKind.i64.wrap (x1 - 1))) (cond (decide (IntKind.i64.wrap (x1 - 1) < (↑x0.length:Int))) (cond (decide (0≤x1)) (cond (decide (x1 < (↑x0.length:Int))) (cond (decide ((x0.getD x1.toNat ((0:Int),(0:Int),false,false)).1 < IntKind.i64.wrap ((x0.getD (IntKind.i64.wrap (x1 - 1)).toNat ((0:Int),(0:Int),false,false)).1 + (x0.getD (IntKind.i64.wrap (x1 - 1)).toNat ((0:Int),(0:Int),false,false)).2.1))) (some ((false,()),())) (lL2 x0 (IntKind.i64.wrap (x1 + 1)))) none) none) none) none) none) none) (lL2 x0 (IntKind.i64.wrap (x1 + 1))))) none) none) (some ((decide ((↑x0.length:Int)≤(6:Int)),()),()))
theorem e127_top (n:Nat) (a:Lq):runF TT G127 an127 Try.f127 c127 ps127 rs127 n (a,())=st127_top n (fun x0 x1=>at127 n (.head 2) [n] (zgj x0 x1)) a:=by kernel_rfl
theorem e127_L2_0 (n:Nat) (x0:Lq) (x1:Int):at127 n (.head 2) [0] (zgj x0 x1)=none:=by kernel_rfl
theorem e127_L2 (n:Nat) (m2:Nat) (x0:Lq) (x1:Int):at127 n (.head 2) [m2 + 1] (zgj x0 x1)=za5 n (fun x0 x1=>at127 n (.head 2) [m2] (zgj x0 x1)) x0 x1:=by kernel_rfl
def zcv (n:Nat):Nat→Lq→Int→Option R127
 | 0,_,_=>none
 | m + 1,x0,x1=>za5 n (zcv n m) x0 x1
def p127 (n:Nat) (a:Lq):Option R127:=st127_top n (zcv n n) a
theorem t127_L2 (n:Nat):∀ (m2:Nat) (x0:Lq) (x1:Int),at127 n (.head 2) [m2] (zgj x0 x1)=zcv n m2 x0 x1:=by
 intro m
 induction m with
 | zero=>intros; rw [e127_L2_0]; rfl
 | succ m ih =>
  intros
  rw [e127_L2]
  try simp only [ih]
  rfl
def q127 (n:Nat) (x:argsD ps127):Option R127:=p127 n x.1
def Sm127:Sm:=⟨ps127,rs127,false,q127⟩
theorem gam127:GamOK Try.prog G127:=by intro f s h; unfold G127 at h; split at h; exact gj h y158; cases h
theorem hh127:Hp 127 Sm127:=hOf (zae (an:=an127) (c:=c127) tt_ok gam127 mixed Try.func127 (by kernel_rfl) rfl (by decide +kernel)) fun n x=>(e127_top n x.1).trans (by simp only [t127_L2]; try rfl)
theorem y127:Gk 127 Sm127:=⟨⟨Try.f127,c127,Try.func127,by kernel_rfl,by decide +kernel⟩,hh127⟩
def c118:Code:=(Try.f118.body.getD .skip)
def an118:An:=⟨fun r=>match r with | 6=>⟨[1,3],[]⟩ | _=>⟨[],[]⟩,fun _ _=>none⟩
abbrev ps118:List PK:=[.val (tSp 116 80) true]
abbrev rs118:List RK:=[.val .bool false]
abbrev R118:=retsD rs118 × outsD ps118
def G118:Gam:=fun f=>match f with | 69=>some Sm69 | 71=>some Sm71 | 127=>some Sm127 | _=>none
def at118:Nat→Pt→List Nat→St→Option R118:=atF TT G118 an118 Try.f118 c118 _ _
def zgn (x0:Int) (x1:Bool) (x2 x3:Lq):St:=(St.mk ([Uu,AV.one (SV.bptr 1000000 0),Uu,Ai x0]++Ur 66) [(1000000,(Ent.box [SV.bool x1,SV.con (⟨116,yAq,x2⟩:Rw),SV.con (⟨80,yAq,x3⟩:Rw)]))])
def zcz (n:Nat) (lL6:Int→Bool→Lq→Lq→Option R118) (a:Br):Option R118 :=
 cond (!a.1) (cond (decide ((↑(List.length a.2.1):Int)=(0:Int))) (some ((decide ((↑(List.length a.2.2):Int)=(0:Int)),()),())) (some ((false,()),()))) ((q127 n (a.2.1,())).bind fun r0=>cond (!r0.1.1) (some ((false,()),())) (cond (!decide ((↑(List.length a.2.2):Int)=(16:Int))) (some ((false,()),())) (lL6 (0:Int) a.1 a.2.1 a.2.2)))
def zbv (n:Nat) (lL6:Int→Bool→Lq→Lq→Option R118) (x0:Int) (x1:Bool) (x2 x3:Lq):Option R118 :=
 cond (decide (x0 < 16)) (cond (decide (0≤x0)) (cond (decide (x0 < (↑x3.length:Int))) ((q71 n (x2,x0,())).bind fun r2=>cond (decide ((x3.getD x0.toNat ((0:Int),(0:Int),false,false)).1=(0:Int))) (cond (!(decide ((x3.getD x0.toNat ((0:Int),(0:Int),false,false)).1=(0:Int))&&(decide ((x3.getD x0.toNat ((0:Int),(0:Int),false,false)).2.1=(0:Int))&&((x3.getD x0.toNat ((0:Int),(0:Int),false,false)).2.2.1 == false&&((x3.getD x0.toNat ((0:Int),(0:Int),false,false)).2.2.2 == false&&true))))) (some ((false,()),())) (lL6 (IntKind.i64.wrap (x0 + 1)) x1 x2 x3)) (cond (decide (r2.1.1 < (0:Int))) (some ((false,()),())) ((q69 n ((x3.getD x0.toNat ((0:Int),(0:Int),false,false)).1,(1:Int),(2:Int),())).bind fun r3=>cond (!r3.1.1) (some ((false,()),())) (cond (decide ((0:Int)≤r2.1.1)) (cond (decide (r2.1.1 < (↑x2.length:Int))) (cond ((x2.getD (Int.toNat r2.1.1) ((0:Int),(0:Int),false,false)).2.2.2) (cond (!(x3.getD x0.toNat ((0:Int),(0:Int),false,false)).2.2.1) (some ((false,()),())) (lL6 (IntKind.i64.wrap (x0 + 1)) x1 x2 x3)) (lL6 (IntKind.i64.wrap (x0 + 1)) x1 x2 x3)) none) none)))) none) none) (some ((true,()),()))
theorem e118_top (n:Nat) (a:Br):runF TT G118 an118 Try.f118 c118 ps118 rs118 n (a,())=zcz n (fun x0 x1 x2 x3=>at118 n (.head 6) [n] (zgn x0 x1 x2 x3)) a:=by kernel_rfl
theorem e118_L6_0 (n:Nat) (x0:Int) (x1:Bool) (x2 x3:Lq):at118 n (.head 6) [0] (zgn x0 x1 x2 x3)=none:=by kernel_rfl
theorem e118_L6 (n:Nat) (m6:Nat) (x0:Int) (x1:Bool) (x2 x3:Lq):at118 n (.head 6) [m6 + 1] (zgn x0 x1 x2 x3)=zbv n (fun x0 x1 x2 x3=>at118 n (.head 6) [m6] (zgn x0 x1 x2 x3)) x0 x1 x2 x3:=by kernel_rfl
def zfj (n:Nat):Nat→Int→Bool→Lq→Lq→Option R118
 | 0,_,_,_,_=>none
 | m + 1,x0,x1,x2,x3=>zbv n (zfj n m) x0 x1 x2 x3
def p118 (n:Nat) (a:Br):Option R118:=zcz n (zfj n n) a
theorem t118_L6 (n:Nat):∀ (m6:Nat) (x0:Int) (x1:Bool) (x2 x3:Lq),at118 n (.head 6) [m6] (zgn x0 x1 x2 x3)=zfj n m6 x0 x1 x2 x3:=by
 intro m
 induction m with
 | zero=>intros; rw [e118_L6_0]; rfl
 | succ m ih =>
  intros
  rw [e118_L6]
  try simp only [ih]
  rfl
def q118 (n:Nat) (x:argsD ps118):Option R118:=p118 n x.1
def Sm118:Sm:=⟨ps118,rs118,false,q118⟩
theorem gam118:GamOK Try.prog G118:=by intro f s h; unfold G118 at h; split at h; exact gj h y69; exact gj h y71; exact gj h y127; cases h
theorem hh118:Hp 118 Sm118:=hOf (zae (an:=an118) (c:=c118) tt_ok gam118 mixed Try.func118 (by kernel_rfl) rfl (by decide +kernel)) fun n x=>(e118_top n x.1).trans (by simp only [t118_L6]; try rfl)
theorem y118:Gk 118 Sm118:=⟨⟨Try.f118,c118,Try.func118,by kernel_rfl,by decide +kernel⟩,hh118⟩
def c119:Code:=(Try.f119.body.getD .skip)
def an119:An:=⟨fun r=>match r with | 3=>⟨[1,2,3,7,8],[]⟩ | 6=>⟨[1,2,3,7,8,9],[]⟩ | _=>⟨[],[]⟩,fun _ _=>none⟩
abbrev ps119:List PK:=[.val tMem true,.val i64 false,.val i64 false]
abbrev rs119:List RK:=[.val i64 false]
abbrev R119:=retsD rs119 × outsD ps119
def G119:Gam:=fun _=>none
def at119:Nat→Pt→List Nat→St→Option R119:=atF TT G119 an119 Try.f119 c119 _ _
def zgm (x0 x1 x2 x3 x4:Int) (x5:Lb) (x6:Li) (x7:Lb) (x8:Li) (x9:List (Br)) (x10:Int):St:=(St.mk ([Uu,Ai x0,Ai x1,AV.one (SV.bptr 1000000 0),Uu,Uu,Uu,Ai x2,Ai x3,Ai x4]++Ur 41) [(1000000,(Ent.box [SV.con (⟨9,Ty.str,x5⟩:Rw),SV.con (⟨3,Ty.int .i64,x6⟩:Rw),SV.con (⟨9,Ty.str,x7⟩:Rw),SV.con (⟨3,Ty.int .i64,x8⟩:Rw),SV.con (⟨71,ySp,x9⟩:Rw),Si x10]))])
def zeu (x0 x1 x2 x3:Int) (x4:Lb) (x5:Li) (x6:Lb) (x7:Li) (x8:List (Br)) (x9:Int):St:=(St.mk ([Uu,Ai x0,Ai x1,AV.one (SV.bptr 1000000 0),Uu,Uu,Uu,Ai x2,Ai x3]++Ur 42) [(1000000,(Ent.box [SV.con (⟨9,Ty.str,x4⟩:Rw),SV.con (⟨3,Ty.int .i64,x5⟩:Rw),SV.con (⟨9,Ty.str,x6⟩:Rw),SV.con (⟨3,Ty.int .i64,x7⟩:Rw),SV.con (⟨71,ySp,x8⟩:Rw),Si x9]))])
def st119_top (n:Nat) (lL3:Int→Int→Int→Int→Lb→Li→Lb→Li→(List (Br))→Int→Option R119) (a:Mm) (b:Int) (c:Int):Option R119 :=
 lL3 b c (0:Int) (0:Int) a.1.1 a.1.2 a.2.1.1 a.2.1.2 a.2.2.1 a.2.2.2
def zem (n:Nat) (lL6:Int→Int→Int→Int→Int→Lb→Li→Lb→Li→(List (Br))→Int→Option R119) (lL3:Int→Int→Int→Int→Lb→Li→Lb→Li→(List (Br))→Int→Option R119) (x0 x1 x2 x3 x4:Int) (x5:Lb) (x6:Li) (x7:Lb) (x8:Li) (x9:List (Br)) (x10:Int):Option R119 :=
 cond (decide (0≤x3)) (cond (decide (x3 < (↑x9.length:Int))) (cond (decide (x4 < (↑(List.length (x9.getD x3.toNat (false,[],[])).2.2):Int))) (cond (decide (0≤x3)) (cond (decide (x3 < (↑x9.length:Int))) (cond (decide (0≤x4)) (cond (decide (x4 < (↑(List.length (x9.getD x3.toNat (false,[],[])).2.2):Int))) (cond (decide ((List.getD (x9.getD x3.toNat (false,[],[])).2.2 x4.toNat ((0:Int),(0:Int),false,false)).1=x0)) (cond (decide ((List.getD (x9.getD x3.toNat (false,[],[])).2.2 x4.toNat ((0:Int),(0:Int),false,false)).2.1=x1)) (lL6 x0 x1 (IntKind.i64.wrap (x2 + 1)) x3 (IntKind.i64.wrap (x4 + 1)) x5 x6 x7 x8 x9 x10) (lL6 x0 x1 x2 x3 (IntKind.i64.wrap (x4 + 1)) x5 x6 x7 x8 x9 x10)) (lL6 x0 x1 x2 x3 (IntKind.i64.wrap (x4 + 1)) x5 x6 x7 x8 x9 x10)) none) none) none) none) (lL3 x0 x1 x2 (IntKind.i64.wrap (x3 + 1)) x5 x6 x7 x8 x9 x10)) none) none
def zen (n:Nat) (lL6:Int→Int→Int→Int→Int→Lb→Li→Lb→Li→(List (Br))→Int→Option R119) (x0 x1 x2 x3:Int) (x4:Lb) (x5:Li) (x6:Lb) (x7:Li) (x8:List (Br)) (x9:Int):Option R119 :=
 cond (decide (x3 < (↑x8.length:Int))) (lL6 x0 x1 x2 x3 (0:Int) x4 x5 x6 x7 x8 x9) (some ((x2,()),()))
theorem e119_top (n:Nat) (a:Mm) (b:Int) (c:Int):runF TT G119 an119 Try.f119 c119 ps119 rs119 n (a,b,c,())=st119_top n (fun x0 x1 x2 x3 x4 x5 x6 x7 x8 x9=>at119 n (.head 3) [n] (zeu x0 x1 x2 x3 x4 x5 x6 x7 x8 x9)) a b c:=by kernel_rfl
theorem e119_L6_0 (n:Nat) (m3:Nat) (x0 x1 x2 x3 x4:Int) (x5:Lb) (x6:Li) (x7:Lb) (x8:Li) (x9:List (Br)) (x10:Int):at119 n (.head 6) [m3,0] (zgm x0 x1 x2 x3 x4 x5 x6 x7 x8 x9 x10)=none:=by kernel_rfl
theorem e119_L6 (n:Nat) (m3:Nat) (m6:Nat) (x0 x1 x2 x3 x4:Int) (x5:Lb) (x6:Li) (x7:Lb) (x8:Li) (x9:List (Br)) (x10:Int):at119 n (.head 6) [m3,m6 + 1] (zgm x0 x1 x2 x3 x4 x5 x6 x7 x8 x9 x10)=zem n (fun x0 x1 x2 x3 x4 x5 x6 x7 x8 x9 x10=>at119 n (.head 6) [m3,m6] (zgm x0 x1 x2 x3 x4 x5 x6 x7 x8 x9 x10)) (fun x0 x1 x2 x3 x4 x5 x6 x7 x8 x9=>at119 n (.head 3) [m3] (zeu x0 x1 x2 x3 x4 x5 x6 x7 x8 x9)) x0 x1 x2 x3 x4 x5 x6 x7 x8 x9 x10:=by kernel_rfl
theorem e119_L3_0 (n:Nat) (x0 x1 x2 x3:Int) (x4:Lb) (x5:Li) (x6:Lb) (x7:Li) (x8:List (Br)) (x9:Int):at119 n (.head 3) [0] (zeu x0 x1 x2 x3 x4 x5 x6 x7 x8 x9)=none:=by kernel_rfl
theorem e119_L3 (n:Nat) (m3:Nat) (x0 x1 x2 x3:Int) (x4:Lb) (x5:Li) (x6:Lb) (x7:Li) (x8:List (Br)) (x9:Int):at119 n (.head 3) [m3 + 1] (zeu x0 x1 x2 x3 x4 x5 x6 x7 x8 x9)=zen n (fun x0 x1 x2 x3 x4 x5 x6 x7 x8 x9 x10=>at119 n (.head 6) [m3,n] (zgm x0 x1 x2 x3 x4 x5 x6 x7 x8 x9 x10)) x0 x1 x2 x3 x4 x5 x6 x7 x8 x9:=by kernel_rfl
def p119_L6 (g3:Int→Int→Int→Int→Lb→Li→Lb→Li→(List (Br))→Int→Option R119) (n:Nat):Nat→Int→Int→Int→Int→Int→Lb→Li→Lb→Li→(List (Br))→Int→Option R119
 | 0,_,_,_,_,_,_,_,_,_,_,_=>none
 | m + 1,x0,x1,x2,x3,x4,x5,x6,x7,x8,x9,x10=>zem n (p119_L6 g3 n m) g3 x0 x1 x2 x3 x4 x5 x6 x7 x8 x9 x10
def zky (n:Nat):Nat→Int→Int→Int→Int→Lb→Li→Lb→Li→(List (Br))→Int→Option R119
 | 0,_,_,_,_,_,_,_,_,_,_=>none
 | m + 1,x0,x1,x2,x3,x4,x5,x6,x7,x8,x9=>zen n (p119_L6 (zky n m) n n) x0 x1 x2 x3 x4 x5 x6 x7 x8 x9
def p119 (n:Nat) (a:Mm) (b:Int) (c:Int):Option R119:=st119_top n (zky n n) a b c
theorem t119_L6 (n:Nat) (m3:Nat):∀ (m6:Nat) (x0 x1 x2 x3 x4:Int) (x5:Lb) (x6:Li) (x7:Lb) (x8:Li) (x9:List (Br)) (x10:Int),at119 n (.head 6) [m3,m6] (zgm x0 x1 x2 x3 x4 x5 x6 x7 x8 x9 x10)=p119_L6 (fun x0 x1 x2 x3 x4 x5 x6 x7 x8 x9=>at119 n (.head 3) [m3] (zeu x0 x1 x2 x3 x4 x5 x6 x7 x8 x9)) n m6 x0 x1 x2 x3 x4 x5 x6 x7 x8 x9 x10:=by
 intro m
 induction m with
 | zero=>intros; rw [e119_L6_0]; rfl
 | succ m ih =>
  intros
  rw [e119_L6]
  try simp only [ih]
  rfl
theorem t119_L3 (n:Nat):∀ (m3:Nat) (x0 x1 x2 x3:Int) (x4:Lb) (x5:Li) (x6:Lb) (x7:Li) (x8:List (Br)) (x9:Int),at119 n (.head 3) [m3] (zeu x0 x1 x2 x3 x4 x5 x6 x7 x8 x9)=zky n m3 x0 x1 x2 x3 x4 x5 x6 x7 x8 x9:=by
 intro m
 induction m with
 | zero=>intros; rw [e119_L3_0]; rfl
 | succ m ih =>
  intros
  rw [e119_L3]
  try simp only [t119_L6,ih]
  rfl
def q119 (n:Nat) (x:argsD ps119):Option R119:=p119 n x.1 x.2.1 x.2.2.1
def Sm119:Sm:=⟨ps119,rs119,false,q119⟩
theorem gam119:GamOK Try.prog G119:=fun _ _ h=>by cases h
theorem hh119:Hp 119 Sm119:=hOf (zae (an:=an119) (c:=c119) tt_ok gam119 mixed Try.func119 (by kernel_rfl) rfl (by decide +kernel)) fun n x=>(e119_top n x.1 x.2.1 x.2.2.1).trans (by simp only [t119_L3]; try rfl)
theorem y119:Gk 119 Sm119:=⟨⟨Try.f119,c119,Try.func119,by kernel_rfl,by decide +kernel⟩,hh119⟩
def c157:Code:=(Try.f157.body.getD .skip)
def an157:An:=⟨fun _=>⟨[],[]⟩,fun _ _=>none⟩
abbrev ps157:List PK:=[.val (tSp 116 80) true,.val i64 false]
abbrev rs157:List RK:=[.val .bool false]
abbrev R157:=retsD rs157 × outsD ps157
def G157:Gam:=fun f=>match f with | 71=>some Sm71 | _=>none
def zfp (n:Nat) (a:Br) (b:Int):Option R157 :=
 (q71 n (a.2.1,b,())).bind fun r0=>cond (decide ((0:Int)≤r0.1.1)) (cond (decide ((0:Int)≤r0.1.1)) (cond (decide (r0.1.1 < (↑(List.length a.2.1):Int))) (some (((List.getD a.2.1 (Int.toNat r0.1.1) ((0:Int),(0:Int),false,false)).2.2.2,()),())) none) none) (some ((false,()),()))
theorem e157_top (n:Nat) (a:Br) (b:Int):runF TT G157 an157 Try.f157 c157 ps157 rs157 n (a,b,())=zfp n a b:=by kernel_rfl
def p157 (n:Nat) (a:Br) (b:Int):Option R157:=zfp n a b
def q157 (n:Nat) (x:argsD ps157):Option R157:=p157 n x.1 x.2.1
def Sm157:Sm:=⟨ps157,rs157,false,q157⟩
theorem gam157:GamOK Try.prog G157:=by intro f s h; unfold G157 at h; split at h; exact gj h y71; cases h
theorem hh157:Hp 157 Sm157:=hOf (zae (an:=an157) (c:=c157) tt_ok gam157 mixed Try.func157 (by kernel_rfl) rfl (by decide +kernel)) fun n x=>(e157_top n x.1 x.2.1).trans rfl
theorem y157:Gk 157 Sm157:=⟨⟨Try.f157,c157,Try.func157,by kernel_rfl,by decide +kernel⟩,hh157⟩
def c120:Code:=(Try.f120.body.getD .skip)
def an120:An:=⟨fun r=>match r with | 5=>⟨[1,2,3,7,8,9,10],[]⟩ | 8=>⟨[1,2,3,7,8,9,10,11],[]⟩ | _=>⟨[],[]⟩,fun _ _=>none⟩
abbrev ps120:List PK:=[.val tMem true,.val i64 false,.val i64 false]
abbrev rs120:List RK:=[.val .bool false]
abbrev R120:=retsD rs120 × outsD ps120
def G120:Gam:=fun f=>match f with | 157=>some Sm157 | _=>none
def at120:Nat→Pt→List Nat→St→Option R120:=atF TT G120 an120 Try.f120 c120 _ _
def zgl (x0 x1 x2:Int) (x3 x4:Bool) (x5 x6:Int) (x7:Lb) (x8:Li) (x9:Lb) (x10:Li) (x11:List (Br)) (x12:Int):St:=(St.mk ([Uu,Ai x0,Ai x1,AV.one (SV.bptr 1000000 0),Uu,Uu,Uu,Ai x2,AV.one (SV.bool x3),AV.one (SV.bool x4),Ai x5,Ai x6]++Ur 66) [(1000000,(Ent.box [SV.con (⟨9,Ty.str,x7⟩:Rw),SV.con (⟨3,Ty.int .i64,x8⟩:Rw),SV.con (⟨9,Ty.str,x9⟩:Rw),SV.con (⟨3,Ty.int .i64,x10⟩:Rw),SV.con (⟨71,ySp,x11⟩:Rw),Si x12]))])
def zet (x0 x1 x2:Int) (x3 x4:Bool) (x5:Int) (x6:Lb) (x7:Li) (x8:Lb) (x9:Li) (x10:List (Br)) (x11:Int):St:=(St.mk ([Uu,Ai x0,Ai x1,AV.one (SV.bptr 1000000 0),Uu,Uu,Uu,Ai x2,AV.one (SV.bool x3),AV.one (SV.bool x4),Ai x5]++Ur 67) [(1000000,(Ent.box [SV.con (⟨9,Ty.str,x6⟩:Rw),SV.con (⟨3,Ty.int .i64,x7⟩:Rw),SV.con (⟨9,Ty.str,x8⟩:Rw),SV.con (⟨3,Ty.int .i64,x9⟩:Rw),SV.con (⟨71,ySp,x10⟩:Rw),Si x11]))])
def st120_top (n:Nat) (lL5:Int→Int→Int→Bool→Bool→Int→Lb→Li→Lb→Li→(List (Br))→Int→Option R120) (a:Mm) (b:Int) (c:Int):Option R120 :=
 lL5 b c (0:Int) false false (0:Int) a.1.1 a.1.2 a.2.1.1 a.2.1.2 a.2.2.1 a.2.2.2
def zbt (n:Nat) (lL8:Int→Int→Int→Bool→Bool→Int→Int→Lb→Li→Lb→Li→(List (Br))→Int→Option R120) (lL5:Int→Int→Int→Bool→Bool→Int→Lb→Li→Lb→Li→(List (Br))→Int→Option R120) (x0 x1 x2:Int) (x3 x4:Bool) (x5 x6:Int) (x7:Lb) (x8:Li) (x9:Lb) (x10:Li) (x11:List (Br)) (x12:Int):Option R120 :=
 cond (decide (0≤x5)) (cond (decide (x5 < (↑x11.length:Int))) (cond (decide (x6 < (↑(List.length (x11.getD x5.toNat (false,[],[])).2.2):Int))) (cond (decide (0≤x5)) (cond (decide (x5 < (↑x11.length:Int))) (cond (decide (0≤x6)) (cond (decide (x6 < (↑(List.length (x11.getD x5.toNat (false,[],[])).2.2):Int))) (cond (decide ((List.getD (x11.getD x5.toNat (false,[],[])).2.2 x6.toNat ((0:Int),(0:Int),false,false)).1=x0)) (cond (decide ((List.getD (x11.getD x5.toNat (false,[],[])).2.2 x6.toNat ((0:Int),(0:Int),false,false)).2.1=x1)) (cond x3 (cond x4 (lL8 x0 x1 (IntKind.i64.wrap (x2 + 1)) true true x5 (IntKind.i64.wrap (x6 + 1)) x7 x8 x9 x10 x11 x12) (cond (decide (0≤x5)) (cond (decide (x5 < (↑x11.length:Int))) ((q157 n (((x11.getD x5.toNat (false,[],[])).1,(x11.getD x5.toNat (false,[],[])).2.1,(x11.getD x5.toNat (false,[],[])).2.2),x6,())).bind fun r2=>lL8 x0 x1 (IntKind.i64.wrap (x2 + 1)) true (!r2.1.1) x5 (IntKind.i64.wrap (x6 + 1)) x7 x8 x9 x10 x11 x12) none) none)) (cond x4 (lL8 x0 x1 (IntKind.i64.wrap (x2 + 1)) ((List.getD (x11.getD x5.toNat (false,[],[])).2.2 x6.toNat ((0:Int),(0:Int),false,false)).2.2.1) true x5 (IntKind.i64.wrap (x6 + 1)) x7 x8 x9 x10 x11 x12) (cond (decide (0≤x5)) (cond (decide (x5 < (↑x11.length:Int))) ((q157 n (((x11.getD x5.toNat (false,[],[])).1,(x11.getD x5.toNat (false,[],[])).2.1,(x11.getD x5.toNat (false,[],[])).2.2),x6,())).bind fun r3=>lL8 x0 x1 (IntKind.i64.wrap (x2 + 1)) ((List.getD (x11.getD x5.toNat (false,[],[])).2.2 x6.toNat ((0:Int),(0:Int),false,false)).2.2.1) (!r3.1.1) x5 (IntKind.i64.wrap (x6 + 1)) x7 x8 x9 x10 x11 x12) none) none))) (lL8 x0 x1 x2 x3 x4 x5 (IntKind.i64.wrap (x6 + 1)) x7 x8 x9 x10 x11 x12)) (lL8 x0 x1 x2 x3 x4 x5 (IntKind.i64.wrap (x6 + 1)) x7 x8 x9 x10 x11 x12)) none) none) none) none) (lL5 x0 x1 x2 x3 x4 (IntKind.i64.wrap (x5 + 1)) x7 x8 x9 x10 x11 x12)) none) none
def zbu (n:Nat) (lL8:Int→Int→Int→Bool→Bool→Int→Int→Lb→Li→Lb→Li→(List (Br))→Int→Option R120) (x0 x1 x2:Int) (x3 x4:Bool) (x5:Int) (x6:Lb) (x7:Li) (x8:Lb) (x9:Li) (x10:List (Br)) (x11:Int):Option R120 :=
 cond (decide (x5 < (↑x10.length:Int))) (lL8 x0 x1 x2 x3 x4 x5 (0:Int) x6 x7 x8 x9 x10 x11) (cond (decide (x2 < 2)) (some ((true,()),())) (cond (!x3) (some ((true,()),())) (some ((!x4,()),()))))
theorem e120_top (n:Nat) (a:Mm) (b:Int) (c:Int):runF TT G120 an120 Try.f120 c120 ps120 rs120 n (a,b,c,())=st120_top n (fun x0 x1 x2 x3 x4 x5 x6 x7 x8 x9 x10 x11=>at120 n (.head 5) [n] (zet x0 x1 x2 x3 x4 x5 x6 x7 x8 x9 x10 x11)) a b c:=by kernel_rfl
theorem e120_L8_0 (n:Nat) (m5:Nat) (x0 x1 x2:Int) (x3 x4:Bool) (x5 x6:Int) (x7:Lb) (x8:Li) (x9:Lb) (x10:Li) (x11:List (Br)) (x12:Int):at120 n (.head 8) [m5,0] (zgl x0 x1 x2 x3 x4 x5 x6 x7 x8 x9 x10 x11 x12)=none:=by kernel_rfl
theorem e120_L8 (n:Nat) (m5:Nat) (m8:Nat) (x0 x1 x2:Int) (x3 x4:Bool) (x5 x6:Int) (x7:Lb) (x8:Li) (x9:Lb) (x10:Li) (x11:List (Br)) (x12:Int):at120 n (.head 8) [m5,m8 + 1] (zgl x0 x1 x2 x3 x4 x5 x6 x7 x8 x9 x10 x11 x12)=zbt n (fun x0 x1 x2 x3 x4 x5 x6 x7 x8 x9 x10 x11 x12=>at120 n (.head 8) [m5,m8] (zgl x0 x1 x2 x3 x4 x5 x6 x7 x8 x9 x10 x11 x12)) (fun x0 x1 x2 x3 x4 x5 x6 x7 x8 x9 x10 x11=>at120 n (.head 5) [m5] (zet x0 x1 x2 x3 x4 x5 x6 x7 x8 x9 x10 x11)) x0 x1 x2 x3 x4 x5 x6 x7 x8 x9 x10 x11 x12:=by kernel_rfl
theorem e120_L5_0 (n:Nat) (x0 x1 x2:Int) (x3 x4:Bool) (x5:Int) (x6:Lb) (x7:Li) (x8:Lb) (x9:Li) (x10:List (Br)) (x11:Int):at120 n (.head 5) [0] (zet x0 x1 x2 x3 x4 x5 x6 x7 x8 x9 x10 x11)=none:=by kernel_rfl
theorem e120_L5 (n:Nat) (m5:Nat) (x0 x1 x2:Int) (x3 x4:Bool) (x5:Int) (x6:Lb) (x7:Li) (x8:Lb) (x9:Li) (x10:List (Br)) (x11:Int):at120 n (.head 5) [m5 + 1] (zet x0 x1 x2 x3 x4 x5 x6 x7 x8 x9 x10 x11)=zbu n (fun x0 x1 x2 x3 x4 x5 x6 x7 x8 x9 x10 x11 x12=>at120 n (.head 8) [m5,n] (zgl x0 x1 x2 x3 x4 x5 x6 x7 x8 x9 x10 x11 x12)) x0 x1 x2 x3 x4 x5 x6 x7 x8 x9 x10 x11:=by kernel_rfl
def zfh (g5:Int→Int→Int→Bool→Bool→Int→Lb→Li→Lb→Li→(List (Br))→Int→Option R120) (n:Nat):Nat→Int→Int→Int→Bool→Bool→Int→Int→Lb→Li→Lb→Li→(List (Br))→Int→Option R120
 | 0,_,_,_,_,_,_,_,_,_,_,_,_,_=>none
 | m + 1,x0,x1,x2,x3,x4,x5,x6,x7,x8,x9,x10,x11,x12=>zbt n (zfh g5 n m) g5 x0 x1 x2 x3 x4 x5 x6 x7 x8 x9 x10 x11 x12
def zfi (n:Nat):Nat→Int→Int→Int→Bool→Bool→Int→Lb→Li→Lb→Li→(List (Br))→Int→Option R120
 | 0,_,_,_,_,_,_,_,_,_,_,_,_=>none
 | m + 1,x0,x1,x2,x3,x4,x5,x6,x7,x8,x9,x10,x11=>zbu n (zfh (zfi n m) n n) x0 x1 x2 x3 x4 x5 x6 x7 x8 x9 x10 x11
def p120 (n:Nat) (a:Mm) (b:Int) (c:Int):Option R120:=st120_top n (zfi n n) a b c
theorem t120_L8 (n:Nat) (m5:Nat):∀ (m8:Nat) (x0 x1 x2:Int) (x3 x4:Bool) (x5 x6:Int) (x7:Lb) (x8:Li) (x9:Lb) (x10:Li) (x11:List (Br)) (x12:Int),at120 n (.head 8) [m5,m8] (zgl x0 x1 x2 x3 x4 x5 x6 x7 x8 x9 x10 x11 x12)=zfh (fun x0 x1 x2 x3 x4 x5 x6 x7 x8 x9 x10 x11=>at120 n (.head 5) [m5] (zet x0 x1 x2 x3 x4 x5 x6 x7 x8 x9 x10 x11)) n m8 x0 x1 x2 x3 x4 x5 x6 x7 x8 x9 x10 x11 x12:=by
 intro m
 induction m with
 | zero=>intros; rw [e120_L8_0]; rfl
 | succ m ih =>
  intros
  rw [e120_L8]
  try simp only [ih]
  rfl
theorem t120_L5 (n:Nat):∀ (m5:Nat) (x0 x1 x2:Int) (x3 x4:Bool) (x5:Int) (x6:Lb) (x7:Li) (x8:Lb) (x9:Li) (x10:List (Br)) (x11:Int),at120 n (.head 5) [m5] (zet x0 x1 x2 x3 x4 x5 x6 x7 x8 x9 x10 x11)=zfi n m5 x0 x1 x2 x3 x4 x5 x6 x7 x8 x9 x10 x11:=by
 intro m
 induction m with
 | zero=>intros; rw [e120_L5_0]; rfl
 | succ m ih =>
  intros
  rw [e120_L5]
  try simp only [t120_L8,ih]
  rfl
def q120 (n:Nat) (x:argsD ps120):Option R120:=p120 n x.1 x.2.1 x.2.2.1
def Sm120:Sm:=⟨ps120,rs120,false,q120⟩
theorem gam120:GamOK Try.prog G120:=by intro f s h; unfold G120 at h; split at h; exact gj h y157; cases h
theorem hh120:Hp 120 Sm120:=hOf (zae (an:=an120) (c:=c120) tt_ok gam120 mixed Try.func120 (by kernel_rfl) rfl (by decide +kernel)) fun n x=>(e120_top n x.1 x.2.1 x.2.2.1).trans (by simp only [t120_L5]; try rfl)
theorem y120:Gk 120 Sm120:=⟨⟨Try.f120,c120,Try.func120,by kernel_rfl,by decide +kernel⟩,hh120⟩
def c53:Code:=(Try.f53.body.getD .skip)
def an53:An:=⟨fun r=>match r with | 4=>⟨[1,3],[]⟩ | 9=>⟨[1,3,4],[]⟩ | 18=>⟨[1,7],[]⟩ | 23=>⟨[1,8],[]⟩ | _=>⟨[],[]⟩,fun _ _=>none⟩
abbrev ps53:List PK:=[.val tMem true]
abbrev rs53:List RK:=[.val .bool false]
abbrev R53:=retsD rs53 × outsD ps53
def G53:Gam:=fun f=>match f with | 69=>some Sm69 | 117=>some Sm117 | 118=>some Sm118 | 119=>some Sm119 | 120=>some Sm120 | _=>none
def at53:Nat→Pt→List Nat→St→Option R53:=atF TT G53 an53 Try.f53 c53 _ _
def zjt (x0 x1:Int) (x2:Lb) (x3:Li) (x4:Lb) (x5:Li) (x6:List (Br)) (x7:Int):St:=(St.mk ([Uu,AV.one (SV.bptr 1000000 0),Uu,Ai x0,Ai x1]++Ur 125) [(1000000,(Ent.box [SV.con (⟨9,Ty.str,x2⟩:Rw),SV.con (⟨3,Ty.int .i64,x3⟩:Rw),SV.con (⟨9,Ty.str,x4⟩:Rw),SV.con (⟨3,Ty.int .i64,x5⟩:Rw),SV.con (⟨71,ySp,x6⟩:Rw),Si x7]))])
def zf7 (x0:Int) (x1:Lb) (x2:Li) (x3:Lb) (x4:Li) (x5:List (Br)) (x6:Int):St:=(St.mk ([Uu,AV.one (SV.bptr 1000000 0),Uu,Uu,Uu,Uu,Uu,Uu,Ai x0]++Ur 121) [(1000000,(Ent.box [SV.con (⟨9,Ty.str,x1⟩:Rw),SV.con (⟨3,Ty.int .i64,x2⟩:Rw),SV.con (⟨9,Ty.str,x3⟩:Rw),SV.con (⟨3,Ty.int .i64,x4⟩:Rw),SV.con (⟨71,ySp,x5⟩:Rw),Si x6]))])
def zf8 (x0:Int) (x1:Lb) (x2:Li) (x3:Lb) (x4:Li) (x5:List (Br)) (x6:Int):St:=(St.mk ([Uu,AV.one (SV.bptr 1000000 0),Uu,Uu,Uu,Uu,Uu,Ai x0]++Ur 122) [(1000000,(Ent.box [SV.con (⟨9,Ty.str,x1⟩:Rw),SV.con (⟨3,Ty.int .i64,x2⟩:Rw),SV.con (⟨9,Ty.str,x3⟩:Rw),SV.con (⟨3,Ty.int .i64,x4⟩:Rw),SV.con (⟨71,ySp,x5⟩:Rw),Si x6]))])
def zhi (x0:Int) (x1:Lb) (x2:Li) (x3:Lb) (x4:Li) (x5:List (Br)) (x6:Int):St:=(St.mk ([Uu,AV.one (SV.bptr 1000000 0),Uu,Ai x0]++Ur 126) [(1000000,(Ent.box [SV.con (⟨9,Ty.str,x1⟩:Rw),SV.con (⟨3,Ty.int .i64,x2⟩:Rw),SV.con (⟨9,Ty.str,x3⟩:Rw),SV.con (⟨3,Ty.int .i64,x4⟩:Rw),SV.con (⟨71,ySp,x5⟩:Rw),Si x6]))])
def zd6 (n:Nat) (lL4:Int→Lb→Li→Lb→Li→(List (Br))→Int→Option R53) (a:Mm):Option R53 :=
 (q117 n ((a.1.1,a.1.2),())).bind fun r0=>cond (!r0.1.1) (some ((false,()),())) ((q117 n ((a.2.1.1,a.2.1.2),())).bind fun r1=>cond (!r1.1.1) (some ((false,()),())) (cond (!decide ((↑(List.length a.1.2):Int)=(12:Int))) (some ((false,()),())) (cond (!decide ((↑(List.length a.2.1.2):Int)=(12:Int))) (some ((false,()),())) (cond (!decide ((↑(List.length a.2.2.1):Int)=(5:Int))) (some ((false,()),())) ((q69 n (a.2.2.2,(0:Int),(11:Int),())).bind fun r2=>cond (!r2.1.1) (some ((false,()),())) (lL4 (0:Int) a.1.1 a.1.2 a.2.1.1 a.2.1.2 a.2.2.1 a.2.2.2))))))
def zcs (n:Nat) (lL9:Int→Int→Lb→Li→Lb→Li→(List (Br))→Int→Option R53) (lL4:Int→Lb→Li→Lb→Li→(List (Br))→Int→Option R53) (x0 x1:Int) (x2:Lb) (x3:Li) (x4:Lb) (x5:Li) (x6:List (Br)) (x7:Int):Option R53 :=
 cond (decide (0≤x0)) (cond (decide (x0 < (↑x6.length:Int))) (cond (decide (x1 < (↑(List.length (x6.getD x0.toNat (false,[],[])).2.2):Int))) (cond (decide (0≤x0)) (cond (decide (x0 < (↑x6.length:Int))) (cond (decide (0≤x1)) (cond (decide (x1 < (↑(List.length (x6.getD x0.toNat (false,[],[])).2.2):Int))) (cond (decide ((List.getD (x6.getD x0.toNat (false,[],[])).2.2 x1.toNat ((0:Int),(0:Int),false,false)).1=(2:Int))) (cond (!decide ((List.getD (x6.getD x0.toNat (false,[],[])).2.2 x1.toNat ((0:Int),(0:Int),false,false)).1=(0:Int))) ((q69 n ((List.getD (x6.getD x0.toNat (false,[],[])).2.2 x1.toNat ((0:Int),(0:Int),false,false)).2.1,(0:Int),IntKind.i64.wrap ((12:Int) - (1:Int)),())).bind fun r6=>cond (!r6.1.1) (some ((false,()),())) (lL9 x0 (IntKind.i64.wrap (x1 + 1)) x2 x3 x4 x5 x6 x7)) (lL9 x0 (IntKind.i64.wrap (x1 + 1)) x2 x3 x4 x5 x6 x7)) (cond (!decide ((List.getD (x6.getD x0.toNat (false,[],[])).2.2 x1.toNat ((0:Int),(0:Int),false,false)).1=(0:Int))) ((q69 n ((List.getD (x6.getD x0.toNat (false,[],[])).2.2 x1.toNat ((0:Int),(0:Int),false,false)).2.1,(0:Int),IntKind.i64.wrap ((12:Int) - (1:Int)),())).bind fun r7=>cond (!r7.1.1) (some ((false,()),())) (lL9 x0 (IntKind.i64.wrap (x1 + 1)) x2 x3 x4 x5 x6 x7)) (lL9 x0 (IntKind.i64.wrap (x1 + 1)) x2 x3 x4 x5 x6 x7))) none) none) none) none) (lL4 (IntKind.i64.wrap (x0 + 1)) x2 x3 x4 x5 x6 x7)) none) none
def zbr (n:Nat) (lL23:Int→Lb→Li→Lb→Li→(List (Br))→Int→Option R53) (x0:Int) (x1:Lb) (x2:Li) (x3:Lb) (x4:Li) (x5:List (Br)) (x6:Int):Option R53 :=
 cond (decide (x0 < 12)) ((q119 n (((x1,x2),(x3,x4),x5,x6),(2:Int),x0,())).bind fun r12=>cond (decide (0≤x0)) (cond (decide (x0 < (↑x4.length:Int))) (cond (!decide (r12.1.1=x4.getD x0.toNat (0:Int))) (some ((false,()),())) ((q120 n (((x1,x2),(x3,x4),x5,x6),(2:Int),x0,())).bind fun r13=>cond (!r13.1.1) (some ((false,()),())) (lL23 (IntKind.i64.wrap (x0 + 1)) x1 x2 x3 x4 x5 x6))) none) none) (some ((true,()),()))
def zbs (n:Nat) (lL18:Int→Lb→Li→Lb→Li→(List (Br))→Int→Option R53) (lL23:Int→Lb→Li→Lb→Li→(List (Br))→Int→Option R53) (x0:Int) (x1:Lb) (x2:Li) (x3:Lb) (x4:Li) (x5:List (Br)) (x6:Int):Option R53 :=
 cond (decide (x0 < 12)) ((q119 n (((x1,x2),(x3,x4),x5,x6),(1:Int),x0,())).bind fun r9=>cond (decide (0≤x0)) (cond (decide (x0 < (↑x2.length:Int))) (cond (!decide (r9.1.1=x2.getD x0.toNat (0:Int))) (some ((false,()),())) ((q120 n (((x1,x2),(x3,x4),x5,x6),(1:Int),x0,())).bind fun r10=>cond (!r10.1.1) (some ((false,()),())) (lL18 (IntKind.i64.wrap (x0 + 1)) x1 x2 x3 x4 x5 x6))) none) none) (lL23 (0:Int) x1 x2 x3 x4 x5 x6)
def zct (n:Nat) (lL9:Int→Int→Lb→Li→Lb→Li→(List (Br))→Int→Option R53) (lL18:Int→Lb→Li→Lb→Li→(List (Br))→Int→Option R53) (x0:Int) (x1:Lb) (x2:Li) (x3:Lb) (x4:Li) (x5:List (Br)) (x6:Int):Option R53 :=
 cond (decide (x0 < 5)) (cond (decide (0≤x0)) (cond (decide (x0 < (↑x5.length:Int))) ((q118 n (((x5.getD x0.toNat (false,[],[])).1,(x5.getD x0.toNat (false,[],[])).2.1,(x5.getD x0.toNat (false,[],[])).2.2),())).bind fun r4=>cond (!r4.1.1) (some ((false,()),())) (lL9 x0 (0:Int) x1 x2 x3 x4 x5 x6)) none) none) (lL18 (0:Int) x1 x2 x3 x4 x5 x6)
theorem e53_top (n:Nat) (a:Mm):runF TT G53 an53 Try.f53 c53 ps53 rs53 n (a,())=zd6 n (fun x0 x1 x2 x3 x4 x5 x6=>at53 n (.head 4) [n] (zhi x0 x1 x2 x3 x4 x5 x6)) a:=by kernel_rfl
theorem e53_L9_0 (n:Nat) (m4:Nat) (x0 x1:Int) (x2:Lb) (x3:Li) (x4:Lb) (x5:Li) (x6:List (Br)) (x7:Int):at53 n (.head 9) [m4,0] (zjt x0 x1 x2 x3 x4 x5 x6 x7)=none:=by kernel_rfl
theorem e53_L9 (n:Nat) (m4:Nat) (m9:Nat) (x0 x1:Int) (x2:Lb) (x3:Li) (x4:Lb) (x5:Li) (x6:List (Br)) (x7:Int):at53 n (.head 9) [m4,m9 + 1] (zjt x0 x1 x2 x3 x4 x5 x6 x7)=zcs n (fun x0 x1 x2 x3 x4 x5 x6 x7=>at53 n (.head 9) [m4,m9] (zjt x0 x1 x2 x3 x4 x5 x6 x7)) (fun x0 x1 x2 x3 x4 x5 x6=>at53 n (.head 4) [m4] (zhi x0 x1 x2 x3 x4 x5 x6)) x0 x1 x2 x3 x4 x5 x6 x7:=by kernel_rfl
theorem e53_L23_0 (n:Nat) (x0:Int) (x1:Lb) (x2:Li) (x3:Lb) (x4:Li) (x5:List (Br)) (x6:Int):at53 n (.head 23) [0] (zf7 x0 x1 x2 x3 x4 x5 x6)=none:=by kernel_rfl
theorem e53_L23 (n:Nat) (m23:Nat) (x0:Int) (x1:Lb) (x2:Li) (x3:Lb) (x4:Li) (x5:List (Br)) (x6:Int):at53 n (.head 23) [m23 + 1] (zf7 x0 x1 x2 x3 x4 x5 x6)=zbr n (fun x0 x1 x2 x3 x4 x5 x6=>at53 n (.head 23) [m23] (zf7 x0 x1 x2 x3 x4 x5 x6)) x0 x1 x2 x3 x4 x5 x6:=by kernel_rfl
theorem e53_L18_0 (n:Nat) (x0:Int) (x1:Lb) (x2:Li) (x3:Lb) (x4:Li) (x5:List (Br)) (x6:Int):at53 n (.head 18) [0] (zf8 x0 x1 x2 x3 x4 x5 x6)=none:=by kernel_rfl
theorem e53_L18 (n:Nat) (m18:Nat) (x0:Int) (x1:Lb) (x2:Li) (x3:Lb) (x4:Li) (x5:List (Br)) (x6:Int):at53 n (.head 18) [m18 + 1] (zf8 x0 x1 x2 x3 x4 x5 x6)=zbs n (fun x0 x1 x2 x3 x4 x5 x6=>at53 n (.head 18) [m18] (zf8 x0 x1 x2 x3 x4 x5 x6)) (fun x0 x1 x2 x3 x4 x5 x6=>at53 n (.head 23) [n] (zf7 x0 x1 x2 x3 x4 x5 x6)) x0 x1 x2 x3 x4 x5 x6:=by kernel_rfl
theorem e53_L4_0 (n:Nat) (x0:Int) (x1:Lb) (x2:Li) (x3:Lb) (x4:Li) (x5:List (Br)) (x6:Int):at53 n (.head 4) [0] (zhi x0 x1 x2 x3 x4 x5 x6)=none:=by kernel_rfl
theorem e53_L4 (n:Nat) (m4:Nat) (x0:Int) (x1:Lb) (x2:Li) (x3:Lb) (x4:Li) (x5:List (Br)) (x6:Int):at53 n (.head 4) [m4 + 1] (zhi x0 x1 x2 x3 x4 x5 x6)=zct n (fun x0 x1 x2 x3 x4 x5 x6 x7=>at53 n (.head 9) [m4,n] (zjt x0 x1 x2 x3 x4 x5 x6 x7)) (fun x0 x1 x2 x3 x4 x5 x6=>at53 n (.head 18) [n] (zf8 x0 x1 x2 x3 x4 x5 x6)) x0 x1 x2 x3 x4 x5 x6:=by kernel_rfl
def zcc (g4:Int→Lb→Li→Lb→Li→(List (Br))→Int→Option R53) (n:Nat):Nat→Int→Int→Lb→Li→Lb→Li→(List (Br))→Int→Option R53
 | 0,_,_,_,_,_,_,_,_=>none
 | m + 1,x0,x1,x2,x3,x4,x5,x6,x7=>zcs n (zcc g4 n m) g4 x0 x1 x2 x3 x4 x5 x6 x7
def zkg (n:Nat):Nat→Int→Lb→Li→Lb→Li→(List (Br))→Int→Option R53
 | 0,_,_,_,_,_,_,_=>none
 | m + 1,x0,x1,x2,x3,x4,x5,x6=>zbr n (zkg n m) x0 x1 x2 x3 x4 x5 x6
def zkj (n:Nat):Nat→Int→Lb→Li→Lb→Li→(List (Br))→Int→Option R53
 | 0,_,_,_,_,_,_,_=>none
 | m + 1,x0,x1,x2,x3,x4,x5,x6=>zbs n (zkj n m) (zkg n n) x0 x1 x2 x3 x4 x5 x6
def zkd (n:Nat):Nat→Int→Lb→Li→Lb→Li→(List (Br))→Int→Option R53
 | 0,_,_,_,_,_,_,_=>none
 | m + 1,x0,x1,x2,x3,x4,x5,x6=>zct n (zcc (zkd n m) n n) (zkj n n) x0 x1 x2 x3 x4 x5 x6
def p53 (n:Nat) (a:Mm):Option R53:=zd6 n (zkd n n) a
theorem t53_L9 (n:Nat) (m4:Nat):∀ (m9:Nat) (x0 x1:Int) (x2:Lb) (x3:Li) (x4:Lb) (x5:Li) (x6:List (Br)) (x7:Int),at53 n (.head 9) [m4,m9] (zjt x0 x1 x2 x3 x4 x5 x6 x7)=zcc (fun x0 x1 x2 x3 x4 x5 x6=>at53 n (.head 4) [m4] (zhi x0 x1 x2 x3 x4 x5 x6)) n m9 x0 x1 x2 x3 x4 x5 x6 x7:=by
 intro m
 induction m with
 | zero=>intros; rw [e53_L9_0]; rfl
 | succ m ih =>
  intros
  rw [e53_L9]
  try simp only [ih]
  rfl
theorem t53_L23 (n:Nat):∀ (m23:Nat) (x0:Int) (x1:Lb) (x2:Li) (x3:Lb) (x4:Li) (x5:List (Br)) (x6:Int),at53 n (.head 23) [m23] (zf7 x0 x1 x2 x3 x4 x5 x6)=zkg n m23 x0 x1 x2 x3 x4 x5 x6:=by
 intro m
 induction m with
 | zero=>intros; rw [e53_L23_0]; rfl
 | succ m ih =>
  intros
  rw [e53_L23]
  try simp only [ih]
  rfl
theorem t53_L18 (n:Nat):∀ (m18:Nat) (x0:Int) (x1:Lb) (x2:Li) (x3:Lb) (x4:Li) (x5:List (Br)) (x6:Int),at53 n (.head 18) [m18] (zf8 x0 x1 x2 x3 x4 x5 x6)=zkj n m18 x0 x1 x2 x3 x4 x5 x6:=by
 intro m
 induction m with
 | zero=>intros; rw [e53_L18_0]; rfl
 | succ m ih =>
  intros
  rw [e53_L18]
  try simp only [t53_L23,ih]
  rfl
theorem t53_L4 (n:Nat):∀ (m4:Nat) (x0:Int) (x1:Lb) (x2:Li) (x3:Lb) (x4:Li) (x5:List (Br)) (x6:Int),at53 n (.head 4) [m4] (zhi x0 x1 x2 x3 x4 x5 x6)=zkd n m4 x0 x1 x2 x3 x4 x5 x6:=by
 intro m
 induction m with
 | zero=>intros; rw [e53_L4_0]; rfl
 | succ m ih =>
  intros
  rw [e53_L4]
  try simp only [t53_L9,t53_L18,ih]
  rfl
def q53 (n:Nat) (x:argsD ps53):Option R53:=p53 n x.1
def Sm53:Sm:=⟨ps53,rs53,false,q53⟩
theorem gam53:GamOK Try.prog G53:=by intro f s h; unfold G53 at h; split at h; exact gj h y69; exact gj h y117; exact gj h y118; exact gj h y119; exact gj h y120; cases h
theorem hh53:Hp 53 Sm53:=hOf (zae (an:=an53) (c:=c53) tt_ok gam53 mixed Try.func53 (by kernel_rfl) rfl (by decide +kernel)) fun n x=>(e53_top n x.1).trans (by simp only [t53_L4]; try rfl)
theorem y53:Gk 53 Sm53:=⟨⟨Try.f53,c53,Try.func53,by kernel_rfl,by decide +kernel⟩,hh53⟩
def c123:Code:=(Try.f123.body.getD .skip)
def an123:An:=⟨fun _=>⟨[],[]⟩,fun _ _=>none⟩
abbrev ps123:List PK:=[.val tPg true]
abbrev rs123:List RK:=[.own tPg true]
abbrev R123:=retsD rs123 × outsD ps123
def G123:Gam:=fun _=>none
def zfw (n:Nat) (a:Lb × Li):Option R123 :=
 cond (decide (((0:Nat) + List.length a.1) * (16:Nat)≤(140737488355328:Nat))) (cond (decide (((0:Nat) + List.length a.2) * (8:Nat)≤(140737488355328:Nat))) (some (((a.1,a.2),()),())) none) none
theorem e123_top (n:Nat) (a:Lb × Li):runF TT G123 an123 Try.f123 c123 ps123 rs123 n (a,())=zfw n a:=by kernel_rfl
def p123 (n:Nat) (a:Lb × Li):Option R123:=zfw n a
def q123 (n:Nat) (x:argsD ps123):Option R123:=p123 n x.1
def Sm123:Sm:=⟨ps123,rs123,false,q123⟩
theorem gam123:GamOK Try.prog G123:=fun _ _ h=>by cases h
theorem hh123:Hp 123 Sm123:=hOf (zae (an:=an123) (c:=c123) tt_ok gam123 mixed Try.func123 (by kernel_rfl) rfl (by decide +kernel)) fun n x=>(e123_top n x.1).trans rfl
theorem y123:Gk 123 Sm123:=⟨⟨Try.f123,c123,Try.func123,by kernel_rfl,by decide +kernel⟩,hh123⟩
def c56:Code:=(Try.f56.body.getD .skip)
def an56:An:=⟨fun r=>match r with | 3=>⟨[1,2,3,4],[]⟩ | _=>⟨[],[]⟩,fun _ _=>none⟩
abbrev ps56:List PK:=[.val tMem true]
abbrev rs56:List RK:=[.own tMem true]
abbrev R56:=retsD rs56 × outsD ps56
def G56:Gam:=fun f=>match f with | 123=>some Sm123 | _=>none
def at56:Nat→Pt→List Nat→St→Option R56:=atF TT G56 an56 Try.f56 c56 _ _
def zjr (x0:Int) (x1:Lb) (x2:Li) (x3:Lb) (x4:Li) (x5:List (Br)) (x6 x7 x8:Int) (x9:Lb) (x10:Li) (x11:Lb) (x12:Li) (x13:List (Br)):St:=(St.mk ([Uu,AV.one (SV.bptr 1000000 0),AV.one (SV.bptr 1000001 0),AV.one (SV.bptr 1000002 0),Ai x0]++Ur 40) [(1000000,(Ent.box [SV.con (⟨9,Ty.str,x1⟩:Rw),SV.con (⟨3,Ty.int .i64,x2⟩:Rw),SV.con (⟨9,Ty.str,x3⟩:Rw),SV.con (⟨3,Ty.int .i64,x4⟩:Rw),SV.con (⟨71,ySp,x5⟩:Rw),Si x6])),(1000001,(Ent.box [SV.nil,SV.nil,SV.nil,SV.nil,SV.nil,Si x7])),(1000002,(Ent.box [Sr 1000003,Sr 1000004,Sr 1000005,Sr 1000006,Sr 1000007,Si x8])),(1000003,Er ⟨9,Ty.str,x9⟩),(1000004,Er ⟨3,Ty.int .i64,x10⟩),(1000005,Er ⟨9,Ty.str,x11⟩),(1000006,Er ⟨3,Ty.int .i64,x12⟩),(1000007,Er ⟨71,ySp,x13⟩)])
def zik (n:Nat) (lL3:Int→Lb→Li→Lb→Li→(List (Br))→Int→Int→Int→Lb→Li→Lb→Li→(List (Br))→Option R56) (a:Mm):Option R56 :=
 (q123 n ((a.1.1,a.1.2),())).bind fun r0=>(q123 n ((a.2.1.1,a.2.1.2),())).bind fun r1=>lL3 (0:Int) a.1.1 a.1.2 a.2.1.1 a.2.1.2 a.2.2.1 a.2.2.2 (0:Int) a.2.2.2 r0.1.1.1 r0.1.1.2 r1.1.1.1 r1.1.1.2 ([])
def zg9 (n:Nat) (lL3:Int→Lb→Li→Lb→Li→(List (Br))→Int→Int→Int→Lb→Li→Lb→Li→(List (Br))→Option R56) (x0:Int) (x1:Lb) (x2:Li) (x3:Lb) (x4:Li) (x5:List (Br)) (x6 x7 x8:Int) (x9:Lb) (x10:Li) (x11:Lb) (x12:Li) (x13:List (Br)):Option R56 :=
 cond (decide (x0 < (↑x5.length:Int))) (cond (decide (0≤x0)) (cond (decide (x0 < (↑x5.length:Int))) (cond (decide (((0:Nat) + List.length (x5.getD x0.toNat (false,[],[])).2.1) * (24:Nat)≤(140737488355328:Nat))) (cond (decide (((0:Nat) + List.length (x5.getD x0.toNat (false,[],[])).2.2) * (24:Nat)≤(140737488355328:Nat))) (cond (decide ((x13.length + [((x5.getD x0.toNat (false,[],[])).1,(x5.getD x0.toNat (false,[],[])).2.1,(x5.getD x0.toNat (false,[],[])).2.2)].length) * (56:Nat)≤(140737488355328:Nat))) (lL3 (IntKind.i64.wrap (x0 + 1)) x1 x2 x3 x4 x5 x6 x7 x8 x9 x10 x11 x12 (x13 ++ [((x5.getD x0.toNat (false,[],[])).1,(x5.getD x0.toNat (false,[],[])).2.1,(x5.getD x0.toNat (false,[],[])).2.2)])) none) none) none) none) none) (some ((((x9,x10),((x11,x12),(x13,x8))),()),()))
theorem e56_top (n:Nat) (a:Mm):runF TT G56 an56 Try.f56 c56 ps56 rs56 n (a,())=zik n (fun x0 x1 x2 x3 x4 x5 x6 x7 x8 x9 x10 x11 x12 x13=>at56 n (.head 3) [n] (zjr x0 x1 x2 x3 x4 x5 x6 x7 x8 x9 x10 x11 x12 x13)) a:=by kernel_rfl
theorem e56_L3_0 (n:Nat) (x0:Int) (x1:Lb) (x2:Li) (x3:Lb) (x4:Li) (x5:List (Br)) (x6 x7 x8:Int) (x9:Lb) (x10:Li) (x11:Lb) (x12:Li) (x13:List (Br)):at56 n (.head 3) [0] (zjr x0 x1 x2 x3 x4 x5 x6 x7 x8 x9 x10 x11 x12 x13)=none:=by kernel_rfl
theorem e56_L3 (n:Nat) (m3:Nat) (x0:Int) (x1:Lb) (x2:Li) (x3:Lb) (x4:Li) (x5:List (Br)) (x6 x7 x8:Int) (x9:Lb) (x10:Li) (x11:Lb) (x12:Li) (x13:List (Br)):at56 n (.head 3) [m3 + 1] (zjr x0 x1 x2 x3 x4 x5 x6 x7 x8 x9 x10 x11 x12 x13)=zg9 n (fun x0 x1 x2 x3 x4 x5 x6 x7 x8 x9 x10 x11 x12 x13=>at56 n (.head 3) [m3] (zjr x0 x1 x2 x3 x4 x5 x6 x7 x8 x9 x10 x11 x12 x13)) x0 x1 x2 x3 x4 x5 x6 x7 x8 x9 x10 x11 x12 x13:=by kernel_rfl
def p56_L3 (n:Nat):Nat→Int→Lb→Li→Lb→Li→(List (Br))→Int→Int→Int→Lb→Li→Lb→Li→(List (Br))→Option R56
 | 0,_,_,_,_,_,_,_,_,_,_,_,_,_,_=>none
 | m + 1,x0,x1,x2,x3,x4,x5,x6,x7,x8,x9,x10,x11,x12,x13=>zg9 n (p56_L3 n m) x0 x1 x2 x3 x4 x5 x6 x7 x8 x9 x10 x11 x12 x13
def p56 (n:Nat) (a:Mm):Option R56:=zik n (p56_L3 n n) a
theorem t56_L3 (n:Nat):∀ (m3:Nat) (x0:Int) (x1:Lb) (x2:Li) (x3:Lb) (x4:Li) (x5:List (Br)) (x6 x7 x8:Int) (x9:Lb) (x10:Li) (x11:Lb) (x12:Li) (x13:List (Br)),at56 n (.head 3) [m3] (zjr x0 x1 x2 x3 x4 x5 x6 x7 x8 x9 x10 x11 x12 x13)=p56_L3 n m3 x0 x1 x2 x3 x4 x5 x6 x7 x8 x9 x10 x11 x12 x13:=by
 intro m
 induction m with
 | zero=>intros; rw [e56_L3_0]; rfl
 | succ m ih =>
  intros
  rw [e56_L3]
  try simp only [ih]
  rfl
def q56 (n:Nat) (x:argsD ps56):Option R56:=p56 n x.1
def Sm56:Sm:=⟨ps56,rs56,false,q56⟩
theorem gam56:GamOK Try.prog G56:=by intro f s h; unfold G56 at h; split at h; exact gj h y123; cases h
theorem hh56:Hp 56 Sm56:=hOf (zae (an:=an56) (c:=c56) tt_ok gam56 mixed Try.func56 (by kernel_rfl) rfl (by decide +kernel)) fun n x=>(e56_top n x.1).trans (by simp only [t56_L3]; try rfl)
theorem y56:Gk 56 Sm56:=⟨⟨Try.f56,c56,Try.func56,by kernel_rfl,by decide +kernel⟩,hh56⟩
def c93:Code:=(Try.f93.body.getD .skip)
def an93:An:=⟨fun r=>match r with | 2=>⟨[1,3],[]⟩ | _=>⟨[],[]⟩,fun _ _=>none⟩
abbrev ps93:List PK:=[.val tMem true]
abbrev rs93:List RK:=[.val i64 false]
abbrev R93:=retsD rs93 × outsD ps93
def G93:Gam:=fun _=>none
def at93:Nat→Pt→List Nat→St→Option R93:=atF TT G93 an93 Try.f93 c93 _ _
def zjm (x0:Int) (x1:Lb) (x2:Li) (x3:Lb) (x4:Li) (x5:List (Br)) (x6:Int):St:=(St.mk ([Uu,AV.one (SV.bptr 1000000 0),Uu,Ai x0]++Ur 15) [(1000000,(Ent.box [SV.con (⟨9,Ty.str,x1⟩:Rw),SV.con (⟨3,Ty.int .i64,x2⟩:Rw),SV.con (⟨9,Ty.str,x3⟩:Rw),SV.con (⟨3,Ty.int .i64,x4⟩:Rw),SV.con (⟨71,ySp,x5⟩:Rw),Si x6]))])
def st93_top (n:Nat) (lL2:Int→Lb→Li→Lb→Li→(List (Br))→Int→Option R93) (a:Mm):Option R93 :=
 lL2 (0:Int) a.1.1 a.1.2 a.2.1.1 a.2.1.2 a.2.2.1 a.2.2.2
def zg6 (n:Nat) (lL2:Int→Lb→Li→Lb→Li→(List (Br))→Int→Option R93) (x0:Int) (x1:Lb) (x2:Li) (x3:Lb) (x4:Li) (x5:List (Br)) (x6:Int):Option R93 :=
 cond (decide (x0 < (↑x5.length:Int))) (cond (decide (0≤x0)) (cond (decide (x0 < (↑x5.length:Int))) (cond (!(x5.getD x0.toNat (false,[],[])).1) (some ((x0,()),())) (lL2 (IntKind.i64.wrap (x0 + 1)) x1 x2 x3 x4 x5 x6)) none) none) (some (((-1:Int),()),()))
theorem e93_top (n:Nat) (a:Mm):runF TT G93 an93 Try.f93 c93 ps93 rs93 n (a,())=st93_top n (fun x0 x1 x2 x3 x4 x5 x6=>at93 n (.head 2) [n] (zjm x0 x1 x2 x3 x4 x5 x6)) a:=by kernel_rfl
theorem e93_L2_0 (n:Nat) (x0:Int) (x1:Lb) (x2:Li) (x3:Lb) (x4:Li) (x5:List (Br)) (x6:Int):at93 n (.head 2) [0] (zjm x0 x1 x2 x3 x4 x5 x6)=none:=by kernel_rfl
theorem e93_L2 (n:Nat) (m2:Nat) (x0:Int) (x1:Lb) (x2:Li) (x3:Lb) (x4:Li) (x5:List (Br)) (x6:Int):at93 n (.head 2) [m2 + 1] (zjm x0 x1 x2 x3 x4 x5 x6)=zg6 n (fun x0 x1 x2 x3 x4 x5 x6=>at93 n (.head 2) [m2] (zjm x0 x1 x2 x3 x4 x5 x6)) x0 x1 x2 x3 x4 x5 x6:=by kernel_rfl
def p93_L2 (n:Nat):Nat→Int→Lb→Li→Lb→Li→(List (Br))→Int→Option R93
 | 0,_,_,_,_,_,_,_=>none
 | m + 1,x0,x1,x2,x3,x4,x5,x6=>zg6 n (p93_L2 n m) x0 x1 x2 x3 x4 x5 x6
def p93 (n:Nat) (a:Mm):Option R93:=st93_top n (p93_L2 n n) a
theorem t93_L2 (n:Nat):∀ (m2:Nat) (x0:Int) (x1:Lb) (x2:Li) (x3:Lb) (x4:Li) (x5:List (Br)) (x6:Int),at93 n (.head 2) [m2] (zjm x0 x1 x2 x3 x4 x5 x6)=p93_L2 n m2 x0 x1 x2 x3 x4 x5 x6:=by
 intro m
 induction m with
 | zero=>intros; rw [e93_L2_0]; rfl
 | succ m ih =>
  intros
  rw [e93_L2]
  try simp only [ih]
  rfl
def q93 (n:Nat) (x:argsD ps93):Option R93:=p93 n x.1
def Sm93:Sm:=⟨ps93,rs93,false,q93⟩
theorem gam93:GamOK Try.prog G93:=fun _ _ h=>by cases h
theorem hh93:Hp 93 Sm93:=hOf (zae (an:=an93) (c:=c93) tt_ok gam93 mixed Try.func93 (by kernel_rfl) rfl (by decide +kernel)) fun n x=>(e93_top n x.1).trans (by simp only [t93_L2]; try rfl)
theorem y93:Gk 93 Sm93:=⟨⟨Try.f93,c93,Try.func93,by kernel_rfl,by decide +kernel⟩,hh93⟩
def c28:Code:=(Try.f28.body.getD .skip)
def an28:An:=⟨fun _=>⟨[],[]⟩,fun _ _=>none⟩
abbrev ps28:List PK:=[.val tMem true]
abbrev rs28:List RK:=[.own tMem true,.val i64 false,.val .bool false]
abbrev R28:=retsD rs28 × outsD ps28
def G28:Gam:=fun f=>match f with | 53=>some Sm53 | 56=>some Sm56 | 93=>some Sm93 | _=>none
def zd7 (n:Nat) (a:Mm):Option R28 :=
 (q53 n (((a.1.1,a.1.2),(a.2.1.1,a.2.1.2),a.2.2.1,a.2.2.2),())).bind fun r0=>cond (!r0.1.1) (some (((([],[]),(([],[]),([],(0:Int)))),((-1:Int),(false,()))),())) ((q93 n (((a.1.1,a.1.2),(a.2.1.1,a.2.1.2),a.2.2.1,a.2.2.2),())).bind fun r1=>cond (decide (r1.1.1 < (0:Int))) (some (((([],[]),(([],[]),([],(0:Int)))),((-1:Int),(false,()))),())) ((q56 n (((a.1.1,a.1.2),(a.2.1.1,a.2.1.2),a.2.2.1,a.2.2.2),())).bind fun r2=>(q93 n (((a.1.1,a.1.2),(a.2.1.1,a.2.1.2),a.2.2.1,a.2.2.2),())).bind fun r3=>cond (decide ((0:Int)≤r3.1.1)) (cond (decide (r3.1.1 < (↑(List.length r2.1.1.2.2.1):Int))) (some ((((r2.1.1.1.1,r2.1.1.1.2),((r2.1.1.2.1.1,r2.1.1.2.1.2),(List.set r2.1.1.2.2.1 (Int.toNat r3.1.1) (true,[],List.replicate (Int.toNat (16:Int)) ((0:Int),(0:Int),false,false)),r2.1.1.2.2.2))),(r3.1.1,(true,()))),())) none) none))
theorem e28_top (n:Nat) (a:Mm):runF TT G28 an28 Try.f28 c28 ps28 rs28 n (a,())=zd7 n a:=by kernel_rfl
def p28 (n:Nat) (a:Mm):Option R28:=zd7 n a
def q28 (n:Nat) (x:argsD ps28):Option R28:=p28 n x.1
def Sm28:Sm:=⟨ps28,rs28,false,q28⟩
theorem gam28:GamOK Try.prog G28:=by intro f s h; unfold G28 at h; split at h; exact gj h y53; exact gj h y56; exact gj h y93; cases h
theorem hh28:Hp 28 Sm28:=hOf (zae (an:=an28) (c:=c28) tt_ok gam28 mixed Try.func28 (by kernel_rfl) rfl (by decide +kernel)) fun n x=>(e28_top n x.1).trans rfl
theorem y28:Gk 28 Sm28:=⟨⟨Try.f28,c28,Try.func28,by kernel_rfl,by decide +kernel⟩,hh28⟩
def c48:Code:=(Try.f48.body.getD .skip)
def an48:An:=⟨fun _=>⟨[],[]⟩,fun _ _=>none⟩
abbrev ps48:List PK:=[.bx tRd,.val i64 false]
abbrev rs48:List RK:=[.val i64 false]
abbrev R48:=retsD rs48 × outsD ps48
def G48:Gam:=fun _=>none
def zip (n:Nat) (a:Li × Int) (b:Int):Option R48 :=
 cond (decide (b < (1:Int))) (some (((0:Int),()),((a.1,IntKind.i64.wrap (a.2 + (1:Int))),()))) (cond (decide ((↑(List.length a.1):Int)=(0:Int))) (some (((0:Int),()),((a.1,IntKind.i64.wrap (a.2 + (1:Int))),()))) (cond (decide (IntKind.i64.wrap (IntKind.i64.wrap (a.2 + (1:Int)) - (1:Int)) < (↑(List.length a.1):Int))) (cond (decide ((0:Int)≤IntKind.i64.wrap (IntKind.i64.wrap (a.2 + (1:Int)) - (1:Int)))) (cond (decide (IntKind.i64.wrap (IntKind.i64.wrap (a.2 + (1:Int)) - (1:Int)) < (↑(List.length a.1):Int))) (cond (!decide (b=(0:Int))) (some (((IntKind.i64.wrap (List.getD a.1 (IntKind.i64.wrap (IntKind.i64.wrap (a.2 + (1:Int)) - (1:Int))).toNat (0:Int))).tmod b,()),((a.1,IntKind.i64.wrap (a.2 + (1:Int))),()))) none) none) none) (cond (!decide ((↑(List.length a.1):Int)=(0:Int))) (cond (decide ((0:Int)≤(IntKind.i64.wrap (IntKind.i64.wrap (a.2 + (1:Int)) - (1:Int))).tmod (↑(List.length a.1):Int))) (cond (decide ((IntKind.i64.wrap (IntKind.i64.wrap (a.2 + (1:Int)) - (1:Int))).tmod (↑(List.length a.1):Int) < (↑(List.length a.1):Int))) (cond (!decide ((↑(List.length a.1):Int)=(0:Int))) (cond (decide ((0:Int)≤(IntKind.i64.wrap (IntKind.i64.wrap (IntKind.i64.wrap (IntKind.i64.wrap (a.2 + (1:Int)) - (1:Int)) * (7:Int)) + (3:Int))).tmod (↑(List.length a.1):Int))) (cond (decide ((IntKind.i64.wrap (IntKind.i64.wrap (IntKind.i64.wrap (IntKind.i64.wrap (a.2 + (1:Int)) - (1:Int)) * (7:Int)) + (3:Int))).tmod (↑(List.length a.1):Int) < (↑(List.length a.1):Int))) (cond (!decide ((↑(List.length a.1):Int)=(0:Int))) (cond (!decide (b=(0:Int))) (some (((IntKind.i64.wrap (↑(BitVec.ofInt IntKind.i64.bits (IntKind.i64.wrap (IntKind.i64.wrap (IntKind.i64.wrap (IntKind.i64.wrap (IntKind.i64.wrap (List.getD a.1 ((IntKind.i64.wrap (IntKind.i64.wrap (a.2 + (1:Int)) - (1:Int))).tmod (↑(List.length a.1):Int)).toNat (0:Int)) * (131:Int)) + IntKind.i64.wrap (IntKind.i64.wrap (List.getD a.1 ((IntKind.i64.wrap (IntKind.i64.wrap (IntKind.i64.wrap (IntKind.i64.wrap (a.2 + (1:Int)) - (1:Int)) * (7:Int)) + (3:Int))).tmod (↑(List.length a.1):Int)).toNat (0:Int)) * (1117:Int))) + IntKind.i64.wrap (IntKind.i64.wrap (IntKind.i64.wrap (a.2 + (1:Int)) - (1:Int)) * (29:Int))) + IntKind.i64.wrap (IntKind.i64.wrap ((IntKind.i64.wrap (IntKind.i64.wrap (a.2 + (1:Int)) - (1:Int))).tdiv (↑(List.length a.1):Int)) * (53:Int)))) ^^^ BitVec.ofInt IntKind.i64.bits (IntKind.i64.wrap ((IntKind.i64.wrap (IntKind.i64.wrap (IntKind.i64.wrap (IntKind.i64.wrap (IntKind.i64.wrap (List.getD a.1 ((IntKind.i64.wrap (IntKind.i64.wrap (a.2 + (1:Int)) - (1:Int))).tmod (↑(List.length a.1):Int)).toNat (0:Int)) * (131:Int)) + IntKind.i64.wrap (IntKind.i64.wrap (List.getD a.1 ((IntKind.i64.wrap (IntKind.i64.wrap (IntKind.i64.wrap (IntKind.i64.wrap (a.2 + (1:Int)) - (1:Int)) * (7:Int)) + (3:Int))).tmod (↑(List.length a.1):Int)).toNat (0:Int)) * (1117:Int))) + IntKind.i64.wrap (IntKind.i64.wrap (IntKind.i64.wrap (a.2 + (1:Int)) - (1:Int)) * (29:Int))) + IntKind.i64.wrap (IntKind.i64.wrap ((IntKind.i64.wrap (IntKind.i64.wrap (a.2 + (1:Int)) - (1:Int))).tdiv (↑(List.length a.1):Int)) * (53:Int)))).tdiv (64:Int)))).toNat:Int)).tmod b,()),((a.1,IntKind.i64.wrap (a.2 + (1:Int))),()))) none) none) none) none) none) none) none) none)))
theorem e48_top (n:Nat) (a:Li × Int) (b:Int):runF TT G48 an48 Try.f48 c48 ps48 rs48 n (a,b,())=zip n a b:=by kernel_rfl
def p48 (n:Nat) (a:Li × Int) (b:Int):Option R48:=zip n a b
def q48 (n:Nat) (x:argsD ps48):Option R48:=p48 n x.1 x.2.1
def Sm48:Sm:=⟨ps48,rs48,true,q48⟩
theorem gam48:GamOK Try.prog G48:=fun _ _ h=>by cases h
theorem hh48:Hp 48 Sm48:=hOf (zae (an:=an48) (c:=c48) tt_ok gam48 mixed Try.func48 (by kernel_rfl) rfl (by decide +kernel)) fun n x=>(e48_top n x.1 x.2.1).trans rfl
theorem y48:Gk 48 Sm48:=⟨⟨Try.f48,c48,Try.func48,by kernel_rfl,by decide +kernel⟩,hh48⟩
def c54:Code:=(Try.f54.body.getD .skip)
def an54:An:=⟨fun _=>⟨[],[]⟩,fun _ _=>none⟩
abbrev ps54:List PK:=[.val tMem true,.val i64 false]
abbrev rs54:List RK:=[.val .bool false]
abbrev R54:=retsD rs54 × outsD ps54
def G54:Gam:=fun f=>match f with | 69=>some Sm69 | _=>none
def zim (n:Nat) (a:Mm) (b:Int):Option R54 :=
 (q69 n (b,(0:Int),IntKind.i64.wrap ((↑(List.length a.2.2.1):Int) - (1:Int)),())).bind fun r0=>cond r0.1.1 (cond (decide ((0:Int)≤b)) (cond (decide (b < (↑(List.length a.2.2.1):Int))) (some (((List.getD a.2.2.1 b.toNat (false,[],[])).1,()),())) none) none) (some ((false,()),()))
theorem e54_top (n:Nat) (a:Mm) (b:Int):runF TT G54 an54 Try.f54 c54 ps54 rs54 n (a,b,())=zim n a b:=by kernel_rfl
def p54 (n:Nat) (a:Mm) (b:Int):Option R54:=zim n a b
def q54 (n:Nat) (x:argsD ps54):Option R54:=p54 n x.1 x.2.1
def Sm54:Sm:=⟨ps54,rs54,false,q54⟩
theorem gam54:GamOK Try.prog G54:=by intro f s h; unfold G54 at h; split at h; exact gj h y69; cases h
theorem hh54:Hp 54 Sm54:=hOf (zae (an:=an54) (c:=c54) tt_ok gam54 mixed Try.func54 (by kernel_rfl) rfl (by decide +kernel)) fun n x=>(e54_top n x.1 x.2.1).trans rfl
theorem y54:Gk 54 Sm54:=⟨⟨Try.f54,c54,Try.func54,by kernel_rfl,by decide +kernel⟩,hh54⟩
def c175:Code:=(Try.f175.body.getD .skip)
def an175:An:=⟨fun _=>⟨[],[]⟩,fun _ _=>none⟩
abbrev ps175:List PK:=[.val tAr true,.val i64 false,.val i64 false]
abbrev rs175:List RK:=[.val tAr true,.val .bool false]
abbrev R175:=retsD rs175 × outsD ps175
def G175:Gam:=fun _=>none
def zfn (n:Nat) (a:Aq) (b:Int) (c:Int):Option R175 :=
 cond (decide ((if c < IntKind.i64.wrap (IntKind.i64.wrap (a.1 + a.2.1) - (1:Int)) then c else IntKind.i64.wrap (IntKind.i64.wrap (a.1 + a.2.1) - (1:Int))) < if b > a.1 then b else a.1)) (some ((((0:Int),((0:Int),(false,false))),(false,())),())) (some (((if b > a.1 then b else a.1,(IntKind.i64.wrap (IntKind.i64.wrap ((if c < IntKind.i64.wrap (IntKind.i64.wrap (a.1 + a.2.1) - (1:Int)) then c else IntKind.i64.wrap (IntKind.i64.wrap (a.1 + a.2.1) - (1:Int))) - if b > a.1 then b else a.1) + (1:Int)),(a.2.2.1,a.2.2.2))),(true,())),()))
theorem e175_top (n:Nat) (a:Aq) (b:Int) (c:Int):runF TT G175 an175 Try.f175 c175 ps175 rs175 n (a,b,c,())=zfn n a b c:=by kernel_rfl
def p175 (n:Nat) (a:Aq) (b:Int) (c:Int):Option R175:=zfn n a b c
def q175 (n:Nat) (x:argsD ps175):Option R175:=p175 n x.1 x.2.1 x.2.2.1
def Sm175:Sm:=⟨ps175,rs175,false,q175⟩
theorem gam175:GamOK Try.prog G175:=fun _ _ h=>by cases h
theorem hh175:Hp 175 Sm175:=hOf (zae (an:=an175) (c:=c175) tt_ok gam175 mixed Try.func175 (by kernel_rfl) rfl (by decide +kernel)) fun n x=>(e175_top n x.1 x.2.1 x.2.2.1).trans rfl
theorem y175:Gk 175 Sm175:=⟨⟨Try.f175,c175,Try.func175,by kernel_rfl,by decide +kernel⟩,hh175⟩
def c159:Code:=(Try.f159.body.getD .skip)
def an159:An:=⟨fun r=>match r with | 3=>⟨[0,1,2,7,8],[]⟩ | _=>⟨[],[]⟩,fun _ _=>none⟩
abbrev ps159:List PK:=[.val (.row 116 tAr) false,.val i64 false,.val i64 false]
abbrev rs159:List RK:=[.own (.row 116 tAr) false]
abbrev R159:=retsD rs159 × outsD ps159
def G159:Gam:=fun f=>match f with | 175=>some Sm175 | _=>none
def at159:Nat→Pt→List Nat→St→Option R159:=atF TT G159 an159 Try.f159 c159 _ _
def zgg (x0:Lq) (x1 x2 x3:Int) (x4:Lq):St:=(St.mk ([AV.one (SV.con (⟨116,yAq,x0⟩:Rw)),Ai x1,Ai x2,Uu,Uu,Uu,Uu,AV.one (Sr 1000000),Ai x3]++Ur 42) [(1000000,Er ⟨116,yAq,x4⟩)])
def st159_top (n:Nat) (lL3:Lq→Int→Int→Int→Lq→Option R159) (a:Lq) (b:Int) (c:Int):Option R159 :=
 lL3 a b c (0:Int) ([])
def zei (n:Nat) (lL3:Lq→Int→Int→Int→Lq→Option R159) (x0:Lq) (x1 x2 x3:Int) (x4:Lq):Option R159 :=
 cond (decide (x3 < (↑x0.length:Int))) (cond (decide (0≤x3)) (cond (decide (x3 < (↑x0.length:Int))) ((q175 n (((x0.getD x3.toNat ((0:Int),(0:Int),false,false)).1,(x0.getD x3.toNat ((0:Int),(0:Int),false,false)).2.1,(x0.getD x3.toNat ((0:Int),(0:Int),false,false)).2.2.1,(x0.getD x3.toNat ((0:Int),(0:Int),false,false)).2.2.2),(0:Int),IntKind.i64.wrap (x1 - 1),())).bind fun r1=>cond (decide (0≤x3)) (cond (decide (x3 < (↑x0.length:Int))) ((q175 n (((x0.getD x3.toNat ((0:Int),(0:Int),false,false)).1,(x0.getD x3.toNat ((0:Int),(0:Int),false,false)).2.1,(x0.getD x3.toNat ((0:Int),(0:Int),false,false)).2.2.1,(x0.getD x3.toNat ((0:Int),(0:Int),false,false)).2.2.2),IntKind.i64.wrap (x2 + 1),(15:Int),())).bind fun r2=>cond r1.1.2.1 (cond (decide ((x4.length + [(r1.1.1.1,r1.1.1.2.1,r1.1.1.2.2.1,r1.1.1.2.2.2)].length) * (24:Nat)≤(140737488355328:Nat))) (cond r2.1.2.1 (cond (decide (((x4 ++ [(r1.1.1.1,r1.1.1.2.1,r1.1.1.2.2.1,r1.1.1.2.2.2)]).length + [(r2.1.1.1,r2.1.1.2.1,r2.1.1.2.2.1,r2.1.1.2.2.2)].length) * (24:Nat)≤(140737488355328:Nat))) (lL3 x0 x1 x2 (IntKind.i64.wrap (x3 + 1)) (x4 ++ [(r1.1.1.1,r1.1.1.2.1,r1.1.1.2.2.1,r1.1.1.2.2.2)] ++ [(r2.1.1.1,r2.1.1.2.1,r2.1.1.2.2.1,r2.1.1.2.2.2)])) none) (lL3 x0 x1 x2 (IntKind.i64.wrap (x3 + 1)) (x4 ++ [(r1.1.1.1,r1.1.1.2.1,r1.1.1.2.2.1,r1.1.1.2.2.2)]))) none) (cond r2.1.2.1 (cond (decide ((x4.length + [(r2.1.1.1,r2.1.1.2.1,r2.1.1.2.2.1,r2.1.1.2.2.2)].length) * (24:Nat)≤(140737488355328:Nat))) (lL3 x0 x1 x2 (IntKind.i64.wrap (x3 + 1)) (x4 ++ [(r2.1.1.1,r2.1.1.2.1,r2.1.1.2.2.1,r2.1.1.2.2.2)])) none) (lL3 x0 x1 x2 (IntKind.i64.wrap (x3 + 1)) x4))) none) none) none) none) (some ((x4,()),()))
theorem e159_top (n:Nat) (a:Lq) (b:Int) (c:Int):runF TT G159 an159 Try.f159 c159 ps159 rs159 n (a,b,c,())=st159_top n (fun x0 x1 x2 x3 x4=>at159 n (.head 3) [n] (zgg x0 x1 x2 x3 x4)) a b c:=by kernel_rfl
theorem e159_L3_0 (n:Nat) (x0:Lq) (x1 x2 x3:Int) (x4:Lq):at159 n (.head 3) [0] (zgg x0 x1 x2 x3 x4)=none:=by kernel_rfl
theorem e159_L3 (n:Nat) (m3:Nat) (x0:Lq) (x1 x2 x3:Int) (x4:Lq):at159 n (.head 3) [m3 + 1] (zgg x0 x1 x2 x3 x4)=zei n (fun x0 x1 x2 x3 x4=>at159 n (.head 3) [m3] (zgg x0 x1 x2 x3 x4)) x0 x1 x2 x3 x4:=by kernel_rfl
def p159_L3 (n:Nat):Nat→Lq→Int→Int→Int→Lq→Option R159
 | 0,_,_,_,_,_=>none
 | m + 1,x0,x1,x2,x3,x4=>zei n (p159_L3 n m) x0 x1 x2 x3 x4
def p159 (n:Nat) (a:Lq) (b:Int) (c:Int):Option R159:=st159_top n (p159_L3 n n) a b c
theorem t159_L3 (n:Nat):∀ (m3:Nat) (x0:Lq) (x1 x2 x3:Int) (x4:Lq),at159 n (.head 3) [m3] (zgg x0 x1 x2 x3 x4)=p159_L3 n m3 x0 x1 x2 x3 x4:=by
 intro m
 induction m with
 | zero=>intros; rw [e159_L3_0]; rfl
 | succ m ih =>
  intros
  rw [e159_L3]
  try simp only [ih]
  rfl
def q159 (n:Nat) (x:argsD ps159):Option R159:=p159 n x.1 x.2.1 x.2.2.1
def Sm159:Sm:=⟨ps159,rs159,false,q159⟩
theorem gam159:GamOK Try.prog G159:=by intro f s h; unfold G159 at h; split at h; exact gj h y175; cases h
theorem hh159:Hp 159 Sm159:=hOf (zae (an:=an159) (c:=c159) tt_ok gam159 mixed Try.func159 (by kernel_rfl) rfl (by decide +kernel)) fun n x=>(e159_top n x.1 x.2.1 x.2.2.1).trans (by simp only [t159_L3]; try rfl)
theorem y159:Gk 159 Sm159:=⟨⟨Try.f159,c159,Try.func159,by kernel_rfl,by decide +kernel⟩,hh159⟩
def c121:Code:=(Try.f121.body.getD .skip)
def an121:An:=⟨fun _=>⟨[],[]⟩,fun _ _=>none⟩
abbrev ps121:List PK:=[.val (.row 116 tAr) false,.val i64 false,.val i64 false]
abbrev rs121:List RK:=[.own (.row 116 tAr) false,.val .bool false]
abbrev R121:=retsD rs121 × outsD ps121
def G121:Gam:=fun f=>match f with | 127=>some Sm127 | 158=>some Sm158 | 159=>some Sm159 | _=>none
def zfy (n:Nat) (a:Lq) (b:Int) (c:Int):Option R121 :=
 (q127 n (a,())).bind fun r0=>cond (!r0.1.1) (some (([],(false,())),())) ((q158 n ((b,c,false,false),())).bind fun r1=>cond (!r1.1.1) (some (([],(false,())),())) ((q159 n (a,b,IntKind.i64.wrap (IntKind.i64.wrap (b + c) - (1:Int)),())).bind fun r2=>(q127 n (r2.1.1,())).bind fun r3=>cond (!r3.1.1) (some (([],(false,())),())) (some ((r2.1.1,(true,())),()))))
theorem e121_top (n:Nat) (a:Lq) (b:Int) (c:Int):runF TT G121 an121 Try.f121 c121 ps121 rs121 n (a,b,c,())=zfy n a b c:=by kernel_rfl
def p121 (n:Nat) (a:Lq) (b:Int) (c:Int):Option R121:=zfy n a b c
def q121 (n:Nat) (x:argsD ps121):Option R121:=p121 n x.1 x.2.1 x.2.2.1
def Sm121:Sm:=⟨ps121,rs121,false,q121⟩
theorem gam121:GamOK Try.prog G121:=by intro f s h; unfold G121 at h; split at h; exact gj h y127; exact gj h y158; exact gj h y159; cases h
theorem hh121:Hp 121 Sm121:=hOf (zae (an:=an121) (c:=c121) tt_ok gam121 mixed Try.func121 (by kernel_rfl) rfl (by decide +kernel)) fun n x=>(e121_top n x.1 x.2.1 x.2.2.1).trans rfl
theorem y121:Gk 121 Sm121:=⟨⟨Try.f121,c121,Try.func121,by kernel_rfl,by decide +kernel⟩,hh121⟩
def c160:Code:=(Try.f160.body.getD .skip)
def an160:An:=⟨fun _=>⟨[],[]⟩,fun _ _=>none⟩
abbrev ps160:List PK:=[.own tPg true,.val i64 false]
abbrev rs160:List RK:=[.own tPg true]
abbrev R160:=retsD rs160 × outsD ps160
def G160:Gam:=fun _=>none
def zfo (n:Nat) (a:Lb × Li) (b:Int):Option R160 :=
 cond (decide ((0:Int)≤b)) (cond (decide (b < (↑(List.length a.2):Int))) (cond (decide ((0:Int)≤b)) (cond (decide (b < (↑(List.length a.2):Int))) (cond (decide ((0:Int)≤b)) (cond (decide (b < (↑(List.set a.2 b.toNat (IntKind.i64.wrap (List.getD a.2 b.toNat (0:Int) - (1:Int)))).length:Int))) (cond (decide ((List.set a.2 b.toNat (IntKind.i64.wrap (List.getD a.2 b.toNat (0:Int) - (1:Int)))).getD b.toNat (0:Int)=(0:Int))) (cond (decide ((0:Int)≤b)) (cond (decide (b < (↑(List.length a.1):Int))) (some (((List.set a.1 b.toNat (ByteArray.mk #[]),List.set a.2 b.toNat (IntKind.i64.wrap (List.getD a.2 b.toNat (0:Int) - (1:Int)))),()),())) none) none) (some (((a.1,List.set a.2 b.toNat (IntKind.i64.wrap (List.getD a.2 b.toNat (0:Int) - (1:Int)))),()),()))) none) none) none) none) none) none
theorem e160_top (n:Nat) (a:Lb × Li) (b:Int):runF TT G160 an160 Try.f160 c160 ps160 rs160 n (a,b,())=zfo n a b:=by kernel_rfl
def p160 (n:Nat) (a:Lb × Li) (b:Int):Option R160:=zfo n a b
def q160 (n:Nat) (x:argsD ps160):Option R160:=p160 n x.1 x.2.1
def Sm160:Sm:=⟨ps160,rs160,false,q160⟩
theorem gam160:GamOK Try.prog G160:=fun _ _ h=>by cases h
theorem hh160:Hp 160 Sm160:=hOf (zae (an:=an160) (c:=c160) tt_ok gam160 mixed Try.func160 (by kernel_rfl) rfl (by decide +kernel)) fun n x=>(e160_top n x.1 x.2.1).trans rfl
theorem y160:Gk 160 Sm160:=⟨⟨Try.f160,c160,Try.func160,by kernel_rfl,by decide +kernel⟩,hh160⟩
def c122:Code:=(Try.f122.body.getD .skip)
def an122:An:=⟨fun _=>⟨[],[]⟩,fun _ _=>none⟩
abbrev ps122:List PK:=[.own tMem true,.val i64 false,.val i64 false]
abbrev rs122:List RK:=[.own tMem true]
abbrev R122:=retsD rs122 × outsD ps122
def G122:Gam:=fun f=>match f with | 160=>some Sm160 | _=>none
def zfx (n:Nat) (a:Mm) (b:Int) (c:Int):Option R122 :=
 cond (decide ((0:Int)≤b)) (cond (decide (b < (↑(List.length a.2.2.1):Int))) (cond (decide ((0:Int)≤c)) (cond (decide (c < (↑(List.length (List.getD a.2.2.1 b.toNat (false,[],[])).2.2):Int))) (cond (decide ((List.getD (List.getD a.2.2.1 b.toNat (false,[],[])).2.2 c.toNat ((0:Int),(0:Int),false,false)).1=(1:Int))) ((q160 n ((a.1.1,a.1.2),(List.getD (List.getD a.2.2.1 b.toNat (false,[],[])).2.2 c.toNat ((0:Int),(0:Int),false,false)).2.1,())).bind fun r0=>cond (decide ((0:Int)≤b)) (cond (decide (b < (↑(List.length a.2.2.1):Int))) (cond (decide ((0:Int)≤c)) (cond (decide (c < (↑(List.length (List.getD a.2.2.1 b.toNat (false,[],[])).2.2):Int))) (some ((((r0.1.1.1,r0.1.1.2),((a.2.1.1,a.2.1.2),(List.set a.2.2.1 b.toNat ((List.getD a.2.2.1 b.toNat (false,[],[])).1,(List.getD a.2.2.1 b.toNat (false,[],[])).2.1,List.set (List.getD a.2.2.1 b.toNat (false,[],[])).2.2 c.toNat ((0:Int),(0:Int),false,false)),a.2.2.2))),()),())) none) none) none) none) (cond (decide ((List.getD (List.getD a.2.2.1 b.toNat (false,[],[])).2.2 c.toNat ((0:Int),(0:Int),false,false)).1=(2:Int))) ((q160 n ((a.2.1.1,a.2.1.2),(List.getD (List.getD a.2.2.1 b.toNat (false,[],[])).2.2 c.toNat ((0:Int),(0:Int),false,false)).2.1,())).bind fun r1=>cond (decide ((0:Int)≤b)) (cond (decide (b < (↑(List.length a.2.2.1):Int))) (cond (decide ((0:Int)≤c)) (cond (decide (c < (↑(List.length (List.getD a.2.2.1 b.toNat (false,[],[])).2.2):Int))) (some ((((a.1.1,a.1.2),((r1.1.1.1,r1.1.1.2),(List.set a.2.2.1 b.toNat ((List.getD a.2.2.1 b.toNat (false,[],[])).1,(List.getD a.2.2.1 b.toNat (false,[],[])).2.1,List.set (List.getD a.2.2.1 b.toNat (false,[],[])).2.2 c.toNat ((0:Int),(0:Int),false,false)),a.2.2.2))),()),())) none) none) none) none) (cond (decide ((0:Int)≤b)) (cond (decide (b < (↑(List.length a.2.2.1):Int))) (cond (decide ((0:Int)≤c)) (cond (decide (c < (↑(List.length (List.getD a.2.2.1 b.toNat (false,[],[])).2.2):Int))) (some ((((a.1.1,a.1.2),((a.2.1.1,a.2.1.2),(List.set a.2.2.1 b.toNat ((List.getD a.2.2.1 b.toNat (false,[],[])).1,(List.getD a.2.2.1 b.toNat (false,[],[])).2.1,List.set (List.getD a.2.2.1 b.toNat (false,[],[])).2.2 c.toNat ((0:Int),(0:Int),false,false)),a.2.2.2))),()),())) none) none) none) none))) none) none) none) none
theorem e122_top (n:Nat) (a:Mm) (b:Int) (c:Int):runF TT G122 an122 Try.f122 c122 ps122 rs122 n (a,b,c,())=zfx n a b c:=by kernel_rfl
def p122 (n:Nat) (a:Mm) (b:Int) (c:Int):Option R122:=zfx n a b c
def q122 (n:Nat) (x:argsD ps122):Option R122:=p122 n x.1 x.2.1 x.2.2.1
def Sm122:Sm:=⟨ps122,rs122,false,q122⟩
theorem gam122:GamOK Try.prog G122:=by intro f s h; unfold G122 at h; split at h; exact gj h y160; cases h
theorem hh122:Hp 122 Sm122:=hOf (zae (an:=an122) (c:=c122) tt_ok gam122 mixed Try.func122 (by kernel_rfl) rfl (by decide +kernel)) fun n x=>(e122_top n x.1 x.2.1 x.2.2.1).trans rfl
theorem y122:Gk 122 Sm122:=⟨⟨Try.f122,c122,Try.func122,by kernel_rfl,by decide +kernel⟩,hh122⟩
def c55:Code:=(Try.f55.body.getD .skip)
def an55:An:=⟨fun r=>match r with | 6=>⟨[1,2,3,4,8,12],[]⟩ | _=>⟨[],[]⟩,fun _ _=>none⟩
abbrev ps55:List PK:=[.own tMem true,.val i64 false,.val i64 false,.val i64 false]
abbrev rs55:List RK:=[.own tMem true,.val i64 false]
abbrev R55:=retsD rs55 × outsD ps55
def G55:Gam:=fun f=>match f with | 121=>some Sm121 | 122=>some Sm122 | _=>none
def at55:Nat→Pt→List Nat→St→Option R55:=atF TT G55 an55 Try.f55 c55 _ _
def zjs (x0 x1 x2 x3 x4 x5:Int) (x6:Lb) (x7:Li) (x8:Lb) (x9:Li) (x10:List (Br)):St:=(St.mk ([Uu,Ai x0,Ai x1,Ai x2,AV.one (SV.bptr 1000000 0),Uu,Uu,Uu,AV.one (SV.bptr 1000001 0),Uu,Uu,Uu,Ai x3]++Ur 34) [(1000000,(Ent.box [Sr 1000002,Sr 1000003,Sr 1000004,Sr 1000005,Sr 1000006,Si x4])),(1000001,(Ent.box [SV.nil,SV.nil,SV.nil,SV.nil,SV.nil,Si x5])),(1000002,Er ⟨9,Ty.str,x6⟩),(1000003,Er ⟨3,Ty.int .i64,x7⟩),(1000004,Er ⟨9,Ty.str,x8⟩),(1000005,Er ⟨3,Ty.int .i64,x9⟩),(1000006,Er ⟨71,ySp,x10⟩)])
def zil (n:Nat) (lL6:Int→Int→Int→Int→Int→Int→Lb→Li→Lb→Li→(List (Br))→Option R55) (a:Mm) (b:Int) (c:Int) (d:Int):Option R55 :=
 cond (decide ((0:Int)≤b)) (cond (decide (b < (↑(List.length a.2.2.1):Int))) ((q121 n ((List.getD a.2.2.1 b.toNat (false,[],[])).2.1,c,d,())).bind fun r0=>cond (!r0.1.2.1) (some ((((a.1.1,a.1.2),((a.2.1.1,a.2.1.2),(a.2.2.1,a.2.2.2))),((4:Int),())),())) (cond (decide ((0:Int)≤b)) (cond (decide (b < (↑(List.length a.2.2.1):Int))) (lL6 b c d c a.2.2.2 (0:Int) a.1.1 a.1.2 a.2.1.1 a.2.1.2 (List.set a.2.2.1 b.toNat ((List.getD a.2.2.1 b.toNat (false,[],[])).1,r0.1.1,(List.getD a.2.2.1 b.toNat (false,[],[])).2.2))) none) none)) none) none
def zg_ (n:Nat) (lL6:Int→Int→Int→Int→Int→Int→Lb→Li→Lb→Li→(List (Br))→Option R55) (x0 x1 x2 x3 x4 x5:Int) (x6:Lb) (x7:Li) (x8:Lb) (x9:Li) (x10:List (Br)):Option R55 :=
 cond (decide (x3 < IntKind.i64.wrap (x1 + x2))) ((q122 n (((x6,x7),(x8,x9),x10,x4),x0,x3,())).bind fun r2=>lL6 x0 x1 x2 (IntKind.i64.wrap (x3 + 1)) r2.1.1.2.2.2 x5 r2.1.1.1.1 r2.1.1.1.2 r2.1.1.2.1.1 r2.1.1.2.1.2 r2.1.1.2.2.1) (some ((((x6,x7),((x8,x9),(x10,x4))),((0:Int),())),()))
theorem e55_top (n:Nat) (a:Mm) (b:Int) (c:Int) (d:Int):runF TT G55 an55 Try.f55 c55 ps55 rs55 n (a,b,c,d,())=zil n (fun x0 x1 x2 x3 x4 x5 x6 x7 x8 x9 x10=>at55 n (.head 6) [n] (zjs x0 x1 x2 x3 x4 x5 x6 x7 x8 x9 x10)) a b c d:=by kernel_rfl
theorem e55_L6_0 (n:Nat) (x0 x1 x2 x3 x4 x5:Int) (x6:Lb) (x7:Li) (x8:Lb) (x9:Li) (x10:List (Br)):at55 n (.head 6) [0] (zjs x0 x1 x2 x3 x4 x5 x6 x7 x8 x9 x10)=none:=by kernel_rfl
theorem e55_L6 (n:Nat) (m6:Nat) (x0 x1 x2 x3 x4 x5:Int) (x6:Lb) (x7:Li) (x8:Lb) (x9:Li) (x10:List (Br)):at55 n (.head 6) [m6 + 1] (zjs x0 x1 x2 x3 x4 x5 x6 x7 x8 x9 x10)=zg_ n (fun x0 x1 x2 x3 x4 x5 x6 x7 x8 x9 x10=>at55 n (.head 6) [m6] (zjs x0 x1 x2 x3 x4 x5 x6 x7 x8 x9 x10)) x0 x1 x2 x3 x4 x5 x6 x7 x8 x9 x10:=by kernel_rfl
def p55_L6 (n:Nat):Nat→Int→Int→Int→Int→Int→Int→Lb→Li→Lb→Li→(List (Br))→Option R55
 | 0,_,_,_,_,_,_,_,_,_,_,_=>none
 | m + 1,x0,x1,x2,x3,x4,x5,x6,x7,x8,x9,x10=>zg_ n (p55_L6 n m) x0 x1 x2 x3 x4 x5 x6 x7 x8 x9 x10
def p55 (n:Nat) (a:Mm) (b:Int) (c:Int) (d:Int):Option R55:=zil n (p55_L6 n n) a b c d
theorem t55_L6 (n:Nat):∀ (m6:Nat) (x0 x1 x2 x3 x4 x5:Int) (x6:Lb) (x7:Li) (x8:Lb) (x9:Li) (x10:List (Br)),at55 n (.head 6) [m6] (zjs x0 x1 x2 x3 x4 x5 x6 x7 x8 x9 x10)=p55_L6 n m6 x0 x1 x2 x3 x4 x5 x6 x7 x8 x9 x10:=by
 intro m
 induction m with
 | zero=>intros; rw [e55_L6_0]; rfl
 | succ m ih =>
  intros
  rw [e55_L6]
  try simp only [ih]
  rfl
def q55 (n:Nat) (x:argsD ps55):Option R55:=p55 n x.1 x.2.1 x.2.2.1 x.2.2.2.1
def Sm55:Sm:=⟨ps55,rs55,false,q55⟩
theorem gam55:GamOK Try.prog G55:=by intro f s h; unfold G55 at h; split at h; exact gj h y121; exact gj h y122; cases h
theorem hh55:Hp 55 Sm55:=hOf (zae (an:=an55) (c:=c55) tt_ok gam55 mixed Try.func55 (by kernel_rfl) rfl (by decide +kernel)) fun n x=>(e55_top n x.1 x.2.1 x.2.2.1 x.2.2.2.1).trans (by simp only [t55_L6]; try rfl)
theorem y55:Gk 55 Sm55:=⟨⟨Try.f55,c55,Try.func55,by kernel_rfl,by decide +kernel⟩,hh55⟩
def c103:Code:=(Try.f103.body.getD .skip)
def an103:An:=⟨fun r=>match r with | 2=>⟨[1,2,4,5],[]⟩ | _=>⟨[],[]⟩,fun _ _=>none⟩
abbrev ps103:List PK:=[.own tMem true,.val i64 false]
abbrev rs103:List RK:=[.own tMem true]
abbrev R103:=retsD rs103 × outsD ps103
def G103:Gam:=fun f=>match f with | 122=>some Sm122 | _=>none
def at103:Nat→Pt→List Nat→St→Option R103:=atF TT G103 an103 Try.f103 c103 _ _
def zgq (x0 x1 x2 x3:Int) (x4:Lb) (x5:Li) (x6:Lb) (x7:Li) (x8:List (Br)):St:=(St.mk ([Uu,Ai x0,AV.one (SV.bptr 1000000 0),Uu,AV.one (SV.bptr 1000001 0),Ai x1]++Ur 14) [(1000000,(Ent.box [Sr 1000002,Sr 1000003,Sr 1000004,Sr 1000005,Sr 1000006,Si x2])),(1000001,(Ent.box [SV.nil,SV.nil,SV.nil,SV.nil,SV.nil,Si x3])),(1000002,Er ⟨9,Ty.str,x4⟩),(1000003,Er ⟨3,Ty.int .i64,x5⟩),(1000004,Er ⟨9,Ty.str,x6⟩),(1000005,Er ⟨3,Ty.int .i64,x7⟩),(1000006,Er ⟨71,ySp,x8⟩)])
def st103_top (n:Nat) (lL2:Int→Int→Int→Int→Lb→Li→Lb→Li→(List (Br))→Option R103) (a:Mm) (b:Int):Option R103 :=
 lL2 b (0:Int) a.2.2.2 (0:Int) a.1.1 a.1.2 a.2.1.1 a.2.1.2 a.2.2.1
def zep (n:Nat) (lL2:Int→Int→Int→Int→Lb→Li→Lb→Li→(List (Br))→Option R103) (x0 x1 x2 x3:Int) (x4:Lb) (x5:Li) (x6:Lb) (x7:Li) (x8:List (Br)):Option R103 :=
 cond (decide (x1 < 16)) ((q122 n (((x4,x5),(x6,x7),x8,x2),x0,x1,())).bind fun r1=>lL2 x0 (IntKind.i64.wrap (x1 + 1)) r1.1.1.2.2.2 x3 r1.1.1.1.1 r1.1.1.1.2 r1.1.1.2.1.1 r1.1.1.2.1.2 r1.1.1.2.2.1) (cond (decide (0≤x0)) (cond (decide (x0 < (↑x8.length:Int))) (some ((((x4,x5),((x6,x7),(x8.set x0.toNat (false,[],[]),x2))),()),())) none) none)
theorem e103_top (n:Nat) (a:Mm) (b:Int):runF TT G103 an103 Try.f103 c103 ps103 rs103 n (a,b,())=st103_top n (fun x0 x1 x2 x3 x4 x5 x6 x7 x8=>at103 n (.head 2) [n] (zgq x0 x1 x2 x3 x4 x5 x6 x7 x8)) a b:=by kernel_rfl
theorem e103_L2_0 (n:Nat) (x0 x1 x2 x3:Int) (x4:Lb) (x5:Li) (x6:Lb) (x7:Li) (x8:List (Br)):at103 n (.head 2) [0] (zgq x0 x1 x2 x3 x4 x5 x6 x7 x8)=none:=by kernel_rfl
theorem e103_L2 (n:Nat) (m2:Nat) (x0 x1 x2 x3:Int) (x4:Lb) (x5:Li) (x6:Lb) (x7:Li) (x8:List (Br)):at103 n (.head 2) [m2 + 1] (zgq x0 x1 x2 x3 x4 x5 x6 x7 x8)=zep n (fun x0 x1 x2 x3 x4 x5 x6 x7 x8=>at103 n (.head 2) [m2] (zgq x0 x1 x2 x3 x4 x5 x6 x7 x8)) x0 x1 x2 x3 x4 x5 x6 x7 x8:=by kernel_rfl
def p103_L2 (n:Nat):Nat→Int→Int→Int→Int→Lb→Li→Lb→Li→(List (Br))→Option R103
 | 0,_,_,_,_,_,_,_,_,_=>none
 | m + 1,x0,x1,x2,x3,x4,x5,x6,x7,x8=>zep n (p103_L2 n m) x0 x1 x2 x3 x4 x5 x6 x7 x8
def p103 (n:Nat) (a:Mm) (b:Int):Option R103:=st103_top n (p103_L2 n n) a b
theorem t103_L2 (n:Nat):∀ (m2:Nat) (x0 x1 x2 x3:Int) (x4:Lb) (x5:Li) (x6:Lb) (x7:Li) (x8:List (Br)),at103 n (.head 2) [m2] (zgq x0 x1 x2 x3 x4 x5 x6 x7 x8)=p103_L2 n m2 x0 x1 x2 x3 x4 x5 x6 x7 x8:=by
 intro m
 induction m with
 | zero=>intros; rw [e103_L2_0]; rfl
 | succ m ih =>
  intros
  rw [e103_L2]
  try simp only [ih]
  rfl
def q103 (n:Nat) (x:argsD ps103):Option R103:=p103 n x.1 x.2.1
def Sm103:Sm:=⟨ps103,rs103,false,q103⟩
theorem gam103:GamOK Try.prog G103:=by intro f s h; unfold G103 at h; split at h; exact gj h y122; cases h
theorem hh103:Hp 103 Sm103:=hOf (zae (an:=an103) (c:=c103) tt_ok gam103 mixed Try.func103 (by kernel_rfl) rfl (by decide +kernel)) fun n x=>(e103_top n x.1 x.2.1).trans (by simp only [t103_L2]; try rfl)
theorem y103:Gk 103 Sm103:=⟨⟨Try.f103,c103,Try.func103,by kernel_rfl,by decide +kernel⟩,hh103⟩
def c170:Code:=(Try.f170.body.getD .skip)
def an170:An:=⟨fun r=>match r with | 4=>⟨[0,3,5,6,7],[]⟩ | _=>⟨[],[]⟩,fun _ _=>none⟩
abbrev ps170:List PK:=[.val (.row 116 tAr) false,.val tAr true]
abbrev rs170:List RK:=[.own (.row 116 tAr) false]
abbrev R170:=retsD rs170 × outsD ps170
def G170:Gam:=fun _=>none
def at170:Nat→Pt→List Nat→St→Option R170:=atF TT G170 an170 Try.f170 c170 _ _
def zgf (x0:Lq) (x1:Bool) (x2 x3 x4:Int) (x5 x6:Bool) (x7:Lq):St:=(St.mk ([AV.one (SV.con (⟨116,yAq,x0⟩:Rw)),Uu,Uu,AV.one (SV.bptr 1000000 0),Uu,AV.one (Sr 1000001),AV.one (SV.bool x1),Ai x2]++Ur 37) [(1000000,(Ent.box [Si x3,Si x4,SV.bool x5,SV.bool x6])),(1000001,Er ⟨116,yAq,x7⟩)])
def st170_top (n:Nat) (lL4:Lq→Bool→Int→Int→Int→Bool→Bool→Lq→Option R170) (a:Lq) (b:Aq):Option R170 :=
 lL4 a false (0:Int) b.1 b.2.1 b.2.2.1 b.2.2.2 ([])
def zeh (n:Nat) (lL4:Lq→Bool→Int→Int→Int→Bool→Bool→Lq→Option R170) (x0:Lq) (x1:Bool) (x2 x3 x4:Int) (x5 x6:Bool) (x7:Lq):Option R170 :=
 cond (decide (x2 < (↑x0.length:Int))) (cond (!x1) (cond (decide (0≤x2)) (cond (decide (x2 < (↑x0.length:Int))) (cond (decide (x3≤(x0.getD x2.toNat ((0:Int),(0:Int),false,false)).1)) (cond (decide ((x7.length + [(x3,x4,x5,x6)].length) * (24:Nat)≤(140737488355328:Nat))) (cond (decide (0≤x2)) (cond (decide (x2 < (↑x0.length:Int))) (cond (decide (((x7 ++ [(x3,x4,x5,x6)]).length + [((x0.getD x2.toNat ((0:Int),(0:Int),false,false)).1,(x0.getD x2.toNat ((0:Int),(0:Int),false,false)).2.1,(x0.getD x2.toNat ((0:Int),(0:Int),false,false)).2.2.1,(x0.getD x2.toNat ((0:Int),(0:Int),false,false)).2.2.2)].length) * (24:Nat)≤(140737488355328:Nat))) (lL4 x0 true (IntKind.i64.wrap (x2 + 1)) x3 x4 x5 x6 (x7 ++ [(x3,x4,x5,x6)] ++ [((x0.getD x2.toNat ((0:Int),(0:Int),false,false)).1,(x0.getD x2.toNat ((0:Int),(0:Int),false,false)).2.1,(x0.getD x2.toNat ((0:Int),(0:Int),false,false)).2.2.1,(x0.getD x2.toNat ((0:Int),(0:Int),false,false)).2.2.2)])) none) none) none) none) (cond (decide (0≤x2)) (cond (decide (x2 < (↑x0.length:Int))) (cond (decide ((x7.length + [((x0.getD x2.toNat ((0:Int),(0:Int),false,false)).1,(x0.getD x2.toNat ((0:Int),(0:Int),false,false)).2.1,(x0.getD x2.toNat ((0:Int),(0:Int),false,false)).2.2.1,(x0.getD x2.toNat ((0:Int),(0:Int),false,false)).2.2.2)].length) * (24:Nat)≤(140737488355328:Nat))) (lL4 x0 x1 (IntKind.i64.wrap (x2 + 1)) x3 x4 x5 x6 (x7 ++ [((x0.getD x2.toNat ((0:Int),(0:Int),false,false)).1,(x0.getD x2.toNat ((0:Int),(0:Int),false,false)).2.1,(x0.getD x2.toNat ((0:Int),(0:Int),false,false)).2.2.1,(x0.getD x2.toNat ((0:Int),(0:Int),false,false)).2.2.2)])) none) none) none)) none) none) (cond (decide (0≤x2)) (cond (decide (x2 < (↑x0.length:Int))) (cond (decide ((x7.length + [((x0.getD x2.toNat ((0:Int),(0:Int),false,false)).1,(x0.getD x2.toNat ((0:Int),(0:Int),false,false)).2.1,(x0.getD x2.toNat ((0:Int),(0:Int),false,false)).2.2.1,(x0.getD x2.toNat ((0:Int),(0:Int),false,false)).2.2.2)].length) * (24:Nat)≤(140737488355328:Nat))) (lL4 x0 x1 (IntKind.i64.wrap (x2 + 1)) x3 x4 x5 x6 (x7 ++ [((x0.getD x2.toNat ((0:Int),(0:Int),false,false)).1,(x0.getD x2.toNat ((0:Int),(0:Int),false,false)).2.1,(x0.getD x2.toNat ((0:Int),(0:Int),false,false)).2.2.1,(x0.getD x2.toNat ((0:Int),(0:Int),false,false)).2.2.2)])) none) none) none)) (cond (!x1) (cond (decide ((x7.length + [(x3,x4,x5,x6)].length) * (24:Nat)≤(140737488355328:Nat))) (some ((x7 ++ [(x3,x4,x5,x6)],()),())) none) (some ((x7,()),())))
theorem e170_top (n:Nat) (a:Lq) (b:Aq):runF TT G170 an170 Try.f170 c170 ps170 rs170 n (a,b,())=st170_top n (fun x0 x1 x2 x3 x4 x5 x6 x7=>at170 n (.head 4) [n] (zgf x0 x1 x2 x3 x4 x5 x6 x7)) a b:=by kernel_rfl
theorem e170_L4_0 (n:Nat) (x0:Lq) (x1:Bool) (x2 x3 x4:Int) (x5 x6:Bool) (x7:Lq):at170 n (.head 4) [0] (zgf x0 x1 x2 x3 x4 x5 x6 x7)=none:=by kernel_rfl
theorem e170_L4 (n:Nat) (m4:Nat) (x0:Lq) (x1:Bool) (x2 x3 x4:Int) (x5 x6:Bool) (x7:Lq):at170 n (.head 4) [m4 + 1] (zgf x0 x1 x2 x3 x4 x5 x6 x7)=zeh n (fun x0 x1 x2 x3 x4 x5 x6 x7=>at170 n (.head 4) [m4] (zgf x0 x1 x2 x3 x4 x5 x6 x7)) x0 x1 x2 x3 x4 x5 x6 x7:=by kernel_rfl
def p170_L4 (n:Nat):Nat→Lq→Bool→Int→Int→Int→Bool→Bool→Lq→Option R170
 | 0,_,_,_,_,_,_,_,_=>none
 | m + 1,x0,x1,x2,x3,x4,x5,x6,x7=>zeh n (p170_L4 n m) x0 x1 x2 x3 x4 x5 x6 x7
def p170 (n:Nat) (a:Lq) (b:Aq):Option R170:=st170_top n (p170_L4 n n) a b
theorem t170_L4 (n:Nat):∀ (m4:Nat) (x0:Lq) (x1:Bool) (x2 x3 x4:Int) (x5 x6:Bool) (x7:Lq),at170 n (.head 4) [m4] (zgf x0 x1 x2 x3 x4 x5 x6 x7)=p170_L4 n m4 x0 x1 x2 x3 x4 x5 x6 x7:=by
 intro m
 induction m with
 | zero=>intros; rw [e170_L4_0]; rfl
 | succ m ih =>
  intros
  rw [e170_L4]
  try simp only [ih]
  rfl
def q170 (n:Nat) (x:argsD ps170):Option R170:=p170 n x.1 x.2.1
def Sm170:Sm:=⟨ps170,rs170,false,q170⟩
theorem gam170:GamOK Try.prog G170:=fun _ _ h=>by cases h
theorem hh170:Hp 170 Sm170:=hOf (zae (an:=an170) (c:=c170) tt_ok gam170 mixed Try.func170 (by kernel_rfl) rfl (by decide +kernel)) fun n x=>(e170_top n x.1 x.2.1).trans (by simp only [t170_L4]; try rfl)
theorem y170:Gk 170 Sm170:=⟨⟨Try.f170,c170,Try.func170,by kernel_rfl,by decide +kernel⟩,hh170⟩
def c152:Code:=(Try.f152.body.getD .skip)
def an152:An:=⟨fun _=>⟨[],[]⟩,fun _ _=>none⟩
abbrev ps152:List PK:=[.val (.row 116 tAr) false,.val tAr true]
abbrev rs152:List RK:=[.own (.row 116 tAr) false,.val .bool false]
abbrev R152:=retsD rs152 × outsD ps152
def G152:Gam:=fun f=>match f with | 127=>some Sm127 | 158=>some Sm158 | 170=>some Sm170 | _=>none
def zfu (n:Nat) (a:Lq) (b:Aq):Option R152 :=
 (q127 n (a,())).bind fun r0=>cond (!r0.1.1) (some (([],(false,())),())) ((q158 n ((b.1,b.2.1,b.2.2.1,b.2.2.2),())).bind fun r1=>cond (!r1.1.1) (some (([],(false,())),())) ((q170 n (a,(b.1,b.2.1,b.2.2.1,b.2.2.2),())).bind fun r2=>(q127 n (r2.1.1,())).bind fun r3=>cond (!r3.1.1) (some (([],(false,())),())) (some ((r2.1.1,(true,())),()))))
theorem e152_top (n:Nat) (a:Lq) (b:Aq):runF TT G152 an152 Try.f152 c152 ps152 rs152 n (a,b,())=zfu n a b:=by kernel_rfl
def p152 (n:Nat) (a:Lq) (b:Aq):Option R152:=zfu n a b
def q152 (n:Nat) (x:argsD ps152):Option R152:=p152 n x.1 x.2.1
def Sm152:Sm:=⟨ps152,rs152,false,q152⟩
theorem gam152:GamOK Try.prog G152:=by intro f s h; unfold G152 at h; split at h; exact gj h y127; exact gj h y158; exact gj h y170; cases h
theorem hh152:Hp 152 Sm152:=hOf (zae (an:=an152) (c:=c152) tt_ok gam152 mixed Try.func152 (by kernel_rfl) rfl (by decide +kernel)) fun n x=>(e152_top n x.1 x.2.1).trans rfl
theorem y152:Gk 152 Sm152:=⟨⟨Try.f152,c152,Try.func152,by kernel_rfl,by decide +kernel⟩,hh152⟩
def c108:Code:=(Try.f108.body.getD .skip)
def an108:An:=⟨fun _=>⟨[],[]⟩,fun _ _=>none⟩
abbrev ps108:List PK:=[.own tMem true,.val i64 false,.val tAr true]
abbrev rs108:List RK:=[.own tMem true,.val i64 false]
abbrev R108:=retsD rs108 × outsD ps108
def G108:Gam:=fun f=>match f with | 152=>some Sm152 | _=>none
def zf4 (n:Nat) (a:Mm) (b:Int) (c:Aq):Option R108 :=
 cond (decide ((0:Int)≤b)) (cond (decide (b < (↑(List.length a.2.2.1):Int))) ((q152 n ((List.getD a.2.2.1 b.toNat (false,[],[])).2.1,(c.1,c.2.1,c.2.2.1,c.2.2.2),())).bind fun r0=>cond (!r0.1.2.1) (some ((((a.1.1,a.1.2),((a.2.1.1,a.2.1.2),(a.2.2.1,a.2.2.2))),((4:Int),())),())) (cond (decide ((0:Int)≤b)) (cond (decide (b < (↑(List.length a.2.2.1):Int))) (some ((((a.1.1,a.1.2),((a.2.1.1,a.2.1.2),(List.set a.2.2.1 b.toNat ((List.getD a.2.2.1 b.toNat (false,[],[])).1,r0.1.1,(List.getD a.2.2.1 b.toNat (false,[],[])).2.2),a.2.2.2))),((0:Int),())),())) none) none)) none) none
theorem e108_top (n:Nat) (a:Mm) (b:Int) (c:Aq):runF TT G108 an108 Try.f108 c108 ps108 rs108 n (a,b,c,())=zf4 n a b c:=by kernel_rfl
def p108 (n:Nat) (a:Mm) (b:Int) (c:Aq):Option R108:=zf4 n a b c
def q108 (n:Nat) (x:argsD ps108):Option R108:=p108 n x.1 x.2.1 x.2.2.1
def Sm108:Sm:=⟨ps108,rs108,false,q108⟩
theorem gam108:GamOK Try.prog G108:=by intro f s h; unfold G108 at h; split at h; exact gj h y152; cases h
theorem hh108:Hp 108 Sm108:=hOf (zae (an:=an108) (c:=c108) tt_ok gam108 mixed Try.func108 (by kernel_rfl) rfl (by decide +kernel)) fun n x=>(e108_top n x.1 x.2.1 x.2.2.1).trans rfl
theorem y108:Gk 108 Sm108:=⟨⟨Try.f108,c108,Try.func108,by kernel_rfl,by decide +kernel⟩,hh108⟩
def c72:Code:=(Try.f72.body.getD .skip)
def an72:An:=⟨fun _=>⟨[],[]⟩,fun _ _=>none⟩
abbrev ps72:List PK:=[.val .str false,.val i64 false,.val i64 false]
abbrev rs72:List RK:=[.val .str false]
abbrev R72:=retsD rs72 × outsD ps72
def G72:Gam:=fun _=>none
def zib (n:Nat) (a:ByteArray) (b:Int) (c:Int):Option R72 :=
 cond (decide ((0:Int)≤b)) (cond (decide (b≤(↑a.size:Int))) (cond (decide ((a.extract (Int.toNat (0:Int)) b.toNat).size + (List.foldl (fun r n=>r.push (UInt8.ofNat n.toNat)) ByteArray.empty [IntKind.u8.wrap c]).size≤(9223372036854775807:Nat))) (cond (decide ((0:Int)≤IntKind.i64.wrap (b + (1:Int)))) (cond (decide (IntKind.i64.wrap (b + (1:Int))≤(↑a.size:Int))) (cond (decide ((a.extract (Int.toNat (0:Int)) b.toNat ++ List.foldl (fun r n=>r.push (UInt8.ofNat n.toNat)) ByteArray.empty [IntKind.u8.wrap c]).size + (a.extract (IntKind.i64.wrap (b + (1:Int))).toNat (↑a.size:Int).toNat).size≤(9223372036854775807:Nat))) (some ((a.extract (Int.toNat (0:Int)) b.toNat ++ List.foldl (fun r n=>r.push (UInt8.ofNat n.toNat)) ByteArray.empty [IntKind.u8.wrap c] ++ a.extract (IntKind.i64.wrap (b + (1:Int))).toNat (↑a.size:Int).toNat,()),())) none) none) none) none) none) none
theorem e72_top (n:Nat) (a:ByteArray) (b:Int) (c:Int):runF TT G72 an72 Try.f72 c72 ps72 rs72 n (a,b,c,())=zib n a b c:=by kernel_rfl
def p72 (n:Nat) (a:ByteArray) (b:Int) (c:Int):Option R72:=zib n a b c
def q72 (n:Nat) (x:argsD ps72):Option R72:=p72 n x.1 x.2.1 x.2.2.1
def Sm72:Sm:=⟨ps72,rs72,false,q72⟩
theorem gam72:GamOK Try.prog G72:=fun _ _ h=>by cases h
theorem hh72:Hp 72 Sm72:=hOf (zae (an:=an72) (c:=c72) tt_ok gam72 mixed Try.func72 (by kernel_rfl) rfl (by decide +kernel)) fun n x=>(e72_top n x.1 x.2.1 x.2.2.1).trans rfl
theorem y72:Gk 72 Sm72:=⟨⟨Try.f72,c72,Try.func72,by kernel_rfl,by decide +kernel⟩,hh72⟩
def c172:Code:=(Try.f172.body.getD .skip)
def an172:An:=⟨fun r=>match r with | 2=>⟨[1,2,4,6],[]⟩ | _=>⟨[],[]⟩,fun _ _=>none⟩
abbrev ps172:List PK:=[.own tPg true,.val .str false]
abbrev rs172:List RK:=[.own tPg true,.val i64 false]
abbrev R172:=retsD rs172 × outsD ps172
def G172:Gam:=fun _=>none
def at172:Nat→Pt→List Nat→St→Option R172:=atF TT G172 an172 Try.f172 c172 _ _
def zgd (x0:ByteArray) (x1:Int) (x2:Lb) (x3:Li):St:=(St.mk ([Uu,AV.one (SV.str x0),AV.one (SV.bptr 1000000 0),Uu,AV.one (SV.bptr 1000001 0),Uu,Ai x1]++Ur 25) [(1000000,(Ent.box [Sr 1000002,Sr 1000003])),(1000001,(Ent.box [SV.nil,SV.nil])),(1000002,Er ⟨9,Ty.str,x2⟩),(1000003,Er ⟨3,Ty.int .i64,x3⟩)])
def st172_top (n:Nat) (lL2:ByteArray→Int→Lb→Li→Option R172) (a:Lb × Li) (b:ByteArray):Option R172 :=
 lL2 b (0:Int) a.1 a.2
def zeg (n:Nat) (lL2:ByteArray→Int→Lb→Li→Option R172) (x0:ByteArray) (x1:Int) (x2:Lb) (x3:Li):Option R172 :=
 cond (decide (x1 < (↑x3.length:Int))) (cond (decide (0≤x1)) (cond (decide (x1 < (↑x3.length:Int))) (cond (decide (x3.getD x1.toNat (0:Int)=(0:Int))) (cond (decide (0≤x1)) (cond (decide (x1 < (↑x3.length:Int))) (cond (decide (0≤x1)) (cond (decide (x1 < (↑x2.length:Int))) (some (((x2.set x1.toNat x0,x3.set x1.toNat (1:Int)),(x1,())),())) none) none) none) none) (lL2 x0 (IntKind.i64.wrap (x1 + 1)) x2 x3)) none) none) (some (((x2,x3),((-1:Int),())),()))
theorem e172_top (n:Nat) (a:Lb × Li) (b:ByteArray):runF TT G172 an172 Try.f172 c172 ps172 rs172 n (a,b,())=st172_top n (fun x0 x1 x2 x3=>at172 n (.head 2) [n] (zgd x0 x1 x2 x3)) a b:=by kernel_rfl
theorem e172_L2_0 (n:Nat) (x0:ByteArray) (x1:Int) (x2:Lb) (x3:Li):at172 n (.head 2) [0] (zgd x0 x1 x2 x3)=none:=by kernel_rfl
theorem e172_L2 (n:Nat) (m2:Nat) (x0:ByteArray) (x1:Int) (x2:Lb) (x3:Li):at172 n (.head 2) [m2 + 1] (zgd x0 x1 x2 x3)=zeg n (fun x0 x1 x2 x3=>at172 n (.head 2) [m2] (zgd x0 x1 x2 x3)) x0 x1 x2 x3:=by kernel_rfl
def p172_L2 (n:Nat):Nat→ByteArray→Int→Lb→Li→Option R172
 | 0,_,_,_,_=>none
 | m + 1,x0,x1,x2,x3=>zeg n (p172_L2 n m) x0 x1 x2 x3
def p172 (n:Nat) (a:Lb × Li) (b:ByteArray):Option R172:=st172_top n (p172_L2 n n) a b
theorem t172_L2 (n:Nat):∀ (m2:Nat) (x0:ByteArray) (x1:Int) (x2:Lb) (x3:Li),at172 n (.head 2) [m2] (zgd x0 x1 x2 x3)=p172_L2 n m2 x0 x1 x2 x3:=by
 intro m
 induction m with
 | zero=>intros; rw [e172_L2_0]; rfl
 | succ m ih =>
  intros
  rw [e172_L2]
  try simp only [ih]
  rfl
def q172 (n:Nat) (x:argsD ps172):Option R172:=p172 n x.1 x.2.1
def Sm172:Sm:=⟨ps172,rs172,false,q172⟩
theorem gam172:GamOK Try.prog G172:=fun _ _ h=>by cases h
theorem hh172:Hp 172 Sm172:=hOf (zae (an:=an172) (c:=c172) tt_ok gam172 mixed Try.func172 (by kernel_rfl) rfl (by decide +kernel)) fun n x=>(e172_top n x.1 x.2.1).trans (by simp only [t172_L2]; try rfl)
theorem y172:Gk 172 Sm172:=⟨⟨Try.f172,c172,Try.func172,by kernel_rfl,by decide +kernel⟩,hh172⟩
def c174:Code:=(Try.f174.body.getD .skip)
def an174:An:=⟨fun r=>match r with | 2=>⟨[1,2,3,4,5,10,11],[]⟩ | 5=>⟨[1,2,3,4,5,10,11,12],[]⟩ | _=>⟨[],[]⟩,fun _ _=>none⟩
abbrev ps174:List PK:=[.own tMem true,.val i64 false,.val i64 false,.val i64 false,.val i64 false]
abbrev rs174:List RK:=[.own tMem true]
abbrev R174:=retsD rs174 × outsD ps174
def G174:Gam:=fun _=>none
def at174:Nat→Pt→List Nat→St→Option R174:=atF TT G174 an174 Try.f174 c174 _ _
def zgc (x0 x1 x2 x3 x4 x5 x6 x7:Int) (x8:Lb) (x9:Li) (x10:Lb) (x11:Li) (x12:List (Br)):St:=(St.mk ([Uu,Ai x0,Ai x1,Ai x2,Ai x3,AV.one (SV.bptr 1000000 0),Uu,Uu,Uu,Uu,AV.one (SV.bptr 1000001 0),Ai x4,Ai x5]++Ur 52) [(1000000,(Ent.box [Sr 1000002,Sr 1000003,Sr 1000004,Sr 1000005,Sr 1000006,Si x6])),(1000001,(Ent.box [SV.nil,SV.nil,SV.nil,SV.nil,SV.nil,Si x7])),(1000002,Er ⟨9,Ty.str,x8⟩),(1000003,Er ⟨3,Ty.int .i64,x9⟩),(1000004,Er ⟨9,Ty.str,x10⟩),(1000005,Er ⟨3,Ty.int .i64,x11⟩),(1000006,Er ⟨71,ySp,x12⟩)])
def zes (x0 x1 x2 x3 x4 x5 x6:Int) (x7:Lb) (x8:Li) (x9:Lb) (x10:Li) (x11:List (Br)):St:=(St.mk ([Uu,Ai x0,Ai x1,Ai x2,Ai x3,AV.one (SV.bptr 1000000 0),Uu,Uu,Uu,Uu,AV.one (SV.bptr 1000001 0),Ai x4]++Ur 53) [(1000000,(Ent.box [Sr 1000002,Sr 1000003,Sr 1000004,Sr 1000005,Sr 1000006,Si x5])),(1000001,(Ent.box [SV.nil,SV.nil,SV.nil,SV.nil,SV.nil,Si x6])),(1000002,Er ⟨9,Ty.str,x7⟩),(1000003,Er ⟨3,Ty.int .i64,x8⟩),(1000004,Er ⟨9,Ty.str,x9⟩),(1000005,Er ⟨3,Ty.int .i64,x10⟩),(1000006,Er ⟨71,ySp,x11⟩)])
def st174_top (n:Nat) (lL2:Int→Int→Int→Int→Int→Int→Int→Lb→Li→Lb→Li→(List (Br))→Option R174) (a:Mm) (b:Int) (c:Int) (d:Int) (e:Int):Option R174 :=
 lL2 b c d e (0:Int) a.2.2.2 (0:Int) a.1.1 a.1.2 a.2.1.1 a.2.1.2 a.2.2.1
def zee (n:Nat) (lL5:Int→Int→Int→Int→Int→Int→Int→Int→Lb→Li→Lb→Li→(List (Br))→Option R174) (lL2:Int→Int→Int→Int→Int→Int→Int→Lb→Li→Lb→Li→(List (Br))→Option R174) (x0 x1 x2 x3 x4 x5 x6 x7:Int) (x8:Lb) (x9:Li) (x10:Lb) (x11:Li) (x12:List (Br)):Option R174 :=
 cond (decide (0≤x4)) (cond (decide (x4 < (↑x12.length:Int))) (cond (decide (x5 < (↑(List.length (x12.getD x4.toNat (false,[],[])).2.2):Int))) (cond (decide (0≤x4)) (cond (decide (x4 < (↑x12.length:Int))) (cond (decide (0≤x5)) (cond (decide (x5 < (↑(List.length (x12.getD x4.toNat (false,[],[])).2.2):Int))) (cond (decide ((List.getD (x12.getD x4.toNat (false,[],[])).2.2 x5.toNat ((0:Int),(0:Int),false,false)).1=x0)) (cond (decide ((List.getD (x12.getD x4.toNat (false,[],[])).2.2 x5.toNat ((0:Int),(0:Int),false,false)).2.1=x1)) (cond (decide (0≤x4)) (cond (decide (x4 < (↑x12.length:Int))) (cond (decide (0≤x5)) (cond (decide (x5 < (↑(List.length (x12.getD x4.toNat (false,[],[])).2.2):Int))) (lL5 x0 x1 x2 x3 x4 (IntKind.i64.wrap (x5 + 1)) x6 x7 x8 x9 x10 x11 (x12.set x4.toNat ((x12.getD x4.toNat (false,[],[])).1,(x12.getD x4.toNat (false,[],[])).2.1,List.set (x12.getD x4.toNat (false,[],[])).2.2 x5.toNat (x2,x3,(List.getD (x12.getD x4.toNat (false,[],[])).2.2 x5.toNat ((0:Int),(0:Int),false,false)).2.2.1,(List.getD (x12.getD x4.toNat (false,[],[])).2.2 x5.toNat ((0:Int),(0:Int),false,false)).2.2.2)))) none) none) none) none) (lL5 x0 x1 x2 x3 x4 (IntKind.i64.wrap (x5 + 1)) x6 x7 x8 x9 x10 x11 x12)) (lL5 x0 x1 x2 x3 x4 (IntKind.i64.wrap (x5 + 1)) x6 x7 x8 x9 x10 x11 x12)) none) none) none) none) (lL2 x0 x1 x2 x3 (IntKind.i64.wrap (x4 + 1)) x6 x7 x8 x9 x10 x11 x12)) none) none
def zef (n:Nat) (lL5:Int→Int→Int→Int→Int→Int→Int→Int→Lb→Li→Lb→Li→(List (Br))→Option R174) (x0 x1 x2 x3 x4 x5 x6:Int) (x7:Lb) (x8:Li) (x9:Lb) (x10:Li) (x11:List (Br)):Option R174 :=
 cond (decide (x4 < (↑x11.length:Int))) (lL5 x0 x1 x2 x3 x4 (0:Int) x5 x6 x7 x8 x9 x10 x11) (some ((((x7,x8),((x9,x10),(x11,x5))),()),()))
theorem e174_top (n:Nat) (a:Mm) (b:Int) (c:Int) (d:Int) (e:Int):runF TT G174 an174 Try.f174 c174 ps174 rs174 n (a,b,c,d,e,())=st174_top n (fun x0 x1 x2 x3 x4 x5 x6 x7 x8 x9 x10 x11=>at174 n (.head 2) [n] (zes x0 x1 x2 x3 x4 x5 x6 x7 x8 x9 x10 x11)) a b c d e:=by kernel_rfl
theorem e174_L5_0 (n:Nat) (m2:Nat) (x0 x1 x2 x3 x4 x5 x6 x7:Int) (x8:Lb) (x9:Li) (x10:Lb) (x11:Li) (x12:List (Br)):at174 n (.head 5) [m2,0] (zgc x0 x1 x2 x3 x4 x5 x6 x7 x8 x9 x10 x11 x12)=none:=by kernel_rfl
theorem e174_L5 (n:Nat) (m2:Nat) (m5:Nat) (x0 x1 x2 x3 x4 x5 x6 x7:Int) (x8:Lb) (x9:Li) (x10:Lb) (x11:Li) (x12:List (Br)):at174 n (.head 5) [m2,m5 + 1] (zgc x0 x1 x2 x3 x4 x5 x6 x7 x8 x9 x10 x11 x12)=zee n (fun x0 x1 x2 x3 x4 x5 x6 x7 x8 x9 x10 x11 x12=>at174 n (.head 5) [m2,m5] (zgc x0 x1 x2 x3 x4 x5 x6 x7 x8 x9 x10 x11 x12)) (fun x0 x1 x2 x3 x4 x5 x6 x7 x8 x9 x10 x11=>at174 n (.head 2) [m2] (zes x0 x1 x2 x3 x4 x5 x6 x7 x8 x9 x10 x11)) x0 x1 x2 x3 x4 x5 x6 x7 x8 x9 x10 x11 x12:=by kernel_rfl
theorem e174_L2_0 (n:Nat) (x0 x1 x2 x3 x4 x5 x6:Int) (x7:Lb) (x8:Li) (x9:Lb) (x10:Li) (x11:List (Br)):at174 n (.head 2) [0] (zes x0 x1 x2 x3 x4 x5 x6 x7 x8 x9 x10 x11)=none:=by kernel_rfl
theorem e174_L2 (n:Nat) (m2:Nat) (x0 x1 x2 x3 x4 x5 x6:Int) (x7:Lb) (x8:Li) (x9:Lb) (x10:Li) (x11:List (Br)):at174 n (.head 2) [m2 + 1] (zes x0 x1 x2 x3 x4 x5 x6 x7 x8 x9 x10 x11)=zef n (fun x0 x1 x2 x3 x4 x5 x6 x7 x8 x9 x10 x11 x12=>at174 n (.head 5) [m2,n] (zgc x0 x1 x2 x3 x4 x5 x6 x7 x8 x9 x10 x11 x12)) x0 x1 x2 x3 x4 x5 x6 x7 x8 x9 x10 x11:=by kernel_rfl
def p174_L5 (g2:Int→Int→Int→Int→Int→Int→Int→Lb→Li→Lb→Li→(List (Br))→Option R174) (n:Nat):Nat→Int→Int→Int→Int→Int→Int→Int→Int→Lb→Li→Lb→Li→(List (Br))→Option R174
 | 0,_,_,_,_,_,_,_,_,_,_,_,_,_=>none
 | m + 1,x0,x1,x2,x3,x4,x5,x6,x7,x8,x9,x10,x11,x12=>zee n (p174_L5 g2 n m) g2 x0 x1 x2 x3 x4 x5 x6 x7 x8 x9 x10 x11 x12
def zko (n:Nat):Nat→Int→Int→Int→Int→Int→Int→Int→Lb→Li→Lb→Li→(List (Br))→Option R174
 | 0,_,_,_,_,_,_,_,_,_,_,_,_=>none
 | m + 1,x0,x1,x2,x3,x4,x5,x6,x7,x8,x9,x10,x11=>zef n (p174_L5 (zko n m) n n) x0 x1 x2 x3 x4 x5 x6 x7 x8 x9 x10 x11
def p174 (n:Nat) (a:Mm) (b:Int) (c:Int) (d:Int) (e:Int):Option R174:=st174_top n (zko n n) a b c d e
theorem t174_L5 (n:Nat) (m2:Nat):∀ (m5:Nat) (x0 x1 x2 x3 x4 x5 x6 x7:Int) (x8:Lb) (x9:Li) (x10:Lb) (x11:Li) (x12:List (Br)),at174 n (.head 5) [m2,m5] (zgc x0 x1 x2 x3 x4 x5 x6 x7 x8 x9 x10 x11 x12)=p174_L5 (fun x0 x1 x2 x3 x4 x5 x6 x7 x8 x9 x10 x11=>at174 n (.head 2) [m2] (zes x0 x1 x2 x3 x4 x5 x6 x7 x8 x9 x10 x11)) n m5 x0 x1 x2 x3 x4 x5 x6 x7 x8 x9 x10 x11 x12:=by
 intro m
 induction m with
 | zero=>intros; rw [e174_L5_0]; rfl
 | succ m ih =>
  intros
  rw [e174_L5]
  try simp only [ih]
  rfl
theorem t174_L2 (n:Nat):∀ (m2:Nat) (x0 x1 x2 x3 x4 x5 x6:Int) (x7:Lb) (x8:Li) (x9:Lb) (x10:Li) (x11:List (Br)),at174 n (.head 2) [m2] (zes x0 x1 x2 x3 x4 x5 x6 x7 x8 x9 x10 x11)=zko n m2 x0 x1 x2 x3 x4 x5 x6 x7 x8 x9 x10 x11:=by
 intro m
 induction m with
 | zero=>intros; rw [e174_L2_0]; rfl
 | succ m ih =>
  intros
  rw [e174_L2]
  try simp only [t174_L5,ih]
  rfl
def q174 (n:Nat) (x:argsD ps174):Option R174:=p174 n x.1 x.2.1 x.2.2.1 x.2.2.2.1 x.2.2.2.2.1
def Sm174:Sm:=⟨ps174,rs174,false,q174⟩
theorem gam174:GamOK Try.prog G174:=fun _ _ h=>by cases h
theorem hh174:Hp 174 Sm174:=hOf (zae (an:=an174) (c:=c174) tt_ok gam174 mixed Try.func174 (by kernel_rfl) rfl (by decide +kernel)) fun n x=>(e174_top n x.1 x.2.1 x.2.2.1 x.2.2.2.1 x.2.2.2.2.1).trans (by simp only [t174_L2]; try rfl)
theorem y174:Gk 174 Sm174:=⟨⟨Try.f174,c174,Try.func174,by kernel_rfl,by decide +kernel⟩,hh174⟩
def c180:Code:=(Try.f180.body.getD .skip)
def an180:An:=⟨fun r=>match r with | 3=>⟨[1,3,4],[]⟩ | _=>⟨[],[]⟩,fun _ _=>none⟩
abbrev ps180:List PK:=[.val tPg true]
abbrev rs180:List RK:=[.val i64 false]
abbrev R180:=retsD rs180 × outsD ps180
def G180:Gam:=fun _=>none
def at180:Nat→Pt→List Nat→St→Option R180:=atF TT G180 an180 Try.f180 c180 _ _
def zf_ (x0 x1:Int) (x2:Lb) (x3:Li):St:=(St.mk ([Uu,AV.one (SV.bptr 1000000 0),Uu,Ai x0,Ai x1]++Ur 16) [(1000000,(Ent.box [SV.con (⟨9,Ty.str,x2⟩:Rw),SV.con (⟨3,Ty.int .i64,x3⟩:Rw)]))])
def st180_top (n:Nat) (lL3:Int→Int→Lb→Li→Option R180) (a:Lb × Li):Option R180 :=
 lL3 (0:Int) (0:Int) a.1 a.2
def zd_ (n:Nat) (lL3:Int→Int→Lb→Li→Option R180) (x0 x1:Int) (x2:Lb) (x3:Li):Option R180 :=
 cond (decide (x1 < (↑x3.length:Int))) (cond (decide (0≤x1)) (cond (decide (x1 < (↑x3.length:Int))) (cond (decide (x3.getD x1.toNat (0:Int)=(0:Int))) (lL3 (IntKind.i64.wrap (x0 + 1)) (IntKind.i64.wrap (x1 + 1)) x2 x3) (lL3 x0 (IntKind.i64.wrap (x1 + 1)) x2 x3)) none) none) (some ((x0,()),()))
theorem e180_top (n:Nat) (a:Lb × Li):runF TT G180 an180 Try.f180 c180 ps180 rs180 n (a,())=st180_top n (fun x0 x1 x2 x3=>at180 n (.head 3) [n] (zf_ x0 x1 x2 x3)) a:=by kernel_rfl
theorem e180_L3_0 (n:Nat) (x0 x1:Int) (x2:Lb) (x3:Li):at180 n (.head 3) [0] (zf_ x0 x1 x2 x3)=none:=by kernel_rfl
theorem e180_L3 (n:Nat) (m3:Nat) (x0 x1:Int) (x2:Lb) (x3:Li):at180 n (.head 3) [m3 + 1] (zf_ x0 x1 x2 x3)=zd_ n (fun x0 x1 x2 x3=>at180 n (.head 3) [m3] (zf_ x0 x1 x2 x3)) x0 x1 x2 x3:=by kernel_rfl
def p180_L3 (n:Nat):Nat→Int→Int→Lb→Li→Option R180
 | 0,_,_,_,_=>none
 | m + 1,x0,x1,x2,x3=>zd_ n (p180_L3 n m) x0 x1 x2 x3
def p180 (n:Nat) (a:Lb × Li):Option R180:=st180_top n (p180_L3 n n) a
theorem t180_L3 (n:Nat):∀ (m3:Nat) (x0 x1:Int) (x2:Lb) (x3:Li),at180 n (.head 3) [m3] (zf_ x0 x1 x2 x3)=p180_L3 n m3 x0 x1 x2 x3:=by
 intro m
 induction m with
 | zero=>intros; rw [e180_L3_0]; rfl
 | succ m ih =>
  intros
  rw [e180_L3]
  try simp only [ih]
  rfl
def q180 (n:Nat) (x:argsD ps180):Option R180:=p180 n x.1
def Sm180:Sm:=⟨ps180,rs180,false,q180⟩
theorem gam180:GamOK Try.prog G180:=fun _ _ h=>by cases h
theorem hh180:Hp 180 Sm180:=hOf (zae (an:=an180) (c:=c180) tt_ok gam180 mixed Try.func180 (by kernel_rfl) rfl (by decide +kernel)) fun n x=>(e180_top n x.1).trans (by simp only [t180_L3]; try rfl)
theorem y180:Gk 180 Sm180:=⟨⟨Try.f180,c180,Try.func180,by kernel_rfl,by decide +kernel⟩,hh180⟩
def c181:Code:=(Try.f181.body.getD .skip)
def an181:An:=⟨fun r=>match r with | 3=>⟨[1,2,4,6,7],[]⟩ | 6=>⟨[1,2,4,6,7,8],[]⟩ | _=>⟨[],[]⟩,fun _ _=>none⟩
abbrev ps181:List PK:=[.own tMem true,.val i64 false]
abbrev rs181:List RK:=[.own tMem true,.val .bool false]
abbrev R181:=retsD rs181 × outsD ps181
def G181:Gam:=fun _=>none
def at181:Nat→Pt→List Nat→St→Option R181:=atF TT G181 an181 Try.f181 c181 _ _
def zf9 (x0:Int) (x1:Bool) (x2 x3 x4 x5:Int) (x6:Lb) (x7:Li) (x8:Lb) (x9:Li) (x10:List (Br)):St:=(St.mk ([Uu,Ai x0,AV.one (SV.bptr 1000000 0),Uu,AV.one (SV.bptr 1000001 0),Uu,AV.one (SV.bool x1),Ai x2,Ai x3]++Ur 53) [(1000000,(Ent.box [Sr 1000002,Sr 1000003,Sr 1000004,Sr 1000005,Sr 1000006,Si x4])),(1000001,(Ent.box [SV.nil,SV.nil,SV.nil,SV.nil,SV.nil,Si x5])),(1000002,Er ⟨9,Ty.str,x6⟩),(1000003,Er ⟨3,Ty.int .i64,x7⟩),(1000004,Er ⟨9,Ty.str,x8⟩),(1000005,Er ⟨3,Ty.int .i64,x9⟩),(1000006,Er ⟨71,ySp,x10⟩)])
def zeq (x0:Int) (x1:Bool) (x2 x3 x4:Int) (x5:Lb) (x6:Li) (x7:Lb) (x8:Li) (x9:List (Br)):St:=(St.mk ([Uu,Ai x0,AV.one (SV.bptr 1000000 0),Uu,AV.one (SV.bptr 1000001 0),Uu,AV.one (SV.bool x1),Ai x2]++Ur 54) [(1000000,(Ent.box [Sr 1000002,Sr 1000003,Sr 1000004,Sr 1000005,Sr 1000006,Si x3])),(1000001,(Ent.box [SV.nil,SV.nil,SV.nil,SV.nil,SV.nil,Si x4])),(1000002,Er ⟨9,Ty.str,x5⟩),(1000003,Er ⟨3,Ty.int .i64,x6⟩),(1000004,Er ⟨9,Ty.str,x7⟩),(1000005,Er ⟨3,Ty.int .i64,x8⟩),(1000006,Er ⟨71,ySp,x9⟩)])
def st181_top (n:Nat) (lL3:Int→Bool→Int→Int→Int→Lb→Li→Lb→Li→(List (Br))→Option R181) (a:Mm) (b:Int):Option R181 :=
 lL3 b false (0:Int) a.2.2.2 (0:Int) a.1.1 a.1.2 a.2.1.1 a.2.1.2 a.2.2.1
def zd8 (n:Nat) (lL6:Int→Bool→Int→Int→Int→Int→Lb→Li→Lb→Li→(List (Br))→Option R181) (lL3:Int→Bool→Int→Int→Int→Lb→Li→Lb→Li→(List (Br))→Option R181) (x0:Int) (x1:Bool) (x2 x3 x4 x5:Int) (x6:Lb) (x7:Li) (x8:Lb) (x9:Li) (x10:List (Br)):Option R181 :=
 cond (decide (0≤x2)) (cond (decide (x2 < (↑x10.length:Int))) (cond (decide (x3 < (↑(List.length (x10.getD x2.toNat (false,[],[])).2.2):Int))) (cond (decide (0≤x2)) (cond (decide (x2 < (↑x10.length:Int))) (cond (decide (0≤x3)) (cond (decide (x3 < (↑(List.length (x10.getD x2.toNat (false,[],[])).2.2):Int))) (cond (decide ((List.getD (x10.getD x2.toNat (false,[],[])).2.2 x3.toNat ((0:Int),(0:Int),false,false)).1=(1:Int))) (cond (decide ((List.getD (x10.getD x2.toNat (false,[],[])).2.2 x3.toNat ((0:Int),(0:Int),false,false)).2.1=x0)) (cond x1 (cond (decide (0≤x2)) (cond (decide (x2 < (↑x10.length:Int))) (cond (decide (0≤x3)) (cond (decide (x3 < (↑(List.length (x10.getD x2.toNat (false,[],[])).2.2):Int))) (lL6 x0 true x2 (IntKind.i64.wrap (x3 + 1)) x4 x5 x6 x7 x8 x9 (x10.set x2.toNat ((x10.getD x2.toNat (false,[],[])).1,(x10.getD x2.toNat (false,[],[])).2.1,List.set (x10.getD x2.toNat (false,[],[])).2.2 x3.toNat ((List.getD (x10.getD x2.toNat (false,[],[])).2.2 x3.toNat ((0:Int),(0:Int),false,false)).1,(List.getD (x10.getD x2.toNat (false,[],[])).2.2 x3.toNat ((0:Int),(0:Int),false,false)).2.1,(List.getD (x10.getD x2.toNat (false,[],[])).2.2 x3.toNat ((0:Int),(0:Int),false,false)).2.2.1,false)))) none) none) none) none) (cond (decide (0≤x2)) (cond (decide (x2 < (↑x10.length:Int))) (cond (decide (0≤x3)) (cond (decide (x3 < (↑(List.length (x10.getD x2.toNat (false,[],[])).2.2):Int))) (lL6 x0 ((List.getD (x10.getD x2.toNat (false,[],[])).2.2 x3.toNat ((0:Int),(0:Int),false,false)).2.2.2) x2 (IntKind.i64.wrap (x3 + 1)) x4 x5 x6 x7 x8 x9 (x10.set x2.toNat ((x10.getD x2.toNat (false,[],[])).1,(x10.getD x2.toNat (false,[],[])).2.1,List.set (x10.getD x2.toNat (false,[],[])).2.2 x3.toNat ((List.getD (x10.getD x2.toNat (false,[],[])).2.2 x3.toNat ((0:Int),(0:Int),false,false)).1,(List.getD (x10.getD x2.toNat (false,[],[])).2.2 x3.toNat ((0:Int),(0:Int),false,false)).2.1,(List.getD (x10.getD x2.toNat (false,[],[])).2.2 x3.toNat ((0:Int),(0:Int),false,false)).2.2.1,false)))) none) none) none) none)) (lL6 x0 x1 x2 (IntKind.i64.wrap (x3 + 1)) x4 x5 x6 x7 x8 x9 x10)) (lL6 x0 x1 x2 (IntKind.i64.wrap (x3 + 1)) x4 x5 x6 x7 x8 x9 x10)) none) none) none) none) (lL3 x0 x1 (IntKind.i64.wrap (x2 + 1)) x4 x5 x6 x7 x8 x9 x10)) none) none
def zd9 (n:Nat) (lL6:Int→Bool→Int→Int→Int→Int→Lb→Li→Lb→Li→(List (Br))→Option R181) (x0:Int) (x1:Bool) (x2 x3 x4:Int) (x5:Lb) (x6:Li) (x7:Lb) (x8:Li) (x9:List (Br)):Option R181 :=
 cond (decide (x2 < (↑x9.length:Int))) (lL6 x0 x1 x2 (0:Int) x3 x4 x5 x6 x7 x8 x9) (some ((((x5,x6),((x7,x8),(x9,x3))),(x1,())),()))
theorem e181_top (n:Nat) (a:Mm) (b:Int):runF TT G181 an181 Try.f181 c181 ps181 rs181 n (a,b,())=st181_top n (fun x0 x1 x2 x3 x4 x5 x6 x7 x8 x9=>at181 n (.head 3) [n] (zeq x0 x1 x2 x3 x4 x5 x6 x7 x8 x9)) a b:=by kernel_rfl
theorem e181_L6_0 (n:Nat) (m3:Nat) (x0:Int) (x1:Bool) (x2 x3 x4 x5:Int) (x6:Lb) (x7:Li) (x8:Lb) (x9:Li) (x10:List (Br)):at181 n (.head 6) [m3,0] (zf9 x0 x1 x2 x3 x4 x5 x6 x7 x8 x9 x10)=none:=by kernel_rfl
theorem e181_L6 (n:Nat) (m3:Nat) (m6:Nat) (x0:Int) (x1:Bool) (x2 x3 x4 x5:Int) (x6:Lb) (x7:Li) (x8:Lb) (x9:Li) (x10:List (Br)):at181 n (.head 6) [m3,m6 + 1] (zf9 x0 x1 x2 x3 x4 x5 x6 x7 x8 x9 x10)=zd8 n (fun x0 x1 x2 x3 x4 x5 x6 x7 x8 x9 x10=>at181 n (.head 6) [m3,m6] (zf9 x0 x1 x2 x3 x4 x5 x6 x7 x8 x9 x10)) (fun x0 x1 x2 x3 x4 x5 x6 x7 x8 x9=>at181 n (.head 3) [m3] (zeq x0 x1 x2 x3 x4 x5 x6 x7 x8 x9)) x0 x1 x2 x3 x4 x5 x6 x7 x8 x9 x10:=by kernel_rfl
theorem e181_L3_0 (n:Nat) (x0:Int) (x1:Bool) (x2 x3 x4:Int) (x5:Lb) (x6:Li) (x7:Lb) (x8:Li) (x9:List (Br)):at181 n (.head 3) [0] (zeq x0 x1 x2 x3 x4 x5 x6 x7 x8 x9)=none:=by kernel_rfl
theorem e181_L3 (n:Nat) (m3:Nat) (x0:Int) (x1:Bool) (x2 x3 x4:Int) (x5:Lb) (x6:Li) (x7:Lb) (x8:Li) (x9:List (Br)):at181 n (.head 3) [m3 + 1] (zeq x0 x1 x2 x3 x4 x5 x6 x7 x8 x9)=zd9 n (fun x0 x1 x2 x3 x4 x5 x6 x7 x8 x9 x10=>at181 n (.head 6) [m3,n] (zf9 x0 x1 x2 x3 x4 x5 x6 x7 x8 x9 x10)) x0 x1 x2 x3 x4 x5 x6 x7 x8 x9:=by kernel_rfl
def p181_L6 (g3:Int→Bool→Int→Int→Int→Lb→Li→Lb→Li→(List (Br))→Option R181) (n:Nat):Nat→Int→Bool→Int→Int→Int→Int→Lb→Li→Lb→Li→(List (Br))→Option R181
 | 0,_,_,_,_,_,_,_,_,_,_,_=>none
 | m + 1,x0,x1,x2,x3,x4,x5,x6,x7,x8,x9,x10=>zd8 n (p181_L6 g3 n m) g3 x0 x1 x2 x3 x4 x5 x6 x7 x8 x9 x10
def zkk (n:Nat):Nat→Int→Bool→Int→Int→Int→Lb→Li→Lb→Li→(List (Br))→Option R181
 | 0,_,_,_,_,_,_,_,_,_,_=>none
 | m + 1,x0,x1,x2,x3,x4,x5,x6,x7,x8,x9=>zd9 n (p181_L6 (zkk n m) n n) x0 x1 x2 x3 x4 x5 x6 x7 x8 x9
def p181 (n:Nat) (a:Mm) (b:Int):Option R181:=st181_top n (zkk n n) a b
theorem t181_L6 (n:Nat) (m3:Nat):∀ (m6:Nat) (x0:Int) (x1:Bool) (x2 x3 x4 x5:Int) (x6:Lb) (x7:Li) (x8:Lb) (x9:Li) (x10:List (Br)),at181 n (.head 6) [m3,m6] (zf9 x0 x1 x2 x3 x4 x5 x6 x7 x8 x9 x10)=p181_L6 (fun x0 x1 x2 x3 x4 x5 x6 x7 x8 x9=>at181 n (.head 3) [m3] (zeq x0 x1 x2 x3 x4 x5 x6 x7 x8 x9)) n m6 x0 x1 x2 x3 x4 x5 x6 x7 x8 x9 x10:=by
 intro m
 induction m with
 | zero=>intros; rw [e181_L6_0]; rfl
 | succ m ih =>
  intros
  rw [e181_L6]
  try simp only [ih]
  rfl
theorem t181_L3 (n:Nat):∀ (m3:Nat) (x0:Int) (x1:Bool) (x2 x3 x4:Int) (x5:Lb) (x6:Li) (x7:Lb) (x8:Li) (x9:List (Br)),at181 n (.head 3) [m3] (zeq x0 x1 x2 x3 x4 x5 x6 x7 x8 x9)=zkk n m3 x0 x1 x2 x3 x4 x5 x6 x7 x8 x9:=by
 intro m
 induction m with
 | zero=>intros; rw [e181_L3_0]; rfl
 | succ m ih =>
  intros
  rw [e181_L3]
  try simp only [t181_L6,ih]
  rfl
def q181 (n:Nat) (x:argsD ps181):Option R181:=p181 n x.1 x.2.1
def Sm181:Sm:=⟨ps181,rs181,false,q181⟩
theorem gam181:GamOK Try.prog G181:=fun _ _ h=>by cases h
theorem hh181:Hp 181 Sm181:=hOf (zae (an:=an181) (c:=c181) tt_ok gam181 mixed Try.func181 (by kernel_rfl) rfl (by decide +kernel)) fun n x=>(e181_top n x.1 x.2.1).trans (by simp only [t181_L3]; try rfl)
theorem y181:Gk 181 Sm181:=⟨⟨Try.f181,c181,Try.func181,by kernel_rfl,by decide +kernel⟩,hh181⟩
def c171:Code:=(Try.f171.body.getD .skip)
def an171:An:=⟨fun r=>match r with | 5=>⟨[1,2,4],[]⟩ | _=>⟨[],[]⟩,fun _ _=>none⟩
abbrev ps171:List PK:=[.own tMem true,.val i64 false]
abbrev rs171:List RK:=[.own tMem true,.val .bool false]
abbrev R171:=retsD rs171 × outsD ps171
def G171:Gam:=fun f=>match f with | 172=>some Sm172 | 174=>some Sm174 | 180=>some Sm180 | 181=>some Sm181 | _=>none
def at171:Nat→Pt→List Nat→St→Option R171:=atF TT G171 an171 Try.f171 c171 _ _
def zge (x0 x1 x2:Int) (x3:Lb) (x4:Li) (x5:Lb) (x6:Li) (x7:List (Br)):St:=(St.mk ([Uu,Ai x0,AV.one (SV.bptr 1000000 0),Uu,AV.one (SV.bptr 1000001 0)]++Ur 75) [(1000000,(Ent.box [Sr 1000002,Sr 1000003,Sr 1000004,Sr 1000005,Sr 1000006,Si x1])),(1000001,(Ent.box [SV.nil,SV.nil,SV.nil,SV.nil,SV.nil,Si x2])),(1000002,Er ⟨9,Ty.str,x3⟩),(1000003,Er ⟨3,Ty.int .i64,x4⟩),(1000004,Er ⟨9,Ty.str,x5⟩),(1000005,Er ⟨3,Ty.int .i64,x6⟩),(1000006,Er ⟨71,ySp,x7⟩)])
def zcw (n:Nat) (lL5:Int→Int→Int→Lb→Li→Lb→Li→(List (Br))→Option R171) (a:Mm) (b:Int):Option R171 :=
 (q180 n ((a.1.1,a.1.2),())).bind fun r0=>cond (decide ((0:Int) < r0.1.1)) (some ((((a.1.1,a.1.2),((a.2.1.1,a.2.1.2),(a.2.2.1,a.2.2.2))),(true,())),())) ((q180 n ((a.2.1.1,a.2.1.2),())).bind fun r1=>cond (decide (r1.1.1=(0:Int))) (some ((((a.1.1,a.1.2),((a.2.1.1,a.2.1.2),(a.2.2.1,a.2.2.2))),(false,())),())) (lL5 b a.2.2.2 (0:Int) a.1.1 a.1.2 a.2.1.1 a.2.1.2 a.2.2.1))
def ziy (n:Nat) (lL5:Int→Int→Int→Lb→Li→Lb→Li→(List (Br))→Option R171) (x0 x1 x2:Int) (x3:Lb) (x4:Li) (x5:Lb) (x6:Li) (x7:List (Br)):Option R171 :=
 cond (decide (x1=x0)) (lL5 x0 ((IntKind.i64.wrap (x1 + 1)).tmod (12:Int)) x2 x3 x4 x5 x6 x7) ((q181 n (((x3,x4),(x5,x6),x7,(IntKind.i64.wrap (x1 + 1)).tmod (12:Int)),x1,())).bind fun r3=>cond r3.1.2.1 (lL5 x0 r3.1.1.2.2.2 x2 r3.1.1.1.1 r3.1.1.1.2 r3.1.1.2.1.1 r3.1.1.2.1.2 r3.1.1.2.2.1) (cond (decide (0≤x1)) (cond (decide (x1 < (↑(List.length r3.1.1.1.2):Int))) (cond (decide (0≤x1)) (cond (decide (x1 < (↑(List.length r3.1.1.1.1):Int))) ((q172 n ((r3.1.1.2.1.1,r3.1.1.2.1.2),List.getD r3.1.1.1.1 x1.toNat ByteArray.empty,())).bind fun r4=>cond (decide ((0:Int)≤r4.1.2.1)) (cond (decide (r4.1.2.1 < (↑(List.length r4.1.1.2):Int))) ((q174 n (((r3.1.1.1.1,r3.1.1.1.2),(r4.1.1.1,List.set r4.1.1.2 (Int.toNat r4.1.2.1) (List.getD r3.1.1.1.2 x1.toNat (0:Int))),r3.1.1.2.2.1,r3.1.1.2.2.2),(1:Int),x1,(2:Int),r4.1.2.1,())).bind fun r5=>cond (decide (0≤x1)) (cond (decide (x1 < (↑(List.length r5.1.1.1.2):Int))) (cond (decide (0≤x1)) (cond (decide (x1 < (↑(List.length r5.1.1.1.1):Int))) (some ((((List.set r5.1.1.1.1 x1.toNat (ByteArray.mk #[]),List.set r5.1.1.1.2 x1.toNat (0:Int)),((r5.1.1.2.1.1,r5.1.1.2.1.2),(r5.1.1.2.2.1,r5.1.1.2.2.2))),(true,())),())) none) none) none) none) none) none) none) none) none) none))
theorem e171_top (n:Nat) (a:Mm) (b:Int):runF TT G171 an171 Try.f171 c171 ps171 rs171 n (a,b,())=zcw n (fun x0 x1 x2 x3 x4 x5 x6 x7=>at171 n (.head 5) [n] (zge x0 x1 x2 x3 x4 x5 x6 x7)) a b:=by kernel_rfl
theorem e171_L5_0 (n:Nat) (x0 x1 x2:Int) (x3:Lb) (x4:Li) (x5:Lb) (x6:Li) (x7:List (Br)):at171 n (.head 5) [0] (zge x0 x1 x2 x3 x4 x5 x6 x7)=none:=by kernel_rfl
theorem e171_L5 (n:Nat) (m5:Nat) (x0 x1 x2:Int) (x3:Lb) (x4:Li) (x5:Lb) (x6:Li) (x7:List (Br)):at171 n (.head 5) [m5 + 1] (zge x0 x1 x2 x3 x4 x5 x6 x7)=ziy n (fun x0 x1 x2 x3 x4 x5 x6 x7=>at171 n (.head 5) [m5] (zge x0 x1 x2 x3 x4 x5 x6 x7)) x0 x1 x2 x3 x4 x5 x6 x7:=by kernel_rfl
def zkp (n:Nat):Nat→Int→Int→Int→Lb→Li→Lb→Li→(List (Br))→Option R171
 | 0,_,_,_,_,_,_,_,_=>none
 | m + 1,x0,x1,x2,x3,x4,x5,x6,x7=>ziy n (zkp n m) x0 x1 x2 x3 x4 x5 x6 x7
def p171 (n:Nat) (a:Mm) (b:Int):Option R171:=zcw n (zkp n n) a b
theorem t171_L5 (n:Nat):∀ (m5:Nat) (x0 x1 x2:Int) (x3:Lb) (x4:Li) (x5:Lb) (x6:Li) (x7:List (Br)),at171 n (.head 5) [m5] (zge x0 x1 x2 x3 x4 x5 x6 x7)=zkp n m5 x0 x1 x2 x3 x4 x5 x6 x7:=by
 intro m
 induction m with
 | zero=>intros; rw [e171_L5_0]; rfl
 | succ m ih =>
  intros
  rw [e171_L5]
  try simp only [ih]
  rfl
def q171 (n:Nat) (x:argsD ps171):Option R171:=p171 n x.1 x.2.1
def Sm171:Sm:=⟨ps171,rs171,false,q171⟩
theorem gam171:GamOK Try.prog G171:=by intro f s h; unfold G171 at h; split at h; exact gj h y172; exact gj h y174; exact gj h y180; exact gj h y181; cases h
theorem hh171:Hp 171 Sm171:=hOf (zae (an:=an171) (c:=c171) tt_ok gam171 mixed Try.func171 (by kernel_rfl) rfl (by decide +kernel)) fun n x=>(e171_top n x.1 x.2.1).trans (by simp only [t171_L5]; try rfl)
theorem y171:Gk 171 Sm171:=⟨⟨Try.f171,c171,Try.func171,by kernel_rfl,by decide +kernel⟩,hh171⟩
def ze5:Code:=(Try.f171.body.getD .skip)
def zdz:An:=⟨fun _=>⟨[],[]⟩,fun _ _=>none⟩
abbrev zbw:List PK:=[.io tMem true,.val i64 false]
abbrev zb_:List RK:=[.val .bool false]
abbrev zdd:=retsD zb_ × outsD zbw
def zb6:Gam:=fun f=>match f with | 180=>some Sm180 | _=>none
theorem h0_3000171 (hg:GamOK Try.prog zb6):HoldsB Try.prog 171 ⟨zbw,zb_,false,runB TT zb6 zdz Try.f171 ze5 zbw zb_⟩:=holdsB_of tt_ok hg mixed Try.func171 (by kernel_rfl) (by rfl) (by decide +kernel)
def zg0:Nat→Pt→List Nat→St→Option zdd:=atB TT zb6 zdz Try.f171 ze5 _ _
def zck:St:=(St.mk ([Uu]++Ur 79) [])
def zb0 (n:Nat) (lL5:Option zdd) (a:Mm) (b:Int):Option zdd :=
 (q180 n ((a.1.1,a.1.2),())).bind fun r0=>cond (decide ((0:Int) < r0.1.1)) (cond (decide (a.2.2.2=a.2.2.2)) (some ((true,()),(((a.1.1,a.1.2),((a.2.1.1,a.2.1.2),(a.2.2.1,a.2.2.2))),()))) none) ((q180 n ((a.2.1.1,a.2.1.2),())).bind fun r1=>cond (decide (r1.1.1=(0:Int))) (cond (decide (a.2.2.2=a.2.2.2)) (some ((false,()),(((a.1.1,a.1.2),((a.2.1.1,a.2.1.2),(a.2.2.1,a.2.2.2))),()))) none) (lL5 ))
def zhy (n:Nat):Option zdd :=
 none
theorem e3000171_top (n:Nat) (a:Mm) (b:Int):runB TT zb6 zdz Try.f171 ze5 zbw zb_ n (a,b,())=zb0 n (zg0 n (.head 5) [n] (zck )) a b:=by kernel_rfl
theorem e3000171_L5_0 (n:Nat):zg0 n (.head 5) [0] (zck )=none:=by kernel_rfl
theorem e3000171_L5 (n:Nat) (m5:Nat):zg0 n (.head 5) [m5 + 1] (zck )=zhy n:=by kernel_rfl
def zfc (n:Nat):Nat→Option zdd
 | 0=>none
 | m + 1=>zhy n 
def p3000171 (n:Nat) (a:Mm) (b:Int):Option zdd:=zb0 n (zfc n n) a b
theorem t3000171_L5 (n:Nat):∀ (m5:Nat) ,zg0 n (.head 5) [m5] (zck )=zfc n m5:=by
 intro m
 induction m with
 | zero=>intros; rw [e3000171_L5_0]; rfl
 | succ m ih =>
  intros
  rw [e3000171_L5]
  try simp only [ih]
  rfl
theorem F3000171_eq (n:Nat) (a:Mm) (b:Int):runB TT zb6 zdz Try.f171 ze5 zbw zb_ n (a,b,())=p3000171 n a b:=by
 rw [e3000171_top]
 simp only [t3000171_L5]
 try rfl
def zc_ (n:Nat) (x:argsD zbw):Option zdd:=p3000171 n x.1 x.2.1
def zc7:Sm:=⟨zbw,zb_,false,zc_⟩
theorem holds3000171 (hg:GamOK Try.prog zb6):HoldsB Try.prog 171 zc7:=by
 have:=h0_3000171 hg
 have e:(runB TT zb6 zdz Try.f171 ze5 zbw zb_)=zc_:=by
  funext n x
  exact F3000171_eq n x.1 x.2.1
 rw [e] at this
 exact this
theorem gam3000171:GamOK Try.prog zb6:=by intro f s h; unfold zb6 at h; split at h; exact gj h y180; cases h
theorem hh3000171:zd2 Try.prog 3000171 zc7:=holds3000171 gam3000171
theorem y3000171:Gk 3000171 zc7:=⟨⟨Try.f171,ze5,Try.func171,by kernel_rfl,by decide +kernel⟩,hh3000171⟩
def c173:Code:=(Try.f173.body.getD .skip)
def an173:An:=⟨fun _=>⟨[],[]⟩,fun _ _=>none⟩
abbrev ps173:List PK:=[]
abbrev rs173:List RK:=[.val .str false]
abbrev R173:=retsD rs173 × outsD ps173
def G173:Gam:=fun _=>none
def st173_top (n:Nat):Option R173 :=
 some ((List.foldl (fun r n=>r.push (UInt8.ofNat n.toNat)) ByteArray.empty (List.replicate (Int.toNat (4:Int)) (0:Int)),()),())
theorem e173_top (n:Nat):runF TT G173 an173 Try.f173 c173 ps173 rs173 n ()=st173_top n:=by kernel_rfl
def p173 (n:Nat):Option R173:=st173_top n 
def q173 (n:Nat) (x:argsD ps173):Option R173:=p173 n 
def Sm173:Sm:=⟨ps173,rs173,false,q173⟩
theorem gam173:GamOK Try.prog G173:=fun _ _ h=>by cases h
theorem hh173:Hp 173 Sm173:=hOf (zae (an:=an173) (c:=c173) tt_ok gam173 mixed Try.func173 (by kernel_rfl) rfl (by decide +kernel)) fun n x=>(e173_top n ).trans rfl
theorem y173:Gk 173 Sm173:=⟨⟨Try.f173,c173,Try.func173,by kernel_rfl,by decide +kernel⟩,hh173⟩
def c153:Code:=(Try.f153.body.getD .skip)
def an153:An:=⟨fun _=>⟨[],[]⟩,fun _ _=>none⟩
abbrev ps153:List PK:=[.own tMem true,.val i64 false,.val i64 false]
abbrev rs153:List RK:=[.own tMem true,.val .bool false]
abbrev R153:=retsD rs153 × outsD ps153
def G153:Gam:=fun f=>match f with | 171=>some Sm171 | 3000171=>some zc7 | 172=>some Sm172 | 173=>some Sm173 | 174=>some Sm174 | _=>none
def zft (n:Nat) (a:Mm) (b:Int) (c:Int):Option R153 :=
 cond (decide ((0:Int)≤b)) (cond (decide (b < (↑(List.length a.2.2.1):Int))) (cond (decide ((0:Int)≤c)) (cond (decide (c < (↑(List.length (List.getD a.2.2.1 b.toNat (false,[],[])).2.2):Int))) (cond (!decide ((List.getD (List.getD a.2.2.1 b.toNat (false,[],[])).2.2 c.toNat ((0:Int),(0:Int),false,false)).1=(1:Int))) ((q171 n (((a.1.1,a.1.2),(a.2.1.1,a.2.1.2),a.2.2.1,a.2.2.2),(-1:Int),())).bind fun r0=>cond r0.1.2.1 ((q171 n (((a.1.1,a.1.2),(a.2.1.1,a.2.1.2),a.2.2.1,a.2.2.2),(-1:Int),())).bind fun r1=>cond (!r1.1.2.1) none (cond (decide ((List.getD (List.getD a.2.2.1 b.toNat (false,[],[])).2.2 c.toNat ((0:Int),(0:Int),false,false)).1=(0:Int))) ((q173 n ()).bind fun r2=>(q172 n ((r1.1.1.1.1,r1.1.1.1.2),r2.1.1,())).bind fun r3=>cond (decide ((0:Int)≤b)) (cond (decide (b < (↑(List.length r1.1.1.2.2.1):Int))) (cond (decide ((0:Int)≤c)) (cond (decide (c < (↑(List.length (List.getD r1.1.1.2.2.1 b.toNat (false,[],[])).2.2):Int))) (cond (decide ((0:Int)≤b)) (cond (decide (b < (↑(List.set r1.1.1.2.2.1 b.toNat ((List.getD r1.1.1.2.2.1 b.toNat (false,[],[])).1,(List.getD r1.1.1.2.2.1 b.toNat (false,[],[])).2.1,List.set (List.getD r1.1.1.2.2.1 b.toNat (false,[],[])).2.2 c.toNat ((1:Int),r3.1.2.1,true,false))).length:Int))) (cond (decide ((0:Int)≤c)) (cond (decide (c < (↑(List.length ((List.set r1.1.1.2.2.1 b.toNat ((List.getD r1.1.1.2.2.1 b.toNat (false,[],[])).1,(List.getD r1.1.1.2.2.1 b.toNat (false,[],[])).2.1,List.set (List.getD r1.1.1.2.2.1 b.toNat (false,[],[])).2.2 c.toNat ((1:Int),r3.1.2.1,true,false))).getD b.toNat (false,[],[])).2.2):Int))) (some ((((r3.1.1.1,r3.1.1.2),((r1.1.1.2.1.1,r1.1.1.2.1.2),((List.set r1.1.1.2.2.1 b.toNat ((List.getD r1.1.1.2.2.1 b.toNat (false,[],[])).1,(List.getD r1.1.1.2.2.1 b.toNat (false,[],[])).2.1,List.set (List.getD r1.1.1.2.2.1 b.toNat (false,[],[])).2.2 c.toNat ((1:Int),r3.1.2.1,true,false))).set b.toNat (((List.set r1.1.1.2.2.1 b.toNat ((List.getD r1.1.1.2.2.1 b.toNat (false,[],[])).1,(List.getD r1.1.1.2.2.1 b.toNat (false,[],[])).2.1,List.set (List.getD r1.1.1.2.2.1 b.toNat (false,[],[])).2.2 c.toNat ((1:Int),r3.1.2.1,true,false))).getD b.toNat (false,[],[])).1,((List.set r1.1.1.2.2.1 b.toNat ((List.getD r1.1.1.2.2.1 b.toNat (false,[],[])).1,(List.getD r1.1.1.2.2.1 b.toNat (false,[],[])).2.1,List.set (List.getD r1.1.1.2.2.1 b.toNat (false,[],[])).2.2 c.toNat ((1:Int),r3.1.2.1,true,false))).getD b.toNat (false,[],[])).2.1,List.set ((List.set r1.1.1.2.2.1 b.toNat ((List.getD r1.1.1.2.2.1 b.toNat (false,[],[])).1,(List.getD r1.1.1.2.2.1 b.toNat (false,[],[])).2.1,List.set (List.getD r1.1.1.2.2.1 b.toNat (false,[],[])).2.2 c.toNat ((1:Int),r3.1.2.1,true,false))).getD b.toNat (false,[],[])).2.2 c.toNat ((List.getD ((List.set r1.1.1.2.2.1 b.toNat ((List.getD r1.1.1.2.2.1 b.toNat (false,[],[])).1,(List.getD r1.1.1.2.2.1 b.toNat (false,[],[])).2.1,List.set (List.getD r1.1.1.2.2.1 b.toNat (false,[],[])).2.2 c.toNat ((1:Int),r3.1.2.1,true,false))).getD b.toNat (false,[],[])).2.2 c.toNat ((0:Int),(0:Int),false,false)).1,(List.getD ((List.set r1.1.1.2.2.1 b.toNat ((List.getD r1.1.1.2.2.1 b.toNat (false,[],[])).1,(List.getD r1.1.1.2.2.1 b.toNat (false,[],[])).2.1,List.set (List.getD r1.1.1.2.2.1 b.toNat (false,[],[])).2.2 c.toNat ((1:Int),r3.1.2.1,true,false))).getD b.toNat (false,[],[])).2.2 c.toNat ((0:Int),(0:Int),false,false)).2.1,(List.getD ((List.set r1.1.1.2.2.1 b.toNat ((List.getD r1.1.1.2.2.1 b.toNat (false,[],[])).1,(List.getD r1.1.1.2.2.1 b.toNat (false,[],[])).2.1,List.set (List.getD r1.1.1.2.2.1 b.toNat (false,[],[])).2.2 c.toNat ((1:Int),r3.1.2.1,true,false))).getD b.toNat (false,[],[])).2.2 c.toNat ((0:Int),(0:Int),false,false)).2.2.1,true)),r1.1.1.2.2.2))),(true,())),())) none) none) none) none) none) none) none) none) (cond (decide ((0:Int)≤(List.getD (List.getD a.2.2.1 b.toNat (false,[],[])).2.2 c.toNat ((0:Int),(0:Int),false,false)).2.1)) (cond (decide ((List.getD (List.getD a.2.2.1 b.toNat (false,[],[])).2.2 c.toNat ((0:Int),(0:Int),false,false)).2.1 < (↑(List.length r1.1.1.2.1.1):Int))) ((q172 n ((r1.1.1.1.1,r1.1.1.1.2),List.getD r1.1.1.2.1.1 (Int.toNat (List.getD (List.getD a.2.2.1 b.toNat (false,[],[])).2.2 c.toNat ((0:Int),(0:Int),false,false)).2.1) ByteArray.empty,())).bind fun r4=>cond (decide ((0:Int)≤(List.getD (List.getD a.2.2.1 b.toNat (false,[],[])).2.2 c.toNat ((0:Int),(0:Int),false,false)).2.1)) (cond (decide ((List.getD (List.getD a.2.2.1 b.toNat (false,[],[])).2.2 c.toNat ((0:Int),(0:Int),false,false)).2.1 < (↑(List.length r1.1.1.2.1.2):Int))) (cond (decide ((0:Int)≤r4.1.2.1)) (cond (decide (r4.1.2.1 < (↑(List.length r4.1.1.2):Int))) ((q174 n (((r4.1.1.1,List.set r4.1.1.2 (Int.toNat r4.1.2.1) (List.getD r1.1.1.2.1.2 (Int.toNat (List.getD (List.getD a.2.2.1 b.toNat (false,[],[])).2.2 c.toNat ((0:Int),(0:Int),false,false)).2.1) (0:Int))),(r1.1.1.2.1.1,r1.1.1.2.1.2),r1.1.1.2.2.1,r1.1.1.2.2.2),(2:Int),(List.getD (List.getD a.2.2.1 b.toNat (false,[],[])).2.2 c.toNat ((0:Int),(0:Int),false,false)).2.1,(1:Int),r4.1.2.1,())).bind fun r5=>cond (decide ((0:Int)≤(List.getD (List.getD a.2.2.1 b.toNat (false,[],[])).2.2 c.toNat ((0:Int),(0:Int),false,false)).2.1)) (cond (decide ((List.getD (List.getD a.2.2.1 b.toNat (false,[],[])).2.2 c.toNat ((0:Int),(0:Int),false,false)).2.1 < (↑(List.length r5.1.1.2.1.2):Int))) (cond (decide ((0:Int)≤(List.getD (List.getD a.2.2.1 b.toNat (false,[],[])).2.2 c.toNat ((0:Int),(0:Int),false,false)).2.1)) (cond (decide ((List.getD (List.getD a.2.2.1 b.toNat (false,[],[])).2.2 c.toNat ((0:Int),(0:Int),false,false)).2.1 < (↑(List.length r5.1.1.2.1.1):Int))) (cond (decide ((0:Int)≤b)) (cond (decide (b < (↑(List.length r5.1.1.2.2.1):Int))) (cond (decide ((0:Int)≤c)) (cond (decide (c < (↑(List.length (List.getD r5.1.1.2.2.1 b.toNat (false,[],[])).2.2):Int))) (some ((((r5.1.1.1.1,r5.1.1.1.2),((List.set r5.1.1.2.1.1 (Int.toNat (List.getD (List.getD a.2.2.1 b.toNat (false,[],[])).2.2 c.toNat ((0:Int),(0:Int),false,false)).2.1) (ByteArray.mk #[]),List.set r5.1.1.2.1.2 (Int.toNat (List.getD (List.getD a.2.2.1 b.toNat (false,[],[])).2.2 c.toNat ((0:Int),(0:Int),false,false)).2.1) (0:Int)),(List.set r5.1.1.2.2.1 b.toNat ((List.getD r5.1.1.2.2.1 b.toNat (false,[],[])).1,(List.getD r5.1.1.2.2.1 b.toNat (false,[],[])).2.1,List.set (List.getD r5.1.1.2.2.1 b.toNat (false,[],[])).2.2 c.toNat ((List.getD (List.getD r5.1.1.2.2.1 b.toNat (false,[],[])).2.2 c.toNat ((0:Int),(0:Int),false,false)).1,(List.getD (List.getD r5.1.1.2.2.1 b.toNat (false,[],[])).2.2 c.toNat ((0:Int),(0:Int),false,false)).2.1,(List.getD (List.getD r5.1.1.2.2.1 b.toNat (false,[],[])).2.2 c.toNat ((0:Int),(0:Int),false,false)).2.2.1,true)),r5.1.1.2.2.2))),(true,())),())) none) none) none) none) none) none) none) none) none) none) none) none) none) none))) ((zc_ n (((a.1.1,a.1.2),(a.2.1.1,a.2.1.2),a.2.2.1,a.2.2.2),(-1:Int),())).bind fun r6=>cond (!r6.1.1) (some ((((r6.2.1.1.1,r6.2.1.1.2),((r6.2.1.2.1.1,r6.2.1.2.1.2),(r6.2.1.2.2.1,a.2.2.2))),(false,())),())) none)) (cond (decide ((0:Int)≤b)) (cond (decide (b < (↑(List.length a.2.2.1):Int))) (cond (decide ((0:Int)≤c)) (cond (decide (c < (↑(List.length (List.getD a.2.2.1 b.toNat (false,[],[])).2.2):Int))) (some ((((a.1.1,a.1.2),((a.2.1.1,a.2.1.2),(List.set a.2.2.1 b.toNat ((List.getD a.2.2.1 b.toNat (false,[],[])).1,(List.getD a.2.2.1 b.toNat (false,[],[])).2.1,List.set (List.getD a.2.2.1 b.toNat (false,[],[])).2.2 c.toNat ((List.getD (List.getD a.2.2.1 b.toNat (false,[],[])).2.2 c.toNat ((0:Int),(0:Int),false,false)).1,(List.getD (List.getD a.2.2.1 b.toNat (false,[],[])).2.2 c.toNat ((0:Int),(0:Int),false,false)).2.1,(List.getD (List.getD a.2.2.1 b.toNat (false,[],[])).2.2 c.toNat ((0:Int),(0:Int),false,false)).2.2.1,true)),a.2.2.2))),(true,())),())) none) none) none) none)) none) none) none) none
theorem e153_top (n:Nat) (a:Mm) (b:Int) (c:Int):runF TT G153 an153 Try.f153 c153 ps153 rs153 n (a,b,c,())=zft n a b c:=by kernel_rfl
def p153 (n:Nat) (a:Mm) (b:Int) (c:Int):Option R153:=zft n a b c
def q153 (n:Nat) (x:argsD ps153):Option R153:=p153 n x.1 x.2.1 x.2.2.1
def Sm153:Sm:=⟨ps153,rs153,false,q153⟩
theorem gam153:GamOK Try.prog G153:=by intro f s h; unfold G153 at h; split at h; exact gj h y171; exact gj h y3000171; exact gj h y172; exact gj h y173; exact gj h y174; cases h
theorem hh153:Hp 153 Sm153:=hOf (zae (an:=an153) (c:=c153) tt_ok gam153 mixed Try.func153 (by kernel_rfl) rfl (by decide +kernel)) fun n x=>(e153_top n x.1 x.2.1 x.2.2.1).trans rfl
theorem y153:Gk 153 Sm153:=⟨⟨Try.f153,c153,Try.func153,by kernel_rfl,by decide +kernel⟩,hh153⟩
def c154:Code:=(Try.f154.body.getD .skip)
def an154:An:=⟨fun _=>⟨[],[]⟩,fun _ _=>none⟩
abbrev ps154:List PK:=[.own tMem true,.val i64 false,.val i64 false]
abbrev rs154:List RK:=[.own tMem true,.val .bool false]
abbrev R154:=retsD rs154 × outsD ps154
def G154:Gam:=fun f=>match f with | 160=>some Sm160 | 171=>some Sm171 | 3000171=>some zc7 | 172=>some Sm172 | _=>none
def zfs (n:Nat) (a:Mm) (b:Int) (c:Int):Option R154 :=
 cond (decide ((0:Int)≤b)) (cond (decide (b < (↑(List.length a.2.2.1):Int))) (cond (decide ((0:Int)≤c)) (cond (decide (c < (↑(List.length (List.getD a.2.2.1 b.toNat (false,[],[])).2.2):Int))) (cond (!(List.getD (List.getD a.2.2.1 b.toNat (false,[],[])).2.2 c.toNat ((0:Int),(0:Int),false,false)).2.2.1) (cond (decide ((0:Int)≤(List.getD (List.getD a.2.2.1 b.toNat (false,[],[])).2.2 c.toNat ((0:Int),(0:Int),false,false)).2.1)) (cond (decide ((List.getD (List.getD a.2.2.1 b.toNat (false,[],[])).2.2 c.toNat ((0:Int),(0:Int),false,false)).2.1 < (↑(List.length a.1.2):Int))) (cond (decide ((1:Int) < List.getD a.1.2 (Int.toNat (List.getD (List.getD a.2.2.1 b.toNat (false,[],[])).2.2 c.toNat ((0:Int),(0:Int),false,false)).2.1) (0:Int))) ((q171 n (((a.1.1,a.1.2),(a.2.1.1,a.2.1.2),a.2.2.1,a.2.2.2),(List.getD (List.getD a.2.2.1 b.toNat (false,[],[])).2.2 c.toNat ((0:Int),(0:Int),false,false)).2.1,())).bind fun r0=>cond r0.1.2.1 ((q171 n (((a.1.1,a.1.2),(a.2.1.1,a.2.1.2),a.2.2.1,a.2.2.2),(List.getD (List.getD a.2.2.1 b.toNat (false,[],[])).2.2 c.toNat ((0:Int),(0:Int),false,false)).2.1,())).bind fun r1=>cond (!r1.1.2.1) none (cond (decide ((0:Int)≤(List.getD (List.getD a.2.2.1 b.toNat (false,[],[])).2.2 c.toNat ((0:Int),(0:Int),false,false)).2.1)) (cond (decide ((List.getD (List.getD a.2.2.1 b.toNat (false,[],[])).2.2 c.toNat ((0:Int),(0:Int),false,false)).2.1 < (↑(List.length r1.1.1.1.1):Int))) ((q172 n ((r1.1.1.1.1,r1.1.1.1.2),List.getD r1.1.1.1.1 (Int.toNat (List.getD (List.getD a.2.2.1 b.toNat (false,[],[])).2.2 c.toNat ((0:Int),(0:Int),false,false)).2.1) ByteArray.empty,())).bind fun r2=>(q160 n ((r2.1.1.1,r2.1.1.2),(List.getD (List.getD a.2.2.1 b.toNat (false,[],[])).2.2 c.toNat ((0:Int),(0:Int),false,false)).2.1,())).bind fun r3=>cond (decide ((0:Int)≤b)) (cond (decide (b < (↑(List.length r1.1.1.2.2.1):Int))) (cond (decide ((0:Int)≤c)) (cond (decide (c < (↑(List.length (List.getD r1.1.1.2.2.1 b.toNat (false,[],[])).2.2):Int))) (some ((((r3.1.1.1,r3.1.1.2),((r1.1.1.2.1.1,r1.1.1.2.1.2),(List.set r1.1.1.2.2.1 b.toNat ((List.getD r1.1.1.2.2.1 b.toNat (false,[],[])).1,(List.getD r1.1.1.2.2.1 b.toNat (false,[],[])).2.1,List.set (List.getD r1.1.1.2.2.1 b.toNat (false,[],[])).2.2 c.toNat ((List.getD (List.getD a.2.2.1 b.toNat (false,[],[])).2.2 c.toNat ((0:Int),(0:Int),false,false)).1,r2.1.2.1,true,(List.getD (List.getD a.2.2.1 b.toNat (false,[],[])).2.2 c.toNat ((0:Int),(0:Int),false,false)).2.2.2)),r1.1.1.2.2.2))),(true,())),())) none) none) none) none) none) none)) ((zc_ n (((a.1.1,a.1.2),(a.2.1.1,a.2.1.2),a.2.2.1,a.2.2.2),(List.getD (List.getD a.2.2.1 b.toNat (false,[],[])).2.2 c.toNat ((0:Int),(0:Int),false,false)).2.1,())).bind fun r4=>cond (!r4.1.1) (some ((((r4.2.1.1.1,r4.2.1.1.2),((r4.2.1.2.1.1,r4.2.1.2.1.2),(r4.2.1.2.2.1,a.2.2.2))),(false,())),())) none)) (cond (decide ((0:Int)≤b)) (cond (decide (b < (↑(List.length a.2.2.1):Int))) (cond (decide ((0:Int)≤c)) (cond (decide (c < (↑(List.length (List.getD a.2.2.1 b.toNat (false,[],[])).2.2):Int))) (some ((((a.1.1,a.1.2),((a.2.1.1,a.2.1.2),(List.set a.2.2.1 b.toNat ((List.getD a.2.2.1 b.toNat (false,[],[])).1,(List.getD a.2.2.1 b.toNat (false,[],[])).2.1,List.set (List.getD a.2.2.1 b.toNat (false,[],[])).2.2 c.toNat ((List.getD (List.getD a.2.2.1 b.toNat (false,[],[])).2.2 c.toNat ((0:Int),(0:Int),false,false)).1,(List.getD (List.getD a.2.2.1 b.toNat (false,[],[])).2.2 c.toNat ((0:Int),(0:Int),false,false)).2.1,true,(List.getD (List.getD a.2.2.1 b.toNat (false,[],[])).2.2 c.toNat ((0:Int),(0:Int),false,false)).2.2.2)),a.2.2.2))),(true,())),())) none) none) none) none)) none) none) (cond (decide ((0:Int)≤b)) (cond (decide (b < (↑(List.length a.2.2.1):Int))) (cond (decide ((0:Int)≤c)) (cond (decide (c < (↑(List.length (List.getD a.2.2.1 b.toNat (false,[],[])).2.2):Int))) (some ((((a.1.1,a.1.2),((a.2.1.1,a.2.1.2),(List.set a.2.2.1 b.toNat ((List.getD a.2.2.1 b.toNat (false,[],[])).1,(List.getD a.2.2.1 b.toNat (false,[],[])).2.1,List.set (List.getD a.2.2.1 b.toNat (false,[],[])).2.2 c.toNat ((List.getD (List.getD a.2.2.1 b.toNat (false,[],[])).2.2 c.toNat ((0:Int),(0:Int),false,false)).1,(List.getD (List.getD a.2.2.1 b.toNat (false,[],[])).2.2 c.toNat ((0:Int),(0:Int),false,false)).2.1,true,(List.getD (List.getD a.2.2.1 b.toNat (false,[],[])).2.2 c.toNat ((0:Int),(0:Int),false,false)).2.2.2)),a.2.2.2))),(true,())),())) none) none) none) none)) none) none) none) none
theorem e154_top (n:Nat) (a:Mm) (b:Int) (c:Int):runF TT G154 an154 Try.f154 c154 ps154 rs154 n (a,b,c,())=zfs n a b c:=by kernel_rfl
def p154 (n:Nat) (a:Mm) (b:Int) (c:Int):Option R154:=zfs n a b c
def q154 (n:Nat) (x:argsD ps154):Option R154:=p154 n x.1 x.2.1 x.2.2.1
def Sm154:Sm:=⟨ps154,rs154,false,q154⟩
theorem gam154:GamOK Try.prog G154:=by intro f s h; unfold G154 at h; split at h; exact gj h y160; exact gj h y171; exact gj h y3000171; exact gj h y172; cases h
theorem hh154:Hp 154 Sm154:=hOf (zae (an:=an154) (c:=c154) tt_ok gam154 mixed Try.func154 (by kernel_rfl) rfl (by decide +kernel)) fun n x=>(e154_top n x.1 x.2.1 x.2.2.1).trans rfl
theorem y154:Gk 154 Sm154:=⟨⟨Try.f154,c154,Try.func154,by kernel_rfl,by decide +kernel⟩,hh154⟩
def c109:Code:=(Try.f109.body.getD .skip)
def an109:An:=⟨fun _=>⟨[],[]⟩,fun _ _=>none⟩
abbrev ps109:List PK:=[.own tMem true,.val i64 false,.val i64 false,.val i64 false]
abbrev rs109:List RK:=[.own tMem true,.val i64 false]
abbrev R109:=retsD rs109 × outsD ps109
def G109:Gam:=fun f=>match f with | 56=>some Sm56 | 71=>some Sm71 | 72=>some Sm72 | 153=>some Sm153 | 154=>some Sm154 | _=>none
def zf3 (n:Nat) (a:Mm) (b:Int) (c:Int) (d:Int):Option R109 :=
 cond (decide ((0:Int)≤b)) (cond (decide (b < (↑(List.length a.2.2.1):Int))) ((q71 n ((List.getD a.2.2.1 b.toNat (false,[],[])).2.1,IntKind.i64.wrap (c.tdiv (4:Int)),())).bind fun r0=>cond (decide (r0.1.1 < (0:Int))) (some ((((a.1.1,a.1.2),((a.2.1.1,a.2.1.2),(a.2.2.1,a.2.2.2))),((2:Int),())),())) (cond (decide ((0:Int)≤b)) (cond (decide (b < (↑(List.length a.2.2.1):Int))) (cond (decide ((0:Int)≤r0.1.1)) (cond (decide (r0.1.1 < (↑(List.length (List.getD a.2.2.1 b.toNat (false,[],[])).2.1):Int))) (cond (!(List.getD (List.getD a.2.2.1 b.toNat (false,[],[])).2.1 (Int.toNat r0.1.1) ((0:Int),(0:Int),false,false)).2.2.1) (some ((((a.1.1,a.1.2),((a.2.1.1,a.2.1.2),(a.2.2.1,a.2.2.2))),((3:Int),())),())) ((q56 n (((a.1.1,a.1.2),(a.2.1.1,a.2.1.2),a.2.2.1,a.2.2.2),())).bind fun r1=>(q153 n (((r1.1.1.1.1,r1.1.1.1.2),(r1.1.1.2.1.1,r1.1.1.2.1.2),r1.1.1.2.2.1,r1.1.1.2.2.2),b,IntKind.i64.wrap (c.tdiv (4:Int)),())).bind fun r2=>cond r2.1.2.1 ((q154 n (((r2.1.1.1.1,r2.1.1.1.2),(r2.1.1.2.1.1,r2.1.1.2.1.2),r2.1.1.2.2.1,r2.1.1.2.2.2),b,IntKind.i64.wrap (c.tdiv (4:Int)),())).bind fun r3=>cond (!r3.1.2.1) (some ((((a.1.1,a.1.2),((a.2.1.1,a.2.1.2),(a.2.2.1,a.2.2.2))),((4:Int),())),())) (cond (decide ((0:Int)≤b)) (cond (decide (b < (↑(List.length r3.1.1.2.2.1):Int))) (cond (decide ((0:Int)≤IntKind.i64.wrap (c.tdiv (4:Int)))) (cond (decide (IntKind.i64.wrap (c.tdiv (4:Int)) < (↑(List.length (List.getD r3.1.1.2.2.1 b.toNat (false,[],[])).2.2):Int))) (cond (decide ((0:Int)≤(List.getD (List.getD r3.1.1.2.2.1 b.toNat (false,[],[])).2.2 (IntKind.i64.wrap (c.tdiv (4:Int))).toNat ((0:Int),(0:Int),false,false)).2.1)) (cond (decide ((List.getD (List.getD r3.1.1.2.2.1 b.toNat (false,[],[])).2.2 (IntKind.i64.wrap (c.tdiv (4:Int))).toNat ((0:Int),(0:Int),false,false)).2.1 < (↑(List.length r3.1.1.1.1):Int))) ((q72 n (List.getD r3.1.1.1.1 (Int.toNat (List.getD (List.getD r3.1.1.2.2.1 b.toNat (false,[],[])).2.2 (IntKind.i64.wrap (c.tdiv (4:Int))).toNat ((0:Int),(0:Int),false,false)).2.1) ByteArray.empty,c.tmod (4:Int),d,())).bind fun r4=>cond (decide ((0:Int)≤(List.getD (List.getD r3.1.1.2.2.1 b.toNat (false,[],[])).2.2 (IntKind.i64.wrap (c.tdiv (4:Int))).toNat ((0:Int),(0:Int),false,false)).2.1)) (cond (decide ((List.getD (List.getD r3.1.1.2.2.1 b.toNat (false,[],[])).2.2 (IntKind.i64.wrap (c.tdiv (4:Int))).toNat ((0:Int),(0:Int),false,false)).2.1 < (↑(List.length r3.1.1.1.1):Int))) (some ((((List.set r3.1.1.1.1 (Int.toNat (List.getD (List.getD r3.1.1.2.2.1 b.toNat (false,[],[])).2.2 (IntKind.i64.wrap (c.tdiv (4:Int))).toNat ((0:Int),(0:Int),false,false)).2.1) r4.1.1,r3.1.1.1.2),((r3.1.1.2.1.1,r3.1.1.2.1.2),(r3.1.1.2.2.1,r3.1.1.2.2.2))),((0:Int),())),())) none) none) none) none) none) none) none) none)) (cond (!r2.1.2.1) (some ((((a.1.1,a.1.2),((a.2.1.1,a.2.1.2),(a.2.2.1,a.2.2.2))),((4:Int),())),())) (cond (decide ((0:Int)≤b)) (cond (decide (b < (↑(List.length r2.1.1.2.2.1):Int))) (cond (decide ((0:Int)≤IntKind.i64.wrap (c.tdiv (4:Int)))) (cond (decide (IntKind.i64.wrap (c.tdiv (4:Int)) < (↑(List.length (List.getD r2.1.1.2.2.1 b.toNat (false,[],[])).2.2):Int))) (cond (decide ((0:Int)≤(List.getD (List.getD r2.1.1.2.2.1 b.toNat (false,[],[])).2.2 (IntKind.i64.wrap (c.tdiv (4:Int))).toNat ((0:Int),(0:Int),false,false)).2.1)) (cond (decide ((List.getD (List.getD r2.1.1.2.2.1 b.toNat (false,[],[])).2.2 (IntKind.i64.wrap (c.tdiv (4:Int))).toNat ((0:Int),(0:Int),false,false)).2.1 < (↑(List.length r2.1.1.1.1):Int))) ((q72 n (List.getD r2.1.1.1.1 (Int.toNat (List.getD (List.getD r2.1.1.2.2.1 b.toNat (false,[],[])).2.2 (IntKind.i64.wrap (c.tdiv (4:Int))).toNat ((0:Int),(0:Int),false,false)).2.1) ByteArray.empty,c.tmod (4:Int),d,())).bind fun r5=>cond (decide ((0:Int)≤(List.getD (List.getD r2.1.1.2.2.1 b.toNat (false,[],[])).2.2 (IntKind.i64.wrap (c.tdiv (4:Int))).toNat ((0:Int),(0:Int),false,false)).2.1)) (cond (decide ((List.getD (List.getD r2.1.1.2.2.1 b.toNat (false,[],[])).2.2 (IntKind.i64.wrap (c.tdiv (4:Int))).toNat ((0:Int),(0:Int),false,false)).2.1 < (↑(List.length r2.1.1.1.1):Int))) (some ((((List.set r2.1.1.1.1 (Int.toNat (List.getD (List.getD r2.1.1.2.2.1 b.toNat (false,[],[])).2.2 (IntKind.i64.wrap (c.tdiv (4:Int))).toNat ((0:Int),(0:Int),false,false)).2.1) r5.1.1,r2.1.1.1.2),((r2.1.1.2.1.1,r2.1.1.2.1.2),(r2.1.1.2.2.1,r2.1.1.2.2.2))),((0:Int),())),())) none) none) none) none) none) none) none) none)))) none) none) none) none)) none) none
theorem e109_top (n:Nat) (a:Mm) (b:Int) (c:Int) (d:Int):runF TT G109 an109 Try.f109 c109 ps109 rs109 n (a,b,c,d,())=zf3 n a b c d:=by kernel_rfl
def p109 (n:Nat) (a:Mm) (b:Int) (c:Int) (d:Int):Option R109:=zf3 n a b c d
def q109 (n:Nat) (x:argsD ps109):Option R109:=p109 n x.1 x.2.1 x.2.2.1 x.2.2.2.1
def Sm109:Sm:=⟨ps109,rs109,false,q109⟩
theorem gam109:GamOK Try.prog G109:=by intro f s h; unfold G109 at h; split at h; exact gj h y56; exact gj h y71; exact gj h y72; exact gj h y153; exact gj h y154; cases h
theorem hh109:Hp 109 Sm109:=hOf (zae (an:=an109) (c:=c109) tt_ok gam109 mixed Try.func109 (by kernel_rfl) rfl (by decide +kernel)) fun n x=>(e109_top n x.1 x.2.1 x.2.2.1 x.2.2.2.1).trans rfl
theorem y109:Gk 109 Sm109:=⟨⟨Try.f109,c109,Try.func109,by kernel_rfl,by decide +kernel⟩,hh109⟩
def zgz:Code:=(Try.f153.body.getD .skip)
def zg1:An:=⟨fun _=>⟨[],[]⟩,fun _ _=>none⟩
abbrev zbx:List PK:=[.io tMem true,.val i64 false,.val i64 false]
abbrev zca:List RK:=[.val .bool false]
abbrev R3000153:=retsD zca × outsD zbx
def zcq:Gam:=fun f=>match f with | 171=>some Sm171 | 3000171=>some zc7 | _=>none
theorem h0_3000153 (hg:GamOK Try.prog zcq):HoldsB Try.prog 153 ⟨zbx,zca,false,runB TT zcq zg1 Try.f153 zgz zbx zca⟩:=holdsB_of tt_ok hg mixed Try.func153 (by kernel_rfl) (by rfl) (by decide +kernel)
def zb1 (n:Nat) (a:Mm) (b:Int) (c:Int):Option R3000153 :=
 cond (decide ((0:Int)≤b)) (cond (decide (b < (↑(List.length a.2.2.1):Int))) (cond (decide ((0:Int)≤c)) (cond (decide (c < (↑(List.length (List.getD a.2.2.1 b.toNat (false,[],[])).2.2):Int))) (cond (!decide ((List.getD (List.getD a.2.2.1 b.toNat (false,[],[])).2.2 c.toNat ((0:Int),(0:Int),false,false)).1=(1:Int))) ((q171 n (((a.1.1,a.1.2),(a.2.1.1,a.2.1.2),a.2.2.1,a.2.2.2),(-1:Int),())).bind fun r0=>cond r0.1.2.1 ((q171 n (((a.1.1,a.1.2),(a.2.1.1,a.2.1.2),a.2.2.1,a.2.2.2),(-1:Int),())).bind fun r1=>cond (!r1.1.2.1) (cond (decide (a.2.2.2=a.2.2.2)) none none) (cond (decide ((List.getD (List.getD a.2.2.1 b.toNat (false,[],[])).2.2 c.toNat ((0:Int),(0:Int),false,false)).1=(0:Int))) none (cond (decide ((0:Int)≤(List.getD (List.getD a.2.2.1 b.toNat (false,[],[])).2.2 c.toNat ((0:Int),(0:Int),false,false)).2.1)) (cond (decide ((List.getD (List.getD a.2.2.1 b.toNat (false,[],[])).2.2 c.toNat ((0:Int),(0:Int),false,false)).2.1 < (↑(List.length r1.1.1.2.1.1):Int))) none none) none))) ((zc_ n (((a.1.1,a.1.2),(a.2.1.1,a.2.1.2),a.2.2.1,a.2.2.2),(-1:Int),())).bind fun r2=>cond (!r2.1.1) (cond (decide (a.2.2.2=a.2.2.2)) (some ((false,()),(((r2.2.1.1.1,r2.2.1.1.2),((r2.2.1.2.1.1,r2.2.1.2.1.2),(r2.2.1.2.2.1,a.2.2.2))),()))) none) none)) (cond (decide ((0:Int)≤b)) (cond (decide (b < (↑(List.length a.2.2.1):Int))) (cond (decide ((0:Int)≤c)) (cond (decide (c < (↑(List.length (List.getD a.2.2.1 b.toNat (false,[],[])).2.2):Int))) (cond (decide (a.2.2.2=a.2.2.2)) (some ((true,()),(((a.1.1,a.1.2),((a.2.1.1,a.2.1.2),(List.set a.2.2.1 b.toNat ((List.getD a.2.2.1 b.toNat (false,[],[])).1,(List.getD a.2.2.1 b.toNat (false,[],[])).2.1,List.set (List.getD a.2.2.1 b.toNat (false,[],[])).2.2 c.toNat ((List.getD (List.getD a.2.2.1 b.toNat (false,[],[])).2.2 c.toNat ((0:Int),(0:Int),false,false)).1,(List.getD (List.getD a.2.2.1 b.toNat (false,[],[])).2.2 c.toNat ((0:Int),(0:Int),false,false)).2.1,(List.getD (List.getD a.2.2.1 b.toNat (false,[],[])).2.2 c.toNat ((0:Int),(0:Int),false,false)).2.2.1,true)),a.2.2.2))),()))) none) none) none) none) none)) none) none) none) none
theorem e3000153_top (n:Nat) (a:Mm) (b:Int) (c:Int):runB TT zcq zg1 Try.f153 zgz zbx zca n (a,b,c,())=zb1 n a b c:=by kernel_rfl
def p3000153 (n:Nat) (a:Mm) (b:Int) (c:Int):Option R3000153:=zb1 n a b c
theorem F3000153_eq (n:Nat) (a:Mm) (b:Int) (c:Int):runB TT zcq zg1 Try.f153 zgz zbx zca n (a,b,c,())=p3000153 n a b c:=by
 rw [e3000153_top]
 skip
 try rfl
def zey (n:Nat) (x:argsD zbx):Option R3000153:=p3000153 n x.1 x.2.1 x.2.2.1
def zg4:Sm:=⟨zbx,zca,false,zey⟩
theorem holds3000153 (hg:GamOK Try.prog zcq):HoldsB Try.prog 153 zg4:=by
 have:=h0_3000153 hg
 have e:(runB TT zcq zg1 Try.f153 zgz zbx zca)=zey:=by
  funext n x
  exact F3000153_eq n x.1 x.2.1 x.2.2.1
 rw [e] at this
 exact this
theorem gam3000153:GamOK Try.prog zcq:=by intro f s h; unfold zcq at h; split at h; exact gj h y171; exact gj h y3000171; cases h
theorem hh3000153:zd2 Try.prog 3000153 zg4:=holds3000153 gam3000153
theorem y3000153:Gk 3000153 zg4:=⟨⟨Try.f153,zgz,Try.func153,by kernel_rfl,by decide +kernel⟩,hh3000153⟩
def c155:Code:=(Try.f155.body.getD .skip)
def an155:An:=⟨fun r=>match r with | 5=>⟨[1,2,4,6,7],[]⟩ | 13=>⟨[1,2,4,6,10],[]⟩ | _=>⟨[],[]⟩,fun _ _=>none⟩
abbrev ps155:List PK:=[.own tMem true,.val i64 false]
abbrev rs155:List RK:=[.own tMem true,.val i64 false]
abbrev R155:=retsD rs155 × outsD ps155
def G155:Gam:=fun f=>match f with | 93=>some Sm93 | 153=>some Sm153 | 3000153=>some zg4 | 157=>some Sm157 | _=>none
def at155:Nat→Pt→List Nat→St→Option R155:=atF TT G155 an155 Try.f155 c155 _ _
def zdj (x0 x1 x2 x3 x4:Int) (x5:Lb) (x6:Li) (x7:Lb) (x8:Li) (x9:List (Br)):St:=(St.mk ([Uu,Ai x0,AV.one (SV.bptr 1000000 0),Uu,AV.one (SV.bptr 1000001 0),Uu,Ai x1,Uu,Uu,Uu,Ai x2]++Ur 127) [(1000000,(Ent.box [Sr 1000002,Sr 1000003,Sr 1000004,Sr 1000005,Sr 1000006,Si x3])),(1000001,(Ent.box [SV.nil,SV.nil,SV.nil,SV.nil,SV.nil,Si x4])),(1000002,Er ⟨9,Ty.str,x5⟩),(1000003,Er ⟨3,Ty.int .i64,x6⟩),(1000004,Er ⟨9,Ty.str,x7⟩),(1000005,Er ⟨3,Ty.int .i64,x8⟩),(1000006,Er ⟨71,ySp,x9⟩)])
def zgh (x0 x1 x2 x3 x4:Int) (x5:Lb) (x6:Li) (x7:Lb) (x8:Li) (x9:List (Br)):St:=(St.mk ([Uu,Ai x0,AV.one (SV.bptr 1000000 0),Uu,AV.one (SV.bptr 1000001 0),Uu,Ai x1,Ai x2]++Ur 130) [(1000000,(Ent.box [Sr 1000002,Sr 1000003,Sr 1000004,Sr 1000005,Sr 1000006,Si x3])),(1000001,(Ent.box [SV.nil,SV.nil,SV.nil,SV.nil,SV.nil,Si x4])),(1000002,Er ⟨9,Ty.str,x5⟩),(1000003,Er ⟨3,Ty.int .i64,x6⟩),(1000004,Er ⟨9,Ty.str,x7⟩),(1000005,Er ⟨3,Ty.int .i64,x8⟩),(1000006,Er ⟨71,ySp,x9⟩)])
def zfr (n:Nat) (lL5:Int→Int→Int→Int→Int→Lb→Li→Lb→Li→(List (Br))→Option R155) (a:Mm) (b:Int):Option R155 :=
 (q93 n (((a.1.1,a.1.2),(a.2.1.1,a.2.1.2),a.2.2.1,a.2.2.2),())).bind fun r0=>cond (decide (r0.1.1 < (0:Int))) (some ((((a.1.1,a.1.2),((a.2.1.1,a.2.1.2),(a.2.2.1,a.2.2.2))),((-1:Int),())),())) (lL5 b r0.1.1 (0:Int) a.2.2.2 (0:Int) a.1.1 a.1.2 a.2.1.1 a.2.1.2 a.2.2.1)
def zcy (n:Nat) (lL13:Int→Int→Int→Int→Int→Lb→Li→Lb→Li→(List (Br))→Option R155) (x0 x1 x2 x3 x4:Int) (x5:Lb) (x6:Li) (x7:Lb) (x8:Li) (x9:List (Br)):Option R155 :=
 cond (decide (x2 < 16)) (cond (decide (0≤x0)) (cond (decide (x0 < (↑x9.length:Int))) (cond (decide (0≤x2)) (cond (decide (x2 < (↑(List.length (x9.getD x0.toNat (false,[],[])).2.2):Int))) (cond (decide (0≤x0)) (cond (decide (x0 < (↑x9.length:Int))) ((q157 n (((x9.getD x0.toNat (false,[],[])).1,(x9.getD x0.toNat (false,[],[])).2.1,(x9.getD x0.toNat (false,[],[])).2.2),x2,())).bind fun r7=>cond (!r7.1.1) (cond (decide (0≤x0)) (cond (decide (x0 < (↑x9.length:Int))) (cond (decide (0≤x2)) (cond (decide (x2 < (↑(List.length (x9.getD x0.toNat (false,[],[])).2.2):Int))) (cond (decide ((List.getD (x9.getD x0.toNat (false,[],[])).2.2 x2.toNat ((0:Int),(0:Int),false,false)).1=(1:Int))) (cond (decide ((0:Int)≤(List.getD (x9.getD x0.toNat (false,[],[])).2.2 x2.toNat ((0:Int),(0:Int),false,false)).2.1)) (cond (decide ((List.getD (x9.getD x0.toNat (false,[],[])).2.2 x2.toNat ((0:Int),(0:Int),false,false)).2.1 < (↑x6.length:Int))) (cond (decide ((0:Int)≤(List.getD (x9.getD x0.toNat (false,[],[])).2.2 x2.toNat ((0:Int),(0:Int),false,false)).2.1)) (cond (decide ((List.getD (x9.getD x0.toNat (false,[],[])).2.2 x2.toNat ((0:Int),(0:Int),false,false)).2.1 < (↑x6.length:Int))) (lL13 x0 x1 (IntKind.i64.wrap (x2 + 1)) x3 x4 x5 (x6.set (Int.toNat (List.getD (x9.getD x0.toNat (false,[],[])).2.2 x2.toNat ((0:Int),(0:Int),false,false)).2.1) (IntKind.i64.wrap (x6.getD (Int.toNat (List.getD (x9.getD x0.toNat (false,[],[])).2.2 x2.toNat ((0:Int),(0:Int),false,false)).2.1) (0:Int) + (1:Int)))) x7 x8 (x9.set x0.toNat ((x9.getD x0.toNat (false,[],[])).1,(x9.getD x0.toNat (false,[],[])).2.1,List.set (x9.getD x0.toNat (false,[],[])).2.2 x2.toNat ((List.getD (x9.getD x0.toNat (false,[],[])).2.2 x2.toNat ((0:Int),(0:Int),false,false)).1,(List.getD (x9.getD x0.toNat (false,[],[])).2.2 x2.toNat ((0:Int),(0:Int),false,false)).2.1,false,(List.getD (x9.getD x0.toNat (false,[],[])).2.2 x2.toNat ((0:Int),(0:Int),false,false)).2.2.2)))) none) none) none) none) (cond (decide ((List.getD (x9.getD x0.toNat (false,[],[])).2.2 x2.toNat ((0:Int),(0:Int),false,false)).1=(2:Int))) (cond (decide ((0:Int)≤(List.getD (x9.getD x0.toNat (false,[],[])).2.2 x2.toNat ((0:Int),(0:Int),false,false)).2.1)) (cond (decide ((List.getD (x9.getD x0.toNat (false,[],[])).2.2 x2.toNat ((0:Int),(0:Int),false,false)).2.1 < (↑x8.length:Int))) (cond (decide ((0:Int)≤(List.getD (x9.getD x0.toNat (false,[],[])).2.2 x2.toNat ((0:Int),(0:Int),false,false)).2.1)) (cond (decide ((List.getD (x9.getD x0.toNat (false,[],[])).2.2 x2.toNat ((0:Int),(0:Int),false,false)).2.1 < (↑x8.length:Int))) (lL13 x0 x1 (IntKind.i64.wrap (x2 + 1)) x3 x4 x5 x6 x7 (x8.set (Int.toNat (List.getD (x9.getD x0.toNat (false,[],[])).2.2 x2.toNat ((0:Int),(0:Int),false,false)).2.1) (IntKind.i64.wrap (x8.getD (Int.toNat (List.getD (x9.getD x0.toNat (false,[],[])).2.2 x2.toNat ((0:Int),(0:Int),false,false)).2.1) (0:Int) + (1:Int)))) (x9.set x0.toNat ((x9.getD x0.toNat (false,[],[])).1,(x9.getD x0.toNat (false,[],[])).2.1,List.set (x9.getD x0.toNat (false,[],[])).2.2 x2.toNat ((List.getD (x9.getD x0.toNat (false,[],[])).2.2 x2.toNat ((0:Int),(0:Int),false,false)).1,(List.getD (x9.getD x0.toNat (false,[],[])).2.2 x2.toNat ((0:Int),(0:Int),false,false)).2.1,false,(List.getD (x9.getD x0.toNat (false,[],[])).2.2 x2.toNat ((0:Int),(0:Int),false,false)).2.2.2)))) none) none) none) none) (lL13 x0 x1 (IntKind.i64.wrap (x2 + 1)) x3 x4 x5 x6 x7 x8 (x9.set x0.toNat ((x9.getD x0.toNat (false,[],[])).1,(x9.getD x0.toNat (false,[],[])).2.1,List.set (x9.getD x0.toNat (false,[],[])).2.2 x2.toNat ((List.getD (x9.getD x0.toNat (false,[],[])).2.2 x2.toNat ((0:Int),(0:Int),false,false)).1,(List.getD (x9.getD x0.toNat (false,[],[])).2.2 x2.toNat ((0:Int),(0:Int),false,false)).2.1,false,(List.getD (x9.getD x0.toNat (false,[],[])).2.2 x2.toNat ((0:Int),(0:Int),false,false)).2.2.2)))))) none) none) none) none) (cond (decide (0≤x0)) (cond (decide (x0 < (↑x9.length:Int))) (cond (decide (0≤x2)) (cond (decide (x2 < (↑(List.length (x9.getD x0.toNat (false,[],[])).2.2):Int))) (cond (decide ((List.getD (x9.getD x0.toNat (false,[],[])).2.2 x2.toNat ((0:Int),(0:Int),false,false)).1=(1:Int))) (cond (decide ((0:Int)≤(List.getD (x9.getD x0.toNat (false,[],[])).2.2 x2.toNat ((0:Int),(0:Int),false,false)).2.1)) (cond (decide ((List.getD (x9.getD x0.toNat (false,[],[])).2.2 x2.toNat ((0:Int),(0:Int),false,false)).2.1 < (↑x6.length:Int))) (cond (decide ((0:Int)≤(List.getD (x9.getD x0.toNat (false,[],[])).2.2 x2.toNat ((0:Int),(0:Int),false,false)).2.1)) (cond (decide ((List.getD (x9.getD x0.toNat (false,[],[])).2.2 x2.toNat ((0:Int),(0:Int),false,false)).2.1 < (↑x6.length:Int))) (lL13 x0 x1 (IntKind.i64.wrap (x2 + 1)) x3 x4 x5 (x6.set (Int.toNat (List.getD (x9.getD x0.toNat (false,[],[])).2.2 x2.toNat ((0:Int),(0:Int),false,false)).2.1) (IntKind.i64.wrap (x6.getD (Int.toNat (List.getD (x9.getD x0.toNat (false,[],[])).2.2 x2.toNat ((0:Int),(0:Int),false,false)).2.1) (0:Int) + (1:Int)))) x7 x8 (x9.set x0.toNat ((x9.getD x0.toNat (false,[],[])).1,(x9.getD x0.toNat (false,[],[])).2.1,List.set (x9.getD x0.toNat (false,[],[])).2.2 x2.toNat ((List.getD (x9.getD x0.toNat (false,[],[])).2.2 x2.toNat ((0:Int),(0:Int),false,false)).1,(List.getD (x9.getD x0.toNat (false,[],[])).2.2 x2.toNat ((0:Int),(0:Int),false,false)).2.1,(List.getD (x9.getD x0.toNat (false,[],[])).2.2 x2.toNat ((0:Int),(0:Int),false,false)).2.2.1,(List.getD (x9.getD x0.toNat (false,[],[])).2.2 x2.toNat ((0:Int),(0:Int),false,false)).2.2.2)))) none) none) none) none) (cond (decide ((List.getD (x9.getD x0.toNat (false,[],[])).2.2 x2.toNat ((0:Int),(0:Int),false,false)).1=(2:Int))) (cond (decide ((0:Int)≤(List.getD (x9.getD x0.toNat (false,[],[])).2.2 x2.toNat ((0:Int),(0:Int),false,false)).2.1)) (cond (decide ((List.getD (x9.getD x0.toNat (false,[],[])).2.2 x2.toNat ((0:Int),(0:Int),false,false)).2.1 < (↑x8.length:Int))) (cond (decide ((0:Int)≤(List.getD (x9.getD x0.toNat (false,[],[])).2.2 x2.toNat ((0:Int),(0:Int),false,false)).2.1)) (cond (decide ((List.getD (x9.getD x0.toNat (false,[],[])).2.2 x2.toNat ((0:Int),(0:Int),false,false)).2.1 < (↑x8.length:Int))) (lL13 x0 x1 (IntKind.i64.wrap (x2 + 1)) x3 x4 x5 x6 x7 (x8.set (Int.toNat (List.getD (x9.getD x0.toNat (false,[],[])).2.2 x2.toNat ((0:Int),(0:Int),false,false)).2.1) (IntKind.i64.wrap (x8.getD (Int.toNat (List.getD (x9.getD x0.toNat (false,[],[])).2.2 x2.toNat ((0:Int),(0:Int),false,false)).2.1) (0:Int) + (1:Int)))) (x9.set x0.toNat ((x9.getD x0.toNat (false,[],[])).1,(x9.getD x0.toNat (false,[],[])).2.1,List.set (x9.getD x0.toNat (false,[],[])).2.2 x2.toNat ((List.getD (x9.getD x0.toNat (false,[],[])).2.2 x2.toNat ((0:Int),(0:Int),false,false)).1,(List.getD (x9.getD x0.toNat (false,[],[])).2.2 x2.toNat ((0:Int),(0:Int),false,false)).2.1,(List.getD (x9.getD x0.toNat (false,[],[])).2.2 x2.toNat ((0:Int),(0:Int),false,false)).2.2.1,(List.getD (x9.getD x0.toNat (false,[],[])).2.2 x2.toNat ((0:Int),(0:Int),false,false)).2.2.2)))) none) none) none) none) (lL13 x0 x1 (IntKind.i64.wrap (x2 + 1)) x3 x4 x5 x6 x7 x8 (x9.set x0.toNat ((x9.getD x0.toNat (false,[],[])).1,(x9.getD x0.toNat (false,[],[])).2.1,List.set (x9.getD x0.toNat (false,[],[])).2.2 x2.toNat ((List.getD (x9.getD x0.toNat (false,[],[])).2.2 x2.toNat ((0:Int),(0:Int),false,false)).1,(List.getD (x9.getD x0.toNat (false,[],[])).2.2 x2.toNat ((0:Int),(0:Int),false,false)).2.1,(List.getD (x9.getD x0.toNat (false,[],[])).2.2 x2.toNat ((0:Int),(0:Int),false,false)).2.2.1,(List.getD (x9.getD x0.toNat (false,[],[])).2.2 x2.toNat ((0:Int),(0:Int),false,false)).2.2.2)))))) none) none) none) none)) none) none) none) none) none) none) (cond (decide (0≤x0)) (cond (decide (x0 < (↑x9.length:Int))) (cond (decide (((0:Nat) + List.length (x9.getD x0.toNat (false,[],[])).2.1) * (24:Nat)≤(140737488355328:Nat))) (cond (decide (((0:Nat) + List.length (x9.getD x0.toNat (false,[],[])).2.2) * (24:Nat)≤(140737488355328:Nat))) (cond (decide (0≤x1)) (cond (decide (x1 < (↑x9.length:Int))) (some ((((x5,x6),((x7,x8),(x9.set x1.toNat (true,(x9.getD x0.toNat (false,[],[])).2.1,(x9.getD x0.toNat (false,[],[])).2.2),x3))),(x1,())),())) none) none) none) none) none) none)
def zej (n:Nat) (lL5:Int→Int→Int→Int→Int→Lb→Li→Lb→Li→(List (Br))→Option R155) (lL13:Int→Int→Int→Int→Int→Lb→Li→Lb→Li→(List (Br))→Option R155) (x0 x1 x2 x3 x4:Int) (x5:Lb) (x6:Li) (x7:Lb) (x8:Li) (x9:List (Br)):Option R155 :=
 cond (decide (x2 < 16)) (cond (decide (0≤x0)) (cond (decide (x0 < (↑x9.length:Int))) ((q157 n (((x9.getD x0.toNat (false,[],[])).1,(x9.getD x0.toNat (false,[],[])).2.1,(x9.getD x0.toNat (false,[],[])).2.2),x2,())).bind fun r2=>cond r2.1.1 (cond (decide (0≤x0)) (cond (decide (x0 < (↑x9.length:Int))) (cond (decide (0≤x2)) (cond (decide (x2 < (↑(List.length (x9.getD x0.toNat (false,[],[])).2.2):Int))) (cond (decide ((List.getD (x9.getD x0.toNat (false,[],[])).2.2 x2.toNat ((0:Int),(0:Int),false,false)).1=(0:Int))) ((q153 n (((x5,x6),(x7,x8),x9,x3),x0,x2,())).bind fun r3=>cond r3.1.2.1 ((q153 n (((x5,x6),(x7,x8),x9,x3),x0,x2,())).bind fun r4=>cond (!r4.1.2.1) none (lL5 x0 x1 (IntKind.i64.wrap (x2 + 1)) r4.1.1.2.2.2 x4 r4.1.1.1.1 r4.1.1.1.2 r4.1.1.2.1.1 r4.1.1.2.1.2 r4.1.1.2.2.1)) ((zey n (((x5,x6),(x7,x8),x9,x3),x0,x2,())).bind fun r5=>cond (!r5.1.1) (some ((((r5.2.1.1.1,r5.2.1.1.2),((r5.2.1.2.1.1,r5.2.1.2.1.2),(r5.2.1.2.2.1,x3))),((-1:Int),())),())) none)) (lL5 x0 x1 (IntKind.i64.wrap (x2 + 1)) x3 x4 x5 x6 x7 x8 x9)) none) none) none) none) (lL5 x0 x1 (IntKind.i64.wrap (x2 + 1)) x3 x4 x5 x6 x7 x8 x9)) none) none) (lL13 x0 x1 (0:Int) x3 x4 x5 x6 x7 x8 x9)
theorem e155_top (n:Nat) (a:Mm) (b:Int):runF TT G155 an155 Try.f155 c155 ps155 rs155 n (a,b,())=zfr n (fun x0 x1 x2 x3 x4 x5 x6 x7 x8 x9=>at155 n (.head 5) [n] (zgh x0 x1 x2 x3 x4 x5 x6 x7 x8 x9)) a b:=by kernel_rfl
theorem e155_L13_0 (n:Nat) (x0 x1 x2 x3 x4:Int) (x5:Lb) (x6:Li) (x7:Lb) (x8:Li) (x9:List (Br)):at155 n (.head 13) [0] (zdj x0 x1 x2 x3 x4 x5 x6 x7 x8 x9)=none:=by kernel_rfl
theorem e155_L13 (n:Nat) (m13:Nat) (x0 x1 x2 x3 x4:Int) (x5:Lb) (x6:Li) (x7:Lb) (x8:Li) (x9:List (Br)):at155 n (.head 13) [m13 + 1] (zdj x0 x1 x2 x3 x4 x5 x6 x7 x8 x9)=zcy n (fun x0 x1 x2 x3 x4 x5 x6 x7 x8 x9=>at155 n (.head 13) [m13] (zdj x0 x1 x2 x3 x4 x5 x6 x7 x8 x9)) x0 x1 x2 x3 x4 x5 x6 x7 x8 x9:=by kernel_rfl
theorem e155_L5_0 (n:Nat) (x0 x1 x2 x3 x4:Int) (x5:Lb) (x6:Li) (x7:Lb) (x8:Li) (x9:List (Br)):at155 n (.head 5) [0] (zgh x0 x1 x2 x3 x4 x5 x6 x7 x8 x9)=none:=by kernel_rfl
theorem e155_L5 (n:Nat) (m5:Nat) (x0 x1 x2 x3 x4:Int) (x5:Lb) (x6:Li) (x7:Lb) (x8:Li) (x9:List (Br)):at155 n (.head 5) [m5 + 1] (zgh x0 x1 x2 x3 x4 x5 x6 x7 x8 x9)=zej n (fun x0 x1 x2 x3 x4 x5 x6 x7 x8 x9=>at155 n (.head 5) [m5] (zgh x0 x1 x2 x3 x4 x5 x6 x7 x8 x9)) (fun x0 x1 x2 x3 x4 x5 x6 x7 x8 x9=>at155 n (.head 13) [n] (zdj x0 x1 x2 x3 x4 x5 x6 x7 x8 x9)) x0 x1 x2 x3 x4 x5 x6 x7 x8 x9:=by kernel_rfl
def zi4 (n:Nat):Nat→Int→Int→Int→Int→Int→Lb→Li→Lb→Li→(List (Br))→Option R155
 | 0,_,_,_,_,_,_,_,_,_,_=>none
 | m + 1,x0,x1,x2,x3,x4,x5,x6,x7,x8,x9=>zcy n (zi4 n m) x0 x1 x2 x3 x4 x5 x6 x7 x8 x9
def zku (n:Nat):Nat→Int→Int→Int→Int→Int→Lb→Li→Lb→Li→(List (Br))→Option R155
 | 0,_,_,_,_,_,_,_,_,_,_=>none
 | m + 1,x0,x1,x2,x3,x4,x5,x6,x7,x8,x9=>zej n (zku n m) (zi4 n n) x0 x1 x2 x3 x4 x5 x6 x7 x8 x9
def p155 (n:Nat) (a:Mm) (b:Int):Option R155:=zfr n (zku n n) a b
theorem t155_L13 (n:Nat):∀ (m13:Nat) (x0 x1 x2 x3 x4:Int) (x5:Lb) (x6:Li) (x7:Lb) (x8:Li) (x9:List (Br)),at155 n (.head 13) [m13] (zdj x0 x1 x2 x3 x4 x5 x6 x7 x8 x9)=zi4 n m13 x0 x1 x2 x3 x4 x5 x6 x7 x8 x9:=by
 intro m
 induction m with
 | zero=>intros; rw [e155_L13_0]; rfl
 | succ m ih =>
  intros
  rw [e155_L13]
  try simp only [ih]
  rfl
theorem t155_L5 (n:Nat):∀ (m5:Nat) (x0 x1 x2 x3 x4:Int) (x5:Lb) (x6:Li) (x7:Lb) (x8:Li) (x9:List (Br)),at155 n (.head 5) [m5] (zgh x0 x1 x2 x3 x4 x5 x6 x7 x8 x9)=zku n m5 x0 x1 x2 x3 x4 x5 x6 x7 x8 x9:=by
 intro m
 induction m with
 | zero=>intros; rw [e155_L5_0]; rfl
 | succ m ih =>
  intros
  rw [e155_L5]
  try simp only [t155_L13,ih]
  rfl
def q155 (n:Nat) (x:argsD ps155):Option R155:=p155 n x.1 x.2.1
def Sm155:Sm:=⟨ps155,rs155,false,q155⟩
theorem gam155:GamOK Try.prog G155:=by intro f s h; unfold G155 at h; split at h; exact gj h y93; exact gj h y153; exact gj h y3000153; exact gj h y157; cases h
theorem hh155:Hp 155 Sm155:=hOf (zae (an:=an155) (c:=c155) tt_ok gam155 mixed Try.func155 (by kernel_rfl) rfl (by decide +kernel)) fun n x=>(e155_top n x.1 x.2.1).trans (by simp only [t155_L5]; try rfl)
theorem y155:Gk 155 Sm155:=⟨⟨Try.f155,c155,Try.func155,by kernel_rfl,by decide +kernel⟩,hh155⟩
def c156:Code:=(Try.f156.body.getD .skip)
def an156:An:=⟨fun _=>⟨[],[]⟩,fun _ _=>none⟩
abbrev ps156:List PK:=[.own tMem true,.val i64 false,.val i64 false]
abbrev rs156:List RK:=[.own tMem true,.val i64 false,.val i64 false]
abbrev R156:=retsD rs156 × outsD ps156
def G156:Gam:=fun f=>match f with | 56=>some Sm56 | 71=>some Sm71 | 153=>some Sm153 | _=>none
def zfq (n:Nat) (a:Mm) (b:Int) (c:Int):Option R156 :=
 cond (decide ((0:Int)≤b)) (cond (decide (b < (↑(List.length a.2.2.1):Int))) ((q71 n ((List.getD a.2.2.1 b.toNat (false,[],[])).2.1,IntKind.i64.wrap (c.tdiv (4:Int)),())).bind fun r0=>cond (decide (r0.1.1 < (0:Int))) (some ((((a.1.1,a.1.2),((a.2.1.1,a.2.1.2),(a.2.2.1,a.2.2.2))),((-1:Int),((2:Int),()))),())) ((q56 n (((a.1.1,a.1.2),(a.2.1.1,a.2.1.2),a.2.2.1,a.2.2.2),())).bind fun r1=>(q153 n (((r1.1.1.1.1,r1.1.1.1.2),(r1.1.1.2.1.1,r1.1.1.2.1.2),r1.1.1.2.2.1,r1.1.1.2.2.2),b,IntKind.i64.wrap (c.tdiv (4:Int)),())).bind fun r2=>cond (!r2.1.2.1) (some ((((a.1.1,a.1.2),((a.2.1.1,a.2.1.2),(a.2.2.1,a.2.2.2))),((-1:Int),((4:Int),()))),())) (cond (decide ((0:Int)≤b)) (cond (decide (b < (↑(List.length r2.1.1.2.2.1):Int))) (cond (decide ((0:Int)≤IntKind.i64.wrap (c.tdiv (4:Int)))) (cond (decide (IntKind.i64.wrap (c.tdiv (4:Int)) < (↑(List.length (List.getD r2.1.1.2.2.1 b.toNat (false,[],[])).2.2):Int))) (cond (decide ((0:Int)≤(List.getD (List.getD r2.1.1.2.2.1 b.toNat (false,[],[])).2.2 (IntKind.i64.wrap (c.tdiv (4:Int))).toNat ((0:Int),(0:Int),false,false)).2.1)) (cond (decide ((List.getD (List.getD r2.1.1.2.2.1 b.toNat (false,[],[])).2.2 (IntKind.i64.wrap (c.tdiv (4:Int))).toNat ((0:Int),(0:Int),false,false)).2.1 < (↑(List.length r2.1.1.1.1):Int))) (cond (decide ((0:Int)≤c.tmod (4:Int))) (cond (decide (c.tmod (4:Int) < (↑(ByteArray.size (List.getD r2.1.1.1.1 (Int.toNat (List.getD (List.getD r2.1.1.2.2.1 b.toNat (false,[],[])).2.2 (IntKind.i64.wrap (c.tdiv (4:Int))).toNat ((0:Int),(0:Int),false,false)).2.1) ByteArray.empty)):Int))) (some ((((r2.1.1.1.1,r2.1.1.1.2),((r2.1.1.2.1.1,r2.1.1.2.1.2),(r2.1.1.2.2.1,r2.1.1.2.2.2))),(IntKind.i64.wrap (↑((List.getD r2.1.1.1.1 (Int.toNat (List.getD (List.getD r2.1.1.2.2.1 b.toNat (false,[],[])).2.2 (IntKind.i64.wrap (c.tdiv (4:Int))).toNat ((0:Int),(0:Int),false,false)).2.1) ByteArray.empty).data.toList.getD (c.tmod (4:Int)).toNat (0:UInt8)).toNat:Int),((0:Int),()))),())) none) none) none) none) none) none) none) none))) none) none
theorem e156_top (n:Nat) (a:Mm) (b:Int) (c:Int):runF TT G156 an156 Try.f156 c156 ps156 rs156 n (a,b,c,())=zfq n a b c:=by kernel_rfl
def p156 (n:Nat) (a:Mm) (b:Int) (c:Int):Option R156:=zfq n a b c
def q156 (n:Nat) (x:argsD ps156):Option R156:=p156 n x.1 x.2.1 x.2.2.1
def Sm156:Sm:=⟨ps156,rs156,false,q156⟩
theorem gam156:GamOK Try.prog G156:=by intro f s h; unfold G156 at h; split at h; exact gj h y56; exact gj h y71; exact gj h y153; cases h
theorem hh156:Hp 156 Sm156:=hOf (zae (an:=an156) (c:=c156) tt_ok gam156 mixed Try.func156 (by kernel_rfl) rfl (by decide +kernel)) fun n x=>(e156_top n x.1 x.2.1 x.2.2.1).trans rfl
theorem y156:Gk 156 Sm156:=⟨⟨Try.f156,c156,Try.func156,by kernel_rfl,by decide +kernel⟩,hh156⟩
def c110:Code:=(Try.f110.body.getD .skip)
def an110:An:=⟨fun _=>⟨[],[]⟩,fun _ _=>none⟩
abbrev ps110:List PK:=[.bx tRd,.own tMem true]
abbrev rs110:List RK:=[.own tMem true]
abbrev R110:=retsD rs110 × outsD ps110
def G110:Gam:=fun f=>match f with | 28=>some Sm28 | 48=>some Sm48 | 54=>some Sm54 | 55=>some Sm55 | 56=>some Sm56 | 103=>some Sm103 | 108=>some Sm108 | 109=>some Sm109 | 155=>some Sm155 | 156=>some Sm156 | _=>none
def zf2 (n:Nat) (a:Li × Int) (b:Mm):Option R110 :=
 (q48 n ((a.1,a.2),(5:Int),())).bind fun r0=>(q54 n (((b.1.1,b.1.2),(b.2.1.1,b.2.1.2),b.2.2.1,b.2.2.2),r0.1.1,())).bind fun r1=>cond (!r1.1.1) ((q54 n (((b.1.1,b.1.2),(b.2.1.1,b.2.1.2),b.2.2.1,b.2.2.2),(0:Int),())).bind fun r2=>cond (!r2.1.1) ((q28 n (((b.1.1,b.1.2),(b.2.1.1,b.2.1.2),b.2.2.1,b.2.2.2),())).bind fun r3=>cond r3.1.2.2.1 (some ((((r3.1.1.1.1,r3.1.1.1.2),((r3.1.1.2.1.1,r3.1.1.2.1.2),(r3.1.1.2.2.1,r3.1.1.2.2.2))),()),((r0.2.1.1,r0.2.1.2),()))) (some ((((b.1.1,b.1.2),((b.2.1.1,b.2.1.2),(b.2.2.1,b.2.2.2))),()),((r0.2.1.1,r0.2.1.2),())))) ((q48 n ((r0.2.1.1,r0.2.1.2),(64:Int),())).bind fun r4=>(q48 n ((r4.2.1.1,r4.2.1.2),(14:Int),())).bind fun r5=>cond (decide (r5.1.1=(0:Int))) ((q56 n (((b.1.1,b.1.2),(b.2.1.1,b.2.1.2),b.2.2.1,b.2.2.2),())).bind fun r6=>(q155 n (((r6.1.1.1.1,r6.1.1.1.2),(r6.1.1.2.1.1,r6.1.1.2.1.2),r6.1.1.2.2.1,r6.1.1.2.2.2),(0:Int),())).bind fun r7=>cond (decide ((0:Int)≤r7.1.2.1)) (some ((((r7.1.1.1.1,r7.1.1.1.2),((r7.1.1.2.1.1,r7.1.1.2.1.2),(r7.1.1.2.2.1,r7.1.1.2.2.2))),()),((r5.2.1.1,r5.2.1.2),()))) (some ((((b.1.1,b.1.2),((b.2.1.1,b.2.1.2),(b.2.2.1,b.2.2.2))),()),((r5.2.1.1,r5.2.1.2),())))) (cond (decide (r5.1.1=(1:Int))) ((q56 n (((b.1.1,b.1.2),(b.2.1.1,b.2.1.2),b.2.2.1,b.2.2.2),())).bind fun r8=>(q48 n ((r5.2.1.1,r5.2.1.2),(12:Int),())).bind fun r9=>(q48 n ((r9.2.1.1,r9.2.1.2),(4:Int),())).bind fun r10=>(q55 n (((r8.1.1.1.1,r8.1.1.1.2),(r8.1.1.2.1.1,r8.1.1.2.1.2),r8.1.1.2.2.1,r8.1.1.2.2.2),(0:Int),r9.1.1,IntKind.i64.wrap ((1:Int) + r10.1.1),())).bind fun r11=>some ((((r11.1.1.1.1,r11.1.1.1.2),((r11.1.1.2.1.1,r11.1.1.2.1.2),(r11.1.1.2.2.1,r11.1.1.2.2.2))),()),((r10.2.1.1,r10.2.1.2),()))) (cond (decide (r5.1.1=(2:Int))) ((q56 n (((b.1.1,b.1.2),(b.2.1.1,b.2.1.2),b.2.2.1,b.2.2.2),())).bind fun r12=>(q48 n ((r5.2.1.1,r5.2.1.2),(12:Int),())).bind fun r13=>(q48 n ((r13.2.1.1,r13.2.1.2),(4:Int),())).bind fun r14=>(q48 n ((r14.2.1.1,r14.2.1.2),(5:Int),())).bind fun r15=>(q48 n ((r15.2.1.1,r15.2.1.2),(3:Int),())).bind fun r16=>(q108 n (((r12.1.1.1.1,r12.1.1.1.2),(r12.1.1.2.1.1,r12.1.1.2.1.2),r12.1.1.2.2.1,r12.1.1.2.2.2),(0:Int),(r13.1.1,IntKind.i64.wrap ((1:Int) + r14.1.1),decide ((0:Int) < r15.1.1),decide (r16.1.1=(0:Int))),())).bind fun r17=>some ((((r17.1.1.1.1,r17.1.1.1.2),((r17.1.1.2.1.1,r17.1.1.2.1.2),(r17.1.1.2.2.1,r17.1.1.2.2.2))),()),((r16.2.1.1,r16.2.1.2),()))) (cond (decide (r5.1.1=(3:Int))) ((q56 n (((b.1.1,b.1.2),(b.2.1.1,b.2.1.2),b.2.2.1,b.2.2.2),())).bind fun r18=>(q48 n ((r5.2.1.1,r5.2.1.2),(12:Int),())).bind fun r19=>(q48 n ((r19.2.1.1,r19.2.1.2),(4:Int),())).bind fun r20=>(q48 n ((r20.2.1.1,r20.2.1.2),(5:Int),())).bind fun r21=>(q48 n ((r21.2.1.1,r21.2.1.2),(3:Int),())).bind fun r22=>(q108 n (((r18.1.1.1.1,r18.1.1.1.2),(r18.1.1.2.1.1,r18.1.1.2.1.2),r18.1.1.2.2.1,r18.1.1.2.2.2),(0:Int),(r19.1.1,IntKind.i64.wrap ((1:Int) + r20.1.1),decide ((0:Int) < r21.1.1),decide (r22.1.1=(0:Int))),())).bind fun r23=>some ((((r23.1.1.1.1,r23.1.1.1.2),((r23.1.1.2.1.1,r23.1.1.2.1.2),(r23.1.1.2.2.1,r23.1.1.2.2.2))),()),((r22.2.1.1,r22.2.1.2),()))) (cond (decide (r5.1.1=(4:Int))) ((q56 n (((b.1.1,b.1.2),(b.2.1.1,b.2.1.2),b.2.2.1,b.2.2.2),())).bind fun r24=>(q48 n ((r5.2.1.1,r5.2.1.2),(12:Int),())).bind fun r25=>(q48 n ((r25.2.1.1,r25.2.1.2),(4:Int),())).bind fun r26=>(q48 n ((r26.2.1.1,r26.2.1.2),(5:Int),())).bind fun r27=>(q48 n ((r27.2.1.1,r27.2.1.2),(3:Int),())).bind fun r28=>(q108 n (((r24.1.1.1.1,r24.1.1.1.2),(r24.1.1.2.1.1,r24.1.1.2.1.2),r24.1.1.2.2.1,r24.1.1.2.2.2),(0:Int),(r25.1.1,IntKind.i64.wrap ((1:Int) + r26.1.1),decide ((0:Int) < r27.1.1),decide (r28.1.1=(0:Int))),())).bind fun r29=>some ((((r29.1.1.1.1,r29.1.1.1.2),((r29.1.1.2.1.1,r29.1.1.2.1.2),(r29.1.1.2.2.1,r29.1.1.2.2.2))),()),((r28.2.1.1,r28.2.1.2),()))) (cond (decide (r5.1.1=(5:Int))) ((q48 n ((r5.2.1.1,r5.2.1.2),(4:Int),())).bind fun r30=>cond (decide (r30.1.1=(0:Int))) ((q56 n (((b.1.1,b.1.2),(b.2.1.1,b.2.1.2),b.2.2.1,b.2.2.2),())).bind fun r31=>(q103 n (((r31.1.1.1.1,r31.1.1.1.2),(r31.1.1.2.1.1,r31.1.1.2.1.2),r31.1.1.2.2.1,r31.1.1.2.2.2),(0:Int),())).bind fun r32=>some ((((r32.1.1.1.1,r32.1.1.1.2),((r32.1.1.2.1.1,r32.1.1.2.1.2),(r32.1.1.2.2.1,r32.1.1.2.2.2))),()),((r30.2.1.1,r30.2.1.2),()))) (some ((((b.1.1,b.1.2),((b.2.1.1,b.2.1.2),(b.2.2.1,b.2.2.2))),()),((r30.2.1.1,r30.2.1.2),())))) (cond (decide (r5.1.1=(6:Int))) ((q156 n (((b.1.1,b.1.2),(b.2.1.1,b.2.1.2),b.2.2.1,b.2.2.2),(0:Int),r4.1.1,())).bind fun r33=>some ((((r33.1.1.1.1,r33.1.1.1.2),((r33.1.1.2.1.1,r33.1.1.2.1.2),(r33.1.1.2.2.1,r33.1.1.2.2.2))),()),((r5.2.1.1,r5.2.1.2),()))) (cond (decide (r5.1.1=(7:Int))) ((q156 n (((b.1.1,b.1.2),(b.2.1.1,b.2.1.2),b.2.2.1,b.2.2.2),(0:Int),r4.1.1,())).bind fun r34=>some ((((r34.1.1.1.1,r34.1.1.1.2),((r34.1.1.2.1.1,r34.1.1.2.1.2),(r34.1.1.2.2.1,r34.1.1.2.2.2))),()),((r5.2.1.1,r5.2.1.2),()))) (cond (decide (r5.1.1=(8:Int))) ((q156 n (((b.1.1,b.1.2),(b.2.1.1,b.2.1.2),b.2.2.1,b.2.2.2),(0:Int),r4.1.1,())).bind fun r35=>some ((((r35.1.1.1.1,r35.1.1.1.2),((r35.1.1.2.1.1,r35.1.1.2.1.2),(r35.1.1.2.2.1,r35.1.1.2.2.2))),()),((r5.2.1.1,r5.2.1.2),()))) ((q48 n ((r5.2.1.1,r5.2.1.2),(256:Int),())).bind fun r36=>(q109 n (((b.1.1,b.1.2),(b.2.1.1,b.2.1.2),b.2.2.1,b.2.2.2),(0:Int),r4.1.1,r36.1.1,())).bind fun r37=>some ((((r37.1.1.1.1,r37.1.1.1.2),((r37.1.1.2.1.1,r37.1.1.2.1.2),(r37.1.1.2.2.1,r37.1.1.2.2.2))),()),((r36.2.1.1,r36.2.1.2),()))))))))))))) ((q54 n (((b.1.1,b.1.2),(b.2.1.1,b.2.1.2),b.2.2.1,b.2.2.2),r0.1.1,())).bind fun r38=>cond (!r38.1.1) ((q28 n (((b.1.1,b.1.2),(b.2.1.1,b.2.1.2),b.2.2.1,b.2.2.2),())).bind fun r39=>cond r39.1.2.2.1 (some ((((r39.1.1.1.1,r39.1.1.1.2),((r39.1.1.2.1.1,r39.1.1.2.1.2),(r39.1.1.2.2.1,r39.1.1.2.2.2))),()),((r0.2.1.1,r0.2.1.2),()))) (some ((((b.1.1,b.1.2),((b.2.1.1,b.2.1.2),(b.2.2.1,b.2.2.2))),()),((r0.2.1.1,r0.2.1.2),())))) ((q48 n ((r0.2.1.1,r0.2.1.2),(64:Int),())).bind fun r40=>(q48 n ((r40.2.1.1,r40.2.1.2),(14:Int),())).bind fun r41=>cond (decide (r41.1.1=(0:Int))) ((q56 n (((b.1.1,b.1.2),(b.2.1.1,b.2.1.2),b.2.2.1,b.2.2.2),())).bind fun r42=>(q155 n (((r42.1.1.1.1,r42.1.1.1.2),(r42.1.1.2.1.1,r42.1.1.2.1.2),r42.1.1.2.2.1,r42.1.1.2.2.2),r0.1.1,())).bind fun r43=>cond (decide ((0:Int)≤r43.1.2.1)) (some ((((r43.1.1.1.1,r43.1.1.1.2),((r43.1.1.2.1.1,r43.1.1.2.1.2),(r43.1.1.2.2.1,r43.1.1.2.2.2))),()),((r41.2.1.1,r41.2.1.2),()))) (some ((((b.1.1,b.1.2),((b.2.1.1,b.2.1.2),(b.2.2.1,b.2.2.2))),()),((r41.2.1.1,r41.2.1.2),())))) (cond (decide (r41.1.1=(1:Int))) ((q56 n (((b.1.1,b.1.2),(b.2.1.1,b.2.1.2),b.2.2.1,b.2.2.2),())).bind fun r44=>(q48 n ((r41.2.1.1,r41.2.1.2),(12:Int),())).bind fun r45=>(q48 n ((r45.2.1.1,r45.2.1.2),(4:Int),())).bind fun r46=>(q55 n (((r44.1.1.1.1,r44.1.1.1.2),(r44.1.1.2.1.1,r44.1.1.2.1.2),r44.1.1.2.2.1,r44.1.1.2.2.2),r0.1.1,r45.1.1,IntKind.i64.wrap ((1:Int) + r46.1.1),())).bind fun r47=>some ((((r47.1.1.1.1,r47.1.1.1.2),((r47.1.1.2.1.1,r47.1.1.2.1.2),(r47.1.1.2.2.1,r47.1.1.2.2.2))),()),((r46.2.1.1,r46.2.1.2),()))) (cond (decide (r41.1.1=(2:Int))) ((q56 n (((b.1.1,b.1.2),(b.2.1.1,b.2.1.2),b.2.2.1,b.2.2.2),())).bind fun r48=>(q48 n ((r41.2.1.1,r41.2.1.2),(12:Int),())).bind fun r49=>(q48 n ((r49.2.1.1,r49.2.1.2),(4:Int),())).bind fun r50=>(q48 n ((r50.2.1.1,r50.2.1.2),(5:Int),())).bind fun r51=>(q48 n ((r51.2.1.1,r51.2.1.2),(3:Int),())).bind fun r52=>(q108 n (((r48.1.1.1.1,r48.1.1.1.2),(r48.1.1.2.1.1,r48.1.1.2.1.2),r48.1.1.2.2.1,r48.1.1.2.2.2),r0.1.1,(r49.1.1,IntKind.i64.wrap ((1:Int) + r50.1.1),decide ((0:Int) < r51.1.1),decide (r52.1.1=(0:Int))),())).bind fun r53=>some ((((r53.1.1.1.1,r53.1.1.1.2),((r53.1.1.2.1.1,r53.1.1.2.1.2),(r53.1.1.2.2.1,r53.1.1.2.2.2))),()),((r52.2.1.1,r52.2.1.2),()))) (cond (decide (r41.1.1=(3:Int))) ((q56 n (((b.1.1,b.1.2),(b.2.1.1,b.2.1.2),b.2.2.1,b.2.2.2),())).bind fun r54=>(q48 n ((r41.2.1.1,r41.2.1.2),(12:Int),())).bind fun r55=>(q48 n ((r55.2.1.1,r55.2.1.2),(4:Int),())).bind fun r56=>(q48 n ((r56.2.1.1,r56.2.1.2),(5:Int),())).bind fun r57=>(q48 n ((r57.2.1.1,r57.2.1.2),(3:Int),())).bind fun r58=>(q108 n (((r54.1.1.1.1,r54.1.1.1.2),(r54.1.1.2.1.1,r54.1.1.2.1.2),r54.1.1.2.2.1,r54.1.1.2.2.2),r0.1.1,(r55.1.1,IntKind.i64.wrap ((1:Int) + r56.1.1),decide ((0:Int) < r57.1.1),decide (r58.1.1=(0:Int))),())).bind fun r59=>some ((((r59.1.1.1.1,r59.1.1.1.2),((r59.1.1.2.1.1,r59.1.1.2.1.2),(r59.1.1.2.2.1,r59.1.1.2.2.2))),()),((r58.2.1.1,r58.2.1.2),()))) (cond (decide (r41.1.1=(4:Int))) ((q56 n (((b.1.1,b.1.2),(b.2.1.1,b.2.1.2),b.2.2.1,b.2.2.2),())).bind fun r60=>(q48 n ((r41.2.1.1,r41.2.1.2),(12:Int),())).bind fun r61=>(q48 n ((r61.2.1.1,r61.2.1.2),(4:Int),())).bind fun r62=>(q48 n ((r62.2.1.1,r62.2.1.2),(5:Int),())).bind fun r63=>(q48 n ((r63.2.1.1,r63.2.1.2),(3:Int),())).bind fun r64=>(q108 n (((r60.1.1.1.1,r60.1.1.1.2),(r60.1.1.2.1.1,r60.1.1.2.1.2),r60.1.1.2.2.1,r60.1.1.2.2.2),r0.1.1,(r61.1.1,IntKind.i64.wrap ((1:Int) + r62.1.1),decide ((0:Int) < r63.1.1),decide (r64.1.1=(0:Int))),())).bind fun r65=>some ((((r65.1.1.1.1,r65.1.1.1.2),((r65.1.1.2.1.1,r65.1.1.2.1.2),(r65.1.1.2.2.1,r65.1.1.2.2.2))),()),((r64.2.1.1,r64.2.1.2),()))) (cond (decide (r41.1.1=(5:Int))) ((q48 n ((r41.2.1.1,r41.2.1.2),(4:Int),())).bind fun r66=>cond (decide (r66.1.1=(0:Int))) ((q56 n (((b.1.1,b.1.2),(b.2.1.1,b.2.1.2),b.2.2.1,b.2.2.2),())).bind fun r67=>(q103 n (((r67.1.1.1.1,r67.1.1.1.2),(r67.1.1.2.1.1,r67.1.1.2.1.2),r67.1.1.2.2.1,r67.1.1.2.2.2),r0.1.1,())).bind fun r68=>some ((((r68.1.1.1.1,r68.1.1.1.2),((r68.1.1.2.1.1,r68.1.1.2.1.2),(r68.1.1.2.2.1,r68.1.1.2.2.2))),()),((r66.2.1.1,r66.2.1.2),()))) (some ((((b.1.1,b.1.2),((b.2.1.1,b.2.1.2),(b.2.2.1,b.2.2.2))),()),((r66.2.1.1,r66.2.1.2),())))) (cond (decide (r41.1.1=(6:Int))) ((q156 n (((b.1.1,b.1.2),(b.2.1.1,b.2.1.2),b.2.2.1,b.2.2.2),r0.1.1,r40.1.1,())).bind fun r69=>some ((((r69.1.1.1.1,r69.1.1.1.2),((r69.1.1.2.1.1,r69.1.1.2.1.2),(r69.1.1.2.2.1,r69.1.1.2.2.2))),()),((r41.2.1.1,r41.2.1.2),()))) (cond (decide (r41.1.1=(7:Int))) ((q156 n (((b.1.1,b.1.2),(b.2.1.1,b.2.1.2),b.2.2.1,b.2.2.2),r0.1.1,r40.1.1,())).bind fun r70=>some ((((r70.1.1.1.1,r70.1.1.1.2),((r70.1.1.2.1.1,r70.1.1.2.1.2),(r70.1.1.2.2.1,r70.1.1.2.2.2))),()),((r41.2.1.1,r41.2.1.2),()))) (cond (decide (r41.1.1=(8:Int))) ((q156 n (((b.1.1,b.1.2),(b.2.1.1,b.2.1.2),b.2.2.1,b.2.2.2),r0.1.1,r40.1.1,())).bind fun r71=>some ((((r71.1.1.1.1,r71.1.1.1.2),((r71.1.1.2.1.1,r71.1.1.2.1.2),(r71.1.1.2.2.1,r71.1.1.2.2.2))),()),((r41.2.1.1,r41.2.1.2),()))) ((q48 n ((r41.2.1.1,r41.2.1.2),(256:Int),())).bind fun r72=>(q109 n (((b.1.1,b.1.2),(b.2.1.1,b.2.1.2),b.2.2.1,b.2.2.2),r0.1.1,r40.1.1,r72.1.1,())).bind fun r73=>some ((((r73.1.1.1.1,r73.1.1.1.2),((r73.1.1.2.1.1,r73.1.1.2.1.2),(r73.1.1.2.2.1,r73.1.1.2.2.2))),()),((r72.2.1.1,r72.2.1.2),())))))))))))))
theorem e110_top (n:Nat) (a:Li × Int) (b:Mm):runF TT G110 an110 Try.f110 c110 ps110 rs110 n (a,b,())=zf2 n a b:=by kernel_rfl
def p110 (n:Nat) (a:Li × Int) (b:Mm):Option R110:=zf2 n a b
def q110 (n:Nat) (x:argsD ps110):Option R110:=p110 n x.1 x.2.1
def Sm110:Sm:=⟨ps110,rs110,true,q110⟩
theorem gam110:GamOK Try.prog G110:=by intro f s h; unfold G110 at h; split at h; exact gj h y28; exact gj h y48; exact gj h y54; exact gj h y55; exact gj h y56; exact gj h y103; exact gj h y108; exact gj h y109; exact gj h y155; exact gj h y156; cases h
theorem hh110:Hp 110 Sm110:=hOf (zae (an:=an110) (c:=c110) tt_ok gam110 mixed Try.func110 (by kernel_rfl) rfl (by decide +kernel)) fun n x=>(e110_top n x.1 x.2.1).trans rfl
theorem y110:Gk 110 Sm110:=⟨⟨Try.f110,c110,Try.func110,by kernel_rfl,by decide +kernel⟩,hh110⟩
def c45:Code:=(Try.f45.body.getD .skip)
def an45:An:=⟨fun _=>⟨[],[]⟩,fun _ _=>none⟩
abbrev ps45:List PK:=[.val (.row 5 (.int .u8)) false]
abbrev rs45:List RK:=[.bx tRd]
abbrev R45:=retsD rs45 × outsD ps45
def G45:Gam:=fun _=>none
def zir (n:Nat) (a:Li):Option R45 :=
 cond (decide ((2000:Int) < (↑a.length:Int))) (cond (decide ((2000:Int)≤(↑a.length:Int))) (some (((List.take (Int.toNat (2000:Int)) a,(0:Int)),()),())) none) (some (((a,(0:Int)),()),()))
theorem e45_top (n:Nat) (a:Li):runF TT G45 an45 Try.f45 c45 ps45 rs45 n (a,())=zir n a:=by kernel_rfl
def p45 (n:Nat) (a:Li):Option R45:=zir n a
def q45 (n:Nat) (x:argsD ps45):Option R45:=p45 n x.1
def Sm45:Sm:=⟨ps45,rs45,true,q45⟩
theorem gam45:GamOK Try.prog G45:=fun _ _ h=>by cases h
theorem hh45:Hp 45 Sm45:=hOf (zae (an:=an45) (c:=c45) tt_ok gam45 mixed Try.func45 (by kernel_rfl) rfl (by decide +kernel)) fun n x=>(e45_top n x.1).trans rfl
theorem y45:Gk 45 Sm45:=⟨⟨Try.f45,c45,Try.func45,by kernel_rfl,by decide +kernel⟩,hh45⟩
def c151:Code:=(Try.f151.body.getD .skip)
def an151:An:=⟨fun _=>⟨[],[]⟩,fun _ _=>none⟩
abbrev ps151:List PK:=[.val i64 false]
abbrev rs151:List RK:=[.own tPg true,.val .bool false]
abbrev R151:=retsD rs151 × outsD ps151
def G151:Gam:=fun f=>match f with | 69=>some Sm69 | _=>none
def st151_top (n:Nat) (a:Int):Option R151 :=
 (q69 n (a,(1:Int),(12:Int),())).bind fun r0=>cond (!r0.1.1) (some ((([],[]),(false,())),())) (cond (decide ((0:Int)≤a)) (cond (decide (a * (↑(16:Nat):Int)≤(140737488355328:Int))) (cond (decide ((0:Int)≤a)) (cond (decide (a * (↑(8:Nat):Int)≤(140737488355328:Int))) (some (((List.replicate a.toNat ByteArray.empty,List.replicate a.toNat (0:Int)),(true,())),())) none) none) none) none)
theorem e151_top (n:Nat) (a:Int):runF TT G151 an151 Try.f151 c151 ps151 rs151 n (a,())=st151_top n a:=by kernel_rfl
def p151 (n:Nat) (a:Int):Option R151:=st151_top n a
def q151 (n:Nat) (x:argsD ps151):Option R151:=p151 n x.1
def Sm151:Sm:=⟨ps151,rs151,false,q151⟩
theorem gam151:GamOK Try.prog G151:=by intro f s h; unfold G151 at h; split at h; exact gj h y69; cases h
theorem hh151:Hp 151 Sm151:=hOf (zae (an:=an151) (c:=c151) tt_ok gam151 mixed Try.func151 (by kernel_rfl) rfl (by decide +kernel)) fun n x=>(e151_top n x.1).trans rfl
theorem y151:Gk 151 Sm151:=⟨⟨Try.f151,c151,Try.func151,by kernel_rfl,by decide +kernel⟩,hh151⟩
def c107:Code:=(Try.f107.body.getD .skip)
def an107:An:=⟨fun _=>⟨[],[]⟩,fun _ _=>none⟩
abbrev ps107:List PK:=[]
abbrev rs107:List RK:=[.own tMem true]
abbrev R107:=retsD rs107 × outsD ps107
def G107:Gam:=fun f=>match f with | 151=>some Sm151 | _=>none
def st107_top (n:Nat):Option R107 :=
 (q151 n ((12:Int),())).bind fun r0=>(q151 n ((12:Int),())).bind fun r1=>some ((((r0.1.1.1,r0.1.1.2),((r1.1.1.1,r1.1.1.2),(List.replicate (Int.toNat (5:Int)) (false,[],[]),(0:Int)))),()),())
theorem e107_top (n:Nat):runF TT G107 an107 Try.f107 c107 ps107 rs107 n ()=st107_top n:=by kernel_rfl
def p107 (n:Nat):Option R107:=st107_top n 
def q107 (n:Nat) (x:argsD ps107):Option R107:=p107 n 
def Sm107:Sm:=⟨ps107,rs107,false,q107⟩
theorem gam107:GamOK Try.prog G107:=by intro f s h; unfold G107 at h; split at h; exact gj h y151; cases h
theorem hh107:Hp 107 Sm107:=hOf (zae (an:=an107) (c:=c107) tt_ok gam107 mixed Try.func107 (by kernel_rfl) rfl (by decide +kernel)) fun n x=>(e107_top n ).trans rfl
theorem y107:Gk 107 Sm107:=⟨⟨Try.f107,c107,Try.func107,by kernel_rfl,by decide +kernel⟩,hh107⟩
end Go.Proofs.Ytdkaagpkeomhmaa.Rx.S
