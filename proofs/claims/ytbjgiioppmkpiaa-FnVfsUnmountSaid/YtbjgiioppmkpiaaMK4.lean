/- An evaluator over the program text, proved sound once: what a function computes on data, out of its code. No condition. -/
import Derived.Lib.SliceRun
import Derived.ChangeArms
import Derived.ChangeOld
import Derived.Deep.Slices
import Derived.WideShapes
import Derived.DataReads
import Derived.Below
import Derived.Test.YtbjgiioppmkpiaaMK3
set_option linter.unusedVariables false
set_option linter.unusedSimpArgs false
namespace Go.Proofs.Ytbjgiioppmkpiaa.Rx
open Go Go.RowKit
namespace M
theorem zgx(s:SV)(cons:List (Nat×Ent)):(res1 s cons).Loc:=by unfold res1;(repeat' (first|with_reducible exact zae _|with_reducible exact zac|with_reducible exact zan _|with_reducible exact zap _|with_reducible exact zal _|with_reducible exact zat _|with_reducible exact zao _|with_reducible refine zab ?_ (fun _=>?_)|with_reducible refine zam ?_ ?_|assumption|split))
theorem zgw:∀ (ss:List SV) (cons:List (Nat×Ent)),(resM ss cons).Loc
 | [],_=>zae _
 |s::ss,cons=>zab (zgx _ _) fun _=>zab (zgw ss _) fun _=>zae _
theorem zxm(ti:TI)(s:SV):(zpz ti s).Loc:=by unfold zpz;(repeat' (first|with_reducible exact zae _|with_reducible exact zac|with_reducible exact zan _|with_reducible exact zap _|with_reducible exact zal _|with_reducible exact zat _|with_reducible exact zao _|with_reducible refine zab ?_ (fun _=>?_)|with_reducible refine zam ?_ ?_|assumption|split))
theorem zh7:∀ (p q:Path),(zci p q).Loc
 | [],[]=>zae _
 |(i,c)::p,(j,d)::q=>by
  unfold zci;split
  ·exact zac
  ·exact zab (zan _) fun _=>zh7 p q
 | [],_::_=>zac
 |_::_,[]=>by unfold zci;exact zac
theorem yjb(p:Path)(i c:Nat)(ls:List LS)(ver cur:Nat)(hole:Option Path):(stT p i c ls ver cur hole).Loc:=by
 unfold stT;repeat' (first|exact zh7 _ _|with_reducible exact zae _|with_reducible exact zac|split)
theorem ztz(ti:TI)(p:SV)(cs:List SV):(zpy ti p cs).Loc:=by
 have:=zgw;unfold zpy;repeat' (first|exact zgw _ _|with_reducible exact yjb _ _ _ _ _ _ _|(first|with_reducible exact zae _|with_reducible exact zac|with_reducible exact zan _|with_reducible exact zap _|with_reducible exact zal _|with_reducible exact zat _|with_reducible exact zao _|with_reducible refine zab ?_ (fun _=>?_)|with_reducible refine zam ?_ ?_|assumption|split))
theorem zkz(T:Ty):∀ (css:List (List SV)) (cons:List (Nat×Ent)),(zhr T css cons).Loc
 | [],_=>zae _
 |cs::css,cons=>by
  unfold zhr;have ih:=zkz T css
  repeat' (first|with_reducible exact zgw _ _|with_reducible exact ih _|(first|with_reducible exact zae _|with_reducible exact zac|with_reducible exact zan _|with_reducible exact zap _|with_reducible exact zal _|with_reducible exact zat _|with_reducible exact zao _|with_reducible refine zab ?_ (fun _=>?_)|with_reducible refine zam ?_ ?_|assumption|split))
theorem zk1(e:TypeId)(T:Ty)(n:Nat)(css:List (List SV))(d:Nat):(zcg e T n css d).Loc:=by
 unfold zcg;repeat' (first|with_reducible exact zkz _ _ _|(first|with_reducible exact zae _|with_reducible exact zac|with_reducible exact zan _|with_reducible exact zap _|with_reducible exact zal _|with_reducible exact zat _|with_reducible exact zao _|with_reducible refine zab ?_ (fun _=>?_)|with_reducible refine zam ?_ ?_|assumption|split))
theorem zlo(e:TypeId)(T:Ty)(b:Nat)(n:Int)(d:Nat):(zex e T b n d).Loc:=by unfold zex;(repeat' (first|with_reducible exact zae _|with_reducible exact zac|with_reducible exact zan _|with_reducible exact zap _|with_reducible exact zal _|with_reducible exact zat _|with_reducible exact zao _|with_reducible refine zab ?_ (fun _=>?_)|with_reducible refine zam ?_ ?_|assumption|split))
theorem zk2(e:TypeId)(T:Ty)(s:SV):(zuo e T s).Loc:=by
 unfold zuo;repeat' (first|with_reducible exact zgx _ _|(first|with_reducible exact zae _|with_reducible exact zac|with_reducible exact zan _|with_reducible exact zap _|with_reducible exact zal _|with_reducible exact zat _|with_reducible exact zao _|with_reducible refine zab ?_ (fun _=>?_)|with_reducible refine zam ?_ ?_|assumption|split))
theorem znp(e:TypeId)(T:Ty)(s:SV)(cons:List (Nat×Ent)):(aAdd e T s cons).Loc:=by
 unfold aAdd;repeat' (first|with_reducible exact zgx _ _|(first|with_reducible exact zae _|with_reducible exact zac|with_reducible exact zan _|with_reducible exact zap _|with_reducible exact zal _|with_reducible exact zat _|with_reducible exact zao _|with_reducible refine zab ?_ (fun _=>?_)|with_reducible refine zam ?_ ?_|assumption|split))
theorem zo5(e:TypeId)(T:Ty)(b:Nat)(s x:SV)(d:Nat):(zjh e T b s x d).Loc:=by
 unfold zjh;repeat' (first|with_reducible exact zk2 _ _ _|with_reducible exact znp _ _ _ _|(first|with_reducible exact zae _|with_reducible exact zac|with_reducible exact zan _|with_reducible exact zap _|with_reducible exact zal _|with_reducible exact zat _|with_reducible exact zao _|with_reducible refine zab ?_ (fun _=>?_)|with_reducible refine zam ?_ ?_|assumption|split))
theorem zqx(e:TypeId)(T:Ty)(b o v:Nat)(p:Path)(x:SV):(zlg e T b o v p x).Loc:=by
 unfold zlg;repeat' (first|with_reducible exact zk2 _ _ _|with_reducible exact znp _ _ _ _|(first|with_reducible exact zae _|with_reducible exact zac|with_reducible exact zan _|with_reducible exact zap _|with_reducible exact zal _|with_reducible exact zat _|with_reducible exact zao _|with_reducible refine zab ?_ (fun _=>?_)|with_reducible refine zam ?_ ?_|assumption|split))
theorem zqw(e:TypeId)(T:Ty)(b:Nat)(s x:SV)(d:Nat):(zlf e T b s x d).Loc:=by
 unfold zlf;split
 ·exact zqx _ _ _ _ _ _ _
 ·exact zo5 _ _ _ _ _ _
theorem zno(o v:Nat)(p:Path):(aRow o v p).Loc:=by unfold aRow;(repeat' (first|with_reducible exact zae _|with_reducible exact zac|with_reducible exact zan _|with_reducible exact zap _|with_reducible exact zal _|with_reducible exact zat _|with_reducible exact zao _|with_reducible refine zab ?_ (fun _=>?_)|with_reducible refine zam ?_ ?_|assumption|split))
theorem yc_(s:SV):(aLen s).Loc:=by
 unfold aLen;repeat' (first|with_reducible exact zno _ _ _|(first|with_reducible exact zae _|with_reducible exact zac|with_reducible exact zan _|with_reducible exact zap _|with_reducible exact zal _|with_reducible exact zat _|with_reducible exact zao _|with_reducible refine zab ?_ (fun _=>?_)|with_reducible refine zam ?_ ?_|assumption|split))
theorem zlp(sz:Nat)(s:SV)(i:Int):(zca sz s i).Loc:=by
 unfold zca;repeat' (first|with_reducible exact zno _ _ _|(first|with_reducible exact zae _|with_reducible exact zac|with_reducible exact zan _|with_reducible exact zap _|with_reducible exact zal _|with_reducible exact zat _|with_reducible exact zao _|with_reducible refine zab ?_ (fun _=>?_)|with_reducible refine zam ?_ ?_|assumption|split))
theorem ztx(l:Option Int)(h:Int):(zjn l h).Loc:=by unfold zjn;(repeat' (first|with_reducible exact zae _|with_reducible exact zac|with_reducible exact zan _|with_reducible exact zap _|with_reducible exact zal _|with_reducible exact zat _|with_reducible exact zao _|with_reducible refine zab ?_ (fun _=>?_)|with_reducible refine zam ?_ ?_|assumption|split))
theorem zty(h:Option Int)(n:Nat):(zjp h n).Loc:=by unfold zjp;(repeat' (first|with_reducible exact zae _|with_reducible exact zac|with_reducible exact zan _|with_reducible exact zap _|with_reducible exact zal _|with_reducible exact zat _|with_reducible exact zao _|with_reducible refine zab ?_ (fun _=>?_)|with_reducible refine zam ?_ ?_|assumption|split))
theorem zt0(sz:Nat)(s:SV)(l h:Option Int):(zg5 sz s l h).Loc:=by
 unfold zg5;repeat' (first|with_reducible exact zno _ _ _|with_reducible exact ztx _ _|with_reducible exact zty _ _|(first|with_reducible exact zae _|with_reducible exact zac|with_reducible exact zan _|with_reducible exact zap _|with_reducible exact zal _|with_reducible exact zat _|with_reducible exact zao _|with_reducible refine zab ?_ (fun _=>?_)|with_reducible refine zam ?_ ?_|assumption|split))
theorem ydb(op:BinOp)(k:IntKind)(a b:Int):(aInt op k a b).Loc:=by unfold aInt;(repeat' (first|with_reducible exact zae _|with_reducible exact zac|with_reducible exact zan _|with_reducible exact zap _|with_reducible exact zal _|with_reducible exact zat _|with_reducible exact zao _|with_reducible refine zab ?_ (fun _=>?_)|with_reducible refine zam ?_ ?_|assumption|split))
theorem yc7(op:BinOp)(a b:ByteArray):(aStr op a b).Loc:=by unfold aStr;(repeat' (first|with_reducible exact zae _|with_reducible exact zac|with_reducible exact zan _|with_reducible exact zap _|with_reducible exact zal _|with_reducible exact zat _|with_reducible exact zao _|with_reducible refine zab ?_ (fun _=>?_)|with_reducible refine zam ?_ ?_|assumption|split))
theorem yde(ti:TI)(op:BinOp)(x y:AV):(aBin ti op x y).Loc:=by
 unfold aBin;repeat' (first|with_reducible exact ydb _ _ _ _|with_reducible exact yc7 _ _ _|(first|with_reducible exact zae _|with_reducible exact zac|with_reducible exact zan _|with_reducible exact zap _|with_reducible exact zal _|with_reducible exact zat _|with_reducible exact zao _|with_reducible refine zab ?_ (fun _=>?_)|with_reducible refine zam ?_ ?_|assumption|split))
theorem yjc(op:UnOp)(x:AV):(aUn op x).Loc:=by unfold aUn;(repeat' (first|with_reducible exact zae _|with_reducible exact zac|with_reducible exact zan _|with_reducible exact zap _|with_reducible exact zal _|with_reducible exact zat _|with_reducible exact zao _|with_reducible refine zab ?_ (fun _=>?_)|with_reducible refine zam ?_ ?_|assumption|split))
theorem zt4(x:AV)(i:Int):(zp2 x i).Loc:=by unfold zp2;(repeat' (first|with_reducible exact zae _|with_reducible exact zac|with_reducible exact zan _|with_reducible exact zap _|with_reducible exact zal _|with_reducible exact zat _|with_reducible exact zao _|with_reducible refine zab ?_ (fun _=>?_)|with_reducible refine zam ?_ ?_|assumption|split))
theorem zlq(ti:TI)(s:SV)(f:Nat):(zc7 ti s f).Loc:=by unfold zc7;(repeat' (first|with_reducible exact zae _|with_reducible exact zac|with_reducible exact zan _|with_reducible exact zap _|with_reducible exact zal _|with_reducible exact zat _|with_reducible exact zao _|with_reducible refine zab ?_ (fun _=>?_)|with_reducible refine zam ?_ ?_|assumption|split))
theorem zt8(ti:TI)(ps:List (Nat×AV)):(zp4 ti ps).Loc:=by unfold zp4;(repeat' (first|with_reducible exact zae _|with_reducible exact zac|with_reducible exact zan _|with_reducible exact zap _|with_reducible exact zal _|with_reducible exact zat _|with_reducible exact zao _|with_reducible refine zab ?_ (fun _=>?_)|with_reducible refine zam ?_ ?_|assumption|split))
theorem zxn(a b:TI)(x:AV):(yfa a b x).Loc:=by unfold yfa;(repeat' (first|with_reducible exact zae _|with_reducible exact zac|with_reducible exact zan _|with_reducible exact zap _|with_reducible exact zal _|with_reducible exact zat _|with_reducible exact zao _|with_reducible refine zab ?_ (fun _=>?_)|with_reducible refine zam ?_ ?_|assumption|split))
theorem zqv(m:Bool)(x y:AV):(zh3 m x y).Loc:=by unfold zh3;(repeat' (first|with_reducible exact zae _|with_reducible exact zac|with_reducible exact zan _|with_reducible exact zap _|with_reducible exact zal _|with_reducible exact zat _|with_reducible exact zao _|with_reducible refine zab ?_ (fun _=>?_)|with_reducible refine zam ?_ ?_|assumption|split))
theorem zso{x:M AV}(h:x.Loc):(lift x).Loc:=zab h fun _=>zae _
theorem zt9(ti:TI)(d:Nat):(zs8 ti d).Loc:=by unfold zs8;(repeat' (first|with_reducible exact zae _|with_reducible exact zac|with_reducible exact zan _|with_reducible exact zap _|with_reducible exact zal _|with_reducible exact zat _|with_reducible exact zao _|with_reducible refine zab ?_ (fun _=>?_)|with_reducible refine zam ?_ ?_|assumption|split))
theorem ydd(cs:List SV)(d:Nat):(aBox cs d).Loc:=by unfold aBox;(repeat' (first|with_reducible exact zae _|with_reducible exact zac|with_reducible exact zan _|with_reducible exact zap _|with_reducible exact zal _|with_reducible exact zat _|with_reducible exact zao _|with_reducible refine zab ?_ (fun _=>?_)|with_reducible refine zam ?_ ?_|assumption|split))
theorem zo4(T:TB)(b:Builtin)(ts:Array TypeId)(xs:List AV)(d:Nat):(zey T b ts xs d).Loc:=by
 unfold zey;repeat' (first|with_reducible exact zso (zqv _ _ _)|with_reducible exact yc_ _|with_reducible exact zqw _ _ _ _ _ _|(first|with_reducible exact zae _|with_reducible exact zac|with_reducible exact zan _|with_reducible exact zap _|with_reducible exact zal _|with_reducible exact zat _|with_reducible exact zao _|with_reducible refine zab ?_ (fun _=>?_)|with_reducible refine zam ?_ ?_|assumption|split))
theorem yc8(T:TB)(ρ:Operand→AV)(d:Nat)(op:Op):(aOpB T ρ d op).Loc:=by
 unfold aOpB
 repeat' (first|with_reducible exact zt9 _ _|with_reducible exact ydd _ _|with_reducible exact ztz _ _ _|with_reducible exact zk1 _ _ _ _ _|with_reducible exact zlo _ _ _ _ _|with_reducible exact zo4 _ _ _ _ _|with_reducible refine zso ?_|with_reducible exact zt8 _ _|with_reducible exact zxm _ _|with_reducible exact yde _ _ _ _|with_reducible exact yjc _ _|with_reducible exact zxn _ _ _|with_reducible exact zt0 _ _ _ _|with_reducible exact zlq _ _ _|with_reducible exact zlp _ _ _|with_reducible exact zt4 _ _|(first|with_reducible exact zae _|with_reducible exact zac|with_reducible exact zan _|with_reducible exact zap _|with_reducible exact zal _|with_reducible exact zat _|with_reducible exact zao _|with_reducible refine zab ?_ (fun _=>?_)|with_reducible refine zam ?_ ?_|assumption|split))
theorem zxg(st:Bool)(s:SV):(zvz st s).Loc:=by unfold zvz;(repeat' (first|with_reducible exact zae _|with_reducible exact zac|with_reducible exact zan _|with_reducible exact zap _|with_reducible exact zal _|with_reducible exact zat _|with_reducible exact zao _|with_reducible refine zab ?_ (fun _=>?_)|with_reducible refine zam ?_ ?_|assumption|split))
theorem znn(st:Bool):∀ (ss:List SV),(resC st ss).Loc
 | []=>zae _
 |s::ss=>zab (zxg _ _) fun _=>zab (znn st ss) fun _=>zae _
theorem zxi(st:Bool)(t:Ty)(s:SV):(cpM st t s).Loc:=by
 unfold cpM;split
 ·split
  ·exact zac
  ·refine zab (zap _) fun e=>?_;split
   ·refine zab (znn _ _) fun lr=>?_;split
    ·exact zae _
    ·exact zac
   ·exact zac
 ·split
  ·exact zae _
  ·exact zac
 ·exact zac
theorem zo3(st:Bool):∀ (ts:List Ty) (ss:List SV),(ye0 st ts ss).Loc
 | [],[]=>zae _
 |t::ts,s::ss=>zab (zxi st t s) fun _=>zab (zo3 st ts ss) fun _=>zae _
 | [],_::_=>zac
 |_::_,[]=>zac
theorem zqu:∀ (t:Ty) (cs:List SV) (cons:List (Nat×Ent)),(ioA t cs cons).Loc
 | .int k,cs,cons=>by unfold ioA;split;split;exact zae _;exact zac;exact zac
 | .bool,cs,cons=>by unfold ioA;split;exact zae _;exact zac
 | .str,cs,cons=>by unfold ioA;split;exact zae _;exact zac
 | .row e t,cs,cons=>by
  unfold ioA;split
  ·exact zae _
  ·refine zab (zgx _ _) fun lc=>?_;split
   ·split
    ·exact zae _
    ·exact zac
   ·exact zac
  ·exact zac
 | .pair a b,cs,cons=>zab (zqu a _ _) fun _=>zab (zqu b _ _) fun _=>zae _
theorem yc6(st:Bool)(k:PK)(a:AV)(cons:List (Nat×Ent)):(argM st k a cons).Loc:=by
 unfold argM;repeat' (first|with_reducible exact zxi _ _ _|with_reducible exact zo3 _ _ _|with_reducible exact zqu _ _ _|with_reducible exact znn _ _|with_reducible exact zgw _ _|with_reducible exact zgx _ _|(first|with_reducible exact zae _|with_reducible exact zac|with_reducible exact zan _|with_reducible exact zap _|with_reducible exact zal _|with_reducible exact zat _|with_reducible exact zao _|with_reducible refine zab ?_ (fun _=>?_)|with_reducible refine zam ?_ ?_|assumption|split))
theorem zk0(st:Bool):∀ (ks:List PK) (as:List AV) (cons:List (Nat×Ent)),(zui st ks as cons).Loc
 | [],[],_=>zae _
 |k::ks,a::as,cons=>zab (yc6 _ _ _ _) fun _=>zab (zk0 st ks as _) fun _=>zae _
 | [],_::_,_=>zac
 |_::_,[],_=>zac
theorem zk5{ob ob':Ob}:∀ (t:Ty) (y:t.den) (cs:List SV),(∀ o∈za8 cs,ob' o=ob o)→zc2 t y cs ob'=zc2 t y cs ob
 | .int _,_,_,_=>rfl
 | .bool,_,_,_=>rfl
 | .str,_,_,_=>rfl
 | .row e t,ys,cs,h=>by
  simp only[zc2];split
  ·rw[h _ (by simp[za8])]
  ·rfl
 | .pair a b,y,cs,h=>by
  simp only[zc2];rw[zk5 a y.1 _ (fun o ho=>h o (by rw[zaz cs a.sz];exact List.mem_append_left _ ho)),zk5 b y.2 _ (fun o ho=>h o (by rw[zaz cs a.sz];exact List.mem_append_right _ ho))]
theorem zbc{ob ob':Ob}:∀ (ks:List PK) (d:Nat) (y:zag ks) (as:List AV),(∀ o∈zdl ks as,ob' o=ob o)→zas d ks y as ob'=zas d ks y as ob
 | [],_,_,_,_=>rfl
 | .io t agg::ks,d,y,[],h=>rfl
 | .bx t::ks,d,y,[],h=>rfl
 | .bo t::ks,d,y,[],h=>rfl
 | .val t g::ks,d,y,[],h=>rfl
 | .own t g::ks,d,y,[],h=>rfl
 | .cp t::ks,d,y,[],h=>rfl
 | .fn g ts::ks,d,y,[],h=>rfl
 | .io t agg::ks,d,y,a::as,h=>by
  simp only[zas];simp only[zdl]at h
  cases hc:avC agg a with
  |none =>
   simp only[hc]at h;exact zbc ks d y.2 as h
  |some cs =>
   simp only[hc]at h;simp only;rw[zk5 t y.1 cs (fun o ho=>h o (List.mem_append_left _ ho)),zbc ks d y.2 as (fun o ho=>h o (List.mem_append_right _ ho))]
 | .bx t::ks,d,y,a::as,h=>by
  simp only[zas];have:=zbc (ob:=ob) (ob':=ob') ks d y.2 as (fun o ho=>h o (by simpa [zdl] using ho));split <;> rw[this]
 | .val t g::ks,d,y,a::as,h=>zbc ks d y as (fun o ho=>h o (by simpa [zdl] using ho))
 | .own t g::ks,d,y,a::as,h=>zbc ks d y as (fun o ho=>h o (by simpa [zdl] using ho))
 | .cp t::ks,d,y,a::as,h=>zbc ks d y as (fun o ho=>h o (by simpa [zdl] using ho))
 | .fn g ts::ks,d,y,a::as,h=>zbc ks d y as (fun o ho=>h o (by simpa [zdl] using ho))
 | .bo t::ks,d,y,a::as,h=>by
  simp only[zas];have:=zbc (ob:=ob) (ob':=ob') ks (d+zbm t) y.2 as (fun o ho=>h o (by simpa [zdl] using ho));split <;> rw[this]
theorem zd8(s:Sm)(n:Nat)(as:List AV)(d:Nat):(zib s n as d).Loc:=by
 unfold zib;refine zab (zk0 _ _ _ _) fun r=>?_;split
 ·exact zac
 ·refine zab (zat _) fun y=>?_;intro ob ob' a l h hl;obtain⟨_,l1,l2,h1,h2,rfl⟩:=ev_bind (ob:=ob) h;have hall:=ev_ofOpt (ob:=ob) h1;simp only[Tr.ev_ret]at h2;injection h2 with h2
  injection h2 with h3 h4
  subst h3;subst h4;have h5:∀ u∈zax (d+nBo s.ps) s.rs y.1,ob' u.1=ob u.1:=fun u hu=>hl u.1 (List.mem_append_right _ (List.mem_append_left _ (List.mem_map.2 ⟨u,hu,rfl⟩)))
  have h5b:(zuh d s.ps).all (fun o=>(ob' o).isNone)=(zuh d s.ps).all (fun o=>(ob o).isNone):=by
   rw[Bool.eq_iff_iff,List.all_eq_true,List.all_eq_true];have h5c:∀ o∈zuh d s.ps,ob' o=ob o:=fun o ho=>hl o (List.mem_append_right _ (List.mem_append_right _ (List.mem_append_left _ ho)));constructor
   ·intro h u hu;have:=h u hu;rw[h5c u hu]at this;exact this
   ·intro h u hu;rw[h5c u hu];exact h u hu
  have h6:(zax (d+nBo s.ps) s.rs y.1).all (fun u=>(ob' u.1).isNone)=(zax (d+nBo s.ps) s.rs y.1).all (fun u=>(ob u.1).isNone):=by
   rw[Bool.eq_iff_iff,List.all_eq_true,List.all_eq_true];constructor
   ·intro h u hu;have:=h u hu;rw[h5 u hu]at this;exact this
   ·intro h u hu;rw[h5 u hu];exact h u hu
  have h7:zas d s.ps y.2 as ob'=zas d s.ps y.2 as ob:=zbc _ _ _ _ (fun o ho=>hl o (List.mem_append_right _ (List.mem_append_right _ (List.mem_append_right _ (List.mem_append_right _ ho)))));show ((M.bind _ _ ob').ev=_);simp only[bind,Tr.ev_bind];rw[h6,h5b,h7]
  cases hb:(zax (d+nBo s.ps) s.rs y.1).all (fun u=>(ob u.1).isNone)&&(zuh d s.ps).all (fun o=>(ob o).isNone) with
  |false=>rw[hb]at hall;cases hall
  |true =>
   rw[hb]at h1
   have h9:l1=[]:=by
    injection h1 with h1
    injection h1 with _ h1
    exact h1.symm
   subst h9;rfl
theorem zjd(T:TB)(Γ:Gam)(n:Nat)(ρ:Operand→AV)(d:Nat)(op:Op):(aOp0 T Γ n ρ d op).Loc:=by
 unfold aOp0
 repeat' (first|with_reducible exact zd8 _ _ _ _|with_reducible exact yc8 _ _ _ _|(first|with_reducible exact zae _|with_reducible exact zac|with_reducible exact zan _|with_reducible exact zap _|with_reducible exact zal _|with_reducible exact zat _|with_reducible exact zao _|with_reducible refine zab ?_ (fun _=>?_)|with_reducible refine zam ?_ ?_|assumption|split))
theorem ztv{o e cur:Nat}{p:Path}{r r':Rw}{run:M (AV×List (Nat×Ent))}(h:run.Loc):(zrp o e cur p r r' run).Loc:=by
 intro ob ob' a l hev hl;unfold zrp at hev ⊢;rw[Tr.ev_bind]at hev ⊢
 cases hr:(run (ob.puts (preX o e cur p r r'))).ev with
 |none=>rw[hr]at hev;cases hev
 |some al =>
  rw[hr]at hev;simp only[Option.bind_some]at hev
  cases hb:ye6 o e cur p r r' al.1.2 with
  |none=>rw[hb]at hev;cases hev
  |some us =>
   rw[hb]at hev;simp only[Tr.ev_ret,Option.some.injEq,Prod.mk.injEq]at hev;obtain⟨rfl,rfl⟩:=hev
   have h2:(run (ob'.puts (preX o e cur p r r'))).ev=some al:=by
    obtain⟨a1,l1⟩:=al;refine h _ _ _ _ hr (fun i hi=>?_);have:=hl i hi;simp only[preX,Ob.puts,Ob.put];split
    ·rfl
    ·split
     ·rfl
     ·exact this
   rw[h2];simp only[Option.bind_some,hb,Tr.ev_ret]
theorem zsn{e o v:Nat}{p:Path}{run:M (AV×List (Nat×Ent))}(h:run.Loc):(xtrM e o v p run).Loc:=by
 unfold xtrM;refine zab (zap _) (fun en=>?_);split
 ·refine zab (zal _) (fun _=>?_);split
  ·exact ztv h
  ·exact zac
 ·exact zac
theorem zsp(T:TB)(Γ:Gam)(n:Nat)(ρ:Operand→AV)(d:Nat)(op:Op):(aOp1 T Γ n ρ d op).Loc:=by
 unfold aOp1;split
 ·exact zjd _ _ _ _ _ _
 ·split
  ·exact zjd _ _ _ _ _ _
  ·unfold aOpX;split
   ·exact zsn (zjd _ _ _ _ _ _)
   ·exact zsn (zjd _ _ _ _ _ _)
   ·exact zac
theorem ztw{o e cur:Nat}{p:Path}{r r':Rw}{g:Nat→AV→AV}{run:M (AV×List (Nat×Ent))}(h:run.Loc):(zrq o e cur p r r' g run).Loc:=by
 intro ob ob' a l hev hl;unfold zrq at hev ⊢;rw[Tr.ev_bind]at hev ⊢
 cases hr:(run (ob.puts (preX o e cur p r r'))).ev with
 |none=>rw[hr]at hev;cases hev
 |some al =>
  rw[hr]at hev;simp only[Option.bind_some]at hev
  cases hb:ye7 o e cur p r r' al.1.2 with
  |none=>rw[hb]at hev;cases hev
  |some us =>
   rw[hb]at hev;simp only[Tr.ev_ret,Option.some.injEq,Prod.mk.injEq]at hev;obtain⟨rfl,rfl⟩:=hev
   have h2:(run (ob'.puts (preX o e cur p r r'))).ev=some al:=by
    obtain⟨a1,l1⟩:=al;refine h _ _ _ _ hr (fun i hi=>?_);have:=hl i hi;simp only[preX,Ob.puts,Ob.put];split
    ·rfl
    ·split
     ·rfl
     ·exact this
   rw[h2];simp only[Option.bind_some,hb,Tr.ev_ret]
theorem yc5{e o v:Nat}{p:Path}{g:Nat→AV→AV}{run:M (AV×List (Nat×Ent))}(h:run.Loc):(xtrQ e o v p g run).Loc:=by
 unfold xtrQ;refine zab (zap _) (fun en=>?_);split
 ·refine zab (zal _) (fun _=>?_);split
  ·exact ztw h
  ·exact zac
 ·exact zac
theorem yoe{Γ:Gam}{n:Nat}{ρ:Operand→AV}{d:Nat}{op:Op}{m:M (AV×List (Nat×Ent))}(h:aQ Γ n ρ d op=some m):m.Loc:=by
 unfold aQ at h
 repeat' (first|(injection h with h;subst h;exact yc5 (zd8 _ _ _ _))|(cases h;done)|split at h)
theorem yda(o v v':Nat)(p:Path)(i k:Nat):(aLay o v v' p i k).Loc:=by
 unfold aLay;refine zab (zap _) (fun en=>?_);split
 ·split
  ·exact zae _
  ·exact zac
 ·exact zac
theorem zt3{T:TB}{ρ:Operand→AV}{op:Op}{m:M (AV×List (Nat×Ent))}(h:zg6 T ρ op=some m):m.Loc:=by
 unfold zg6 at h
 repeat' (first|(injection h with h;subst h;exact yda _ _ _ _ _ _)|(cases h;done)|split at h)
theorem zt7(e:TypeId)(s:SV):(zzm e s).Loc:=zab (znp _ _ _ _) fun _=>zae _
theorem zxj(e:TypeId)(s:ByteArray)(d:Nat):(ylo e s d).Loc:=zab (zan _) fun _=>zab (zal _) fun _=>zae _
theorem zt1(s:ByteArray)(d:Nat):(zzf s d).Loc:=zab (zal _) fun _=>zae _
theorem zxl(o:Nat):(ylp o).Loc:=zab (zap _) fun e=>by
 split
 ·exact zam (zae _) (zae _)
 ·exact zac
theorem zxo(e:TypeId)(T:Ty)(b:Nat)(s:SV)(r:Rw)(d:Nat):(yfb e T b s r d).Loc:=by
 unfold yfb;refine zab (zk2 _ _ _) fun bc=>?_;split
 ·refine zab (zan _) fun _=>zab (zal _) fun _=>?_;split
  ·exact zac
  ·exact zae _
 ·exact zac
theorem ydc{T:TB}{ρ:Operand→AV}{d:Nat}{op:Op}{m:M (AV×List (Nat×Ent))}(h:aExt T ρ d op=some m):m.Loc:=by
 unfold aExt at h
 repeat' (first|(injection h with h;subst h;first|exact zt7 _ _|exact zxj _ _ _|exact zt1 _ _|exact zxl _|exact zxo _ _ _ _ _ _)|(cases h;done)|split at h)
theorem zxh{run:M (AV×List (Nat×Ent))}(h:run.Loc){ob ob':Ob}{a:AV×List (Nat×Ent)}{l lg:List Nat}(he:((run ob).bind fun al=>.ret (al.1,l++al.2)).ev=some (a,lg))(ha:∀ o∈lg,ob' o=ob o) :
  ((run ob').bind fun al=>.ret (al.1,l++al.2)).ev=some (a,lg)∧∀ o∈l,o∈lg:=by
 rw[Tr.ev_bind]at he ⊢
 cases hr:(run ob).ev with
 |none=>rw[hr]at he;cases he
 |some al =>
  obtain⟨a1,l1⟩:=al;rw[hr]at he;simp only[Option.bind_some,Tr.ev_ret,Option.some.injEq,Prod.mk.injEq]at he;obtain⟨rfl,rfl⟩:=he;rw[h _ _ _ _ hr (fun o ho=>ha o (List.mem_append_right _ ho))];exact⟨rfl,fun o ho=>List.mem_append_left _ ho⟩
theorem zt6{b:Nat}{run:M (AV×List (Nat×Ent))}(h:run.Loc):(zle b run).Loc:=by
 intro ob ob' a lg hev hl;unfold zle at hev;split at hev
 ·rename_i o hob;split at hev
  ·rename_i r k c hoo;rw[Tr.ev_test]at hev
   cases hck:decide ((r.xs.length:Int)≤k) with
   |false=>rw[hck]at hev;cases hev
   |true =>
    rw[hck,cond_true,Tr.ev_bind]at hev
    cases hr:(run (ob.put o (.row r 1 none))).ev with
    |none=>rw[hr]at hev;cases hev
    |some al =>
     obtain⟨⟨a1,u1⟩,l1⟩:=al;rw[hr]at hev;simp only[Option.bind_some,Tr.ev_ret,Option.some.injEq,Prod.mk.injEq]at hev;obtain⟨rfl,rfl⟩:=hev;have hb':ob' b=ob b:=hl b (by simp);have ho':ob' o=ob o:=hl o (by simp);unfold zle;rw[hb',hob];simp only;rw[ho',hoo];simp only;rw[Tr.ev_test,hck,cond_true,Tr.ev_bind]
     rw [h _ (ob'.put o (.row r 1 none)) _ _ hr (fun i hi=>by
      unfold Ob.put;split
      ·rfl
      ·exact hl i (by simp[hi]))]
     rfl
  ·rename_i hnh;obtain⟨h1,h2⟩:=zxh (l:=[b,o]) h hev hl;have hb':ob' b=ob b:=hl b (h2 b (by simp));have ho':ob' o=ob o:=hl o (h2 o (by simp));unfold zle;rw[hb',hob];simp only;rw[ho'];split
   ·rename_i r k c hoo;exact absurd hoo (hnh r k c)
   ·exact h1
 ·rename_i hnb;obtain⟨h1,h2⟩:=zxh (l:=[b]) h hev hl;have hb':ob' b=ob b:=hl b (h2 b (by simp));unfold zle;rw[hb'];split
  ·rename_i o hob;exact absurd hob (hnb o)
  ·exact h1
theorem yc9(T:TB)(Γ:Gam)(n:Nat)(ρ:Operand→AV)(d:Nat)(op:Op):(aOp2 T Γ n ρ d op).Loc:=by
 unfold aOp2;split
 ·rename_i m h;exact ydc h
 ·split
  ·exact zt6 (zsp _ _ _ _ _ _)
  ·exact zsp _ _ _ _ _ _
theorem zt2{T:TB}{ρ:Operand→AV}{d:Nat}{op:Op}{m:M (AV×List (Nat×Ent))}(h:zdm T ρ d op=some m):m.Loc:=by
 have g:∀ (o:Nat) (f:List (ByteArray×Bool)→M (AV×List (Nat×Ent))),(∀ m,(f m).Loc)→(M.bind (M.get o) fun | .map m=>f m|_=>M.fail).Loc:=fun o f hf=>zab (zap _) fun e=>by
  cases e with
  |map m=>exact hf m
  |_=>exact zac
 unfold zdm at h
 repeat' (first|(injection h with h;subst h;first|exact zab (zal _) (fun _=>zae _)|exact g _ _ (fun _=>zae _))|(cases h;done)|split at h)
theorem zt5{T:TB}{ρ:Operand→AV}{d:Nat}{op:Op}{m:M (AV×List (Nat×Ent))}(h:zcq T ρ d op=some m):m.Loc:=by
 have back:∀ o i o' ver,(zn9 o i o' ver).Loc:=fun o i o' ver=>zab (zap _) fun e=>by
  cases e with
  |grp e t m =>
   refine zab (zap _) fun e2=>?_
   cases e2 with
   |row r v hole =>
    cases hole with
    |some p=>exact zac
    |none =>
     simp only;cases Nat.beq v ver <;> cases Nat.beq r.e e <;> cases zaq r t <;> first|exact zac|exact zab (zan _) (fun _=>zae _)
   |_=>exact zac
  |_=>exact zac
 have lput:∀ o k cs,(zri o k cs).Loc:=fun o k cs=>zab (zap _) fun e=>by
  cases e with
  |lit t m =>
   simp only
   cases conL cs with
   |none=>exact zac
   |some ls =>
    simp only
    cases za0 t ls with
    |none=>exact zac
    |some x=>exact zab (zan _) (fun _=>zae _)
  |_=>exact zac
 have put:∀ t m' k v,zgy T ρ t m' k v=some m→m.Loc:=fun t m' k v h=>by
  unfold zgy at h;split at h
  ·injection h with h;subst h;exact lput _ _ _
  ·cases h
 unfold zcq at h;split at h
 ·split at h
  ·injection h with h;subst h;exact zab (zal _) (fun _=>zae _)
  ·split at h
   ·injection h with h;subst h;exact zab (zal _) (fun _=>zae _)
   ·cases h
 ·split at h
  ·injection h with h;subst h
   refine zab (zal _) fun _=>zab (zap _) fun e=>?_
   cases e with
   |grp e t m=>exact zab (zan _) (fun _=>zae _)
   |_=>exact zac
  ·cases h
 ·split at h
  ·injection h with h;subst h
   refine zab (zal _) fun _=>zab (zap _) fun e=>?_
   cases e with
   |grp e t m=>exact zab (zan _) (fun _=>zae _)
   |_=>exact zac
  ·cases h
 ·split at h
  ·injection h with h;subst h;exact back _ _ _ _
  ·cases h
 ·exact put _ _ _ _ h
 ·exact put _ _ _ _ h
 ·split at h
  ·injection h with h;subst h
   refine zab (zal _) fun _=>zab (zap _) fun e=>?_
   cases e with
   |lit t m=>exact zae _
   |_=>exact zac
  ·cases h
 ·split at h
  ·split at h
   ·injection h with h;subst h
    refine zab (zap _) fun e=>?_
    cases e with
    |mit t cur left =>
     cases cur with
     |nil=>exact zac
     |cons _ _=>exact zae _
    |_=>exact zac
   ·cases h
  ·cases h
 ·unfold two at h;split at h
  ·split at h
   ·injection h with h;subst h;exact zae _
   ·cases h
  ·cases h
 ·cases h
theorem zo2{o:Nat}{run:M (AV×List (Nat×Ent))}(h:run.Loc):(zig o run).Loc:=by
 intro ob ob' a l he hl;unfold zig at he ⊢;rw[Tr.ev_bind]at he ⊢
 cases hr:(run ob).ev with
 |none=>rw[hr]at he;cases he
 |some al =>
  rw[hr]at he;simp only[Option.bind_some]at he
  cases hany:al.1.2.any (fun u=>Nat.beq u.1 o) with
  |true=>rw[hany]at he;cases he
  |false =>
   rw[hany]at he;simp only[Tr.ev_ret,Option.some.injEq,Prod.mk.injEq]at he;obtain⟨rfl,rfl⟩:=he;rw[h ob ob' al.1 al.2 (by rw[hr]) (fun q hq=>hl q (List.mem_cons_of_mem _ hq))];simp only[Option.bind_some,hany,Tr.ev_ret]
theorem zxk{Γ:Gam}{n:Nat}{ρ:Operand→AV}{d:Nat}{op:Op}{m:M (AV×List (Nat×Ent))}(h:zn7 Γ n ρ d op=some m):m.Loc:=by
 have one:∀ o c (s:Sm) as,(aPb o c s n as d).Loc:=fun o c s as=>zab (zap _) fun e=>by
  cases e with
  |box cs =>
   simp only
   cases ioSz s.ps with
   |none=>exact zac
   |some z=>exact zo2 (zd8 _ _ _ _)
  |_=>exact zac
 unfold zn7 at h
 repeat' (first|(injection h with h;subst h;exact one _ _ _ _)|(cases h;done)|split at h)
theorem yod{Γ:Gam}{n:Nat}{ρ:Operand→AV}{d:Nat}{op:Op}{m:M (AV×List (Nat×Ent))}(h:aR Γ n ρ d op=some m):m.Loc:=by
 have no:∀ (s3:Sm) (cs:List SV) (as:List AV),(aNo s3 n cs as d).Loc:=fun s3 cs as=>zab (zd8 _ _ _ _) fun r=>by
  split
  ·exact zab (zan _) fun _=>zae _
  ·exact zac
 have yn:∀ (s s3:Sm) (cs:List SV) (as:List AV),(zze s s3 n cs as d).Loc:=fun s s3 cs as=>zab (zk0 _ _ _ _) fun r=>zab (zat _) fun y=>by
  split
  ·exact zam (zd8 _ _ _ _) (no _ _ _)
  ·exact zac
 unfold aR at h;split at h
 ·split at h
  ·split at h
   ·injection h with h;subst h;exact yn _ _ _ _
   ·cases h
  ·cases h
 ·cases h
theorem loc_aOp(T:TB)(Γ:Gam)(n:Nat)(ρ:Operand→AV)(d:Nat)(op:Op):(aOp T Γ n ρ d op).Loc:=by
 unfold aOp;split
 ·rename_i m h;exact yoe h
 ·split
  ·rename_i m h;exact zt3 h
  ·split
   ·rename_i m h;exact zt2 h
   ·split
    ·rename_i m h;exact zt5 h
    ·split
     ·rename_i m h;exact zxk h
     ·split
      ·rename_i m h;exact yod h
      ·exact yc9 _ _ _ _ _ _
end M
theorem zew{T:TB}{Γ:Gam}{n:Nat}{ρ ρ':Operand→AV}{d:Nat}{op:Op}(h:∀ x∈op.operands,ρ x=ρ' x):aOp0 T Γ n ρ d op=aOp0 T Γ n ρ' d op:=by
 have pairs:∀ ps:Array (Nat×Operand),(∀ x∈(ps.toList.map (·.2)).toArray,ρ x=ρ' x)→(ps.toList.map fun p=>(p.1,ρ p.2))=(ps.toList.map fun p=>(p.1,ρ' p.2)):=fun ps hp =>
  List.map_congr_left fun p hm=>by rw[hp p.2 (by simpa using ⟨p.1,by simpa using hm⟩)]
 cases op with
 |call c =>
  have ha:c.args.toList.map ρ=c.args.toList.map ρ':=List.map_congr_left fun x hx=>h x (by simp only[Op.operands,Call.operands];cases c.callee <;> simp_all);have hcal:∀ f,c.callee = .value f→ρ f=ρ' f:=fun f e=>h f (by simp[Op.operands,Call.operands,e]);simp only[aOp0,aOpB,ha];generalize c.callee=cal at hcal
  cases cal with
  |value x =>
   cases x with
   |tmp t=>simp only[hcal _ rfl]
   |_=>rfl
  |_=>rfl
 |makeFunc fn first caps =>
  have hm:caps.toList.map ρ=caps.toList.map ρ':=List.map_congr_left fun x hx=>h x (by simp only[Op.operands];simp at hx;simp[hx]);cases fn <;> simp only[aOp0,aOpB,hm]
 |build t ps=>simp only[aOp0,aOpB,pairs ps h]
 |buildSlice t n ps=>simp only[aOp0,aOpB,pairs ps h]
 |slice t x l hh m =>
  simp only[Op.operands]at h;cases l <;> cases hh <;> cases m <;> simp_all [aOp0,aOpB]
 |_=>first|rfl|(simp only[Op.operands]at h;simp_all [aOp0,aOpB];done)
theorem zro{ρ:Operand→AV}{x:Operand}:∀ {ks:List PK} {xs:List Operand},xArg ρ ks xs=some x→x∈xs
 | [],_,h=>by simp[xArg]at h
 |k::ks,[],h=>by cases k <;> simp[xArg]at h
 |k::ks,y::ys,h=>by
  have tl:xArg ρ ks ys=some x→x∈y::ys:=fun h=>List.mem_cons_of_mem _ (zro h)
  cases k with
  |io t agg =>
    simp only[xArg]at h;split at h
    ·injection h with h;subst h;exact List.mem_cons_self
    ·exact tl h
  |own t agg =>
    simp only[xArg]at h;split at h
    ·injection h with h;subst h;exact List.mem_cons_self
    ·exact tl h
  |_=>exact tl h
theorem zlv{ρ ρ':Operand→AV}:∀ {ks:List PK} {xs:List Operand},(∀ x∈xs,ρ x=ρ' x)→xArg ρ ks xs=xArg ρ' ks xs
 | [],_,h=>by simp[xArg]
 |k::ks,[],h=>by cases k <;> simp[xArg]
 |k::ks,y::ys,h=>by
  have tl:=zlv (ks:=ks) (fun x hx=>h x (List.mem_cons_of_mem y hx));have hy:=h y List.mem_cons_self
  cases k with
  |io t agg=>cases agg <;> simp only[xArg,hy,tl]
  |own t agg=>cases agg <;> simp only[xArg,hy,tl]
  |_=>simp only[xArg,tl]
theorem ygn{Γ:Gam}{ρ:Operand→AV}{op:Op}{x:Operand}(h:xOp Γ ρ op=some x):x∈op.operands:=by
 unfold xOp at h;split at h
 ·rename_i c;have hin:x∈c.args.toList→x∈(Op.call c).operands:=fun hx=>by simp only[Op.operands,Call.operands];cases c.callee <;> simp_all
  split at h
  ·split at h
   ·exact hin (zro h)
   ·cases h
  ·split at h
   ·rename_i y z hl;split at h
    ·injection h with h;subst h;exact hin (by rw[hl];exact List.mem_cons_self)
    ·cases h
   ·cases h
  ·cases h
 ·cases h
theorem zus{Γ:Gam}{ρ ρ':Operand→AV}{op:Op}(h:∀ x∈op.operands,ρ x=ρ' x):xOp Γ ρ op=xOp Γ ρ' op:=by
 unfold xOp;split
 ·rename_i c;have hin:∀ x∈c.args.toList,ρ x=ρ' x:=fun x hx=>h x (by simp only[Op.operands,Call.operands];cases c.callee <;> simp_all);split
  ·split
   ·exact zlv hin
   ·rfl
  ·split
   ·rename_i y z hl;rw[hin y (by rw[hl];exact List.mem_cons_self)]
   ·rfl
  ·rfl
 ·rfl
theorem zum{T:TB}{Γ:Gam}{n:Nat}{ρ ρ':Operand→AV}{d:Nat}{op:Op}(h:∀ x∈op.operands,ρ x=ρ' x):aOp1 T Γ n ρ d op=aOp1 T Γ n ρ' d op:=by
 unfold aOp1;rw[zus h]
 cases hx:xOp Γ ρ' op with
 |none=>exact zew h
 |some x =>
  simp only;rw[h x (ygn hx),zew h];split
  ·rfl
  unfold aOpX;split
  ·rename_i o v a p vw;rw[zew (ρ:=setR ρ x _) (ρ':=setR ρ' x _) (fun y hy=>by unfold setR;rw[h y hy])]
  ·rename_i o v a p vw;rw[zew (ρ:=setR ρ x _) (ρ':=setR ρ' x _) (fun y hy=>by unfold setR;rw[h y hy])]
  ·rfl
theorem zun{T:TB}{ρ ρ':Operand→AV}{d:Nat}{op:Op}(h:∀ x∈op.operands,ρ x=ρ' x):aExt T ρ d op=aExt T ρ' d op:=by
 cases op with
 |convert s t x=>simp only[aExt,h x (by simp[Op.operands])]
 |range t x=>simp only[aExt,h x (by simp[Op.operands])]
 |next x b=>cases b <;> simp only[aExt,h x (by simp[Op.operands])]
 |call c =>
  have ha:∀ x∈c.args.toList,ρ x=ρ' x:=fun x hx=>h x (by simp only[Op.operands,Call.operands];cases c.callee <;> simp_all);simp only[aExt];split
  ·rename_i t t' x y _ _ hargs;rw[ha x (by rw[hargs];simp),ha y (by rw[hargs];simp)]
  ·rfl
 |_=>rfl
theorem zzg{T:TB}{Γ:Gam}{n:Nat}{ρ ρ':Operand→AV}{d:Nat}{op:Op}(h:∀ x∈op.operands,ρ x=ρ' x):aOp T Γ n ρ d op=aOp T Γ n ρ' d op:=by
 have hb:zyv T ρ op=zyv T ρ' op:=by
  cases op with
  |load t a=>simp only[zyv,h a (by simp[Op.operands])]
  |_=>rfl
 have h2:aOp2 T Γ n ρ d op=aOp2 T Γ n ρ' d op:=by
  unfold aOp2;rw[zun h,zum h,hb]
 have h3:aQ Γ n ρ d op=aQ Γ n ρ' d op:=by
  cases op with
  |call c =>
   have ha:∀ x∈c.args.toList,ρ x=ρ' x:=fun x hx=>h x (by simp only[Op.operands,Call.operands];cases c.callee <;> simp_all);simp only[aQ];split
   ·rename_i f x xs _ hargs;have e1:xs.map ρ=xs.map ρ':=List.map_congr_left (fun y hy=>ha y (by rw[hargs];simp[hy]));rw[ha x (by rw[hargs];simp),e1]
   ·rfl
  |_=>rfl
 have h4:zg6 T ρ op=zg6 T ρ' op:=by
  cases op with
  |store t x y=>simp only[zg6,h x (by simp[Op.operands]),h y (by simp[Op.operands])]
  |_=>rfl
 have h5:zdm T ρ d op=zdm T ρ' d op:=by
  cases op with
  |call c =>
   have ha:∀ x∈c.args.toList,ρ x=ρ' x:=fun x hx=>h x (by simp only[Op.operands,Call.operands];cases c.callee <;> simp_all);simp only[zdm];split
   ·rename_i t x _ _ hargs;rw[ha x (by rw[hargs];simp)]
   ·rfl
  |mapUpdate t m k v=>simp only[zdm,h m (by simp[Op.operands]),h k (by simp[Op.operands]),h v (by simp[Op.operands])]
  |insert t m k v=>simp only[zdm,h m (by simp[Op.operands]),h k (by simp[Op.operands]),h v (by simp[Op.operands])]
  |makeMap t r=>cases r <;> rfl
  |lookup t m k b=>cases b <;> simp only[zdm,h m (by simp[Op.operands]),h k (by simp[Op.operands])]
  |_=>rfl
 have h7:zcq T ρ d op=zcq T ρ' d op:=by
  have lp:∀ t m k v,(∀ x∈[m,k,v],ρ x=ρ' x)→zgy T ρ t m k v=zgy T ρ' t m k v:=fun t m k v h=>by
   unfold zgy;rw[h m (by simp),h k (by simp),h v (by simp)]
  cases op with
  |makeMap t r=>cases r <;> rfl
  |mapEntry t m k=>simp only[zcq,h m (by simp[Op.operands]),h k (by simp[Op.operands])]
  |lookup t m k b=>cases b <;> simp only[zcq,h m (by simp[Op.operands]),h k (by simp[Op.operands])]
  |entryStore t m s v=>simp only[zcq,h m (by simp[Op.operands]),h s (by simp[Op.operands]),h v (by simp[Op.operands])]
  |insert t m k v=>exact lp t m k v (fun x hx=>h x (by simp[Op.operands]at hx ⊢;exact hx))
  |mapUpdate t m k v=>exact lp t m k v (fun x hx=>h x (by simp[Op.operands]at hx ⊢;exact hx))
  |range t x=>simp only[zcq,h x (by simp[Op.operands])]
  |entry x=>simp only[zcq,h x (by simp[Op.operands])]
  |build t ps =>
   have hp:∀ p∈ps.toList,ρ p.2=ρ' p.2:=fun p hm=>h p.2 (by simp only[Op.operands];simp;exact⟨p.1,by simpa using hm⟩);simp only[zcq];unfold two;split
   ·rename_i p q hps;rw[hp p (by rw[hps];simp),hp q (by rw[hps];simp)]
   ·rfl
  |_=>rfl
 have h8:zn7 Γ n ρ d op=zn7 Γ n ρ' d op:=by
  cases op with
  |call c =>
   have ha:∀ x∈c.args.toList,ρ x=ρ' x:=fun x hx=>h x (by simp only[Op.operands,Call.operands];cases c.callee <;> simp_all);simp only[zn7];split
   ·rename_i f x xs _ hargs;have e1:xs.map ρ=xs.map ρ':=List.map_congr_left (fun y hy=>ha y (by rw[hargs];simp[hy]));rw[ha x (by rw[hargs];simp),e1]
   ·rfl
  |_=>rfl
 have h6:aR Γ n ρ d op=aR Γ n ρ' d op:=by
  cases op with
  |call c =>
   have ha:c.args.toList.map ρ=c.args.toList.map ρ':=List.map_congr_left fun x hx=>h x (by simp only[Op.operands,Call.operands];cases c.callee <;> simp_all);simp only[aR,ha]
  |_=>rfl
 unfold aOp;rw[h2,h3,h4,h5,h7,h8,h6]
end Go.Proofs.Ytbjgiioppmkpiaa.Rx

namespace Go.Proofs.Ytbjgiioppmkpiaa.Rx
open Go Go.RowKit
variable{β:Type}
noncomputable def ybp(T:TB)(Γ:Gam)(n:Nat)(ops:List Oper)(o:Oper)(next:List Nat→List Nat→St→Option β)(S:St):Option β:=match o.guard with
 |none=>(aOp T Γ n S.opnd (slot o.dst) o.op (zad S.obs)).run fun r=>zp9 r.2 fun lg=>ze0 S o.dst r.1.1 r.1.2 (next (r.1.2.map (·.1)) lg)
 |some (g,b)=>match (ops[g]?).bind (·.dst) with
  |none=>none
  |some t=>match S.get t with
   | .one (.bool c)=>cond c
     (match b with
      |true=>(aOp T Γ n (S.lit (.tmp t) true).opnd (slot o.dst) o.op (zad S.obs)).run fun r=>zp9 r.2 fun lg=>ze0 (S.lit (.tmp t) true) o.dst r.1.1 r.1.2 (next (r.1.2.map (·.1)) lg)
      |false=>ze0 (S.lit (.tmp t) true) o.dst (.tup []) [] (next [] []))
     (match b with
      |false=>(aOp T Γ n (S.lit (.tmp t) false).opnd (slot o.dst) o.op (zad S.obs)).run fun r=>zp9 r.2 fun lg=>ze0 (S.lit (.tmp t) false) o.dst r.1.1 r.1.2 (next (r.1.2.map (·.1)) lg)
      |true=>ze0 (S.lit (.tmp t) false) o.dst (.tup []) [] (next [] []))
   | .tup []=>ze0 S o.dst (.tup []) [] (next [] [])
   |_=>none
structure Rc where
 av:AV
 ups:List (Nat×Ent)
 lg:List Nat
instance:Inhabited Rc:=⟨⟨.undef,[],[]⟩⟩
def gd(ops:List Oper)(o:Oper)(S:St):Option Bool:=match o.guard with
 |none=>some true
 |some (g,b)=>match (ops[g]?).bind (·.dst) with
  |none=>none
  |some t=>match S.get t with
   | .one (.bool c)=>some (c == b)
   | .tup []=>some false
   |_=>none
def Step(T:TB)(Γ:Gam)(n:Nat)(ops:List Oper)(S:St)(o:Oper)(c:Rc):Prop :=
 (gd ops o S=some true∧(aOp T Γ n S.opnd (slot o.dst) o.op (zad S.obs)).ev=some ((c.av,c.ups),c.lg))∨(gd ops o S=some false∧c.av = .tup []∧c.ups=[]∧c.lg=[])
theorem yof{S:St}{t:Nat}{c:Bool}(h:S.get t = .one (.bool c)):S.lit (.tmp t) c=S:=by
 unfold St.lit;obtain⟨tm,obs⟩:=S;simp only[St.mk.injEq,and_true];rw[zb5];unfold St.get at h;simp only at h;apply List.ext_getElem?;intro i;rw[List.getElem?_set]
 by_cases hi:t=i
 ·subst hi
  by_cases hl:t<tm.length
  ·simp only[if_true,hl];rw[List.getD_eq_getElem?_getD,List.getElem?_eq_getElem hl]at h;rw[List.getElem?_eq_getElem hl];exact congrArg some h.symm
  ·simp[hl,List.getElem?_eq_none (Nat.le_of_not_lt hl)]
 ·rw[if_neg hi]
theorem ybo{T:TB}{Γ:Gam}{n:Nat}{ops:List Oper}{o:Oper}{next:List Nat→List Nat→St→Option β}{S:St}{r:β}(he:ybp T Γ n ops o next S=some r) :
  ∃ c,Step T Γ n ops S o c∧next (c.ups.map (·.1)) c.lg (S.app o.dst c.av c.ups)=some r:=by
 unfold ybp at he;simp only[znv,zi5]at he
 have opcase:gd ops o S=some true→(aOp T Γ n S.opnd (slot o.dst) o.op (zad S.obs)).run (fun r=>next (r.1.2.map (·.1)) r.2 (S.app o.dst r.1.1 r.1.2))=some r→∃ c,Step T Γ n ops S o c∧next (c.ups.map (·.1)) c.lg (S.app o.dst c.av c.ups)=some r:=by
  intro hg he;rw[Tr.run_ev]at he
  cases hev:(aOp T Γ n S.opnd (slot o.dst) o.op (zad S.obs)).ev with
  |none=>rw[hev]at he;cases he
  |some r1 =>
   rw[hev]at he;obtain⟨⟨av,ups⟩,lg⟩:=r1;exact⟨⟨av,ups,lg⟩,.inl ⟨hg,hev⟩,he⟩
 have nocase:gd ops o S=some false→next [] [] (S.app o.dst (.tup []) [])=some r→∃ c,Step T Γ n ops S o c∧next (c.ups.map (·.1)) c.lg (S.app o.dst c.av c.ups)=some r :=
  fun hg he=>⟨⟨.tup [],[],[]⟩,.inr ⟨hg,rfl,rfl,rfl⟩,he⟩
 unfold gd at opcase nocase
 cases hg:o.guard with
 |none=>simp only[hg]at he opcase;exact opcase trivial he
 |some gb =>
  obtain⟨g,b⟩:=gb;simp only[hg]at he opcase nocase
  cases ht:(ops[g]?).bind (·.dst) with
  |none=>simp only[ht]at he;cases he
  |some t =>
   simp only[ht]at he opcase nocase
   cases hc:S.get t with
   |one s =>
    cases s with
    |bool c =>
     simp only[hc]at he opcase nocase;have hl:=yof hc;cases c <;> cases b <;> simp only[cond]at he <;> rw[hl]at he
     ·exact opcase rfl he
     ·exact nocase rfl he
     ·exact nocase rfl he
     ·exact opcase rfl he
    |_=>simp only[hc]at he;cases he
   |tup vs =>
    cases vs with
    |nil=>simp only[hc]at he nocase;exact nocase trivial he
    |cons _ _=>simp only[hc]at he;cases he
   |_=>simp only[hc]at he;cases he
def zgs(o:Oper):List Nat:=(o.after.toList.filter (Region.binds .any)).map (·.on)
def ancM(A ps:List Nat):Nat:=ps.foldl (fun m p=>m|||((1 <<< p)|||A.getD p 0)) 0
def ancs:List (List Nat)→List Nat→List Nat
 | [],A=>A
 |ps::rest,A=>ancs rest (A++[ancM A ps])
def zc6(ops:List Oper):List Nat:=ancs (ops.map zgs) []
def okSt(ops:Array Oper)(A:List Nat):Bool:=(List.range ops.size).all fun j=>match ops[j]? with
 |some oj=>(zgs oj).all (fun p=>Nat.blt p j)&&(List.range j).all fun i=>Nat.testBit (A.getD j 0) i || (match ops[i]? with|some oi=>oi.apart ops oj|none=>true)
 |none=>true
def dis(a b:List Nat):Bool:=a.all fun x=>!b.any fun y=>Nat.beq y x
def okDy(N:Nat)(A:List Nat)(rs:List (List Nat×List Nat)):Bool:=(List.range N).all fun i=>match (rs.getD i ([],[])).1 with
 | []=>true
 |W=>(List.range N).all fun j=>Nat.beq i j || Nat.testBit (A.getD j 0) i || Nat.testBit (A.getD i 0) j || dis W ((rs.getD j ([],[])).2++(rs.getD j ([],[])).1)
noncomputable def rgD(T:TB)(Γ:Gam)(n:Nat)(ops:Array Oper)(k:St→Option β)(os:List Oper):List (List Nat×List Nat)→St→Option β :=
 List.rec (motive:=fun _=>List (List Nat×List Nat)→St→Option β)
  (fun acc S=>match okSt ops (zc6 ops.toList)&&okDy ops.size (zc6 ops.toList) acc.reverse with|true=>k S|false=>none)
  (fun o _ ih acc S=>ybp T Γ n ops.toList o (fun ws lg=>ih ((ws,lg)::acc)) S) os
def Run(T:TB)(Γ:Gam)(n:Nat)(ops:List Oper):List Oper→St→List Rc→St→Prop
 | [],S,[],S'=>S'=S
 |o::os,S,c::cs,S'=>Step T Γ n ops S o c∧Run T Γ n ops os (S.app o.dst c.av c.ups) cs S'
 |_,_,_,_=>False
theorem zol{T:TB}{Γ:Gam}{n:Nat}{ops:Array Oper}{k:St→Option β}{r:β}:∀ {os:List Oper} {acc:List (List Nat×List Nat)} {S:St},rgD T Γ n ops k os acc S=some r →
  ∃ tr S',Run T Γ n ops.toList os S tr S'∧(okSt ops (zc6 ops.toList)=true∧okDy ops.size (zc6 ops.toList) (acc.reverse++tr.map fun c=>(c.ups.map (·.1),c.lg))=true)∧k S'=some r
 | [],acc,S,he=>by
  have he':(match okSt ops (zc6 ops.toList)&&okDy ops.size (zc6 ops.toList) acc.reverse with|true=>k S|false=>none)=some r:=he;split at he'
  ·rename_i h;simp only[Bool.and_eq_true]at h;exact⟨[],S,rfl,by simpa using h,he'⟩
  ·cases he'
 |o::os,acc,S,he=>by
  obtain⟨c,hs,hn⟩:=ybo (show ybp T Γ n ops.toList o (fun ws lg=>rgD T Γ n ops k os ((ws,lg)::acc)) S=some r from he);obtain⟨tr,S',h1,h2,h3⟩:=zol hn;exact⟨c::tr,S',⟨hs,h1⟩,by simpa using h2,h3⟩
section
variable(S0:St)(D:Nat→Option Nat)(R:Nat→Rc)
def tmAt(L:Nat→Bool):Nat→Nat→AV
 |0,t=>S0.get t
 |i+1,t=>if L i=true∧D i=some t∧t<S0.tm.length then (R i).av else tmAt L i t
def obAt(L:Nat→Bool):Nat→Ob
 |0=>zad S0.obs
 |i+1=>if L i=true then Ob.puts (obAt L i) (R i).ups else obAt L i
end
def allT:Nat→Bool:=fun _=>true
section
variable{S0:St}{D:Nat→Option Nat}{R:Nat→Rc}
theorem zlw{L:Nat→Bool}{j N t:Nat}(hj:j≤N)(h1:∀ i,i<j→L i=false→D i≠some t)(h2:∀ i,j≤i→i<N→L i=true→D i≠some t):tmAt S0 D R L N t=tmAt S0 D R allT j t:=by
 have a:∀ i,i≤j→tmAt S0 D R L i t=tmAt S0 D R allT i t:=by
  intro i
  induction i with
  |zero=>intro _;rfl
  |succ i ih =>
   intro hi;simp only[tmAt];rw[ih (by omega)]
   cases hL:L i with
   |true=>simp[allT]
   |false =>
    have:=h1 i (by omega) hL;simp[this]
 have b:∀ d,j+d≤N→tmAt S0 D R L (j+d) t=tmAt S0 D R L j t:=by
  intro d
  induction d with
  |zero=>intro _;rfl
  |succ d ih =>
   intro hd;rw[← Nat.add_assoc];simp only[tmAt];rw[ih (by omega),if_neg];rintro ⟨hL,hD,_⟩;exact h2 (j+d) (by omega) (by omega) hL hD
 have:=b (N - j) (by omega);rw[show j+(N - j)=N by omega]at this;rw[this,a j (Nat.le_refl _)]
theorem zz1{L L':Nat→Bool}{j N t:Nat}(hj:j<N)(hL:∀ i,L' i=(L i || decide (i=j)))(h2:∀ i,j<i→i<N→L i=true→∀ t,D j=some t→D i≠some t)(h0:L j=false) :
  tmAt S0 D R L' N t=if D j=some t∧t<S0.tm.length then (R j).av else tmAt S0 D R L N t:=by
 have a:∀ i,i≤j→tmAt S0 D R L' i t=tmAt S0 D R L i t:=by
  intro i
  induction i with
  |zero=>intro _;rfl
  |succ i ih =>
   intro hi;simp only[tmAt];rw[ih (by omega),hL i,show decide (i=j)=false by simp;omega,Bool.or_false]
 have b:∀ d,j+1+d≤N→tmAt S0 D R L' (j+1+d) t=if D j=some t∧t<S0.tm.length then (R j).av else tmAt S0 D R L (j+1+d) t:=by
  intro d
  induction d with
  |zero =>
   intro _;simp only[Nat.add_zero,tmAt];rw[a j (Nat.le_refl _),hL j,h0];simp
  |succ d ih =>
   intro hd;rw[← Nat.add_assoc];simp only[tmAt];rw[ih (by omega),hL (j+1+d),show decide (j+1+d=j)=false by simp;omega,Bool.or_false]
   by_cases hw:L (j+1+d)=true∧D (j+1+d)=some t∧t<S0.tm.length
   ·rw[if_pos hw,if_pos hw,if_neg];rintro ⟨hD,_⟩;exact h2 _ (by omega) (by omega) hw.1 t hD hw.2.1
   ·rw[if_neg hw,if_neg hw]
 have:=b (N - (j+1)) (by omega);rw[show j+1+(N - (j+1))=N by omega]at this;exact this
theorem zi8{o:Nat}:∀ {us:List (Nat×Ent)} (ob ob':Ob),(∃ u∈us,u.1=o)→ob.puts us o=ob'.puts us o
 | [],_,_,h=>by obtain⟨u,hu,_⟩:=h;cases hu
 |u::us,ob,ob',h=>by
  simp only[Ob.puts]
  by_cases hm:∃ x∈us,x.1=o
  ·exact zi8 _ _ hm
  ·rw[Ob.puts_other (fun x hx e=>hm ⟨x,hx,e⟩),Ob.puts_other (fun x hx e=>hm ⟨x,hx,e⟩)];obtain⟨x,hx,e⟩:=h;rcases List.mem_cons.1 hx with rfl|hx
   ·simp[Ob.put,e]
   ·exact(hm ⟨x,hx,e⟩).elim
theorem zsg{L:Nat→Bool}{i:Nat}(h:L i=true):obAt S0 R L (i+1)=Ob.puts (obAt S0 R L i) (R i).ups:=if_pos h
theorem zwx{L:Nat→Bool}{i:Nat}(h:L i=false):obAt S0 R L (i+1)=obAt S0 R L i:=if_neg (by simp[h])
theorem zmk{L:Nat→Bool}{j N o:Nat}(hj:j≤N)(h1:∀ i,i<j→L i=false→∀ u∈(R i).ups,u.1≠o)(h2:∀ i,j≤i→i<N→L i=true→∀ u∈(R i).ups,u.1≠o):obAt S0 R L N o=obAt S0 R allT j o:=by
 have a:∀ i,i≤j→obAt S0 R L i o=obAt S0 R allT i o:=by
  intro i
  induction i with
  |zero=>intro _;rfl
  |succ i ih =>
   intro hi;have ih:=ih (by omega);rw[zsg (L:=allT) rfl]
   cases hL:L i with
   |true =>
    rw[zsg hL]
    by_cases hm:∃ u∈(R i).ups,u.1=o
    ·exact zi8 _ _ hm
    ·rw[Ob.puts_other (fun x hx e=>hm ⟨x,hx,e⟩),Ob.puts_other (fun x hx e=>hm ⟨x,hx,e⟩)];exact ih
   |false =>
    rw[zwx hL,Ob.puts_other (h1 i (by omega) hL)];exact ih
 have b:∀ d,j+d≤N→obAt S0 R L (j+d) o=obAt S0 R L j o:=by
  intro d
  induction d with
  |zero=>intro _;rfl
  |succ d ih =>
   intro hd;rw[← Nat.add_assoc]
   cases hL:L (j+d) with
   |true =>
    rw[zsg hL,Ob.puts_other (h2 (j+d) (by omega) (by omega) hL)];exact ih (by omega)
   |false=>rw[zwx hL];exact ih (by omega)
 have:=b (N - j) (by omega);rw[show j+(N - j)=N by omega]at this;rw[this,a j (Nat.le_refl _)]
theorem ycy{L L':Nat→Bool}{j N:Nat}(hj:j<N)(hL:∀ i,L' i=(L i || decide (i=j)))(h2:∀ i,j<i→i<N→L i=true→∀ u∈(R i).ups,∀ v∈(R j).ups,u.1≠v.1)(h0:L j=false) :
  obAt S0 R L' N=Ob.puts (obAt S0 R L N) (R j).ups:=by
 have a:∀ i,i≤j→obAt S0 R L' i=obAt S0 R L i:=by
  intro i
  induction i with
  |zero=>intro _;rfl
  |succ i ih =>
   intro hi;simp only[obAt];rw[ih (by omega),hL i,show decide (i=j)=false by simp;omega,Bool.or_false]
 have b:∀ d,j+1+d≤N→obAt S0 R L' (j+1+d)=Ob.puts (obAt S0 R L (j+1+d)) (R j).ups:=by
  intro d
  induction d with
  |zero =>
   intro _;simp only[Nat.add_zero,obAt];rw[a j (Nat.le_refl _),hL j,h0];simp
  |succ d ih =>
   intro hd;rw[← Nat.add_assoc];simp only[obAt];rw[ih (by omega),hL (j+1+d),show decide (j+1+d=j)=false by simp;omega,Bool.or_false]
   cases hw:L (j+1+d) with
   |false=>simp
   |true =>
    simp only[if_true];have hdj:=h2 (j+1+d) (by omega) (by omega) hw;funext o
    by_cases hm:∃ u∈(R (j+1+d)).ups,u.1=o
    ·have hn:∀ v∈(R j).ups,v.1≠o:=by
      rintro v hv e;obtain⟨u,hu,rfl⟩:=hm;exact hdj u hu v hv e.symm
     rw[Ob.puts_other hn];exact zi8 _ _ hm
    ·have hn:∀ u∈(R (j+1+d)).ups,u.1≠o:=fun u hu e=>hm ⟨u,hu,e⟩;rw[Ob.puts_other hn]
     by_cases hm2:∃ v∈(R j).ups,v.1=o
     ·exact zi8 _ _ hm2
     ·rw[Ob.puts_other (fun v hv e=>hm2 ⟨v,hv,e⟩),Ob.puts_other (fun v hv e=>hm2 ⟨v,hv,e⟩),Ob.puts_other hn]
 have:=b (N - (j+1)) (by omega);rw[show j+1+(N - (j+1))=N by omega]at this;exact this
end
end Go.Proofs.Ytbjgiioppmkpiaa.Rx

namespace Go.Proofs.Ytbjgiioppmkpiaa.Rx
open Go Go.RowKit
section
variable{P:Program}{cx:Cx}{w:World}{β:Type}
inductive Reach(ops:Array Oper):Nat→Nat→Prop where
 |one {i j:Nat} {o:Oper} (h:ops[j]? = some o) (hp:i∈zgs o):Reach ops i j
 |step {i p j:Nat} {o:Oper} (h:ops[j]? = some o) (hp:p∈zgs o) (hr:Reach ops i p):Reach ops i j
theorem zs5(A:List Nat){x:Nat}:∀ (ps:List Nat) (m:Nat),(ps.foldl (fun m p=>m|||((1 <<< p)|||A.getD p 0)) m).testBit x=true→m.testBit x=true∨x∈ps∨∃ p∈ps,(A.getD p 0).testBit x=true
 | [],m,h=>.inl h
 |p::ps,m,h=>by
  rcases zs5 A ps _ h with h|h|⟨q,hq,h⟩
  ·rw[Nat.testBit_or,Nat.testBit_or,Bool.or_eq_true,Bool.or_eq_true]at h;rcases h with h|h|h
   ·exact .inl h
   ·refine .inr (.inl ?_);rw[Nat.one_shiftLeft,Nat.testBit_two_pow]at h;have:p=x:=by simpa using h
    rw[this];exact List.mem_cons_self
   ·exact .inr (.inr ⟨p,List.mem_cons_self,h⟩)
  ·exact .inr (.inl (List.mem_cons_of_mem _ h))
  ·exact .inr (.inr ⟨q,List.mem_cons_of_mem _ hq,h⟩)
theorem zmv{ops:Array Oper}:∀ (rest:List Oper) (pre:List Oper) (A:List Nat),ops.toList=pre++rest→A.length=pre.length→(∀ j x,(A.getD j 0).testBit x=true→Reach ops x j) →
  ∀ j x,((ancs (rest.map zgs) A).getD j 0).testBit x=true→Reach ops x j
 | [],pre,A,_,_,hA,j,x,h=>hA j x h
 |o::rest,pre,A,he,hl,hA,j,x,h=>by
  refine zmv rest (pre++[o]) (A++[ancM A (zgs o)]) (by simp[he]) (by simp[hl]) ?_ j x h;intro j x h
  have ho:ops[pre.length]? = some o:=by
   rw[← Array.getElem?_toList,he];simp
  rcases Nat.lt_trichotomy j A.length with hj|hj|hj
  ·rw[List.getD_eq_getElem?_getD,List.getElem?_append_left hj,← List.getD_eq_getElem?_getD]at h;exact hA j x h
  ·subst hj;rw[List.getD_eq_getElem?_getD,List.getElem?_append_right (Nat.le_refl _)]at h;simp only[Nat.sub_self,List.getElem?_cons_zero,Option.getD_some]at h;rw[hl];rcases zs5 A (zgs o) 0 h with h|h|⟨p,hp,h⟩
   ·simp at h
   ·exact .one ho h
   ·exact .step ho hp (hA p x h)
  ·rw[List.getD_eq_getElem?_getD,List.getElem?_eq_none (by simp;omega)]at h;simp at h
theorem zpv{ops:Array Oper}{j x:Nat}(h:((zc6 ops.toList).getD j 0).testBit x=true):Reach ops x j :=
 zmv ops.toList [] [] rfl rfl (fun j x h=>by simp at h) j x h
def ygk(ops:Array Oper)(listed:Array Bool):Prop:=∀ j o,ops[j]? = some o→listed.getD j false=true→∀ p∈zgs o,listed.getD p false=true
theorem Reach.closed{ops:Array Oper}{listed:Array Bool}(hc:ygk ops listed){i j:Nat}(h:Reach ops i j):(listed.getD j false=true∨∀ o,ops[j]? = some o→∀ p∈zgs o,listed.getD p false=true)→listed.getD i false=true:=by
 induction h with
 |one h hp=>intro hj;rcases hj with hj|hj;exact hc _ _ h hj _ hp;exact hj _ h _ hp
 |step h hp hr ih =>
  intro hj;refine ih (.inl ?_);rcases hj with hj|hj
  ·exact hc _ _ h hj _ hp
  ·exact hj _ h _ hp
theorem Rel.congr{S S':St}{a:Act}(h:Rel cx S a w)(h1:∀ t,S'.get t=S.get t)(h2:zad S'.obs=zad S.obs)(h3:S'.tm.length=S.tm.length):Rel cx S' a w:=by
 obtain⟨⟨I,FF,hH,hr⟩,hs,hd⟩:=h;exact⟨⟨I,FF,by rw[h2];exact hH,fun i=>by rw[h2,h1];exact hr i⟩,by rw[h3];exact hs,hd⟩
theorem zpc{S:St}{a:Act}(h:Rel cx S a w){ops:Array Oper}{o:Oper}{b:Bool}(hg:gd ops.toList o S=some b):Region.wanted o (yielded ops a.tmps)=b:=by
 unfold gd at hg;unfold Region.wanted
 cases hgo:o.guard with
 |none=>rw[hgo]at hg;injection hg
 |some gb =>
  obtain⟨g,c⟩:=gb;simp only[hgo]at hg
  cases ht:(ops.toList[g]?).bind (·.dst) with
  |none=>simp only[ht]at hg;cases hg
  |some t =>
   simp only[ht]at hg;obtain⟨⟨I,FF,hH,hr⟩,hs,hd⟩:=id h
   cases hc:S.get t with
   |one s =>
    cases s with
    |bool v =>
     simp only[hc]at hg;injection hg with hg
     have hy:=zlu (FF:=FF) hs hr ht hc;simp only[hy];rw[← hg];cases v <;> cases c <;> rfl
    |_=>simp only[hc]at hg;cases hg
   |tup vs =>
    cases vs with
    |cons _ _=>simp only[hc]at hg;cases hg
    |nil =>
     simp only[hc]at hg;injection hg with hg
     subst hg;have h1:=hr t;rw[hc]at h1;obtain⟨arr,h2,h3⟩:=h1
     have h4:arr = #[]:=by
      cases harr:arr.toList with
      |nil=>exact Array.toList_eq_nil_iff.1 harr
      |cons _ _=>rw[harr]at h3;cases h3
     subst h4
     have hy:yielded ops a.tmps g=none:=by
      unfold yielded
      have ht':(ops[g]?).bind (·.dst)=some t:=by simpa using ht
      rw[ht'];simp only[Option.bind_some]
      cases h5:a.tmps[t]? with
      |none=>rfl
      |some u =>
       have:u = .tuple #[]:=by
        rw[← h2,Array.getD_eq_getD_getElem?,h5];rfl
       subst this;rfl
     simp only[hy];rfl
   |_=>simp only[hc]at hg;cases hg
theorem yg7{T:TB}{Γ:Gam}(hT:TBok P T)(hΓ:GamOK P Γ){n:Nat}{ops:Array Oper}{S:St}{a:Act}{o:Oper}{c:Rc}(h:Rel cx S a w)(hs:Step T Γ n ops.toList S o c){K:Act→World→Prop}{Q:Exit→Act→World→Prop}
  (hK:∀ a' w',Rel cx (S.app o.dst c.av c.ups) a' w'→K a' w') {j:Nat} (hj:ops[j]? = some o):wpOp P ops Q j K a w:=by
 unfold wpOp;simp only[hj];rcases hs with ⟨hg,hev⟩|⟨hg,h1,h2,h3⟩
 ·rw[if_pos (zpc h hg)];exact .inl (h.op hT hΓ hev hK)
 ·rw[if_neg (by rw[zpc h hg];simp)];have e0:∀ (S:St) d,S.app d (.tup []) []=S.put d (.tup []):=fun S d=>by cases d <;> rfl
  refine hK _ _ ?_;rw[h1,h2,e0];exact h.putU o.dst
theorem zte{T:TB}{Γ:Gam}{n:Nat}{ops:Array Oper}{S S':St}{o:Oper}{c:Rc}(hs:Step T Γ n ops.toList S o c)(h1:∀ t∈o.looksAt ops,S'.get t=S.get t)(h2:∀ x∈c.lg,zad S'.obs x=zad S.obs x):Step T Γ n ops.toList S' o c:=by
 have hgd:gd ops.toList o S'=gd ops.toList o S:=by
  unfold gd
  cases hgo:o.guard with
  |none=>rfl
  |some gb =>
   obtain⟨g,b⟩:=gb;simp only
   cases ht:(ops.toList[g]?).bind (·.dst) with
   |none=>rfl
   |some t =>
    simp only
    rw [h1 t (by
     unfold Oper.looksAt;refine List.mem_append_right _ ?_
     have ht':(ops[g]?).bind (·.dst)=some t:=by simpa using ht
     simp[hgo,ht'])]
 rcases hs with ⟨hg,hev⟩|⟨hg,h3⟩
 ·refine .inl ⟨by rw[hgd];exact hg,?_⟩
  have hop:∀ x∈o.op.operands,S'.opnd x=S.opnd x:=by
   intro x hx
   cases x with
   |tmp t =>
    show zp8 (S'.get t)=zp8 (S.get t)
    rw [h1 t (by
     unfold Oper.looksAt
     exact List.mem_append_left _ (List.mem_filterMap.2 ⟨.tmp t,by simpa using hx,rfl⟩))]
   |_=>rfl
  rw[zzg hop];exact M.loc_aOp T Γ n _ _ _ _ _ _ _ hev h2
 ·exact .inr ⟨by rw[hgd];exact hg,h3⟩
theorem zy_{S:St}{d:Option Nat}{av:AV}{ups:List (Nat×Ent)}{t:Nat}:(S.app d av ups).get t=if d=some t∧t<S.tm.length then av else S.get t:=by
 unfold St.app
 cases d with
 |none=>simp[St.put,St.get]
 |some d =>
  have:=zjf (S:=S) (d:=d) (x:=av) (i:=t);unfold St.get at this ⊢;simp only[St.put];rw[this]
  by_cases h:t=d∧d<S.tm.length
  ·rw[if_pos h,if_pos ⟨by rw[h.1],by rw[h.1];exact h.2⟩]
  ·rw[if_neg h,if_neg];rintro ⟨h1,h2⟩;injection h1 with h1
   subst h1;exact h ⟨rfl,h2⟩
theorem zy9{S:St}{d:Option Nat}{av:AV}{ups:List (Nat×Ent)}:(S.app d av ups).tm.length=S.tm.length:=by
 cases d <;> simp[St.app,St.put,zb5]
section
variable{T:TB}{Γ:Gam}{n:Nat}{ops:Array Oper}{S0:St}{tr:List Rc}
abbrev Dn(ops:Array Oper):Nat→Option Nat:=fun i=>(ops[i]?).bind (·.dst)
abbrev Rn(tr:List Rc):Nat→Rc:=fun i=>tr.getD i default
def At(S0:St)(ops:Array Oper)(tr:List Rc)(j:Nat)(S:St):Prop :=
 (∀ t,S.get t=tmAt S0 (Dn ops) (Rn tr) allT j t)∧zad S.obs=obAt S0 (Rn tr) allT j∧S.tm.length=S0.tm.length
theorem yfk:∀ {os:List Oper} {pre:List Oper} {S S':St} {cs pc:List Rc},ops.toList=pre++os→tr=pc++cs→pc.length=pre.length→At S0 ops tr pre.length S→Run T Γ n ops.toList os S cs S' →
  (∀ j o,pre.length≤j→ops[j]? = some o→∃ Sj,At S0 ops tr j Sj∧Step T Γ n ops.toList Sj o (Rn tr j))∧At S0 ops tr ops.size S'∧cs.length=os.length
 | [],pre,S,S',[],pc,he,hr,hl,ha,h=>by
  have:S'=S:=h;subst this;have hsz:ops.size=pre.length:=by rw[← Array.length_toList,he];simp
  refine⟨fun j o hj ho=>?_,by rw[hsz];exact ha,rfl⟩;have:=(Array.getElem?_eq_some_iff.1 ho).1;omega
 |o::os,pre,S,S',c::cs,pc,he,hr,hl,ha,h=>by
  obtain⟨hs,h⟩:=h;have ho:ops[pre.length]? = some o:=by rw[← Array.getElem?_toList,he];simp
  have hc:Rn tr pre.length=c:=by
   show tr.getD pre.length default=c;rw[hr,← hl,List.getD_eq_getElem?_getD];simp
  have hat:At S0 ops tr (pre++[o]).length (S.app o.dst c.av c.ups):=by
   obtain⟨h1,h2,h3⟩:=ha;refine⟨fun t=>?_,?_,by rw[zy9];exact h3⟩
   ·rw[zy_,List.length_append];simp only[List.length_singleton,tmAt];rw[← h1,hc,h3];simp[allT,Dn,ho]
   ·rw[List.length_append,List.length_singleton,zsg (L:=allT) rfl,← h2,hc];simp only[St.app];rw[za_]
  obtain⟨g1,g2,g3⟩:=yfk (pre:=pre++[o]) (pc:=pc++[c]) (by simp[he]) (by simp[hr]) (by simp[hl]) hat h;refine⟨fun j o' hj ho'=>?_,g2,by simp[g3]⟩;rcases Nat.eq_or_lt_of_le hj with e|hlt
  ·subst e;rw[ho]at ho';injection ho' with ho'
   subst ho';exact⟨S,ha,by rw[hc];exact hs⟩
  ·exact g1 j o' (by simp;omega) ho'
 | [],_,_,_,_::_,_,_,_,_,_,h=>by cases h
 |_::_,_,_,_,[],_,_,_,_,_,h=>by cases h
end
end
end Go.Proofs.Ytbjgiioppmkpiaa.Rx

namespace Go.Proofs.Ytbjgiioppmkpiaa.Rx
open Go Go.RowKit
theorem zpl{p q:Nat→Bool}{j:Nat}(hp:p j=true)(hq:q j=false)(h:∀ i,q i=true→p i=true):∀ {l:List Nat},j∈l→l.countP q<l.countP p
 | [],hj=>by cases hj
 |x::l,hj=>by
  have mono:∀ l:List Nat,l.countP q≤l.countP p:=fun l=>List.countP_mono_left (fun i _ hi=>h i hi)
  by_cases hx:x=j
  ·subst hx;rw[List.countP_cons_of_pos hp,List.countP_cons_of_neg (by simp[hq])];have:=mono l;omega
  ·have hj':j∈l:=by
    rcases List.mem_cons.1 hj with e|e
    ·exact(hx e.symm).elim
    ·exact e
   have ih:=zpl hp hq h hj';rw[List.countP_cons,List.countP_cons]
   by_cases h1:q x=true
   ·rw[if_pos h1,if_pos (h x h1)];omega
   ·rw[if_neg h1];split <;> omega
theorem yk8{a b:Nat}(h:Nat.blt a b=true):a<b:=by
 unfold Nat.blt at h;have:=Nat.le_of_ble_eq_true h;omega
theorem yew{a b:List Nat}(h:dis a b=true){x:Nat}(ha:x∈a):x∉b:=by
 intro hb;unfold dis at h;rw[List.all_eq_true]at h;have:=h x ha;simp only[Bool.not_eq_true',List.any_eq_false]at this;exact this x hb (by simp)
section
variable{P:Program}{cx:Cx}{β:Type}{T:TB}{Γ:Gam}{n:Nat}{ops:Array Oper}{S0:St}{tr:List Rc}
theorem zd4{A:List Nat}(h:okSt ops A=true){j:Nat}{oj:Oper}(hj:ops[j]? = some oj):(∀ p∈zgs oj,p<j)∧∀ i oi,i<j→ops[i]? = some oi→(A.getD j 0).testBit i=false→oi.apart ops oj=true:=by
 unfold okSt at h;rw[List.all_eq_true]at h;have hlt:=(Array.getElem?_eq_some_iff.1 hj).1;have:=h j (List.mem_range.2 hlt);simp only[hj,Bool.and_eq_true,List.all_eq_true]at this;refine⟨fun p hp=>yk8 (this.1 p hp),fun i oi hi hoi hb=>?_⟩;have:=this.2 i (List.mem_range.2 hi);simp only[hb,hoi,Bool.false_or]at this;exact this
theorem zwv{A:List Nat}{rs:List (List Nat×List Nat)}{N:Nat}(h:okDy N A rs=true){i j:Nat}(hi:i<N)(hj:j<N)(hij:i≠j)(h1:(A.getD j 0).testBit i=false)(h2:(A.getD i 0).testBit j=false){x:Nat}(hx:x∈(rs.getD i ([],[])).1) :
  x∉(rs.getD j ([],[])).2∧x∉(rs.getD j ([],[])).1:=by
 unfold okDy at h;rw[List.all_eq_true]at h;have:=h i (List.mem_range.2 hi);split at this
 ·rename_i e;rw[e]at hx;cases hx
 ·rename_i W _;rw[List.all_eq_true]at this;have:=this j (List.mem_range.2 hj)
  have hb:Nat.beq i j=false:=by
   cases hb:Nat.beq i j with
   |false=>rfl
   |true=>exact(hij (Nat.eq_of_beq_eq_true hb)).elim
  rw[hb,h1,h2]at this;simp only[Bool.false_or]at this;have:=yew this hx;rw[List.mem_append]at this;exact⟨fun h=>this (.inl h),fun h=>this (.inr h)⟩
theorem Reach.lt(hp:∀ j oj,ops[j]? = some oj→∀ p∈zgs oj,p<j){i j:Nat}(h:Reach ops i j):i<j:=by
 induction h with
 |one h h1=>exact hp _ _ h _ h1
 |step h h1 _ ih=>exact Nat.lt_trans ih (hp _ _ h _ h1)
structure Good(T:TB)(Γ:Gam)(n:Nat)(ops:Array Oper)(S0:St)(tr:List Rc):Prop where
 steps:∀ j o,ops[j]? = some o→∃ Sj,At S0 ops tr j Sj∧Step T Γ n ops.toList Sj o (Rn tr j)
 pl:∀ j oj,ops[j]? = some oj→∀ p∈zgs oj,p<j
 st:okSt ops (zc6 ops.toList)=true
 dy:okDy ops.size (zc6 ops.toList) (tr.map fun c=>(c.ups.map (·.1),c.lg))=true
 len:tr.length=ops.size
theorem ym1(hl:tr.length=ops.size){i:Nat}(hi:i<ops.size):(tr.map fun c=>(c.ups.map (·.1),c.lg)).getD i ([],[])=((Rn tr i).ups.map (·.1),(Rn tr i).lg):=by
 have hi':i<tr.length:=by omega
 simp[List.getD_eq_getElem?_getD,hi',Rn]
variable(G:Good T Γ n ops S0 tr)
include G
theorem Good.free{i j:Nat}{oi oj:Oper}(hi:ops[i]? = some oi)(hj:ops[j]? = some oj)(hij:i≠j)(h1:((zc6 ops.toList).getD j 0).testBit i=false)(h2:((zc6 ops.toList).getD i 0).testBit j=false) :
  (∀ d,oi.dst=some d→d∉oj.looksAt ops)∧(∀ d,oj.dst=some d→oi.dst≠some d)∧(∀ u∈(Rn tr i).ups,u.1∉(Rn tr j).lg∧∀ v∈(Rn tr j).ups,u.1≠v.1):=by
 have hil:=(Array.getElem?_eq_some_iff.1 hi).1;have hjl:=(Array.getElem?_eq_some_iff.1 hj).1;refine⟨?_,?_,?_⟩
 ·rcases Nat.lt_or_gt_of_ne hij with h|h
  ·exact(Oper.apart_spec ((zd4 G.st hj).2 i oi h hi h1)).1
  ·exact(Oper.apart_spec ((zd4 G.st hi).2 j oj h hj h2)).2.2
 ·rcases Nat.lt_or_gt_of_ne hij with h|h
  ·intro d hd e;exact(Oper.apart_spec ((zd4 G.st hj).2 i oi h hi h1)).2.1 d e hd
  ·exact(Oper.apart_spec ((zd4 G.st hi).2 j oj h hj h2)).2.1
 ·intro u hu;have:=zwv G.dy hil hjl hij h1 h2 (x:=u.1) (by rw[ym1 G.len hil];exact List.mem_map.2 ⟨u,hu,rfl⟩);rw[ym1 G.len hjl]at this;exact⟨this.1,fun v hv e=>this.2 (List.mem_map.2 ⟨v,hv,e.symm⟩)⟩
variable(hT:TBok P T)(hΓ:GamOK P Γ){Q:Exit→Act→World→Prop}{Sf:St}(hQ:∀ a w,Rel cx Sf a w→Q .normal a w)(hf:At S0 ops tr ops.size Sf)
def Inv(cx:Cx)(S0:St)(ops:Array Oper)(tr:List Rc)(listed:Array Bool)(a:Act)(w:World):Prop :=
 ∃ S',(∀ t,S'.get t=tmAt S0 (Dn ops) (Rn tr) (fun i=>listed.getD i false) ops.size t)∧zad S'.obs=obAt S0 (Rn tr) (fun i=>listed.getD i false) ops.size∧S'.tm.length=S0.tm.length∧Rel cx S' a w
omit G in
include hQ hf in
theorem Good.done{listed:Array Bool}{a:Act}{w:World}(hall:∀ j,j<ops.size→listed.getD j false=true)(h:Inv cx S0 ops tr listed a w):Q .normal a w:=by
 obtain⟨S',h1,h2,h3,h4⟩:=h;refine hQ a w (h4.congr (fun t=>?_) ?_ (by rw[hf.2.2,h3]))
 ·rw[hf.1,h1];exact(zlw (Nat.le_refl _) (fun i hi hl=>by rw[hall i hi]at hl;cases hl) (fun i h1 h2=>by omega)).symm
 ·rw[hf.2.1,h2];funext o;exact(zmk (Nat.le_refl _) (fun i hi hl=>by rw[hall i hi]at hl;cases hl) (fun i h1 h2=>by omega)).symm
include hT hΓ hQ hf in
theorem Good.any:∀ (fuel:Nat) (listed:Array Bool) (a:Act) (w:World),listed.size=ops.size→ygk ops listed→(List.range ops.size).countP (fun i=>!listed.getD i false)≤fuel→Inv cx S0 ops tr listed a w →
  wpAny P .any ops Q fuel listed a w:=by
 have gdd:∀ (listed:Array Bool) (i:Nat),i<listed.size→listed.getD i true=listed.getD i false:=fun listed i hi=>by simp[hi]
 intro fuel
 induction fuel with
 |zero =>
  intro listed a w hsz hc hcnt hI
  have hall:∀ j,j<ops.size→listed.getD j false=true:=by
   intro j hj;have h0:(List.range ops.size).countP (fun i=>!listed.getD i false)=0:=by omega
   rw[List.countP_eq_zero]at h0;have:=h0 j (List.mem_range.2 hj);simpa using this
  refine⟨?_,Good.done hQ hf hall hI⟩;rw[List.eq_nil_iff_forall_not_mem];intro j hj;obtain⟨h1,o,ho,_⟩:=mem_ready.1 hj;have hjl:=(Array.getElem?_eq_some_iff.1 ho).1;rw[gdd listed j (by omega),hall j hjl]at h1;cases h1
 |succ fuel ih =>
  intro listed a w hsz hc hcnt hI;refine⟨fun hr=>?_,fun j hj=>?_⟩
  ·refine Good.done hQ hf (fun j=>?_) hI
   induction j using Nat.strongRecOn with
   |_ j ihj =>
    intro hjl
    cases hl:listed.getD j false with
    |true=>rfl
    |false =>
     have ho:ops[j]? = some ops[j]:=Array.getElem?_eq_getElem hjl
     have:j ∈ Region.ready .any ops listed:=mem_ready.2 ⟨by rw [gdd listed j (by omega)]; exact hl,_,ho,fun e he hb=>by
      have hp:e.on∈zgs ops[j]:=List.mem_map.2 ⟨e,List.mem_filter.2 ⟨by simpa using he,hb⟩,rfl⟩;have hlt:=G.pl j _ ho _ hp
      exact ihj e.on hlt (by omega)⟩
     rw[hr]at this;cases this
  ·obtain⟨hjun,oj,hoj,hpr⟩:=mem_ready.1 hj;have hjl:=(Array.getElem?_eq_some_iff.1 hoj).1;rw[gdd listed j (by omega)]at hjun
   have hpr':∀ o,ops[j]? = some o→∀ p∈zgs o,listed.getD p false=true:=by
    intro o ho p hp;rw[hoj]at ho;injection ho with ho
    subst ho;obtain⟨e,he,rfl⟩:=List.mem_map.1 hp;obtain⟨he1,he2⟩:=List.mem_filter.1 he;exact hpr e (by simpa using he1) he2
   -- what is before and not listed,and what is behind and listed,does not meet it
   have bitF:∀ {m i:Nat},(Reach ops i m→False)→((zc6 ops.toList).getD m 0).testBit i=false:=by
    intro m i h
    cases hb:((zc6 ops.toList).getD m 0).testBit i with
    |false=>rfl
    |true=>exact(h (zpv hb)).elim
   have frA:∀ i oi,i<j→ops[i]? = some oi→listed.getD i false=false→_:=fun i oi hi hoi hl =>
    G.free hoi hoj (by omega) (bitF fun hr=>by have:=hr.closed hc (.inr hpr');rw[hl]at this;cases this) (bitF fun hr=>by have:=hr.lt G.pl;omega)
   have frB:∀ i oi,j<i→ops[i]? = some oi→listed.getD i false=true→_:=fun i oi hi hoi hl =>
    G.free hoi hoj (by omega) (bitF fun hr=>by have:=hr.lt G.pl;omega) (bitF fun hr=>by have:=hr.closed hc (.inl hl);rw[hjun]at this;cases this)
   obtain⟨S',g1,g2,g3,g4⟩:=hI;obtain⟨Sj,⟨s1,s2,s3⟩,hst⟩:=G.steps j oj hoj
   have opOf:∀ {i t:Nat},Dn ops i=some t→∃ oi,ops[i]? = some oi∧oi.dst=some t:=by
    intro i t h
    cases ho:ops[i]? with
    |none=>simp[Dn,ho]at h
    |some oi=>exact⟨oi,rfl,by simpa [Dn,ho] using h⟩
   have getOp:∀ {i:Nat},i<ops.size→∃ oi,ops[i]? = some oi:=fun hi=>⟨_,Array.getElem?_eq_getElem hi⟩
   have hst':Step T Γ n ops.toList S' oj (Rn tr j):=by
    refine zte hst (fun t ht=>?_) (fun x hx=>?_)
    ·rw[g1,s1];refine zlw (Nat.le_of_lt hjl) (fun i hi hl hD=>?_) (fun i hji hi hl hD=>?_)
     ·obtain⟨oi,hoi,hd⟩:=opOf hD;exact(frA i oi hi hoi hl).1 t hd ht
     ·obtain⟨oi,hoi,hd⟩:=opOf hD
      have hne:j<i:=by
       rcases Nat.eq_or_lt_of_le hji with e|h
       ·subst e;simp only[hjun]at hl;cases hl
       ·exact h
      exact(frB i oi hne hoi hl).1 t hd ht
    ·rw[g2,s2];refine zmk (Nat.le_of_lt hjl) (fun i hi hl u hu e=>?_) (fun i hji hi hl u hu e=>?_)
     ·obtain⟨oi,hoi⟩:=getOp (i:=i) (by omega);exact((frA i oi hi hoi hl).2.2 u hu).1 (e ▸ hx)
     ·obtain⟨oi,hoi⟩:=getOp (i:=i) hi
      have hne:j<i:=by
       rcases Nat.eq_or_lt_of_le hji with e|h
       ·subst e;simp only[hjun]at hl;cases hl
       ·exact h
      exact((frB i oi hne hoi hl).2.2 u hu).1 (e ▸ hx)
   refine yg7 hT hΓ g4 hst' (fun a' w' hrel=>?_) hoj
   have hL:∀ i,(listed.setIfInBounds j true).getD i false=(listed.getD i false || decide (i=j)):=by
    intro i
    by_cases hij:i=j
    ·subst hij;simp[show i<listed.size by omega]
    ·rw[getD_set_ne false (fun e=>hij e.symm)];simp[hij]
   refine ih _ a' w' (by simpa using hsz) ?_ ?_ ?_
   ·intro m om hm hlm p hp;rw[hL]at hlm ⊢
    by_cases hmj:m=j
    ·subst hmj;rw[hpr' om hm p hp];rfl
    ·simp only[hmj,decide_false,Bool.or_false]at hlm;rw[hc m om hm hlm p hp];rfl
   ·have:=zpl (p:=fun i=>!listed.getD i false) (q:=fun i=>!(listed.setIfInBounds j true).getD i false) (j:=j) (by simp only [hjun]; rfl) (by simp only [hL]; simp) (fun i hi=>by
     simp only[hL]at hi
     cases hl:listed.getD i false with
     |false=>rfl
     |true=>rw[hl]at hi;simp at hi) (List.mem_range.2 hjl)
    omega
   ·refine⟨_,fun t=>?_,?_,by rw[zy9];exact g3,hrel⟩
    ·rw [zy_,zz1 (L:=fun i=>listed.getD i false) (L':=fun i=>(listed.setIfInBounds j true).getD i false) hjl hL (fun i hji hi hl t hD hDi=>by
      obtain⟨oi,hoi,hd⟩:=opOf hDi;obtain⟨oj',hoj',hd'⟩:=opOf hD;rw[hoj]at hoj';injection hoj' with e
      subst e
      exact(frB i oi hji hoi hl).2.1 t hd' hd) hjun,← g1,g3]
     simp[Dn,hoj]
    ·simp only[St.app]
     rw [za_,ycy (L:=fun i=>listed.getD i false) (L':=fun i=>(listed.setIfInBounds j true).getD i false) hjl hL (fun i hji hi hl u hu v hv=>by
      obtain⟨oi,hoi⟩:=getOp (i:=i) hi
      exact((frB i oi hji hoi hl).2.2 u hu).2 v hv) hjun,← g2]
end
theorem yih{P:Program}{cx:Cx}{w:World}{β:Type}{T:TB}{Γ:Gam}(hT:TBok P T)(hΓ:GamOK P Γ)(hm:P.follows .mixedOrders=true){n:Nat}{ops:Array Oper}{k:St→Option β}{r:β}{Q:Exit→Act→World→Prop}
  (hQ:∀ S a w,Rel cx S a w→k S=some r→Q .normal a w) {id:Nat} {S:St} {a:Act} (h:Rel cx S a w) (he:rgD T Γ n ops k ops.toList [] S=some r):(Code.region id ops true).wp P Q a w:=by
 obtain⟨tr,Sf,hrun,⟨hst,hdy⟩,hk⟩:=zol he;obtain⟨g1,g2,g3⟩:=yfk (S0:=S) (tr:=tr) (pre:=[]) (pc:=[]) rfl rfl rfl ⟨fun _=>rfl,rfl,rfl⟩ hrun;have G:Good T Γ n ops S tr:=⟨fun j o ho=>g1 j o (Nat.zero_le _) ho,fun j oj hj=>(zd4 hst hj).1,hst,by simpa using hdy,by simpa using g3⟩;refine wp_region_any hm (G.any hT hΓ (fun a w hr=>hQ Sf a w hr hk) g2 _ _ _ _ (by simp) ?_ ?_ ?_)
 ·intro j o hj hl;rw[Array.getD_eq_getD_getElem?,Array.getElem?_replicate]at hl;split at hl <;> cases hl
 ·have:=List.countP_le_length (p:=fun i=>!(Array.replicate ops.size false).getD i false) (l:=List.range ops.size);simpa using this
 ·have hL:∀ i,(Array.replicate ops.size false).getD i false=false:=by
   intro i;rw[Array.getD_eq_getD_getElem?,Array.getElem?_replicate];split <;> rfl
  refine⟨S,fun t=>?_,?_,rfl,?_⟩
  ·have:∀ N,tmAt S (Dn ops) (Rn tr) (fun i=>(Array.replicate ops.size false).getD i false) N t=S.get t:=by
    intro N
    induction N with
    |zero=>rfl
    |succ N ih=>simp only[tmAt];rw[if_neg (by rw[hL];simp),ih]
   exact(this _).symm
  ·have:∀ N,obAt S (Rn tr) (fun i=>(Array.replicate ops.size false).getD i false) N=zad S.obs:=by
    intro N
    induction N with
    |zero=>rfl
    |succ N ih=>rw[zwx (hL N),ih]
   exact(this _).symm
  ·obtain⟨⟨I,FF,hH,hr⟩,hs,hd⟩:=h;exact⟨⟨I,FF,hH.world (D:=fun _=>False) ⟨rfl,rfl,rfl,Nat.le_refl _,fun _ _ _=>rfl⟩ (fun k hk=>hk.elim),hr⟩,hs,hd⟩
end Go.Proofs.Ytbjgiioppmkpiaa.Rx

namespace Go.Proofs.Ytbjgiioppmkpiaa.Rx
open Go Go.RowKit
section
variable{P:Program}{cx:Cx}{w:World}{β:Type}
inductive Xt where
 |normal
 |exit (id:Nat)
 |ret
def Xt.is:Xt→Exit→Prop
 | .normal,.normal=>True
 | .exit i,.exit j=>i=j
 | .ret,.ret=>True
 |_,_=>False
def za2:Code→Nat
 | .region id _ _=>id
 | .seq a _=>za2 a
 | .block _ b=>za2 b
 | .loop b=>za2 b
 | .scope b=>za2 b
 |_=>0
def seqK(next:St→Option β)(k:Xt→St→Option β):Xt→St→Option β
 | .normal,S=>next S
 |x,S=>k x S
def blkK(id:Nat)(k:Xt→St→Option β):Xt→St→Option β
 | .exit i,S=>match Nat.beq i id with|true=>k .normal S|false=>k (.exit i) S
 |x,S=>k x S
def yc4(tag:Nat)(lp:Lp)(next:St→Option β)(k:Xt→St→Option β):Xt→St→Option β
 | .normal,S=>(prep lp S).bind (at_ tag next)
 |x,S=>k x S
noncomputable def zxf(tag:Nat)(lp:Lp)(body:(Xt→St→Option β)→St→Option β)(k:Xt→St→Option β)(m:Nat):St→Option β :=
 Nat.rec (motive:=fun _=>St→Option β) (fun _=>none) (fun _ ih S=>body (yc4 tag lp ih k) S) m
noncomputable def ex(T:TB)(Γ:Gam)(n:Nat)(an:An):Code→(Xt→St→Option β)→St→Option β
 | .skip,k,S=>k .normal S
 | .region id ops draw,k,S=>match draw with
  |false=>rg T Γ n (id*1000) (an.cut id) ops.toList (k .normal) 0 ops.toList S
  |true=>rgD T Γ n ops (k .normal) ops.toList [] S
 | .seq a b,k,S=>ex T Γ n an a (seqK (ex T Γ n an b k) k) S
 | .cond c a b,k,S=>match S.opnd c with
  | .one (.bool v)=>cond v (ex T Γ n an a k (S.lit c true)) (ex T Γ n an b k (S.lit c false))
  |_=>none
 | .block id b,k,S=>ex T Γ n an b (blkK id k) S
 | .loop b,k,S=>(prep (an.lp (za2 b)) S).bind (at_ (za2 b*1000+999) (zxf (za2 b*1000+999) (an.lp (za2 b)) (ex T Γ n an b) k n))
 | .exit id,k,S=>k (.exit id) S
 | .ret,k,S=>k .ret S
 |_,_,_=>none
def XQ(P:Program)(cx:Cx)(k:Xt→St→Option β)(r:β)(Q:Exit→Act→World→Prop):Prop :=
 ∀ x e S a w,Xt.is x e→Rel cx S a w→k x S=some r→Q e a w
theorem zea{T:TB}{Γ:Gam}(hT:TBok P T)(hΓ:GamOK P Γ)(hm:P.follows .mixedOrders=true){n:Nat}{an:An}{r:β}:∀ (c:Code) {S:St} {a:Act} {w:World} {k:Xt→St→Option β} {Q:Exit→Act→World→Prop},Rel cx S a w→XQ P cx k r Q →
  ex T Γ n an c k S=some r→c.wp P Q a w
 | .skip,S,a,w,k,Q,h,hQ,he=>wp_skip (hQ .normal .normal S a w trivial h he)
 | .region id ops draw,S,a,w,k,Q,h,hQ,he=>by
  cases draw with
  |false=>exact wp_region_list (yfl hT hΓ (fun S a w h he=>hQ .normal .normal S a w trivial h he) h he)
  |true=>exact yih hT hΓ hm (fun S a w h he=>hQ .normal .normal S a w trivial h he) h he
 | .seq c1 c2,S,a,w,k,Q,h,hQ,he=>by
  simp only[ex]at he;refine wp_seq (zea hT hΓ hm c1 h ?_ he);intro x e S' a' w' hx h' hk
  cases x with
  |normal =>
   cases e with
   |normal=>exact zea hT hΓ hm c2 h' hQ hk
   |_=>exact hx.elim
  |exit i =>
   cases e with
   |exit j=>exact hQ _ _ _ _ _ hx h' hk
   |_=>exact hx.elim
  |ret =>
   cases e with
   |ret=>exact hQ _ _ _ _ _ hx h' hk
   |_=>exact hx.elim
 | .cond c c1 c2,S,a,w,k,Q,h,hQ,he=>by
  simp only[ex]at he
  cases hc:S.opnd c with
  |one s =>
   cases s with
   |bool v =>
    simp only[hc]at he
    have hv:a.eval c = .bool v:=by
     obtain⟨⟨I,FF,hH,hr⟩,_,_⟩:=h;have:=zi7 (FF:=FF) hr c;rw[hc]at this;exact this
    cases v with
    |true=>exact wp_cond_true hv (zea hT hΓ hm c1 (h.lit hc) hQ he)
    |false=>exact wp_cond_false hv (zea hT hΓ hm c2 (h.lit hc) hQ he)
   |_=>simp only[hc]at he;cases he
  |_=>simp only[hc]at he;cases he
 | .block id c,S,a,w,k,Q,h,hQ,he=>by
  simp only[ex]at he;refine wp_block (zea hT hΓ hm c h ?_ he);intro x e S' a' w' hx h' hk
  cases x with
  |normal =>
   cases e with
   |normal=>exact hQ .normal .normal S' a' w' trivial h' hk
   |_=>exact hx.elim
  |exit i =>
   cases e with
   |exit j =>
    have hij:i=j:=hx;subst hij;simp only[blkK]at hk
    cases hb:Nat.beq i id with
    |true =>
     simp only[hb]at hk;have:=Nat.eq_of_beq_eq_true hb;subst this;simp only[Exit.inBlock,if_true];exact hQ .normal .normal S' a' w' trivial h' hk
    |false =>
     simp only[hb]at hk;have:i≠id:=by rintro rfl;rw[Nat.beq_refl]at hb;cases hb
     simp only[Exit.inBlock,if_neg this];exact hQ (.exit i) (.exit i) S' a' w' rfl h' hk
   |_=>exact hx.elim
  |ret =>
   cases e with
   |ret=>exact hQ .ret .ret S' a' w' trivial h' hk
   |_=>exact hx.elim
 | .loop c,S,a,w,k,Q,h,hQ,he=>by
  simp only[ex]at he;refine wp_loop_rounds n ?_
  cases h0:prep (an.lp (za2 c)) S with
  |none=>rw[h0]at he;cases he
  |some S0 =>
   rw[h0]at he;simp only[Option.bind_some,at_]at he
   have key:∀ (m:Nat) (S:St) (a:Act) (w:World),Rel cx S a w→zxf (za2 c*1000+999) (an.lp (za2 c)) (ex T Γ n an c) k m S=some r→Code.rounds P c Q m a w:=by
    intro m
    induction m with
    |zero=>intro S a w _ he;cases he
    |succ m ih =>
     intro S a w h he;rw[rounds_succ];refine zea hT hΓ hm c h ?_ (show ex T Γ n an c (yc4 _ (an.lp (za2 c)) (zxf (za2 c*1000+999) (an.lp (za2 c)) (ex T Γ n an c) k m) k) S=some r from he);intro x e S' a' w' hx h' hk
     cases x with
     |normal =>
      cases e with
      |normal =>
       simp only[yc4]at hk
       cases h1:prep (an.lp (za2 c)) S' with
       |none=>rw[h1]at hk;cases hk
       |some S1 =>
        rw[h1]at hk;exact ih S1 a' w' (zi9 h' h1) hk
      |_=>exact hx.elim
     |exit i =>
      cases e with
      |exit j=>exact hQ _ _ _ _ _ hx h' hk
      |_=>exact hx.elim
     |ret =>
      cases e with
      |ret=>exact hQ _ _ _ _ _ hx h' hk
      |_=>exact hx.elim
   exact key n S0 a w (zi9 h h0) he
 | .exit id,S,a,w,k,Q,h,hQ,he=>wp_exit (hQ (.exit id) (.exit id) S a w rfl h he)
 | .ret,S,a,w,k,Q,h,hQ,he=>wp_ret (hQ .ret .ret S a w trivial h he)
 | .rangeFunc ..,_,_,_,_,_,_,_,he=>by cases he
 | .scope ..,_,_,_,_,_,_,_,he=>by cases he
 | .label ..,_,_,_,_,_,_,_,he=>by cases he
 | .goto ..,_,_,_,_,_,_,_,he=>by cases he
 | .refuse ..,_,_,_,_,_,_,_,he=>by cases he
inductive Pt where
 |op (r i:Nat)
 |head (r:Nat)
def Pt.inC(p:Pt):Code→Bool
 | .region id _ _=>match p with | .op r _=>Nat.beq r id|_=>false
 | .seq a b=>p.inC a || p.inC b
 | .cond _ a b=>p.inC a || p.inC b
 | .block _ b=>p.inC b
 | .loop b=>(match p with | .head r=>Nat.beq r (za2 b)|_=>false) || p.inC b
 |_=>false
noncomputable def rgAt(T:TB)(Γ:Gam)(n tag:Nat)(cut:Nat→Option Lp)(ops:List Oper)(k:St→Option β)(j:Nat):Nat→List Oper→St→Option β
 |_,[],S=>k S
 |i,o::os,S=>match Nat.beq i j with
  |true=>at_ (tag+i) (rgOp T Γ n ops o (rg T Γ n tag cut ops k (i+1) os)) S
  |false=>rgAt T Γ n tag cut ops k j (i+1) os S
noncomputable def exAt(T:TB)(Γ:Gam)(n:Nat)(an:An)(p:Pt):Code→List Nat→(Xt→St→Option β)→St→Option β
 | .region id ops _,ms,k,S=>(match p with
  | .op _ j=>rgAt T Γ n (id*1000) (an.cut id) ops.toList (k .normal) j 0 ops.toList S
  |_=>none)
 | .seq a b,ms,k,S=>(match p.inC a with
  |true=>exAt T Γ n an p a ms (seqK (ex T Γ n an b k) k) S
  |false=>exAt T Γ n an p b ms k S)
 | .cond _ a b,ms,k,S=>(match p.inC a with
  |true=>exAt T Γ n an p a ms k S
  |false=>exAt T Γ n an p b ms k S)
 | .block id b,ms,k,S=>exAt T Γ n an p b ms (blkK id k) S
 | .loop b,m :: ms,k,S=>(match (match p with | .head r=>Nat.beq r (za2 b) | _=>false) with
  |true=>at_ (za2 b*1000+999) (zxf (za2 b*1000+999) (an.lp (za2 b)) (ex T Γ n an b) k m) S
  |false=>exAt T Γ n an p b ms (yc4 (za2 b*1000+999) (an.lp (za2 b)) (zxf (za2 b*1000+999) (an.lp (za2 b)) (ex T Γ n an b) k m) k) S)
 |_,_,_,_=>none
end
end Go.Proofs.Ytbjgiioppmkpiaa.Rx

namespace Go.Proofs.Ytbjgiioppmkpiaa.Rx
open Go Go.RowKit
def pid(i:Nat):Nat:=3000000+i*100
def zzx(agg:Bool)(cs:List SV):AV:=match agg with
 |true=>.agg cs
 |false=>match cs with | [s]=>.one s|_=>.undef
def yk5:(ts:List Ty)→zrc ts→List SV
 | [],_=>[]
 |t::ts,x=>.cptr ⟨0,t,[x.1]⟩ 0 0::yk5 ts x.2
def zlr(i:Nat):(k:PK)→k.den→AV×List (Nat×Ent)
 | .val t agg,x=>(zzx agg (zb9 t x),[])
 | .own t agg,x=>(zzx agg (zbs (pid i) t x),zar (pid i) t x)
 | .io t agg,x=>(.par i agg (zbs (pid i) t x),zar (pid i) t x)
 | .bx t,x=>(.par i false [.bptr (pid i) 0],[(pid i,.box (zb9 t x))])
 | .bo t,x=>(.par i false [.bptr (pid i) 0],zar (pid i+1) t x++[(pid i,.box (zbs (pid i+1) t x))])
 | .cp t,x=>(.one (.cptr ⟨0,t,[x]⟩ 0 0),[])
 | .fn f ts,x=>(.fn f (yk5 ts x),[])
def zcf:Nat→(ks:List PK)→zai ks→List AV×List (Nat×Ent)
 |_,[],_=>([],[])
 |i,k::ks,x=>((zlr i k x.1).1::(zcf (i+1) ks x.2).1,(zlr i k x.1).2++(zcf (i+1) ks x.2).2)
def zo_(ntmps:Nat)(ks:List PK)(x:zai ks):St:=⟨(zcf 0 ks x).1++List.replicate (ntmps - ks.length) .undef,zlm [] (zcf 0 ks x).2⟩
def resV(T:TB)(S:St):ResultVar→M AV
 | .tmp t=>M.pure (S.opnd (.tmp t))
 | .cell a t=>match T t,S.opnd (.tmp a) with
  |some ti,.one p=>zpz ti p
  |_,_=>M.fail
def finR(k:RK)(a:AV)(cons:List (Nat×Ent)):M (k.den×List (Nat×Ent)) :=
 match k with
 | .own t agg=>(match avC agg a with
  | some cs=>M.bind (resM cs cons) fun lc=>(match za0 t lc.1 with
   |some x=>M.pure (x,lc.2)
   |none=>M.fail)
  |none=>M.fail)
 | .val t agg=>(match avC agg a with
  | some cs=>M.bind (resC true cs) fun lr=>(match za0 t lr.1 with
   |some x=>M.pure (x,cons)
   |none=>M.fail)
  |none=>M.fail)
 | .bx t=>(match a with
  | .one (.bptr o 0)=>(match cons.any (fun c=>c.1 == o) with
   |true=>M.fail
   |false=>M.bind (M.get o) fun
    | .box cs=>M.bind (resC true cs) fun lr=>(match za0 t lr.1 with
     |some x=>M.pure (x,cons++[(o,.dead 0)])
     |none=>M.fail)
    |_=>M.fail)
  |_=>M.fail)
 | .half e t c=>(match a with
  | .one .nil=>M.pure (([]:List t.den),cons)
  | .one (.ref o 0 [] none)=>(match cons.any (fun c=>c.1 == o) with
   |true=>M.fail
   |false=>M.bind (M.get o) fun
    | .half r k c'=>(match decide (k=0)&&(Nat.beq c' c&&Nat.beq r.e e),zaq r t with
     |true,some xs=>M.pure (xs,cons++[(o,.dead 0)])
     |_,_=>M.fail)
    |_=>M.fail)
  |_=>M.fail)
 | .ro e t agg=>(match avC agg a with
  |some [.nil]=>M.pure (([]:List t.den),cons)
  | some [.ref o v [] none]=>(match cons.any (fun c=>c.1 == o) with
   |true=>M.fail
   |false=>M.bind (M.get o) fun
    | .ro r=>(match Nat.beq r.e e,zaq r t with
     |true,some xs=>M.pure (xs,cons++[(o,.dead 0)])
     |_,_=>M.fail)
    | .row r cur none=>(match Nat.beq r.e e,zaq r t with
     |true,some xs=>M.pure (xs,cons++[(o,.dead cur)])
     |_,_=>M.fail)
    | .rv r rt=>(match Nat.beq r.e e&&Nat.ble v rt,zaq r t with
     |true,some xs=>M.pure (xs,cons++[(o,.dead (rt+1))])
     |_,_=>M.fail)
    |_=>M.fail)
  | some [.ref o v [] (some ol)]=>(match cons.any (fun c=>c.1 == o) with
   |true=>M.fail
   |false=>M.bind (M.get o) fun
    | .row r cur none=>(match Nat.beq r.e e,zaq r t with
     |true,some xs=>M.pure ((xs.drop ol.1).take ol.2,cons++[(o,.dead cur)])
     |_,_=>M.fail)
    |_=>M.fail)
  |_=>M.fail)
 | .rw e t=>(match avC true a with
  | some [.ref o v [] none,.int .i64 m]=>(match cons.any (fun c=>c.1 == o) with
   |true=>M.fail
   |false=>M.bind (M.get o) fun
    | .ro r=>(match Nat.beq r.e e,zaq r t with
     |true,some xs=>M.pure ((xs,m),cons++[(o,.dead 0)])
     |_,_=>M.fail)
    |_=>M.fail)
  |_=>M.fail)
def zx3(T:TB)(S:St):(rs:List RK)→List ResultVar→List (Nat×Ent)→M (zah rs×List (Nat×Ent))
 | [],[],cons=>M.pure ((),cons)
 |k::rs,v::vs,cons=>M.bind (resV T S v) fun a=>M.bind (finR k a cons) fun r=>M.bind (zx3 T S rs vs r.2) fun rr=>M.pure ((r.1,rr.1),rr.2)
 |_,_,_=>M.fail
def finO:Nat→(ks:List PK)→St→List (Nat×Ent)→M (zag ks×List (Nat×Ent))
 |_,[],_,cons=>M.pure ((),cons)
 |i,.val _ _::ks,S,cons=>finO (i+1) ks S cons
 |i,.own _ _::ks,S,cons=>finO (i+1) ks S cons
 |i,.cp _::ks,S,cons=>finO (i+1) ks S cons
 |i,.fn _ _::ks,S,cons=>finO (i+1) ks S cons
 | i,.io t agg :: ks,S,cons=>(match S.get i with
  | .par j g cs=>(match Nat.beq j i&&(g == agg) with
   | true=>M.bind (resM cs cons) fun lc=>(match za0 t lc.1 with
    |some x=>M.bind (finO (i+1) ks S lc.2) fun r=>M.pure ((x,r.1),r.2)
    |none=>M.fail)
   |false=>M.fail)
  |_=>M.fail)
 | i,.bx t :: ks,S,cons=>(match S.get i with
  | .par j false [.bptr o 0]=>(match Nat.beq j i,cons.any (fun c=>c.1 == o) with
   |true,false=>M.bind (M.get o) fun
    | .box cs=>M.bind (resC true cs) fun lr=>(match za0 t lr.1 with
     |some x=>M.bind (finO (i+1) ks S (cons++[(o,.dead 0)])) fun r=>M.pure ((x,r.1),r.2)
     |none=>M.fail)
    |_=>M.fail
   |_,_=>M.fail)
  |_=>M.fail)
 | i,.bo t :: ks,S,cons=>(match S.get i with
  | .par j false [.bptr o 0]=>(match Nat.beq j i,cons.any (fun c=>c.1 == o) with
   |true,false=>M.bind (M.get o) fun
    | .box cs=>M.bind (resM cs (cons ++ [(o,.dead 0)])) fun lc=>(match za0 t lc.1 with
     |some x=>M.bind (finO (i+1) ks S lc.2) fun r=>M.pure ((x,r.1),r.2)
     |none=>M.fail)
    |_=>M.fail
   |_,_=>M.fail)
  |_=>M.fail)
def fin(T:TB)(ps:List PK)(rs:List RK)(vars:List ResultVar)(S:St):Option (zah rs×zag ps) :=
 (M.bind (zx3 T S rs vars []) (fun r=>M.bind (finO 0 ps S r.2) fun o=>M.pure (r.1,o.1)) (zad S.obs)).run fun r=>some r.1
def finK(T:TB)(ps:List PK)(rs:List RK)(vars:List ResultVar):Xt→St→Option (zah rs×zag ps)
 | .exit _,_=>none
 | .normal,S=>fin T ps rs vars S
 | .ret,S=>fin T ps rs vars S
noncomputable def runF(T:TB)(Γ:Gam)(an:An)(fn:Func)(body:Code)(ps:List PK)(rs:List RK)(n:Nat)(x:zai ps):Option (zah rs×zag ps) :=
 ex T Γ n an body (finK T ps rs fn.results.toList) (zo_ fn.ntmps ps x)
noncomputable def atF(T:TB)(Γ:Gam)(an:An)(fn:Func)(body:Code)(ps:List PK)(rs:List RK)(n:Nat)(p:Pt)(ms:List Nat)(S:St):Option (zah rs×zag ps) :=
 exAt T Γ n an p body ms (finK T ps rs fn.results.toList) S
section
variable{P:Program}{w:World}
theorem zji{cx:Cx}{I:In}{ob:Ob}{agg:Bool}{ss:List SV}{v:Value}{R:List Value→Prop}(h:VR agg R v)(hr:∀ cs,R cs→F2 (RelS cx I ob) ss cs):RelA cx I ob (zzx agg ss) v:=by
 have:=zuy h hr
 cases agg with
 |true=>exact this
 |false =>
  obtain⟨s,hs,hrel⟩:=this;simp only at hs;subst hs;exact hrel
theorem zyw{a b:Nat}(h:Nat.blt a b=true):a<b:=by
 unfold Nat.blt at h;have:=Nat.le_of_ble_eq_true h;omega
theorem zeu{t:Ty}(hn:zbm t<100){i:Nat}{y:t.den}:∀ u∈zar (pid i) t y,pid i≤u.1∧u.1<pid (i+1):=by
 intro u hu;have:=za6 t (pid i) y u hu;unfold pid at *;omega
theorem zql{t:Ty}(hn:zbm t+1<100){i:Nat}{y:t.den}:∀ u∈zar (pid i+1) t y,pid i<u.1∧u.1<pid (i+1):=by
 intro u hu;have:=za6 t (pid i+1) y u hu;unfold pid at *;omega
def okPs:List PK→Bool
 | []=>true
 | .own t _::ks=>Nat.blt (zbm t) 100&&okPs ks
 | .io t agg::ks=>Nat.blt (zbm t) 100&&(agg || Nat.beq t.sz 1)&&okPs ks
 | .bo t::ks=>Nat.blt (zbm t+1) 100&&okPs ks
 |_::ks=>okPs ks
theorem zpp{cx:Cx}{I:In}{ob:Ob}{Z:Nat→Prop}(hz:∀ k,Z k→cx.Z k∧cx.w0.heap[k]? = w.heap[k]?):∀ {ts:List Ty} {x:zrc ts} {vs:List Value},yfi w Z ts x vs→F2 (RelS cx I ob) (yk5 ts x) vs
 | [],_,[],_=>trivial
 |t::ts,x,v::vs,h=>by
  obtain⟨g,b,hv,hr⟩:=zym h.1;exact⟨⟨(by simp),g,b,1,CnR.imp hz hr,(by rw[hv];simp)⟩,zpp hz h.2⟩
 | [],_,_::_,h=>h.elim
 |_::_,_,[],h=>h.elim
theorem zsv{cx:Cx}(hz:∀ k,cx.Z k→cx.w0.heap[k]? = w.heap[k]?):∀ {ks:List PK} {i:Nat} {x:zai ks} {vs:List Value} {Fs:List (List Nat)} {I:In} {FF:Nat→List Nat} {ob:Ob},okPs ks=true→RelH cx I FF ob w→zid w cx.Z ks x vs Fs →
  (∀ j v,vs[j]? = some v→cx.args (i+j)=v)→Fs.flatten.Nodup→(∀ k∈Fs.flatten,(¬ cx.Z k∧(cx.D0 k∨cx.w0.heap.size≤k)∧k<w.heap.size)∧∀ o,k∉FF o)→(∀ o,pid i≤o→ob o=none) →
  ∃ I' FF',Ext I ob I' (ob.puts (zcf i ks x).2)∧RelH cx I' FF' (ob.puts (zcf i ks x).2) w∧F2 (RelA cx I' (ob.puts (zcf i ks x).2)) (zcf i ks x).1 vs
 | [],i,x,[],[],I,FF,ob,_,h,_,_,_,_,_=>⟨I,FF,Ext.refl I ob,h,trivial⟩
 |k::ks,i,x,v::vs,F::Fs,I,FF,ob,hk,h,ha,harg,hn,hm,hfree=>by
  rw[List.flatten_cons]at hn hm;have hn':=List.nodup_append.1 hn;have hzz:∀ k,cx.Z k→cx.Z k∧cx.w0.heap[k]? = w.heap[k]?:=fun k hk=>⟨hk,hz k hk⟩
  have hk':okPs ks=true:=by
   cases k with
   |val t agg=>exact hk
   |own t agg=>simp only[okPs,Bool.and_eq_true]at hk;exact hk.2
   |io t agg=>simp only[okPs,Bool.and_eq_true]at hk;exact hk.2
   |bx t=>exact hk
   |bo t=>simp only[okPs,Bool.and_eq_true]at hk;exact hk.2
   |cp t=>exact hk
   |fn f ts=>exact hk
  have hpid:pid i<pid (i+1):=by unfold pid;omega
  have head:∃ I1 FF1,Ext I ob I1 (ob.puts (zlr i k x.1).2)∧RelH cx I1 FF1 (ob.puts (zlr i k x.1).2) w∧RelA cx I1 (ob.puts (zlr i k x.1).2) (zlr i k x.1).1 v∧(∀ o j,j∈FF1 o→j∈FF o∨j∈F)∧(∀ o,pid (i+1)≤o→(ob.puts (zlr i k x.1).2) o=none):=by
   cases k with
   |val t agg =>
    obtain⟨⟨rfl,hv⟩,_⟩:=ha;exact⟨I,FF,Ext.refl I ob,h,zji hv (fun cs hcs=>zc5 t hzz hcs),fun _ _ h=>.inl h,fun o ho=>hfree o (by omega)⟩
   |own t agg =>
    obtain⟨⟨H,hh,hv⟩,_⟩:=ha;simp only[okPs,Bool.and_eq_true]at hk;have hlt:zbm t<100:=zyw hk.1;have fr:∀ u∈zar (pid i) t x.1,ob u.1=none:=fun u hu=>hfree u.1 (zeu hlt u hu).1
    have fr2:∀ o,pid (i+1)≤o→(ob.puts (zar (pid i) t x.1)) o=none:=by
     intro o ho;rw[Ob.puts_other]
     ·exact hfree o (by omega)
     ·intro u hu e;have:=(zeu hlt u hu).2;omega
    cases agg with
    |true =>
     obtain⟨arr,rfl,ho⟩:=hv;obtain⟨I1,FF1,x1,r1,s1,b1⟩:=zd3 t h ho hh hn'.1 (fun k hk=>hm k (List.mem_append_left _ hk)) fr;exact⟨I1,FF1,x1,r1,⟨arr,rfl,s1⟩,b1,fr2⟩
    |false =>
     obtain⟨h1,ho⟩:=hv;obtain⟨I1,FF1,x1,r1,s1,b1⟩:=zd3 t h ho hh hn'.1 (fun k hk=>hm k (List.mem_append_left _ hk)) fr;exact⟨I1,FF1,x1,r1,zji (agg:=false) (R:=fun cs=>cs=[v]) ⟨h1,rfl⟩ (fun cs hcs=>by rw[hcs];exact s1),b1,fr2⟩
   |io t agg =>
    obtain⟨⟨H,hh,hv⟩,_⟩:=ha;simp only[okPs,Bool.and_eq_true]at hk;have hlt:zbm t<100:=zyw hk.1.1;have fr:∀ u∈zar (pid i) t x.1,ob u.1=none:=fun u hu=>hfree u.1 (zeu hlt u hu).1
    have fr2:∀ o,pid (i+1)≤o→(ob.puts (zar (pid i) t x.1)) o=none:=by
     intro o ho;rw[Ob.puts_other]
     ·exact hfree o (by omega)
     ·intro u hu e;have:=(zeu hlt u hu).2;omega
    cases agg with
    |true =>
     obtain⟨arr,rfl,ho⟩:=hv;obtain⟨I1,FF1,x1,r1,s1,b1⟩:=zd3 t h ho hh hn'.1 (fun k hk=>hm k (List.mem_append_left _ hk)) fr;exact⟨I1,FF1,x1,r1,⟨(harg 0 _ rfl).symm,arr,rfl,s1⟩,b1,fr2⟩
    |false =>
     obtain⟨h1,ho⟩:=hv;obtain⟨I1,FF1,x1,r1,s1,b1⟩:=zd3 t h ho hh hn'.1 (fun k hk=>hm k (List.mem_append_left _ hk)) fr;have h3:RelA cx I1 (ob.puts (zar (pid i) t x.1)) (zzx false (zbs (pid i) t x.1)) v:=zji (agg:=false) (R:=fun cs=>cs=[v]) ⟨h1,rfl⟩ (fun cs hcs=>by rw[hcs];exact s1);refine⟨I1,FF1,x1,r1,⟨(harg 0 _ rfl).symm,?_⟩,b1,fr2⟩;have hl:=s1.len;show ∃ s,zbs (pid i) t x.1=[s]∧_;generalize zbs (pid i) t x.1=ss at hl s1
     cases ss with
     |nil=>cases hl
     |cons s ss =>
      cases ss with
      |nil=>exact⟨s,rfl,s1.1⟩
      |cons _ _=>cases hl
   |cp t =>
    obtain⟨⟨rfl,hv⟩,_⟩:=ha;obtain⟨g,b,hv,hr⟩:=zym hv;exact⟨I,FF,Ext.refl I ob,h,⟨(by simp),g,b,1,CnR.imp hzz hr,(by rw[hv];simp)⟩,fun _ _ h=>.inl h,fun o ho=>hfree o (by omega)⟩
   |fn f ts =>
    obtain⟨⟨rfl,arr,hv,hc⟩,_⟩:=ha;exact⟨I,FF,Ext.refl I ob,h,⟨arr,hv,zpp hzz hc⟩,fun _ _ h=>.inl h,fun o ho=>hfree o (by omega)⟩
   |bx t =>
    obtain⟨⟨g,T,cells,rfl,rfl,hg,hcn⟩,_⟩:=ha;have hd:ob (pid i)=none:=hfree _ (Nat.le_refl _);have x1:Ext I ob (Inew I (pid i) (fun _=>⟨some ⟨g,0,none⟩,0,0,0,false⟩)) (ob.put (pid i) (.box (zb9 t x.1))):=Ext.new hd;have hIn:Inew I (pid i) (fun _=>⟨some ⟨g,0,none⟩,0,0,0,false⟩) (pid i) 0 []=⟨some ⟨g,0,none⟩,0,0,0,false⟩:=by simp[Inew]
    have g1:=h.give (o:=pid i) (e:=.box (zb9 t x.1)) (F:=[g]) (h.non _ hd) (fun e0 h0=>by rw[hd]at h0;cases h0) x1
     ⟨g,T,cells,rfl,by rw[hIn],hg,zc5 t hzz hcn⟩ hn'.1 (fun k hk o'=>(hm k (List.mem_append_left _ hk)).2 o') (fun k hk=>(hm k (List.mem_append_left _ hk)).1)
    refine⟨_,_,x1,g1,⟨(harg 0 _ rfl).symm,?_⟩,fun o j hj=>?_,fun o ho=>?_⟩
    ·exact⟨.bptr (pid i) 0,rfl,⟨_,Ob.put_same _ _ _,Nat.le_refl _⟩,g,by rw[hIn],rfl⟩
    ·unfold zaj at hj;split at hj
     ·exact .inr hj
     ·exact .inl hj
    ·show (ob.put (pid i) _) o=none;unfold Ob.put;rw[if_neg (by omega)];exact hfree o (by omega)
   |bo t =>
    obtain⟨⟨g,T,cells,H,F',rfl,rfl,hg,hh,how⟩,_⟩:=ha;simp only[okPs,Bool.and_eq_true]at hk;have hlt:zbm t+1<100:=zyw hk.1;have hng:=List.nodup_cons.1 hn'.1;have hid:=fun u hu=>zql (y:=x.1) (t:=t) (i:=i) hlt u hu;obtain⟨I0,FF0,x0,r0,s0,b0,k0⟩:=zgv t h how hh hng.2 (fun k hk=>hm k (List.mem_append_left _ (List.mem_cons_of_mem _ hk))) (d:=pid i+1) (fun u hu=>hfree u.1 (Nat.le_of_lt (hid u hu).1))
    have hd:(ob.puts (zar (pid i+1) t x.1)) (pid i)=none:=by
     rw[Ob.puts_other (fun u hu e=>by have:=(hid u hu).1;omega)];exact hfree _ (Nat.le_refl _)
    have x1:Ext I0 (ob.puts (zar (pid i+1) t x.1)) (Inew I0 (pid i) (fun _=>⟨some ⟨g,0,none⟩,0,0,0,false⟩)) ((ob.puts (zar (pid i+1) t x.1)).put (pid i) (.box (zbs (pid i+1) t x.1))):=Ext.new hd;have hIn:Inew I0 (pid i) (fun _=>⟨some ⟨g,0,none⟩,0,0,0,false⟩) (pid i) 0 []=⟨some ⟨g,0,none⟩,0,0,0,false⟩:=by simp[Inew]
    have hgFF:∀ o',g∉FF0 o':=fun o' ho'=>by
     rcases b0 o' g ho' with h3|h3
     ·exact(hm g (List.mem_append_left _ List.mem_cons_self)).2 o' h3
     ·exact hng.1 h3
    have g1:=r0.give (o:=pid i) (e:=.box (zbs (pid i+1) t x.1)) (F:=[g]) (r0.non _ hd) (fun e0 h0=>by rw[hd]at h0;cases h0) x1
     ⟨g,T,cells,rfl,by rw[hIn],hg,s0.imp (fun _ _ h=>h.ext x1)⟩ (by simp) (fun k hk o'=>(List.mem_singleton.1 hk) ▸ hgFF o') (fun k hk=>(List.mem_singleton.1 hk) ▸ (hm g (List.mem_append_left _ List.mem_cons_self)).1)
    have e0:ob.puts (zlr i (.bo t) x.1).2=(ob.puts (zar (pid i+1) t x.1)).put (pid i) (.box (zbs (pid i+1) t x.1)):=by
     simp only[zlr];rw[Ob.puts_append];rfl
    rw[e0];refine⟨_,_,x0.trans x1,g1,⟨(harg 0 _ rfl).symm,?_⟩,fun o j hj=>?_,fun o ho=>?_⟩
    ·exact⟨.bptr (pid i) 0,rfl,⟨_,Ob.put_same _ _ _,Nat.le_refl _⟩,g,by rw[hIn],rfl⟩
    ·unfold zaj at hj;split at hj
     ·exact .inr ((List.mem_singleton.1 hj) ▸ List.mem_cons_self)
     ·rcases b0 o j hj with h3|h3
      ·exact .inl h3
      ·exact .inr (List.mem_cons_of_mem _ h3)
    ·unfold Ob.put;rw[if_neg (by omega),Ob.puts_other (fun u hu e=>by have:=(hid u hu).2;omega)];exact hfree o (by omega)
  obtain⟨I1,FF1,x1,r1,s1,b1,f1⟩:=head;have hargs:zid w cx.Z ks x.2 vs Fs:=ha.2
  obtain ⟨I2,FF2,x2,r2,s2⟩:=zsv hz (i:=i + 1) hk' r1 hargs (fun j v hv=>by rw [show i + 1 + j=i + (j + 1) by omega]; exact harg (j + 1) v (by simpa using hv)) hn'.2.1 (fun k hk=>by
   obtain⟨h3,h4⟩:=hm k (List.mem_append_right _ hk);refine⟨h3,fun o ho=>?_⟩;rcases b1 o k ho with ho|ho
   ·exact h4 o ho
   ·exact hn'.2.2 k ho k hk rfl) f1
  have e:ob.puts (zcf i (k::ks) x).2=(ob.puts (zlr i k x.1).2).puts (zcf (i+1) ks x.2).2:=by simp only[zcf];exact Ob.puts_append _ _ _
  rw[e];exact⟨I2,FF2,x1.trans x2,r2,s1.ext x2,s2⟩
 | [],_,_,_::_,_,_,_,_,_,_,h,_,_,_,_=>by cases h
 | [],_,_,[],_::_,_,_,_,_,_,h,_,_,_,_=>by cases h
 |_::_,_,_,[],_,_,_,_,_,_,h,_,_,_,_=>by cases h
 |_::_,_,_,_::_,[],_,_,_,_,_,h,_,_,_,_=>by cases h
end
end Go.Proofs.Ytbjgiioppmkpiaa.Rx

namespace Go.Proofs.Ytbjgiioppmkpiaa.Rx
open Go Go.RowKit
section
variable{P:Program}{cx:Cx}{w:World}
theorem ydm{I:In}{FF0 FF:Nat→List Nat}{ob:Ob}(h0:RelH cx I FF0 ob w){k:RK}{a:AV}{v:Value}{cons:List (Nat×Ent)}(h:RelH cx I FF (ob.puts cons) w)(x:Ext I ob I (ob.puts cons))(ha:RelA cx I ob a v){r:k.den×List (Nat×Ent)}{lg:List Nat}
  (he:(finR k a cons ob).ev=some (r,lg)) :
  ∃ FF' F,RelH cx I FF' (ob.puts r.2) w∧Ext I ob I (ob.puts r.2)∧F.Nodup∧(∀ j∈F,(¬ cx.Z j∧(cx.D0 j∨cx.w0.heap.size≤j)∧j<w.heap.size)∧(∀ o,j∉FF' o)∧∃ o,j∈FF o)∧(∀ o j,j∈FF' o→j∈FF o) ∧
   (∀ o,(∀ u∈r.2,u.1≠o)→FF' o=FF o)∧(∀ u∈cons,u∈r.2)∧ResR w cx.Z k r.1 v F:=by
 cases k with
 |own t agg =>
  simp only[finR]at he
  cases hc:avC agg a with
  |none=>simp only[hc]at he;exact(M.ev_fail (ob:=ob) he).elim
  |some cs =>
   simp only[hc]at he;obtain⟨⟨ls,cons'⟩,l1,l2,he1,he2,rfl⟩:=M.ev_bind he;simp only at he2
   cases hx:za0 t ls with
   |none=>simp only[hx]at he2;exact(M.ev_fail (ob:=ob) he2).elim
   |some y =>
    simp only[hx]at he2;have:=M.ev_pure (ob:=ob) he2;subst this;obtain⟨us,hus,hvr⟩:=zdi hc ha;obtain⟨FF1,Hs,Fs,h1,x1,hls,hnd,hhs,hm,hsub,hoth,hmon⟩:=zb6 h hus x he1;obtain⟨Hy,Fy,hoy,hny,hsy,hhy⟩:=zb_ hls hx hnd hhs;exact⟨FF1,Fy,h1,x1,hny,fun j hj=>hm j (hsy j hj),hsub,hoth,hmon,Hy,hhy,hvr _ hoy⟩
 |val t agg =>
  simp only[finR]at he
  cases hc:avC agg a with
  |none=>simp only[hc]at he;exact(M.ev_fail (ob:=ob) he).elim
  |some cs =>
   simp only[hc]at he;obtain⟨⟨ls,rds⟩,l1,l2,he1,he2,rfl⟩:=M.ev_bind he;simp only at he2
   cases hx:za0 t ls with
   |none=>simp only[hx]at he2;exact(M.ev_fail (ob:=ob) he2).elim
   |some y =>
    simp only[hx]at he2;have:=M.ev_pure (ob:=ob) he2;subst this;obtain⟨us,hus,hvr⟩:=zdi hc ha;have hst:=(zbq h0 (st:=true) (Z:=fun _=>True) (fun _ _=>trivial) (r:=id) hus he1 (fun _ _ _ _=>trivial)).2 rfl;simp only at hst;exact⟨FF,[],h,x,List.nodup_nil,(fun j hj=>by cases hj),fun _ _ h=>h,fun _ _=>rfl,fun _ h=>h,rfl,hvr _ (zbw (zbq h0 (fun _ h=>h) (r:=id) hus he1 (fun o ho=>by rw[hst]at ho;cases ho)).1 hx)⟩
 |bx t =>
  simp only[finR]at he;split at he
  ·rename_i o
   cases hany:cons.any (fun c=>c.1 == o) with
   |true=>simp only[hany]at he;exact(M.ev_fail (ob:=ob) he).elim
   |false =>
    simp only[hany]at he;obtain⟨en,l1,l2,he1,he2,rfl⟩:=M.ev_bind he;have hob:=M.ev_get he1
    have hno:∀ u∈cons,u.1≠o:=by
     intro u hu e;have:=List.any_eq_false.1 hany u hu;simp[e]at this
    cases en with
    |row r cur hole=>exact(M.ev_fail (ob:=ob) he2).elim
    |dead vv=>exact(M.ev_fail (ob:=ob) he2).elim
    |iter _ _=>exact(M.ev_fail (ob:=ob) he2).elim
    |map _=>exact(M.ev_fail (ob:=ob) he2).elim
    |grp _ _ _=>exact(M.ev_fail (ob:=ob) he2).elim
    |lit _ _=>exact(M.ev_fail (ob:=ob) he2).elim
    |mit _ _ _=>exact(M.ev_fail (ob:=ob) he2).elim
    |gh _=>exact(M.ev_fail (ob:=ob) he2).elim
    |half _ _ _=>exact(M.ev_fail (ob:=ob) he2).elim
    |ro _=>exact(M.ev_fail (ob:=ob) he2).elim
    |mid _ _ _=>exact(M.ev_fail (ob:=ob) he2).elim
    |rv _ _=>exact(M.ev_fail (ob:=ob) he2).elim
    |box cs =>
     simp only at he2;obtain⟨⟨ls,rds⟩,l3,l4,he3,he4,rfl⟩:=M.ev_bind he2;simp only at he4
     cases hx:za0 t ls with
     |none=>simp only[hx]at he4;exact(M.ev_fail (ob:=ob) he4).elim
     |some y =>
      simp only[hx]at he4;have:=M.ev_pure (ob:=ob) he4;subst this;have hob':ob.puts cons o=some (.box cs):=by rw[Ob.puts_other hno];exact hob
      obtain⟨g,tt,arr,hF,hA,hgh,hcs⟩:=h0.rel o _ hob;obtain⟨g',tt',arr',hF',hA',hgh',_⟩:=h.rel o _ hob'
      have hgg:g'=g:=by
       rw[hA]at hA';injection hA' with hA'
       injection hA' with hA'
       exact hA'.symm
      subst hgg;have ht:=h.take hob';have e2:ob.puts (cons++[(o,Ent.dead 0)])=(ob.puts cons).put o (.dead (Ent.box cs).ver):=by rw[Ob.puts_append];rfl
      rw[← e2]at ht;have hst:=(zbq h0 (st:=true) (Z:=fun _=>True) (fun _ _=>trivial) (r:=id) hcs he3 (fun _ _ _ _=>trivial)).2 rfl;simp only at hst;have hcn:=zbw (zbq h0 (fun _ h=>h) (r:=id) hcs he3 (fun o ho=>by rw[hst]at ho;cases ho)).1 hx;have hgF:g'∈FF o:=by rw[hF'];simp
      obtain⟨_,g2,hA2,hv2⟩:=ha
      have hg2:g2=g':=by
       rw[hA]at hA2;injection hA2 with hA2
       injection hA2 with hA2
       exact hA2.symm
      subst hg2;refine⟨_,[g2],ht,?_,by simp,fun j hj=>?_,fun o' j hj=>?_,fun o' ho'=>?_,fun u hu=>List.mem_append_left _ hu,⟨g2,tt,arr,by simpa using hv2,rfl,hgh,hcn⟩⟩
      ·rw[e2];exact x.trans ⟨fun _ _ _=>rfl,zak (fun e0 h0=>by rw[hob']at h0;injection h0 with h0;subst h0;exact Nat.le_refl _)⟩
      ·have:j=g2:=by simpa using hj
       subst this;refine⟨h.mine o j hgF,fun o' hj'=>?_,o,hgF⟩;unfold zaj at hj';split at hj'
       ·cases hj'
       ·rename_i hne;exact h.dj o o' (fun e=>hne e.symm) j hgF hj'
      ·unfold zaj at hj;split at hj
       ·cases hj
       ·exact hj
      ·unfold zaj;rw[if_neg];intro e;exact ho' (o,.dead 0) (by simp) e.symm
  ·exact(M.ev_fail (ob:=ob) he).elim
 |half e t c =>
  simp only[finR]at he;split at he
  ·have:=M.ev_pure (ob:=ob) he;subst this;have hv:v = .slice none 0 0:=ha;subst hv;refine⟨FF,[],h,x,List.nodup_nil,(fun j hj=>by cases hj),fun _ _ h=>h,fun _ _=>rfl,fun _ h=>h,⟨⟨none,0,0,t.sz,false⟩,rfl,?_⟩⟩;unfold OwRow;rw[if_neg (by simp)];exact⟨rfl,rfl,Nat.le_refl _,Nat.zero_le _,by rw[if_pos rfl]⟩
  ·rename_i o
   cases hany:cons.any (fun c=>c.1 == o) with
   |true=>simp only[hany]at he;exact(M.ev_fail (ob:=ob) he).elim
   |false =>
    simp only[hany]at he;obtain⟨en,l1,l2,he1,he2,rfl⟩:=M.ev_bind he;have hob:=M.ev_get he1
    have hno:∀ u∈cons,u.1≠o:=by
     intro u hu e;have:=List.any_eq_false.1 hany u hu;simp[e]at this
    cases en with
    |row r cur hole=>exact(M.ev_fail (ob:=ob) he2).elim
    |dead vv=>exact(M.ev_fail (ob:=ob) he2).elim
    |iter _ _=>exact(M.ev_fail (ob:=ob) he2).elim
    |map _=>exact(M.ev_fail (ob:=ob) he2).elim
    |grp _ _ _=>exact(M.ev_fail (ob:=ob) he2).elim
    |lit _ _=>exact(M.ev_fail (ob:=ob) he2).elim
    |mit _ _ _=>exact(M.ev_fail (ob:=ob) he2).elim
    |gh _=>exact(M.ev_fail (ob:=ob) he2).elim
    |box cs=>exact(M.ev_fail (ob:=ob) he2).elim
    |ro _=>exact(M.ev_fail (ob:=ob) he2).elim
    |mid _ _ _=>exact(M.ev_fail (ob:=ob) he2).elim
    |rv _ _=>exact(M.ev_fail (ob:=ob) he2).elim
    |half r k c' =>
     simp only at he2
     cases hck:decide (k=0)&&(Nat.beq c' c&&Nat.beq r.e e) with
     |false=>simp only[hck]at he2;exact(M.ev_fail (ob:=ob) he2).elim
     |true =>
     cases hcr:zaq r t with
     |none=>simp only[hck,hcr]at he2;exact(M.ev_fail (ob:=ob) he2).elim
     |some xs =>
     simp only[hck,hcr]at he2;have:=M.ev_pure (ob:=ob) he2;subst this;simp only[Bool.and_eq_true,decide_eq_true_eq]at hck;obtain⟨hk0,hc',hre⟩:=hck;have hre:=Nat.eq_of_beq_eq_true hre;have hqq:=zay hcr;rw[hre]at hqq;have hob':ob.puts cons o=some (.half r k c'):=by rw[Ob.puts_other hno];exact hob
     obtain⟨H,v1,⟨hnoh,how⟩,hroot⟩:=h.rel o _ hob';have ht:=h.take hob';have e2:ob.puts (cons++[(o,Ent.dead 0)])=(ob.puts cons).put o (.dead (Ent.half r k c').ver):=by rw[Ob.puts_append];rfl
     rw[← e2]at ht
     have hv:v=v1:=by
      obtain⟨_,_,off,len,hvw,hol,A,cc,rfl,_,_,hex,_⟩:=ha;obtain⟨hA,hC⟩:=hex rfl;simp only[Option.getD_none,Prod.mk.injEq]at hvw;unfold OwRow at how;rw[if_neg (by simp[hnoh])]at how;rw[how.1,hA,hC,hroot,← hvw.2,hroot]
     subst hv;refine⟨zaj FF o [],FF o,ht,?_,h.nd o,fun j hj=>⟨h.mine o j hj,fun o' ho'=>?_,o,hj⟩,fun o' j hj=>?_,fun o' ho'=>?_,fun u hu=>List.mem_append_left _ hu,⟨H [],hnoh [],?_⟩⟩
     ·rw[e2];exact x.trans ⟨fun _ _ _=>rfl,zak (fun e0 h0=>by rw[hob']at h0;injection h0 with h0;subst h0;exact Nat.le_refl _)⟩
     ·unfold zaj at ho';split at ho'
      ·cases ho'
      ·rename_i hne;exact h.dj o o' (fun e=>hne e.symm) j hj ho'
     ·unfold zaj at hj;split at hj
      ·cases hj
      ·exact hj
     ·unfold zaj;rw[if_neg];intro e;exact ho' (o,.dead 0) (by simp) e.symm
     ·rw[hqq]at how;simp only at how;refine how.imp (fun _ _=>rfl) (fun i x' cs f _ hR=>?_);rw[if_neg (by rw[hk0];simp)]at hR;exact⟨Cn.imp (fun k hk=>⟨hk,h.kp.block k (h.zone k hk).1 (h.zone k hk).2⟩) t hR.1,hR.2⟩
  ·exact(M.ev_fail (ob:=ob) he).elim
 |ro e t agg =>
  simp only[finR]at he;generalize hav:avC agg a=ac at he;split at he
  ·have:=M.ev_pure (ob:=ob) he;subst this;obtain⟨us,hus,hvr⟩:=zdi hav ha
   cases us with
   |nil=>exact hus.elim
   |cons u us =>
   cases us with
   |cons _ _=>exact hus.2.elim
   |nil =>
   have hu:u = .slice none 0 0:=hus.1;subst hu;exact⟨FF,[],h,x,List.nodup_nil,(fun j hj=>by cases hj),fun _ _ h=>h,fun _ _=>rfl,fun _ h=>h,hvr (fun cs=>∃ u,cs=[u]∧RoR w [] e t [] u) ⟨_,rfl,⟨none,0,rfl,Nat.le_refl _,Nat.zero_le _,.inl rfl,fun _=>rfl⟩,⟨none,0,0,rfl,.inl rfl⟩,ApR.nil⟩⟩
  ·rename_i o vv;obtain⟨us,hus,hvr⟩:=zdi hav ha
   cases us with
   |nil=>exact hus.elim
   |cons u us =>
   cases us with
   |cons _ _=>exact hus.2.elim
   |nil =>
   obtain⟨hkn,_,off,len,hvw,hol,A,cc,rfl,hlc,hcm,hex,hcc⟩:RelS cx I ob (.ref o vv [] none) u:=hus.1;obtain⟨hA,hC⟩:=hex rfl;simp only[Option.getD_none,Prod.mk.injEq]at hvw;obtain⟨rfl,rfl⟩:=hvw
   cases hany:cons.any (fun c=>c.1 == o) with
   |true=>simp only[hany]at he;exact(M.ev_fail (ob:=ob) he).elim
   |false =>
    simp only[hany]at he;obtain⟨en,l1,l2,he1,he2,rfl⟩:=M.ev_bind he;have hob:=M.ev_get he1
    have hno:∀ u∈cons,u.1≠o:=by
     intro u hu e;have:=List.any_eq_false.1 hany u hu;simp[e]at this
    have hle:vv≤en.ver:=by
     obtain⟨e0,he0,hle⟩:=hkn;rw[hob]at he0;injection he0 with he0;subst he0;exact hle
    cases en with
    |half r k c'=>exact(M.ev_fail (ob:=ob) he2).elim
    |dead vv=>exact(M.ev_fail (ob:=ob) he2).elim
    |iter _ _=>exact(M.ev_fail (ob:=ob) he2).elim
    |map _=>exact(M.ev_fail (ob:=ob) he2).elim
    |grp _ _ _=>exact(M.ev_fail (ob:=ob) he2).elim
    |lit _ _=>exact(M.ev_fail (ob:=ob) he2).elim
    |mit _ _ _=>exact(M.ev_fail (ob:=ob) he2).elim
    |gh _=>exact(M.ev_fail (ob:=ob) he2).elim
    |box cs=>exact(M.ev_fail (ob:=ob) he2).elim
    |mid _ _ _=>exact(M.ev_fail (ob:=ob) he2).elim
    |ro r =>
     simp only at he2
     cases hre:Nat.beq r.e e with
     |false=>simp only[hre]at he2;exact(M.ev_fail (ob:=ob) he2).elim
     |true =>
     cases hcr:zaq r t with
     |none=>simp only[hre,hcr]at he2;exact(M.ev_fail (ob:=ob) he2).elim
     |some xs =>
     simp only[hre,hcr]at he2;have:=M.ev_pure (ob:=ob) he2;subst this;have hre:=Nat.eq_of_beq_eq_true hre;have hqq:=zay hcr;have hob':ob.puts cons o=some (.ro r):=by rw[Ob.puts_other hno];exact hob
     obtain⟨v0,hro,hv0,_⟩:=h.rel o _ hob';have ht:=h.take hob';have e2:ob.puts (cons++[(o,Ent.dead 0)])=(ob.puts cons).put o (.dead (Ent.ro r).ver):=by rw[Ob.puts_append];rfl
     rw[← e2]at ht;have hv:vv=0:=Nat.le_zero.1 hle;subst hv;have hu:Value.slice A (I o 0 []).len cc=v0:=by rw[hv0,hA,hC]
     refine⟨zaj FF o [],FF o,ht,?_,h.nd o,fun j hj=>⟨h.mine o j hj,fun o' ho'=>?_,o,hj⟩,fun o' j hj=>?_,fun o' ho'=>?_,fun u hu=>List.mem_append_left _ hu,hvr (fun cs=>∃ u,cs=[u]∧RoR w (FF o) e t xs u) ⟨_,rfl,?_⟩⟩
     ·rw[e2];exact x.trans ⟨fun _ _ _=>rfl,zak (fun e0 h0=>by rw[hob']at h0;injection h0 with h0;subst h0;exact Nat.le_refl _)⟩
     ·unfold zaj at ho';split at ho'
      ·cases ho'
      ·rename_i hne;exact h.dj o o' (fun e=>hne e.symm) j hj ho'
     ·unfold zaj at hj;split at hj
      ·cases hj
      ·exact hj
     ·unfold zaj;rw[if_neg];intro e;exact ho' (o,.dead _) (List.mem_append_right _ (List.mem_singleton.2 rfl)) e.symm
     ·rw[hu];rw[hqq,hre]at hro;exact hro
    |rv r rt =>
     simp only at he2
     cases hre:Nat.beq r.e e&&Nat.ble vv rt with
     |false=>simp only[hre]at he2;exact(M.ev_fail (ob:=ob) he2).elim
     |true =>
     cases hcr:zaq r t with
     |none=>simp only[hre,hcr]at he2;exact(M.ev_fail (ob:=ob) he2).elim
     |some xs =>
     simp only[hre,hcr]at he2;have:=M.ev_pure (ob:=ob) he2;subst this;simp only[Bool.and_eq_true]at hre;have hvle:=Nat.le_of_ble_eq_true hre.2;have hre1:=Nat.eq_of_beq_eq_true hre.1;have hqq:=zay hcr;have hob':ob.puts cons o=some (.rv r rt):=by rw[Ob.puts_other hno];exact hob
     obtain⟨⟨v0,hro,hv0⟩,hroot⟩:=h.rel o _ hob';have ht:=h.take hob';have e2:ob.puts (cons++[(o,Ent.dead (rt+1))])=(ob.puts cons).put o (.dead (Ent.rv r rt).ver):=by rw[Ob.puts_append];rfl
     rw[← e2]at ht;have hu:Value.slice A (I o vv []).len cc=v0:=by rw[hv0,hA,hC,hroot vv hvle]
     refine⟨zaj FF o [],FF o,ht,?_,h.nd o,fun j hj=>⟨h.mine o j hj,fun o' ho'=>?_,o,hj⟩,fun o' j hj=>?_,fun o' ho'=>?_,fun u hu=>List.mem_append_left _ hu,hvr (fun cs=>∃ u,cs=[u]∧RoR w (FF o) e t xs u) ⟨_,rfl,?_⟩⟩
     ·rw[e2];exact x.trans ⟨fun _ _ _=>rfl,zak (fun e0 h0=>by rw[hob']at h0;injection h0 with h0;subst h0;exact Nat.le_refl _)⟩
     ·unfold zaj at ho';split at ho'
      ·cases ho'
      ·rename_i hne;exact h.dj o o' (fun e=>hne e.symm) j hj ho'
     ·unfold zaj at hj;split at hj
      ·cases hj
      ·exact hj
     ·unfold zaj;rw[if_neg];intro e;exact ho' (o,.dead _) (List.mem_append_right _ (List.mem_singleton.2 rfl)) e.symm
     ·rw[hu];rw[hqq,hre1]at hro;exact hro
    |row r cur hole =>
    cases hole with
    |some _=>exact(M.ev_fail (ob:=ob) he2).elim
    |none =>
     simp only at he2
     cases hre:Nat.beq r.e e with
     |false=>simp only[hre]at he2;exact(M.ev_fail (ob:=ob) he2).elim
     |true =>
     cases hcr:zaq r t with
     |none=>simp only[hre,hcr]at he2;exact(M.ev_fail (ob:=ob) he2).elim
     |some xs =>
     simp only[hre,hcr]at he2;have:=M.ev_pure (ob:=ob) he2;subst this;have hre:=Nat.eq_of_beq_eq_true hre;have hqq:=zay hcr;have hob':ob.puts cons o=some (.row r cur none):=by rw[Ob.puts_other hno];exact hob
     obtain⟨⟨v0,how⟩,hroot,hhole,_⟩:=h.rel o _ hob';have ht:=h.take hob';have e2:ob.puts (cons++[(o,Ent.dead cur)])=(ob.puts cons).put o (.dead (Ent.row r cur none).ver):=by rw[Ob.puts_append];rfl
     rw[← e2]at ht
     have hnoh:∀ q,(I o cur q).hole=false:=by
      intro q
      cases hq:(I o cur q).hole with
      |false=>rfl
      |true=>exact absurd (hhole q hq) (by simp)
     have hvv:I o vv []=I o cur []:=hroot vv hle
     have hu:Value.slice A (I o vv []).len cc=v0:=by
      have how':=how;unfold OwR OwRow at how';rw[if_neg (by simp[hnoh])]at how';rw[how'.1,hA,hC,hvv,← how'.2.1]
     refine⟨zaj FF o [],FF o,ht,?_,h.nd o,fun j hj=>⟨h.mine o j hj,fun o' ho'=>?_,o,hj⟩,fun o' j hj=>?_,fun o' ho'=>?_,fun u hu=>List.mem_append_left _ hu,hvr (fun cs=>∃ u,cs=[u]∧RoR w (FF o) e t xs u) ⟨_,rfl,?_⟩⟩
     ·rw[e2];exact x.trans ⟨fun _ _ _=>rfl,zak (fun e0 h0=>by rw[hob']at h0;injection h0 with h0;subst h0;exact Nat.le_refl _)⟩
     ·unfold zaj at ho';split at ho'
      ·cases ho'
      ·rename_i hne;exact h.dj o o' (fun e=>hne e.symm) j hj ho'
     ·unfold zaj at hj;split at hj
      ·cases hj
      ·exact hj
     ·unfold zaj;rw[if_neg];intro e;exact ho' (o,.dead _) (List.mem_append_right _ (List.mem_singleton.2 rfl)) e.symm
     ·refine⟨?_,⟨A,_,cc,rfl,?_⟩,?_⟩
      ·rw[hu];rw[hqq]at how;exact OwR.toCn hnoh (fun k hk=>hk) how
      ·rcases hcc with hcc|⟨_,g,b,_,hA'⟩
       ·exact .inl hcc
       ·exact .inr ⟨g,_,hA'⟩
      ·rw[hu];rw[hqq,hre]at how;exact OwR.toAp hnoh (h.nd o) (fun k hk=>hk) how
  ·rename_i o vv ol;obtain⟨us,hus,hvr⟩:=zdi hav ha
   cases us with
   |nil=>exact hus.elim
   |cons u us =>
   cases us with
   |cons _ _=>exact hus.2.elim
   |nil =>
   obtain⟨hkn,_,off,len,hvw,hol,A,cc,rfl,hlc,hcm,_,hcc⟩:RelS cx I ob (.ref o vv [] (some ol)) u:=hus.1;simp only[Option.getD_some]at hvw;subst hvw
   cases hany:cons.any (fun c=>c.1 == o) with
   |true=>simp only[hany]at he;exact(M.ev_fail (ob:=ob) he).elim
   |false =>
    simp only[hany]at he;obtain⟨en,l1,l2,he1,he2,rfl⟩:=M.ev_bind he;have hob:=M.ev_get he1
    have hno:∀ u∈cons,u.1≠o:=by
     intro u hu e;have:=List.any_eq_false.1 hany u hu;simp[e]at this
    have hle:vv≤en.ver:=by
     obtain⟨e0,he0,hle⟩:=hkn;rw[hob]at he0;injection he0 with he0;subst he0;exact hle
    cases en with
    |half r k c'=>exact(M.ev_fail (ob:=ob) he2).elim
    |dead vv=>exact(M.ev_fail (ob:=ob) he2).elim
    |iter _ _=>exact(M.ev_fail (ob:=ob) he2).elim
    |map _=>exact(M.ev_fail (ob:=ob) he2).elim
    |grp _ _ _=>exact(M.ev_fail (ob:=ob) he2).elim
    |lit _ _=>exact(M.ev_fail (ob:=ob) he2).elim
    |mit _ _ _=>exact(M.ev_fail (ob:=ob) he2).elim
    |gh _=>exact(M.ev_fail (ob:=ob) he2).elim
    |box cs=>exact(M.ev_fail (ob:=ob) he2).elim
    |ro _=>exact(M.ev_fail (ob:=ob) he2).elim
    |mid _ _ _=>exact(M.ev_fail (ob:=ob) he2).elim
    |rv _ _=>exact(M.ev_fail (ob:=ob) he2).elim
    |row r cur hole =>
    cases hole with
    |some _=>exact(M.ev_fail (ob:=ob) he2).elim
    |none =>
     simp only at he2
     cases hre:Nat.beq r.e e with
     |false=>simp only[hre]at he2;exact(M.ev_fail (ob:=ob) he2).elim
     |true =>
     cases hcr:zaq r t with
     |none=>simp only[hre,hcr]at he2;exact(M.ev_fail (ob:=ob) he2).elim
     |some xs =>
     simp only[hre,hcr]at he2;have:=M.ev_pure (ob:=ob) he2;subst this;have hre:=Nat.eq_of_beq_eq_true hre;have hqq:=zay hcr;have hob':ob.puts cons o=some (.row r cur none):=by rw[Ob.puts_other hno];exact hob
     obtain⟨⟨v0,how⟩,hroot,hhole,_⟩:=h.rel o _ hob';have ht:=h.take hob';have e2:ob.puts (cons++[(o,Ent.dead cur)])=(ob.puts cons).put o (.dead (Ent.row r cur none).ver):=by rw[Ob.puts_append];rfl
     rw[← e2]at ht
     have hnoh:∀ q,(I o cur q).hole=false:=by
      intro q
      cases hq:(I o cur q).hole with
      |false=>rfl
      |true=>exact absurd (hhole q hq) (by simp)
     have hvv:I o vv []=I o cur []:=hroot vv hle;have hnh:(I o cur []).hole=false:=hnoh [];rw[hvv]at hol hcc
     have hcnd:cc=0∧len=0∨(cc+off=(I o cur []).cap∧∃ g b,(I o cur []).A=some ⟨g,b,none⟩∧A=some ⟨g,b+off*r.t.sz,none⟩):=by
      rcases hcc with hcc|⟨hcc,g,b,hA,hA'⟩
      ·exact .inl ⟨hcc,by omega⟩
      ·by_cases hzz:cc=0
       ·exact .inl ⟨hzz,by omega⟩
       ·refine .inr ⟨hcc,g,b,hA,?_⟩;rw[hA'];have ho':=how;unfold OwR OwRow at ho';rw[if_neg (by simp[hnoh])]at ho';rw[if_neg (by omega)]at ho';rw[ho'.2.2.2.2.1]
     obtain⟨F2,hsub,hview⟩:=how.view (H':=fun q=>match q with | []=>⟨A,cc,len,r.t.sz,false⟩|(i,c')::p'=>I o cur ((i+off,c')::p')) (hnoh _) hol hcnd hlc rfl (fun i c p=>rfl);refine⟨zaj FF o [],FF o,ht,?_,h.nd o,fun j hj=>⟨h.mine o j hj,fun o' ho'=>?_,o,hj⟩,fun o' j hj=>?_,fun o' ho'=>?_,fun u hu=>List.mem_append_left _ hu,hvr (fun cs=>∃ u,cs=[u]∧RoR w (FF o) e t ((xs.drop off).take len) u) ⟨_,rfl,?_⟩⟩
     ·rw[e2];exact x.trans ⟨fun _ _ _=>rfl,zak (fun e0 h0=>by rw[hob']at h0;injection h0 with h0;subst h0;exact Nat.le_refl _)⟩
     ·unfold zaj at ho';split at ho'
      ·cases ho'
      ·rename_i hne;exact h.dj o o' (fun e=>hne e.symm) j hj ho'
     ·unfold zaj at hj;split at hj
      ·cases hj
      ·exact hj
     ·unfold zaj;rw[if_neg];intro e;exact ho' (o,.dead _) (List.mem_append_right _ (List.mem_singleton.2 rfl)) e.symm
     ·refine⟨?_,⟨A,_,cc,rfl,?_⟩,?_⟩
      ·rw[hqq]at hview;refine OwR.toCn (fun q=>?_) (fun k hk=>hsub.subset hk) hview
       cases q with
       |nil=>rfl
       |cons a q=>exact hnoh _
      ·rcases hcc with hcc|⟨_,g,b,_,hA'⟩
       ·exact .inl hcc
       ·exact .inr ⟨g,_,hA'⟩
      ·rw[hqq,hre]at hview;refine OwR.toAp (fun q=>?_) (hsub.nodup (h.nd o)) (fun k hk=>hsub.subset hk) hview
       cases q with
       |nil=>rfl
       |cons a q=>exact hnoh _
  ·exact(M.ev_fail (ob:=ob) he).elim
 |rw e t =>
  simp only[finR]at he;generalize hav:avC true a=ac at he;split at he
  ·rename_i o vv m;obtain⟨us,hus,hvr⟩:=zdi hav ha
   cases us with
   |nil=>exact hus.elim
   |cons u us =>
   cases us with
   |nil=>exact hus.2.elim
   |cons um us =>
   cases us with
   |cons _ _=>exact hus.2.2.elim
   |nil =>
   have hum:um = .int .i64 m:=hus.2.1;subst hum;obtain⟨hkn,_,off,len,hvw,hol,A,cc,rfl,hlc,hcm,hex,hcc⟩:RelS cx I ob (.ref o vv [] none) u:=hus.1;obtain⟨hA,hC⟩:=hex rfl;simp only[Option.getD_none,Prod.mk.injEq]at hvw;obtain⟨rfl,rfl⟩:=hvw
   cases hany:cons.any (fun c=>c.1 == o) with
   |true=>simp only[hany]at he;exact(M.ev_fail (ob:=ob) he).elim
   |false =>
    simp only[hany]at he;obtain⟨en,l1,l2,he1,he2,rfl⟩:=M.ev_bind he;have hob:=M.ev_get he1
    have hno:∀ u∈cons,u.1≠o:=by
     intro u hu e;have:=List.any_eq_false.1 hany u hu;simp[e]at this
    have hle:vv≤en.ver:=by
     obtain⟨e0,he0,hle⟩:=hkn;rw[hob]at he0;injection he0 with he0;subst he0;exact hle
    cases en with
    |half r k c'=>exact(M.ev_fail (ob:=ob) he2).elim
    |dead vv=>exact(M.ev_fail (ob:=ob) he2).elim
    |iter _ _=>exact(M.ev_fail (ob:=ob) he2).elim
    |map _=>exact(M.ev_fail (ob:=ob) he2).elim
    |grp _ _ _=>exact(M.ev_fail (ob:=ob) he2).elim
    |lit _ _=>exact(M.ev_fail (ob:=ob) he2).elim
    |mit _ _ _=>exact(M.ev_fail (ob:=ob) he2).elim
    |gh _=>exact(M.ev_fail (ob:=ob) he2).elim
    |box cs=>exact(M.ev_fail (ob:=ob) he2).elim
    |mid _ _ _=>exact(M.ev_fail (ob:=ob) he2).elim
    |ro r =>
     simp only at he2
     cases hre:Nat.beq r.e e with
     |false=>simp only[hre]at he2;exact(M.ev_fail (ob:=ob) he2).elim
     |true =>
     cases hcr:zaq r t with
     |none=>simp only[hre,hcr]at he2;exact(M.ev_fail (ob:=ob) he2).elim
     |some xs =>
     simp only[hre,hcr]at he2;have:=M.ev_pure (ob:=ob) he2;subst this;have hre:=Nat.eq_of_beq_eq_true hre;have hqq:=zay hcr;have hob':ob.puts cons o=some (.ro r):=by rw[Ob.puts_other hno];exact hob
     obtain⟨v0,hro,hv0,_⟩:=h.rel o _ hob';have ht:=h.take hob';have e2:ob.puts (cons++[(o,Ent.dead 0)])=(ob.puts cons).put o (.dead (Ent.ro r).ver):=by rw[Ob.puts_append];rfl
     rw[← e2]at ht;have hv:vv=0:=Nat.le_zero.1 hle;subst hv;have hu:Value.slice A (I o 0 []).len cc=v0:=by rw[hv0,hA,hC]
     refine⟨zaj FF o [],FF o,ht,?_,h.nd o,fun j hj=>⟨h.mine o j hj,fun o' ho'=>?_,o,hj⟩,fun o' j hj=>?_,fun o' ho'=>?_,fun u hu=>List.mem_append_left _ hu,?_⟩
     ·rw[e2];exact x.trans ⟨fun _ _ _=>rfl,zak (fun e0 h0=>by rw[hob']at h0;injection h0 with h0;subst h0;exact Nat.le_refl _)⟩
     ·unfold zaj at ho';split at ho'
      ·cases ho'
      ·rename_i hne;exact h.dj o o' (fun e=>hne e.symm) j hj ho'
     ·unfold zaj at hj;split at hj
      ·cases hj
      ·exact hj
     ·unfold zaj;rw[if_neg];intro e;exact ho' (o,.dead _) (List.mem_append_right _ (List.mem_singleton.2 rfl)) e.symm
     ·obtain⟨arr,hva,harr⟩:VR true (fun cs=>∃ u,cs=[u,.int .i64 m]∧RoR w (FF o) e t xs u) v:=hvr (fun cs=>∃ u,cs=[u,.int .i64 m]∧RoR w (FF o) e t xs u) ⟨_,rfl,by rw[hu];rw[hqq,hre]at hro;exact hro⟩;obtain⟨u,hcu,hru⟩:=harr;exact⟨u,by rw[hva];exact congrArg _ (Array.toList_inj.1 hcu),hru⟩
    |rv _ _=>exact(M.ev_fail (ob:=ob) he2).elim
    |row r cur hole=>exact(M.ev_fail (ob:=ob) he2).elim
  ·exact(M.ev_fail (ob:=ob) he).elim
def zr1(tmps:Array Value):ResultVar→Sem Value
 | .tmp t=>pure (tmps.getD t undef)
 | .cell c t=>do loadVar t (← asAddr (tmps.getD c undef))
theorem ybs{T:TB}(hT:TBok P T){I:In}{FF:Nat→List Nat}{S:St}{a:Act}(h:RelH cx I FF (zad S.obs) w)(hr:∀ i,RelA cx I (zad S.obs) (S.get i) (a.tmps.getD i undef)){v:ResultVar}{av:AV}{lg:List Nat}
  (he:(resV T S v (zad S.obs)).ev=some (av,lg)) :
  ∃ u,(zr1 a.tmps v).run P w = .ok u w∧RelA cx I (zad S.obs) av u:=by
 cases v with
 |tmp t =>
  have:=M.ev_pure (ob:=zad S.obs) he;subst this;exact⟨_,rfl,zfe (hr t)⟩
 |cell c t =>
  simp only[resV]at he;have hc:=zfe (hr c)
  cases ht:T t with
  |none=>simp only[ht]at he;exact(M.ev_fail (ob:=zad S.obs) he).elim
  |some ti =>
   obtain⟨hti⟩:=hT.get ht
   cases hs:S.opnd (.tmp c) with
   |one p =>
    simp only[ht,hs]at he
    have hc':RelS cx I (zad S.obs) p (a.tmps.getD c undef):=by
     have:zp8 (S.get c) = .one p:=hs;rw[this]at hc;exact hc
    obtain⟨u,hrun,hrel⟩:=zsq hti h hc' he;refine⟨u,?_,hrel⟩;unfold Instr.loadAt at hrun;show (asAddr (a.tmps.getD c undef) >>= fun ad=>loadVar t ad:Sem Value).run P w=_;rw[Sem.run_bind]at hrun ⊢
    -- the address is the same either way
    generalize a.tmps.getD c undef=pv at hrun hc' ⊢
    cases pv with
    |pointer ad =>
     cases ad with
     |some ad=>exact hrun
     |none=>simp[Instr.sureAddr]at hrun
    |_=>simp[Instr.sureAddr]at hrun
   |_=>simp only[ht,hs]at he;exact(M.ev_fail (ob:=zad S.obs) he).elim
theorem zpg{T:TB}(hT:TBok P T){I:In}{FF0:Nat→List Nat}{S:St}{a:Act}(h0:RelH cx I FF0 (zad S.obs) w)(hr:∀ i,RelA cx I (zad S.obs) (S.get i) (a.tmps.getD i undef)):∀ {rs:List RK} {vars:List ResultVar} {FF:Nat→List Nat} {cons:List (Nat×Ent)},
  RelH cx I FF (Ob.puts (zad S.obs) cons) w→Ext I (zad S.obs) I (Ob.puts (zad S.obs) cons)→∀ {r:zah rs×List (Nat×Ent)} {lg:List Nat},(zx3 T S rs vars cons (zad S.obs)).ev=some (r,lg) →
  ∃ FF' us Gs,RelH cx I FF' (Ob.puts (zad S.obs) r.2) w∧Ext I (zad S.obs) I (Ob.puts (zad S.obs) r.2) ∧
   (vars.mapM (zr1 a.tmps)).run P w = .ok us w ∧
   Gs.flatten.Nodup∧(∀ j∈Gs.flatten,(¬ cx.Z j∧(cx.D0 j∨cx.w0.heap.size≤j)∧j<w.heap.size)∧(∀ o,j∉FF' o)∧∃ o,j∈FF o)∧(∀ o j,j∈FF' o→j∈FF o)∧(∀ o,(∀ u∈r.2,u.1≠o)→FF' o=FF o)∧(∀ u∈cons,u∈r.2)∧zic w cx.Z rs r.1 us Gs
 | [],[],FF,cons,h,x,r,lg,he=>by
  have:=M.ev_pure (ob:=zad S.obs) he;subst this;exact⟨FF,[],[],h,x,rfl,List.nodup_nil,(fun j hj=>by simp at hj),fun _ _ h=>h,fun _ _=>rfl,fun _ h=>h,trivial⟩
 |k::rs,v::vars,FF,cons,h,x,r,lg,he=>by
  simp only[zx3]at he;obtain⟨av,l1,l2,he1,he2,rfl⟩:=M.ev_bind he;obtain⟨⟨y,c1⟩,l3,l4,he3,he4,rfl⟩:=M.ev_bind he2;obtain⟨⟨ys,c2⟩,l5,l6,he5,he6,rfl⟩:=M.ev_bind he4;have:=M.ev_pure (ob:=zad S.obs) he6;subst this;obtain⟨u,hrun,hrel⟩:=ybs hT h0 hr he1;obtain⟨FF1,F,h1,x1,hn1,hm1,hs1,ho1,hmon1,hR1⟩:=ydm h0 h x hrel he3;obtain⟨FF2,us,Gs,h2,x2,hrun2,hn2,hm2,hs2,ho2,hmon2,hR2⟩:=zpg hT h0 hr h1 x1 he5;simp only at hm2 ho2 hmon2 ho1 hmon1;refine⟨FF2,u::us,F::Gs,h2,x2,?_,?_,?_,fun o j hj=>hs1 o j (hs2 o j hj),?_,fun u hu=>hmon2 u (hmon1 u hu),hR1,hR2⟩
  ·simp only[List.mapM_cons,Sem.run_bind,hrun,Result.andThen_ok,hrun2,Sem.run_pure]
  ·rw[List.flatten_cons,List.nodup_append];refine⟨hn1,hn2,fun i hi j hj e=>?_⟩;subst e;obtain⟨_,_,o,ho⟩:=hm2 i hj;exact(hm1 i hi).2.1 o ho
  ·intro j hj;rw[List.flatten_cons]at hj;rcases List.mem_append.1 hj with hj|hj
   ·obtain⟨h3,h4,h5⟩:=hm1 j hj;exact⟨h3,fun o ho=>h4 o (hs2 o j ho),h5⟩
   ·obtain⟨h3,h4,o,h5⟩:=hm2 j hj;exact⟨h3,h4,o,hs1 o j h5⟩
  ·intro o ho;rw[ho2 o ho];exact ho1 o (fun u hu=>ho u (hmon2 u hu))
 | [],_::_,_,_,_,_,_,_,he=>(M.ev_fail (ob:=zad S.obs) he).elim
 |_::_,[],_,_,_,_,_,_,he=>(M.ev_fail (ob:=zad S.obs) he).elim
theorem zco{I:In}{FF0:Nat→List Nat}{S:St}{a:Act}(h0:RelH cx I FF0 (zad S.obs) w)(hr:∀ i,RelA cx I (zad S.obs) (S.get i) (a.tmps.getD i undef)):∀ {ks:List PK} {i:Nat} {vs:List Value} {FF:Nat→List Nat} {cons:List (Nat×Ent)},
  RelH cx I FF (Ob.puts (zad S.obs) cons) w→Ext I (zad S.obs) I (Ob.puts (zad S.obs) cons)→ks.length=vs.length→(∀ j v,vs[j]? = some v→cx.args (i+j)=v)→∀ {r:zag ks×List (Nat×Ent)} {lg:List Nat},(finO i ks S cons (zad S.obs)).ev=some (r,lg) →
  ∃ Os,Os.flatten.Nodup∧(∀ j∈Os.flatten,(¬ cx.Z j∧(cx.D0 j∨cx.w0.heap.size≤j)∧j<w.heap.size)∧∃ o,j∈FF o)∧ze3 w cx.Z ks r.1 vs Os
 | [],i,[],FF,cons,h,_,_,harg,r,lg,he=>⟨[],List.nodup_nil,(fun j hj=>by simp at hj),trivial⟩
 | .val t agg::ks,i,v::vs,FF,cons,h,x,hl,harg,r,lg,he=>by
  obtain⟨Os,h1,h2,h3⟩:=zco h0 hr (ks:=ks) (i:=i+1) (vs:=vs) h x (by simpa using hl) (fun j v hv=>by rw[show i+1+j=i+(j+1) by omega];exact harg (j+1) v (by simpa using hv)) he;exact⟨[]::Os,by simpa using h1,by simpa using h2,rfl,h3⟩
 | .own t agg::ks,i,v::vs,FF,cons,h,x,hl,harg,r,lg,he=>by
  obtain⟨Os,h1,h2,h3⟩:=zco h0 hr (ks:=ks) (i:=i+1) (vs:=vs) h x (by simpa using hl) (fun j v hv=>by rw[show i+1+j=i+(j+1) by omega];exact harg (j+1) v (by simpa using hv)) he;exact⟨[]::Os,by simpa using h1,by simpa using h2,rfl,h3⟩
 | .cp t::ks,i,v::vs,FF,cons,h,x,hl,harg,r,lg,he=>by
  obtain⟨Os,h1,h2,h3⟩:=zco h0 hr (ks:=ks) (i:=i+1) (vs:=vs) h x (by simpa using hl) (fun j v hv=>by rw[show i+1+j=i+(j+1) by omega];exact harg (j+1) v (by simpa using hv)) he;exact⟨[]::Os,by simpa using h1,by simpa using h2,rfl,h3⟩
 | .fn g ts::ks,i,v::vs,FF,cons,h,x,hl,harg,r,lg,he=>by
  obtain⟨Os,h1,h2,h3⟩:=zco h0 hr (ks:=ks) (i:=i+1) (vs:=vs) h x (by simpa using hl) (fun j v hv=>by rw[show i+1+j=i+(j+1) by omega];exact harg (j+1) v (by simpa using hv)) he;exact⟨[]::Os,by simpa using h1,by simpa using h2,rfl,h3⟩
 | .io t agg::ks,i,v::vs,FF,cons,h,x,hl,harg,r,lg,he=>by
  simp only[finO]at he;have hri:=hr i;generalize hg:S.get i=sg at he hri;split at he
  ·rename_i j g cs
   cases hj:(Nat.beq j i&&(g == agg)) with
   |false=>simp only[hj]at he;exact(M.ev_fail (ob:=zad S.obs) he).elim
   |true =>
    simp only[hj]at he;simp only[Bool.and_eq_true]at hj;have hji:=Nat.eq_of_beq_eq_true hj.1;have hga:g=agg:=by simpa using hj.2
    subst hji;subst hga;obtain⟨⟨ls,c1⟩,l1,l2,he1,he2,rfl⟩:=M.ev_bind he;simp only at he2
    cases hx:za0 t ls with
    |none=>simp only[hx]at he2;exact(M.ev_fail (ob:=zad S.obs) he2).elim
    |some y =>
     simp only[hx]at he2;obtain⟨⟨ys,c2⟩,l5,l6,he5,he6,rfl⟩:=M.ev_bind he2;have:=M.ev_pure (ob:=zad S.obs) he6;subst this;obtain⟨hpa,hpr⟩:=hri
     have hv:v=cx.args j:=by
      have:=harg 0 v rfl;rw[Nat.add_zero]at this;exact this.symm
     have hus:∃ us,F2 (RelS cx I (zad S.obs)) cs us∧∀ R:List Value→Prop,R us→VR g R v:=by
      cases g with
      |true =>
       obtain⟨arr,h1,h2⟩:=hpr;exact⟨arr.toList,h2,fun R hR=>⟨arr,by rw[hv,← hpa];exact h1,hR⟩⟩
      |false =>
       obtain⟨s,h1,h2⟩:=hpr;subst h1;refine⟨[v],⟨by rw[hv,← hpa];exact h2,trivial⟩,fun R hR=>⟨?_,hR⟩⟩;rw[hv,← hpa];exact RelS.one h2
     obtain⟨us,hus,hvr⟩:=hus;obtain⟨FF1,Hs,Fs,h1,x1,hls,hnd,hhs,hm,hsub,hoth,hmon⟩:=zb6 h hus x he1;obtain⟨Hy,Fy,hoy,hny,hsy,hhy⟩:=zb_ hls hx hnd hhs;obtain⟨Os,h3,h4,h5⟩:=zco h0 hr (ks:=ks) (i:=j+1) (vs:=vs) h1 x1 (by simpa using hl) (fun j' v hv=>by rw[show j+1+j'=j+(j'+1) by omega];exact harg (j'+1) v (by simpa using hv)) he5;refine⟨Fy::Os,?_,?_,⟨Hy,hhy,hvr _ hoy⟩,h5⟩
     ·rw[List.flatten_cons,List.nodup_append];refine⟨hny,h3,fun a ha b hb e=>?_⟩;subst e;obtain⟨_,o',ho'⟩:=h4 a hb;exact(hm a (hsy a ha)).2.1 o' ho'
     ·intro j' hj';rw[List.flatten_cons]at hj';rcases List.mem_append.1 hj' with hj'|hj'
      ·obtain⟨g1,_,g3⟩:=hm j' (hsy j' hj');exact⟨g1,g3⟩
      ·obtain⟨g1,o,g3⟩:=h4 j' hj';exact⟨g1,o,hsub o j' g3⟩
  ·exact(M.ev_fail (ob:=zad S.obs) he).elim
 | .bx t::ks,i,v::vs,FF,cons,h,x,hl,harg,r,lg,he=>by
  simp only[finO]at he;have hri:=hr i;generalize hg:S.get i=sg at he hri;split at he
  ·rename_i j o
   cases hj:Nat.beq j i with
   |false=>simp only[hj]at he;exact(M.ev_fail (ob:=zad S.obs) he).elim
   |true =>
    have:=Nat.eq_of_beq_eq_true hj;subst this
    cases hany:cons.any (fun c=>c.1 == o) with
    |true=>simp only[hj,hany]at he;exact(M.ev_fail (ob:=zad S.obs) he).elim
    |false =>
     simp only[hj,hany]at he;obtain⟨en,l1,l2,he1,he2,rfl⟩:=M.ev_bind he;have hob:=M.ev_get he1
     have hno:∀ u∈cons,u.1≠o:=by
      intro u hu e;have:=List.any_eq_false.1 hany u hu;simp[e]at this
     cases en with
     |row r cur hole=>exact(M.ev_fail (ob:=zad S.obs) he2).elim
     |dead vv=>exact(M.ev_fail (ob:=zad S.obs) he2).elim
     |iter _ _=>exact(M.ev_fail (ob:=zad S.obs) he2).elim
     |map _=>exact(M.ev_fail (ob:=zad S.obs) he2).elim
     |grp _ _ _=>exact(M.ev_fail (ob:=zad S.obs) he2).elim
     |lit _ _=>exact(M.ev_fail (ob:=zad S.obs) he2).elim
     |mit _ _ _=>exact(M.ev_fail (ob:=zad S.obs) he2).elim
     |gh _=>exact(M.ev_fail (ob:=zad S.obs) he2).elim
     |half _ _ _=>exact(M.ev_fail (ob:=zad S.obs) he2).elim
     |ro _=>exact(M.ev_fail (ob:=zad S.obs) he2).elim
     |mid _ _ _=>exact(M.ev_fail (ob:=zad S.obs) he2).elim
     |rv _ _=>exact(M.ev_fail (ob:=zad S.obs) he2).elim
     |box cs =>
      simp only at he2;obtain⟨⟨ls,rds⟩,l3,l4,he3,he4,rfl⟩:=M.ev_bind he2;simp only at he4
      cases hx:za0 t ls with
      |none=>simp only[hx]at he4;exact(M.ev_fail (ob:=zad S.obs) he4).elim
      |some y =>
       simp only[hx]at he4;obtain⟨⟨ys,c2⟩,l5,l6,he5,he6,rfl⟩:=M.ev_bind he4;have:=M.ev_pure (ob:=zad S.obs) he6;subst this;have hob':Ob.puts (zad S.obs) cons o=some (.box cs):=by rw[Ob.puts_other hno];exact hob
       obtain⟨g,T,arr,hF,hA,hgh,hcs⟩:=h0.rel o _ hob;obtain⟨g',T',arr',hF',hA',hgh',_⟩:=h.rel o _ hob'
       have hgg:g'=g:=by
        rw[hA]at hA';injection hA' with hA'
        injection hA' with hA'
        exact hA'.symm
       subst hgg;have ht:=h.take hob';have e2:Ob.puts (zad S.obs) (cons++[(o,Ent.dead 0)])=(Ob.puts (zad S.obs) cons).put o (.dead (Ent.box cs).ver):=by rw[Ob.puts_append];rfl
       rw[← e2]at ht
       have xt:Ext I (zad S.obs) I (Ob.puts (zad S.obs) (cons++[(o,Ent.dead 0)])):=by
        rw[e2];exact x.trans ⟨fun _ _ _=>rfl,zak (fun e1 h1=>by rw[hob']at h1;injection h1 with h1;subst h1;exact Nat.le_refl _)⟩
       obtain⟨Os,h1,h2,h3⟩:=zco h0 hr (ks:=ks) (i:=j+1) (vs:=vs) ht xt (by simpa using hl) (fun j' v hv=>by rw[show j+1+j'=j+(j'+1) by omega];exact harg (j'+1) v (by simpa using hv)) he5;have hst:=(zbq h0 (st:=true) (Z:=fun _=>True) (fun _ _=>trivial) (r:=id) hcs he3 (fun _ _ _ _=>trivial)).2 rfl;simp only at hst;have hcn:=zbw (zbq h0 (fun _ h=>h) (r:=id) hcs he3 (fun o ho=>by rw[hst]at ho;cases ho)).1 hx;have hgF:g'∈FF o:=by rw[hF'];simp
       obtain⟨hpa,s,hs,hbp⟩:=hri;injection hs with hs
       subst hs;obtain⟨_,g2,hA2,hv2⟩:=hbp
       have hg2:g2=g':=by
        rw[hA]at hA2;injection hA2 with hA2
        injection hA2 with hA2
        exact hA2.symm
       subst hg2
       have hv:v = .pointer (some ⟨g2,0,none⟩):=by
        have:=harg 0 v rfl;rw[Nat.add_zero]at this;rw[← this,← hpa];exact hv2
       refine⟨[g2]::Os,?_,?_,⟨g2,T,arr,hv,rfl,hgh,hcn⟩,h3⟩
       ·rw[List.flatten_cons,List.nodup_append];refine⟨by simp,h1,fun a ha b hb e=>?_⟩;have:a=g2:=by simpa using ha
        subst this;subst e;obtain⟨_,o',ho'⟩:=h2 a hb;unfold zaj at ho';split at ho'
        ·cases ho'
        ·rename_i hne;exact h.dj o o' (fun e=>hne e.symm) a hgF ho'
       ·intro j' hj';rw[List.flatten_cons]at hj';rcases List.mem_append.1 hj' with hj'|hj'
        ·have:j'=g2:=by simpa using hj'
         subst this;exact⟨h.mine o j' hgF,o,hgF⟩
        ·obtain⟨h4,o',ho'⟩:=h2 j' hj';refine⟨h4,o',?_⟩;unfold zaj at ho';split at ho'
         ·cases ho'
         ·exact ho'
  ·exact(M.ev_fail (ob:=zad S.obs) he).elim
 | .bo t::ks,i,v::vs,FF,cons,h,x,hl,harg,r,lg,he=>by
  simp only[finO]at he;have hri:=hr i;generalize hg:S.get i=sg at he hri;split at he
  ·rename_i j o
   cases hj:Nat.beq j i with
   |false=>simp only[hj]at he;exact(M.ev_fail (ob:=zad S.obs) he).elim
   |true =>
    have:=Nat.eq_of_beq_eq_true hj;subst this
    cases hany:cons.any (fun c=>c.1 == o) with
    |true=>simp only[hj,hany]at he;exact(M.ev_fail (ob:=zad S.obs) he).elim
    |false =>
     simp only[hj,hany]at he;obtain⟨en,l1,l2,he1,he2,rfl⟩:=M.ev_bind he;have hob:=M.ev_get he1
     have hno:∀ u∈cons,u.1≠o:=by
      intro u hu e;have:=List.any_eq_false.1 hany u hu;simp[e]at this
     cases en with
     |row r cur hole=>exact(M.ev_fail (ob:=zad S.obs) he2).elim
     |dead vv=>exact(M.ev_fail (ob:=zad S.obs) he2).elim
     |iter _ _=>exact(M.ev_fail (ob:=zad S.obs) he2).elim
     |map _=>exact(M.ev_fail (ob:=zad S.obs) he2).elim
     |grp _ _ _=>exact(M.ev_fail (ob:=zad S.obs) he2).elim
     |lit _ _=>exact(M.ev_fail (ob:=zad S.obs) he2).elim
     |mit _ _ _=>exact(M.ev_fail (ob:=zad S.obs) he2).elim
     |gh _=>exact(M.ev_fail (ob:=zad S.obs) he2).elim
     |half _ _ _=>exact(M.ev_fail (ob:=zad S.obs) he2).elim
     |ro _=>exact(M.ev_fail (ob:=zad S.obs) he2).elim
     |mid _ _ _=>exact(M.ev_fail (ob:=zad S.obs) he2).elim
     |rv _ _=>exact(M.ev_fail (ob:=zad S.obs) he2).elim
     |box cs =>
      simp only at he2;obtain⟨⟨ls,cons'⟩,l3,l4,he3,he4,rfl⟩:=M.ev_bind he2;simp only at he4
      cases hx:za0 t ls with
      |none=>simp only[hx]at he4;exact(M.ev_fail (ob:=zad S.obs) he4).elim
      |some y =>
       simp only[hx]at he4;obtain⟨⟨ys,c2⟩,l5,l6,he5,he6,rfl⟩:=M.ev_bind he4;have:=M.ev_pure (ob:=zad S.obs) he6;subst this;have hob':Ob.puts (zad S.obs) cons o=some (.box cs):=by rw[Ob.puts_other hno];exact hob
       obtain⟨g,T,arr,hF,hA,hgh,hcs⟩:=h0.rel o _ hob;obtain⟨g',T',arr',hF',hA',hgh',_⟩:=h.rel o _ hob'
       have hgg:g'=g:=by
        rw[hA]at hA';injection hA' with hA'
        injection hA' with hA'
        exact hA'.symm
       subst hgg;have ht:=h.take hob';have e2:Ob.puts (zad S.obs) (cons++[(o,Ent.dead 0)])=(Ob.puts (zad S.obs) cons).put o (.dead (Ent.box cs).ver):=by rw[Ob.puts_append];rfl
       rw[← e2]at ht
       have xt:Ext I (zad S.obs) I (Ob.puts (zad S.obs) (cons++[(o,Ent.dead 0)])):=by
        rw[e2];exact x.trans ⟨fun _ _ _=>rfl,zak (fun e1 h1=>by rw[hob']at h1;injection h1 with h1;subst h1;exact Nat.le_refl _)⟩
       obtain⟨FF1,Hs,Fs,h1,x1,hls,hnd,hhs,hm,hsub,hoth,hmon⟩:=zb6 ht hcs xt he3;obtain⟨Hy,Fy,hoy,hny,hsy,hhy⟩:=zb_ hls hx hnd hhs;simp only at h1 x1 hm hsub hoth hmon;have hgF:g'∈FF o:=by rw[hF'];simp
       have hput:∀ o' j,j∈zaj FF o [] o'→j∈FF o'∧o'≠o:=by
        intro o' j hj;unfold zaj at hj;split at hj
        ·cases hj
        ·rename_i hne;exact⟨hj,hne⟩
       have hgno:∀ o',g'∉FF1 o':=fun o' ho'=>by
        obtain⟨h3,h4⟩:=hput o' g' (hsub o' g' ho');exact h.dj o o' (fun e=>h4 e.symm) g' hgF h3
       obtain⟨Os,h3,h4,h5⟩:=zco h0 hr (ks:=ks) (i:=j+1) (vs:=vs) h1 x1 (by simpa using hl) (fun j' v hv=>by rw[show j+1+j'=j+(j'+1) by omega];exact harg (j'+1) v (by simpa using hv)) he5;obtain⟨hpa,s,hs,hbp⟩:=hri;injection hs with hs
       subst hs;obtain⟨_,g2,hA2,hv2⟩:=hbp
       have hg2:g2=g':=by
        rw[hA]at hA2;injection hA2 with hA2
        injection hA2 with hA2
        exact hA2.symm
       subst hg2
       have hv:v = .pointer (some ⟨g2,0,none⟩):=by
        have:=harg 0 v rfl;rw[Nat.add_zero]at this;rw[← this,← hpa];exact hv2
       refine⟨(g2::Fy)::Os,?_,?_,⟨g2,T,arr,Hy,Fy,hv,rfl,hgh,hhy,hoy⟩,h5⟩
       ·rw[List.flatten_cons,List.nodup_append,List.nodup_cons];refine⟨⟨fun hgy=>?_,hny⟩,h3,fun a ha b hb e=>?_⟩
        ·obtain⟨_,_,o',ho'⟩:=hm g2 (hsy g2 hgy);obtain⟨h6,h7⟩:=hput o' g2 ho';exact h.dj o o' (fun e=>h7 e.symm) g2 hgF h6
        ·subst e;obtain⟨_,o',ho'⟩:=h4 a hb;rcases List.mem_cons.1 ha with rfl|ha
         ·exact hgno o' ho'
         ·exact(hm a (hsy a ha)).2.1 o' ho'
       ·intro j' hj';rw[List.flatten_cons]at hj';rcases List.mem_append.1 hj' with hj'|hj'
        ·rcases List.mem_cons.1 hj' with rfl|hj'
         ·exact⟨h.mine o j' hgF,o,hgF⟩
         ·obtain⟨h6,_,o',h7⟩:=hm j' (hsy j' hj');exact⟨h6,o',(hput o' j' h7).1⟩
        ·obtain⟨h6,o',h7⟩:=h4 j' hj';exact⟨h6,o',(hput o' j' (hsub o' j' h7)).1⟩
  ·exact(M.ev_fail (ob:=zad S.obs) he).elim
 | [],_,_::_,_,_,_,_,hl,_,_,_,_=>by simp at hl
 |_::_,_,[],_,_,_,_,hl,_,_,_,_=>by simp at hl
theorem zpt{Z:Nat→Prop}:∀ {ks:List PK} {x:zai ks} {vs:List Value} {Fs:List (List Nat)},zid w Z ks x vs Fs→ks.length=vs.length
 | [],_,[],[],_=>rfl
 |_::_,_,_::_,_::_,h=>by simp[zpt h.2]
 | [],_,_::_,_,h=>by cases h
 | [],_,[],_::_,h=>by cases h
 |_::_,_,[],_,h=>by cases h
 |_::_,_,_::_,[],h=>by cases h
theorem zsx{T:TB}(hT:TBok P T){f:FuncId}{fn:Func}{c:Code}(hf:P.funcs[f]? = some fn)(hb:fn.body=some c){ps:List PK}{rs:List RK}{st:Bool}(hps:okPs ps=true)(hln:ps.length≤fn.ntmps){G:Nat→zai ps→Option (zah rs×zag ps)}
  (H:∀ (n:Nat) (x:zai ps) (y:zah rs×zag ps),G n x=some y→∀ (cx:Cx) (a:Act) (w:World) (Q:Exit→Act→World→Prop),Rel cx (zo_ fn.ntmps ps x) a w→XQ P cx (finK T ps rs fn.results.toList) y Q→c.wp P Q a w) :
  zdo P f ⟨ps,rs,st,G⟩:=by
 intro n w Z vs x Fs y hZ hlt hnd hargs he
 let cx:Cx:=⟨w,Z,fun k=>k∈Fs.flatten,fun i=>vs.getD i default,fun _=>default⟩
 have hlen:=zpt hargs
 have hbase:RelH cx (fun _ _ _=>⟨none,0,0,0,false⟩) (fun _=>[]) (fun _=>none) w :=
  ⟨(fun o e h=>nomatch h),(fun _ _=>rfl),(fun _=>List.nodup_nil),(fun _ _ _ k hk=>nomatch hk),(fun _ k hk=>nomatch hk),Kp.refl _ _,(fun k hk=>⟨(hZ k hk).1,(hZ k hk).2⟩)⟩
 obtain⟨I1,FF1,_,r1,s1⟩:=zsv (cx:=cx) (w:=w) (i:=0) (fun k _=>rfl) hps hbase hargs (fun j v hv=>by simp[cx,List.getD_eq_getElem?_getD,hv]) hnd (fun k hk=>⟨⟨fun hz=>(hZ k hz).2 hk,.inl hk,hlt k hk⟩,fun o ho=>by cases ho⟩) (fun _ _=>rfl);have hlook:zad (zlm [] (zcf 0 ps x).2)=Ob.puts (fun _=>none) (zcf 0 ps x).2:=za_ _ _;refine calls_of_wp hf hb ?_
 have hsz:(vs.toArray++Array.replicate (fn.ntmps - vs.toArray.size) undef).size=((zcf 0 ps x).1++List.replicate (fn.ntmps - ps.length) AV.undef).length:=by
  have:=s1.len;simp[this,hlen]
 have h0:Rel cx (zo_ fn.ntmps ps x) { tmps:=vs.toArray++Array.replicate (fn.ntmps - vs.toArray.size) undef,defers:=[] } w:=by
  refine⟨⟨I1,FF1,by simp only[zo_];rw[hlook];exact r1,fun i=>?_⟩,hsz,rfl⟩;simp only[zo_,St.get];rw[hlook];rw[List.getD_eq_getElem?_getD]
  by_cases hi:i<(zcf 0 ps x).1.length
  ·rw[List.getElem?_append_left hi,List.getElem?_eq_getElem hi];obtain⟨u,hu,hrel⟩:=s1.get (List.getElem?_eq_getElem hi)
   have:(vs.toArray++Array.replicate (fn.ntmps - vs.toArray.size) undef).getD i undef=u:=by
    rw[Array.getD_eq_getD_getElem?,Array.getElem?_append_left (by have:=s1.len;simp;omega)];simp[hu]
   rw[this];exact hrel
  ·rw[List.getElem?_append_right (by omega),List.getElem?_replicate];split <;> trivial
 refine H n x y he cx _ _ _ h0 ?_;intro xt e S a w' hx hrel hk
 have main:fin T ps rs fn.results.toList S=some y→a.defers=[]∧∃ v,(results fn a.tmps).run P w' = .ok v w'∧(∃ us Gs Os,Ending.returned v = .returned (retV us)∧zic w' Z rs y.1 us Gs∧ze3 w' Z ps y.2 vs Os∧(Os.flatten ++ Gs.flatten).Nodup ∧
   (∀ k∈Os.flatten++Gs.flatten,(k∈Fs.flatten∨w.heap.size≤k)∧k<w'.heap.size)∧Kp w (fun k=>k∈Fs.flatten) w'):=by
  intro hfin;obtain⟨⟨I,FF,hH,hr⟩,hsz,hd⟩:=hrel;unfold fin at hfin;rw[Tr.run_ev]at hfin
  cases hev:(M.bind (zx3 T S rs fn.results.toList []) (fun r=>M.bind (finO 0 ps S r.2) fun o=>M.pure (r.1,o.1)) (zad S.obs)).ev with
  |none=>rw[hev]at hfin;cases hfin
  |some rl =>
   rw[hev]at hfin;simp only[Option.bind_some]at hfin;injection hfin with hfin
   obtain⟨rr,ll⟩:=rl;simp only at hfin;subst hfin;obtain⟨⟨y1,c1⟩,l1,l2,he1,he2,_⟩:=M.ev_bind hev;obtain⟨⟨y2,c2⟩,l3,l4,he3,he4,_⟩:=M.ev_bind he2;have:=M.ev_pure (ob:=zad S.obs) he4;subst this;obtain⟨FF1,us,Gs,h1,x1,hrun,hn1,hm1,hs1,ho1,_,hR⟩:=zpg hT hH hr (cons:=[]) hH (Ext.refl _ _) he1;obtain⟨Os,hn2,hm2,hO⟩:=zco hH hr (i:=0) (vs:=vs) h1 x1 hlen (fun j v hv=>by simp[cx,List.getD_eq_getElem?_getD,hv]) he3;refine⟨hd,retV us,?_,us,Gs,Os,rfl,hR,hO,?_,?_,hH.kp⟩
   ·have e:(fn.results.mapM (zr1 a.tmps):Sem _).run P w' = .ok us.toArray w':=by
     rw[Array.mapM_eq_mapM_toList,Sem.run_map,hrun];try rfl
    have e2:results fn a.tmps=(fn.results.mapM (zr1 a.tmps) >>= fun vs=>pure (if h:vs.size=1 then vs[0] else .tuple vs)):=by
     unfold results;refine congrArg (fun f=>(fn.results.mapM f >>= fun vs:Array Value=>(pure (if h:vs.size=1 then vs[0] else .tuple vs):Sem Value))) ?_;funext v;cases v <;> rfl
    rw[e2,Sem.run_bind,e];simp only[Result.andThen_ok,Sem.run_pure]
    cases us with
    |nil=>rfl
    |cons u us=>cases us with
     |nil=>rfl
     |cons _ _=>simp[retV]
   ·rw[List.nodup_append];refine⟨hn2,hn1,fun i hi j hj e=>?_⟩;subst e;obtain⟨_,o,ho⟩:=hm2 i hi;exact(hm1 i hj).2.1 o ho
   ·intro k hk;rcases List.mem_append.1 hk with hk|hk
    ·exact⟨(hm2 k hk).1.2.1,(hm2 k hk).1.2.2⟩
    ·exact⟨(hm1 k hk).1.2.1,(hm1 k hk).1.2.2⟩
 cases xt with
 |normal =>
  cases e with
  |normal=>exact main hk
  |_=>exact hx.elim
 |exit i=>cases hk
 |ret =>
  cases e with
  |ret=>exact main hk
  |_=>exact hx.elim
theorem zaf{T:TB}{Γ:Gam}(hT:TBok P T)(hΓ:GamOK P Γ)(hm:P.follows .mixedOrders=true){an:An}{f:FuncId}{fn:Func}{c:Code}(hf:P.funcs[f]? = some fn)(hb:fn.body=some c){ps:List PK}{rs:List RK}{st:Bool}(hps:okPs ps=true)(hln:ps.length≤fn.ntmps) :
  zdo P f ⟨ps,rs,st,runF T Γ an fn c ps rs⟩ :=
 zsx hT hf hb hps hln fun n x y he cx a w Q h0 hQ=>zea hT hΓ hm c h0 hQ he
end
end Go.Proofs.Ytbjgiioppmkpiaa.Rx

namespace Go.Proofs.Ytbjgiioppmkpiaa.Rx
open Go Go.RowKit Go.Lib
def Ef(T:Ty)(x:T.den)(c:List Value):Prop:=Ow default T (fun _ _=>⟨none,0,0,0,false⟩) 0 x c []
def Fl(T:Ty):List T.den→List Value→Prop
 | [],us=>us=[]
 |x::xs,us=>∃ c1 c2,us=c1++c2∧Ef T x c1∧Fl T xs c2
theorem Ef.len{T:Ty}{x:T.den}{c:List Value}(h:Ef T x c):c.length=T.sz:=Ow.len T h
theorem Fl.app{T:Ty}:∀ {xs ys:List T.den} {us vs:List Value},Fl T xs us→Fl T ys vs→Fl T (xs++ys) (us++vs)
 | [],_,_,_,h,h'=>by have h:_=_:=h;subst h;exact h'
 |_::_,_,_,_,h,h'=>by
  obtain⟨c1,c2,rfl,h1,h2⟩:=h;exact⟨c1,c2++_,by rw[List.append_assoc],h1,Fl.app h2 h'⟩
theorem Fl.take{T:Ty}:∀ (n:Nat) {xs:List T.den} {us:List Value},Fl T xs us→Fl T (xs.take n) (us.take (n*T.sz))
 |0,_,_,_=>by rw[List.take_zero,Nat.zero_mul,List.take_zero];rfl
 |n+1,[],_,h=>by have h:_=_:=h;subst h;rw[List.take_nil,List.take_nil];rfl
 |n+1,x::xs,_,h=>by
  obtain⟨c1,c2,rfl,h1,h2⟩:=h;have hl:=h1.len;refine⟨c1,c2.take (n*T.sz),?_,h1,Fl.take n h2⟩;rw[List.take_append,List.take_of_length_le (l:=c1) (by rw[hl,Nat.succ_mul];omega),hl,Nat.succ_mul,Nat.add_sub_cancel]
theorem Fl.drop{T:Ty}:∀ (n:Nat) {xs:List T.den} {us:List Value},Fl T xs us→Fl T (xs.drop n) (us.drop (n*T.sz))
 |0,_,_,h=>by rw[List.drop_zero,Nat.zero_mul,List.drop_zero];exact h
 |n+1,[],_,h=>by have h:_=_:=h;subst h;rw[List.drop_nil,List.drop_nil];rfl
 |n+1,x::xs,_,h=>by
  obtain⟨c1,c2,rfl,h1,h2⟩:=h;have hl:=h1.len;rw[List.drop_append,List.drop_of_length_le (l:=c1) (by rw[hl,Nat.succ_mul];omega),hl,Nat.succ_mul,Nat.add_sub_cancel,List.nil_append];exact Fl.drop n h2
theorem Fl.len{T:Ty}:∀ {xs:List T.den} {us:List Value},Fl T xs us→us.length=xs.length*T.sz
 | [],_,h=>by have h:_=_:=h;subst h;simp
 |_::_,_,h=>by
  obtain⟨c1,c2,rfl,h1,h2⟩:=h;rw[List.length_append,h1.len,h2.len,List.length_cons,Nat.succ_mul];omega
variable{P:Program}
end Go.Proofs.Ytbjgiioppmkpiaa.Rx

namespace Go.Proofs.Ytbjgiioppmkpiaa.Rx
open Go Go.RowKit
section
variable{P:Program}
def yoh:Xt→St→Option St
 | .normal,S=>some S
 |_,_=>none
abbrev znh(d s:Nat)(tid yt ty:TypeId)(pos:String)(af:Array Edge):Oper:=⟨some d,.binOp .eql tid (.tmp s) (.const (.slice none 0 0)) yt,ty,pos,af,none⟩
theorem zwz{T:TB}{Γ:Gam}(hT:TBok P T)(hΓ:GamOK P Γ){n:Nat}{o1:Oper}{d s:Nat}{tid e yt ty:TypeId}{pos:String}{af:Array Edge}{t:Ty}{cx:Cx}(hg:o1.guard=none)(htid:P.underlying tid=some (.slice e)){xs:List t.den}
  {S0 S1:St} (hS1:rgOp T Γ n [o1,znh d s tid yt ty pos af] o1 (fun S=>some S) S0=some S1) (hs:S1.get s = .one (.con ⟨e,t,xs⟩)) {a:Act} {w:World} (h:Rel cx S0 a w) {Q:Exit→Act→World→Prop}
  (hQ:∀ b a' w',(b=true→xs=[])→Rel cx (S1.put (some d) (.one (.bool b))) a' w'→Q .normal a' w') :
  wpList P #[o1,znh d s tid yt ty pos af] Q [o1,znh d s tid yt ty pos af] a w:=by
 have h1:=zr0 (Q:=Q) hT hΓ (n:=n) (ops:=#[o1,znh d s tid yt ty pos af]) (K:=wpList P #[o1,znh d s tid yt ty pos af] Q [znh d s tid yt ty pos af]) (next:=fun S=>some S) (r:=S1) ?_ h hS1
 ·rw[if_pos (by simp[Region.wanted,hg])]at h1;unfold wpList;rw[if_pos (by simp[Region.wanted,hg])];exact .inl h1
 intro S a w h2 hS;injection hS with hS
 subst hS
 have hv:∃ A0 cap,a.tmps.getD s undef = .slice A0 xs.length cap∧(A0=none→cap=0∧xs=[]):=by
  obtain⟨⟨I,FF,hH,hr⟩,_,_⟩:=id h2;have h3:=hr s;rw[hs]at h3;obtain⟨A0,cap,h4,h5,_,_,h8⟩:=h3;refine⟨A0,cap,h4,fun hn=>?_⟩;have:=h8 hn;exact⟨this,List.eq_nil_of_length_eq_zero (by have h9:xs.length≤cap:=h5;omega)⟩
 obtain⟨A0,cap,hv,hn⟩:=hv
 have hrun:(execOp a.eval (znh d s tid yt ty pos af)).run P w = .ok (.value (.bool A0.isNone)) w:=by
  have h5:=Lib.run_eql_slice_nil (P:=P) w tid e A0 xs.length cap 0 0 htid;unfold execOp;simp only[Act.eval,hv,eqGuard,Sem.run_bind,Sem.run_pure,Result.andThen_ok,h5];simp[Sem.run_bind,Sem.run_pure,h5]
 have h6:Rel cx (S.put (some d) (.one (.bool A0.isNone))) (a.put (some d) (.bool A0.isNone)) w:=by
  obtain⟨⟨I,FF,hH,hr⟩,hsz,hd⟩:=id h2;have:=zhi (dst:=some d) hsz hr (Ext.refl I (zad S.obs)) (av:=.one (.bool A0.isNone)) (v:=.bool A0.isNone) rfl;exact⟨⟨I,FF,hH,this.2.1⟩,this.1,by rw[this.2.2];exact hd⟩
 have h7:=hQ A0.isNone _ w (fun hb=>(hn (by cases A0 with|none=>rfl|some _=>cases hb)).2) h6;unfold wpList;rw[if_pos (by simp[Region.wanted])];refine .inl ?_;unfold Oper.wp;rw[hrun];exact h7
theorem zmr{T:TB}{Γ:Gam}(hT:TBok P T)(hΓ:GamOK P Γ)(hm:P.follows .mixedOrders=true){an:An}{f:FuncId}{fn:Func}{r0:Code}{i1:Nat}{o1:Oper}{d s:Nat}{tid e yt ty:TypeId}{pos:String}{af:Array Edge}{A B R:Code}{t:Ty}{rs:List RK}{st:Bool}
  (hf:P.funcs[f]? = some fn) (hb:fn.body=some (.seq r0 (.seq (.seq (.region i1 #[o1,znh d s tid yt ty pos af] false) (.cond (.tmp d) A B)) R)))
  (hg:o1.guard=none) (htid:P.underlying tid=some (.slice e)) (hln:1≤fn.ntmps)
  {F:Nat→zai [.val (.row e t) false]→Option (zah rs×zag [.val (.row e t) false])}
  (S0:Nat→List t.den→St) (hS0:∀ n xs,ex T Γ n an r0 yoh (zo_ fn.ntmps [.val (.row e t) false] (xs,()))=some (S0 n xs))
  (S1:Nat→List t.den→St) (hS1:∀ n xs,rgOp T Γ n [o1,znh d s tid yt ty pos af] o1 (fun S=>some S) (S0 n xs)=some (S1 n xs))
  (hs:∀ n xs,(S1 n xs).get s = .one (.con ⟨e,t,xs⟩))
  (hd:∀ n xs b,((S1 n xs).put (some d) (.one (.bool b))).opnd (.tmp d) = .one (.bool b))
  (hA:∀ n y,F n ([],())=some y→ex T Γ n an A (seqK (ex T Γ n an R (finK T _ rs fn.results.toList)) (finK T _ rs fn.results.toList)) ((S1 n []).put (some d) (.one (.bool true)))=some y)
  (hB:∀ n xs y,F n (xs,())=some y→ex T Γ n an B (seqK (ex T Γ n an R (finK T _ rs fn.results.toList)) (finK T _ rs fn.results.toList)) ((S1 n xs).put (some d) (.one (.bool false)))=some y) :
  zdo P f ⟨[.val (.row e t) false],rs,st,F⟩:=by
 refine zsx hT hf hb rfl (by simpa using hln) ?_;rintro n ⟨xs,⟨⟩⟩ y hF cx a w Q h0 hQ;refine wp_seq (zea hT hΓ hm r0 h0 (r:=S0 n xs) (k:=yoh) ?_ (hS0 n xs));intro x ee S' a' w' hx h' hk
 cases x with
 |exit i=>cases hk
 |ret=>cases hk
 |normal =>
  cases ee with
  |normal =>
   injection hk with hk
   subst hk;refine wp_seq (wp_seq (wp_region_list (zwz hT hΓ hg htid (hS1 n xs) (hs n xs) h' ?_)));intro b a2 w2 hbx h2
   have hev:a2.eval (.tmp d) = .bool b:=by
    obtain⟨⟨I,FF,hH,hr⟩,_,_⟩:=id h2;have:=zi7 (FF:=FF) hr (.tmp d);rw[hd]at this;exact this
   have hX:XQ P cx (seqK (ex T Γ n an R (finK T [.val (.row e t) false] rs fn.results.toList)) (finK T [.val (.row e t) false] rs fn.results.toList)) y (Exit.then (R.wp P Q) Q):=by
    intro x e S' a' w' hx h' hk
    cases x with
    |normal =>
     cases e with
     |normal=>exact zea hT hΓ hm R h' hQ hk
     |_=>exact hx.elim
    |exit i =>
     cases e with
     |exit j=>exact hQ _ _ _ _ _ hx h' hk
     |_=>exact hx.elim
    |ret =>
     cases e with
     |ret=>exact hQ _ _ _ _ _ hx h' hk
     |_=>exact hx.elim
   cases b with
   |true =>
    have:=hbx rfl;subst this;exact wp_cond_true hev (zea hT hΓ hm A h2 hX (hA n y hF))
   |false=>exact wp_cond_false hev (zea hT hΓ hm B h2 hX (hB n xs y hF))
  |_=>exact hx.elim
end
end Go.Proofs.Ytbjgiioppmkpiaa.Rx

namespace Go.Proofs.Ytbjgiioppmkpiaa.Rx
open Go Go.RowKit Go.ChangeShapes Go.WideShapes Go.Deep
def WfT:(t:Ty)→t.den→Prop
 | .int k,(n:Int)=>(Lit.int k n).wf=true
 | .bool,_=>True
 | .str,(s:ByteArray)=>s.size≤9223372036854775807
 | .row _ t,xs=>xs.length≤9223372036854775807∧∀ x∈xs,WfT t x
 | .pair a b,x=>WfT a x.1∧WfT b x.2
def Opn{H:Type}(enc:TypeId×Value→H)(P:Program)(w:World)(tid:TypeId)(t:Ty):Prop :=
 ∀ fuel cs x,DataW.trod enc P w 0 (fun _=>true) true fuel tid cs=some x→∃ a:t.den,Cn w (fun k=>k<w.heap.size) t a cs∧WfT t a
section
variable{H:Type}{enc:TypeId×Value→H}{P:Program}{w:World}{tid e:TypeId}
theorem opn_int{k:IntKind}(ht:P.underlying tid=some (.int k)):Opn enc P w tid (.int k):=by
 intro fuel cs x h;obtain⟨n,rfl,_,hw⟩:=DataW.trod_int ht h;exact⟨n,rfl,hw⟩
theorem zry{t:Ty}{Z:Nat→Prop}{cells:List Value}:∀ (n b i0:Nat),b+n*t.sz≤cells.length→(∀ i,i<n→∃ x:t.den,Cn w Z t x ((cells.drop (b+i*t.sz)).take t.sz)∧WfT t x) →
  ∃ xs:List t.den,xs.length=n∧RL (fun _ x cs F=>Cn w Z t x cs∧F=[]) i0 xs ((cells.drop b).take (n*t.sz)) []∧∀ x∈xs,WfT t x
 |0,b,i0,_,_=>⟨[],rfl,⟨by simp,rfl⟩,by simp⟩
 |n+1,b,i0,hb,h=>by
  have hm:(n+1)*t.sz=t.sz+n*t.sz:=by rw[Nat.add_mul,Nat.one_mul,Nat.add_comm]
  obtain⟨x,hx,hw⟩:=h 0 (by omega)
  obtain ⟨xs,hl,hr,hws⟩:=zry (t:=t) (Z:=Z) (cells:=cells) n (b + t.sz) (i0 + 1) (by omega) (fun i hi=>by
   have:=h (i+1) (by omega);rw[show b+(i+1)*t.sz=b+t.sz+i*t.sz by rw[Nat.add_mul,Nat.one_mul];omega]at this
   exact this)
  refine⟨x::xs,by simp[hl],⟨(cells.drop b).take t.sz,(cells.drop (b+t.sz)).take (n*t.sz),[],[],?_,rfl,⟨by simpa using hx,rfl⟩,hr⟩,?_⟩
  ·rw[hm,List.take_add,List.drop_drop]
  ·intro y hy;rcases List.mem_cons.1 hy with rfl|hy
   ·exact hw
   ·exact hws y hy
theorem opn_slice{t:Ty}(ht:P.underlying tid=some (.slice e))(hc:P.cellsOf e=t.sz)(h:Opn enc P w e t):Opn enc P w tid (.row e t):=by
 intro fuel cs x hx;rcases open_slice ht hx with ⟨rfl,_⟩|⟨a,len,cap,m,n,D,Pl,rfl,hb,hl,hm,hmm,_,hi⟩
 ·exact⟨[],⟨_,rfl,CnR.nil⟩,by simp,by simp⟩
 ·simp only[if_true]at hmm;have hsz:1≤t.sz:=Ty.sz_pos t
  have hmax:cap≤9223372036854775807:=by
   have:maxLen=9223372036854775807:=rfl;omega
  rcases Nat.eq_zero_or_pos len with h0|h0
  ·subst h0;exact⟨[],⟨_,rfl,some a,cap,rfl,Nat.zero_le _,by omega,.inl rfl,fun h=>by cases h⟩,by simp,by simp⟩
  ·rw[hc]at hi
   have key:∀ i,i<len→∃ x:t.den,∃ c,c.length=t.sz∧Cn w (fun k=>k<w.heap.size) t x c∧WfT t x∧∀ j,j<t.sz→w.cell? ((a.add (i*t.sz)).add j)=c[j]?:=by
    intro i hil;obtain⟨cs',hcs,htr⟩:=hi i (by omega);obtain⟨x,hK,hW⟩:=h _ _ _ htr;obtain⟨_,hcl,hat⟩:=World.cells?_some hcs;exact⟨x,cs',hcl,hK,hW,hat⟩
   obtain⟨g,b,sp⟩:=a;obtain⟨x0,c0,hc0,_,_,hat0⟩:=key 0 h0;have h1:=hat0 0 (by omega);rw[List.getElem?_eq_getElem (by omega)]at h1;unfold World.cell? at h1;have hg0:((Addr.add ⟨g,b,sp⟩ (0*t.sz)).add 0).block=g:=by simp[Addr.add]
   rw[hg0]at h1
   cases hg:w.heap[g]? with
   |none=>simp[hg]at h1
   |some o =>
    cases o with
    |cells cells q fz =>
     have hsp:sp=none:=by
      simp only[hg]at h1;have:((Addr.add ⟨g,b,sp⟩ (0*t.sz)).add 0).spot=sp:=by simp[Addr.add]
      rw[this]at h1
      cases sp with
      |none=>rfl
      |some s=>simp at h1
     subst hsp
     have cellat:∀ j,w.cell? ⟨g,j,none⟩=cells[j]?:=by
      intro j;unfold World.cell?;simp[hg]
     have addat:∀ i j,((Addr.add ⟨g,b,none⟩ i).add j)=⟨g,b+i+j,none⟩:=by
      intro i j;unfold Addr.add
      by_cases hi:i=0 <;> by_cases hj:j=0 <;> simp[hi,hj]
     have hlast:b+len*t.sz≤cells.size:=by
      obtain⟨x,c,hcl,_,_,hat⟩:=key (len - 1) (by omega);have:=hat (t.sz - 1) (by omega);rw[addat,cellat,List.getElem?_eq_getElem (by omega)]at this;have hlt:=(Array.getElem?_eq_some_iff.1 this).1
      have hm:len*t.sz=(len - 1)*t.sz+t.sz:=by
       conv=>lhs;rw[show len=(len - 1)+1 by omega,Nat.add_mul,Nat.one_mul]
      omega
     obtain ⟨xs,hxl,hr,hws⟩:=zry (w:=w) (t:=t) (Z:=fun k=>k < w.heap.size) (cells:=cells.toList) len b 0 (by simpa using hlast) (fun i hil=>by
      obtain⟨x,c,hcl,hK,hW,hat⟩:=key i hil;refine⟨x,?_,hW⟩
      have:(cells.toList.drop (b+i*t.sz)).take t.sz=c:=by
       have hm:=Nat.mul_le_mul_right t.sz (show i+1≤len by omega);rw[Nat.add_mul,Nat.one_mul]at hm;apply List.ext_getElem?;intro j;rcases Nat.lt_or_ge j t.sz with hj|hj
       ·rw[List.getElem?_take_of_lt hj,List.getElem?_drop,Array.getElem?_toList,← hat j hj,addat,cellat]
       ·rw[List.getElem?_take_eq_none hj,List.getElem?_eq_none (by omega)]
      rw[this]
      exact hK)
     refine⟨xs,⟨_,rfl,some ⟨g,b,none⟩,cap,by rw[hxl],by rw[hxl];omega,by omega,.inr ⟨g,b,cells,q,fz,rfl,?_,hg,by rw[hxl];exact hlast,by rw[hxl];exact hr⟩,fun h=>by cases h⟩,by omega,hws⟩;exact(Array.getElem?_eq_some_iff.1 hg).1
    |_=>simp[hg]at h1
inductive OpnFs{H:Type}(enc:TypeId×Value→H)(P:Program)(w:World):List Field→Nat→Ty→Prop where
 |one (f:Field) (o:Nat) (t:Ty) (ho:f.offset=o) (hc:P.cellsOf f.type=t.sz) (h:Opn enc P w f.type t):OpnFs enc P w [f] o t
 |cons (f:Field) (fs:List Field) (o:Nat) (a b:Ty) (ho:f.offset=o) (hc:P.cellsOf f.type=a.sz) (h:Opn enc P w f.type a) (hs:OpnFs enc P w fs (o+a.sz) b):OpnFs enc P w (f::fs) o (.pair a b)
variable{base:Nat}{r:Go.Reach}{v:Value}{d:DataW H}{ps:List MemPlace}{t:Ty}
theorem arg_slice(ht:P.underlying tid=some (.slice e))(ho:Opn enc P w tid t)(hv:Value.okWide P w r base tid v)(h:DataW.Trod enc P w 0 (fun _=>true) true tid v d ps) :
  ∃ x:t.den,ArgR w (fun k=>k<w.heap.size) (.val t false) x v []∧WfT t x:=by
 obtain⟨a,l,c,rfl⟩:=okWide_slice ht hv;obtain⟨fuel,hf⟩:=h;obtain⟨x,hx,hw⟩:=ho _ _ _ hf;exact⟨x,⟨rfl,rfl,hx⟩,hw⟩
theorem call_law{f:FuncId}{ks:List PK}{st:Bool}{F:Nat→zai ks→Option (zah [.val .bool false]×zag ks)}(hh:zdo P f ⟨ks,[.val .bool false],st,F⟩){W:World}{vs:List Value}{x:zai ks}{Fs:List (List Nat)}(hF:Fs.flatten=[])
  (ha:zid W (fun k=>k<W.heap.size) ks x vs Fs) {n:Nat} {o:zag ks} (he:F n x=some ((true,()),o)) :
  Calls P f vs.toArray W fun e W'=>e = .returned (.bool true)∧Below W.heap.size W W':=by
 refine(hh n W (fun k=>k<W.heap.size) vs x Fs _ (fun k hk=>⟨hk,by rw[hF];simp⟩) (by rw[hF];simp) (by rw[hF];exact List.nodup_nil) ha he).mono ?_;rintro e W' ⟨us,Gs,Os,rfl,hr,_,_,_,hk⟩
 cases us with
 |nil=>cases Gs <;> exact hr.elim
 |cons u us =>
 cases Gs with
 |nil=>exact hr.elim
 |cons G Gs =>
 cases us with
 |cons _ _=>cases Gs <;> exact hr.2.elim
 |nil =>
 cases Gs with
 |cons _ _=>exact hr.2.elim
 |nil =>
  obtain⟨⟨_,_,hv⟩,_⟩:=hr;injection hv with hv
  subst hv;refine⟨rfl,hk.os,hk.tape,hk.output,hk.size,fun k hlt=>hk.block k hlt (by rw[hF];simp)⟩
end
end Go.Proofs.Ytbjgiioppmkpiaa.Rx

