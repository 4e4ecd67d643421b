/- An evaluator over the program text, proved sound once: what a function computes on data, out of its code. No condition. -/
import Derived.IntWalk
import Derived.Laws.StructEq
import Derived.Laws.Strings
import Derived.Test.YtbjgiioppmkpiaaMK0
set_option linter.unusedVariables false
set_option linter.unusedSimpArgs false
namespace Go.Proofs.Ytbjgiioppmkpiaa.Rx
open Go Go.RowKit
section
variable{P:Program}{cx:Cx}{I:In}{FF:Nat→List Nat}{ob:Ob}{w:World}{t:TypeId}{ti:TI}
def Inew(I:In)(d:Nat)(H:Path→Hd):In:=fun o u=>if o=d then H else I o u
theorem Ob.put_same(ob:Ob)(d:Nat)(e:Ent):(ob.put d e) d=some e:=if_pos rfl
theorem Ext.new{H:Path→Hd}{d:Nat}{e:Ent}(hd:ob d=none):Ext I ob (Inew I d H) (ob.put d e):=by
 refine⟨fun o u hk=>?_,zak (fun e0 h0=>by rw[hd]at h0;cases h0)⟩;obtain⟨e,he,_⟩:=hk;simp only[Inew];rw[if_neg];rintro rfl;rw[hd]at he;cases he
theorem RelH.fresh(h:RelH cx I FF ob w):¬ cx.Z w.heap.size∧(cx.D0 w.heap.size∨cx.w0.heap.size≤w.heap.size)∧∀ o,w.heap.size∉FF o :=
 ⟨fun hz=>by have:=(h.zone _ hz).1;have:=h.kp.size;omega,.inr h.kp.size,fun o hk=>Nat.lt_irrefl _ (h.mine o _ hk).2.2⟩
theorem zw3(h:RelH cx I FF ob w){d:Nat}(hd:ob d=none){cs:List SV}{arr:Array Value}{T:TypeId}(hc:F2 (RelS cx I ob) cs arr.toList) :
  ∃ I' FF',Ext I ob I' (ob.put d (.box cs))∧RelH cx I' FF' (ob.put d (.box cs)) (w.alloc (.cells arr T))∧RelS cx I' (ob.put d (.box cs)) (.bptr d 0) (.pointer (some ⟨w.heap.size,0,none⟩)):=by
 have x:Ext I ob (Inew I d (fun _=>⟨some ⟨w.heap.size,0,none⟩,0,0,0,false⟩)) (ob.put d (.box cs)):=Ext.new hd;have hf:=h.fresh;have h1:=h.world (zbx w (.cells arr T) (fun _=>False)) (fun k hk=>hk.elim);refine⟨_,zaj FF d [w.heap.size],x,?_,⟨⟨_,Ob.put_same _ _ _,Nat.le_refl _⟩,w.heap.size,by simp[Inew],rfl⟩⟩;refine h1.give (h.non d hd) (fun e0 h0=>by rw[hd]at h0;cases h0) x ?_ (by simp) ?_ ?_
 ·exact⟨w.heap.size,T,arr,rfl,by simp[Inew],heap_alloc_new w _,hc.imp (fun _ _ h=>h.ext x)⟩
 ·intro k hk o ho;have:k=w.heap.size:=by simpa using hk
  subst this;exact hf.2.2 o ho
 ·intro k hk;have:k=w.heap.size:=by simpa using hk
  subst this;exact⟨hf.1,hf.2.1,by simp⟩
theorem zni{w':World}(h:RelH cx I FF ob w'){d:Nat}(hd:ob d=none){r:Rw}{H:Path→Hd}{v:Value}{F:List Nat}(ho:OwR w' r.e r.t H r.xs v F)(hh:∀ p,(H p).hole=false)
  (hnd:F.Nodup) (hm:∀ k∈F,(¬ cx.Z k∧(cx.D0 k∨cx.w0.heap.size≤k)∧k<w'.heap.size)∧∀ o,k∉FF o) {A:Option Addr} {c:Nat} (h0:H []=⟨A,c,r.xs.length,r.t.sz,false⟩) (hv:v = .slice A r.xs.length c) :
  ∃ I',Ext I ob I' (ob.put d (.row r 0 none))∧RelH cx I' (zaj FF d F) (ob.put d (.row r 0 none)) w'∧RelS cx I' (ob.put d (.row r 0 none)) (.ref d 0 [] none) v:=by
 have x:Ext I ob (Inew I d H) (ob.put d (.row r 0 none)):=Ext.new hd;have hI:∀ u,Inew I d H d u=H:=fun u=>by simp[Inew]
 have hown:=ho;unfold OwR OwRow at hown;rw[if_neg (by simp[hh])]at hown;obtain⟨_,hl,hle,hmx,h5⟩:=hown;refine⟨_,x,?_,⟨⟨_,Ob.put_same _ _ _,Nat.le_refl _⟩,trivial,0,_,rfl,by simp,A,c,?_,?_,?_,fun _=>by rw[hI,h0];exact⟨rfl,rfl⟩,?_⟩⟩
 ·refine h.give (h.non d hd) (fun e0 h0=>by rw[hd]at h0;cases h0) x ⟨⟨v,by rw[hI];exact ho⟩,fun u _=>by rw[hI,hI],fun p hp=>?_,by simp⟩ hnd (fun k hk=>(hm k hk).2) (fun k hk=>(hm k hk).1);rw[hI,hh p]at hp;cases hp
 ·rw[hI,h0];exact hv
 ·rw[hI];rw[h0]at hle ⊢;exact hle
 ·rw[h0]at hmx;exact hmx
 ·rw[hI];rw[h0]at h5
  by_cases hc:c=0
  ·exact .inl hc
  ·rw[if_neg hc]at h5;obtain⟨_,g,b,_,_,hA,_⟩:=h5;refine .inr ⟨by rw[h0];rfl,g,b,by rw[h0];exact hA,?_⟩;simp only at hA;rw[hA];simp
theorem zhq{w':World}(h:RelH cx I FF ob w'){d:Nat}(hd:ob d=none){r:Rw}{H:Path→Hd}{v:Value}{F:List Nat}(ho:OwR w' r.e r.t H r.xs v F)(hh:∀ p,(H p).hole=false)
  (hnd:F.Nodup) (hm:∀ k∈F,(¬ cx.Z k∧(cx.D0 k∨cx.w0.heap.size≤k)∧k<w'.heap.size)∧∀ o,k∉FF o) {A:Option Addr} {c:Nat} (h0:H []=⟨A,c,r.xs.length,r.t.sz,false⟩) (hv:v = .slice A r.xs.length c) :
  ∃ I' FF',Ext I ob I' (ob.put d (.row r 0 none))∧RelH cx I' FF' (ob.put d (.row r 0 none)) w'∧RelS cx I' (ob.put d (.row r 0 none)) (.ref d 0 [] none) v:=by
 obtain⟨I',x,h1,h2⟩:=zni h hd ho hh hnd hm h0 hv;exact⟨I',_,x,h1,h2⟩
def zs8(ti:TI)(d:Nat):M (AV×List (Nat×Ent)):=M.bind (M.free d) fun _=>M.pure (.one (.bptr d 0),[(d,.box (ti.z.map ZK.sv))])
def aBox(cs:List SV)(d:Nat):M (AV×List (Nat×Ent)):=M.bind (M.free d) fun _=>M.pure (.one (.bptr d 0),[(d,.box cs)])
def Did(P:Program)(cx:Cx)(I:In)(ob:Ob)(w:World)(run:Result Value)(av:AV)(ups:List (Nat×Ent)):Prop :=
 ∃ u w' I' FF',run = .ok u w'∧Ext I ob I' (ob.puts ups)∧RelH cx I' FF' (ob.puts ups) w'∧RelA cx I' (ob.puts ups) av u
theorem zzc(hT:TIok P t ti)(h:RelH cx I FF ob w){d:Nat}{av:AV}{ups:List (Nat×Ent)}{lg:List Nat}(he:(zs8 ti d ob).ev=some ((av,ups),lg)) :
  Did P cx I ob w ((Instr.alloc t true (.tuple #[])).run P w) av ups:=by
 obtain⟨_,l1,l2,h1,h2,rfl⟩:=M.ev_bind he;have hd:=M.ev_free h1;have hp:=M.ev_pure (ob:=ob) h2;injection hp with e1 e2
 subst e1;subst e2;obtain⟨I',FF',x,hr,hs⟩:=zw3 h hd (arr:=hT.z.cells) (T:=t) (zp6 hT.zs);refine⟨_,_,I',FF',?_,x,hr,hs⟩;simp[Instr.alloc,zeroValue,typeInfo,hT.hi,hT.hz,newVar,newRow]
theorem yk7(h:RelH cx I FF ob w){d:Nat}{cs:List SV}{v:Value}(hv:F2 (RelS cx I ob) cs v.cells.toList){av:AV}{ups:List (Nat×Ent)}{lg:List Nat}(he:(aBox cs d ob).ev=some ((av,ups),lg)) :
  Did P cx I ob w ((Instr.box t v).run P w) av ups:=by
 obtain⟨_,l1,l2,h1,h2,rfl⟩:=M.ev_bind he;have hd:=M.ev_free h1;have hp:=M.ev_pure (ob:=ob) h2;injection hp with e1 e2
 subst e1;subst e2;obtain⟨I',FF',x,hr,hs⟩:=zw3 h hd (arr:=v.cells) (T:=t) hv;refine⟨_,_,I',FF',?_,x,hr,hs⟩;simp[Instr.box,newVar,newRow]
def za0(T:Ty)(ls:List LS):Option T.den:=match ls.length == T.sz with|true=>zlj T T.dflt 0 ls|false=>none
theorem zie:∀ T:Ty,∃ vs:List Value,vs.map zk=T.zks.map some∧vs.length=T.sz
 | .int k=>⟨[.int k 0],rfl,rfl⟩
 | .bool=>⟨[.bool false],rfl,rfl⟩
 | .str=>⟨[.string ⟨#[]⟩],rfl,rfl⟩
 | .row _ _=>⟨[.slice none 0 0],rfl,rfl⟩
 | .pair a b=>by
  obtain⟨v1,h1,l1⟩:=zie a;obtain⟨v2,h2,l2⟩:=zie b;exact⟨v1++v2,by simp[Ty.zks,h1,h2],by simp[Ty.sz,l1,l2]⟩
theorem zb_{T:Ty}{ls:List LS}{vs:List Value}{Hs:List (Path→Hd)}{Fs:List (List Nat)}{x:T.den}(hr:RelLs w ls vs Hs Fs)(hx:za0 T ls=some x)(hnd:Fs.flatten.Nodup)(hhs:∀ H∈Hs,∀ p,(H p).hole=false) :
  ∃ H F,Ow w T H 0 x vs F∧F.Nodup∧(∀ k∈F,k∈Fs.flatten)∧∀ j p,(H j p).hole=false:=by
 unfold za0 at hx;split at hx
 ·rename_i hl;have hl':ls.length=T.sz:=by simpa using hl
  obtain⟨zs,hz,hzl⟩:=zie T;have h0:Ow w T (fun _=>H0) 0 T.dflt zs []:=zli T hz;obtain⟨H,F,ho,hn,hs,hH1,hH2,hH3⟩:=Ow.upd T h0 hr hx (by simpa using hnd)
  have:over zs 0 vs=vs:=by
   unfold over;have:vs.length=zs.length:=by rw[hzl,← hl',hr.len.1]
   simp[this]
  rw[this]at ho;refine⟨H,F,ho,hn,fun k hk=>(hs k hk).resolve_left (by simp),fun j p=>?_⟩
  by_cases hj:j<0∨0+ls.length≤j
  ·rw[hH1 j hj];rfl
  ·have hj':j<ls.length:=by omega
   have hg:=List.getElem?_eq_getElem hj'
   cases hsc:LS.scalar ls[j] with
   |true=>have:=hH3 j _ hg hsc;rw[Nat.zero_add]at this;rw[this];rfl
   |false =>
    have hjh:j<Hs.length:=by have:=hr.len.2;omega
    have:=hH2 j _ _ hg (List.getElem?_eq_getElem hjh) hsc;rw[Nat.zero_add]at this;rw[this];exact hhs _ (List.getElem_mem hjh) p
 ·cases hx
def zhr(T:Ty):List (List SV)→List (Nat×Ent)→M (List T.den×List (Nat×Ent))
 | [],cons=>M.pure ([],cons)
 | cs :: css,cons=>M.bind (resM cs cons) fun lc=>(match za0 T lc.1 with
  |some x=>M.bind (zhr T css lc.2) fun xc=>M.pure (x::xc.1,xc.2)
  |none=>M.fail)
def yqp(H:Nat→Path→Hd)(H2:Path→Hd):Path→Hd
 | []=>H2 []
 |(0,c)::p=>H c p
 |(i+1,c)::p=>H2 ((i,c)::p)
theorem zkx{ob:Ob}{T:Ty}:∀ {css:List (List SV)} {vss:List (List Value)} {FF:Nat→List Nat} {cons:List (Nat×Ent)} {r:List T.den×List (Nat×Ent)} {lg:List Nat},
  RelH cx I FF (ob.puts cons) w→F2 (F2 (RelS cx I ob)) css vss→Ext I ob I (ob.puts cons)→(zhr T css cons ob).ev=some (r,lg) →
  ∃ FF' H F,RelH cx I FF' (ob.puts r.2) w∧Ext I ob I (ob.puts r.2)∧RE w T H r.1 vss.flatten F∧F.Nodup∧(∀ p,p≠[]→(H p).hole=false) ∧
   (∀ k∈F,(¬ cx.Z k∧(cx.D0 k∨cx.w0.heap.size≤k)∧k<w.heap.size)∧(∀ o,k∉FF' o)∧∃ o,k∈FF o)∧(∀ o k,k∈FF' o→k∈FF o)∧(∀ o,(∀ u∈r.2,u.1≠o)→FF' o=FF o)∧(∀ u∈cons,u∈r.2)
 | [],[],FF,cons,r,lg,h,_,x,he=>by
  have:=M.ev_pure (ob:=ob) he;subst this;exact⟨FF,H0,[],h,x,⟨rfl,rfl⟩,List.nodup_nil,fun _ _=>rfl,(fun k hk=>by cases hk),fun _ _ h=>h,fun _ _=>rfl,fun _ h=>h⟩
 |cs::css,vs::vss,FF,cons,r,lg,h,hs,x,he=>by
  obtain⟨⟨ls,c1⟩,l1,l2,he1,he2,rfl⟩:=M.ev_bind he;simp only at he2
  cases hx:za0 T ls with
  |none=>simp only[hx]at he2;exact(M.ev_fail (ob:=ob) he2).elim
  |some y =>
   simp only[hx]at he2;obtain⟨⟨ys,c2⟩,l3,l4,he3,he4,rfl⟩:=M.ev_bind he2;have:=M.ev_pure (ob:=ob) he4;subst this;obtain⟨FF1,Hs,Fs,h1,x1,hls,hnd,hhs,hm,hsub,hoth,hmon⟩:=zb6 h hs.1 x he1;obtain⟨Hy,Fy,hoy,hny,hsy,hhy⟩:=zb_ hls hx hnd hhs;obtain⟨FF2,H2,F2',h2,x2,hre,hn2,hh2,hm2,hsub2,hoth2,hmon2⟩:=zkx h1 hs.2 x1 he3;refine⟨FF2,yqp Hy H2,Fy++F2',h2,x2,⟨vs,vss.flatten,Fy,F2',rfl,rfl,hoy,?_⟩,?_,?_,?_,fun o k hk=>hsub o k (hsub2 o k hk),fun o ho=>?_,fun u hu=>hmon2 u (hmon u hu)⟩
   ·have:=RL.unshift (d:=1) (i:=0) (R:=fun k x cs F=>Ow w T (fun c p=>yqp Hy H2 ((k,c)::p)) 0 x cs F) (xs:=ys) (cs:=vss.flatten) (F:=F2') hre;exact this
   ·rw[List.nodup_append];refine⟨hny,hn2,fun a ha b hb e=>?_⟩;subst e;obtain⟨_,_,o,ho⟩:=hm2 a hb;exact(hm a (hsy a ha)).2.1 o ho
   ·intro p hp
    match p with
    | []=>exact absurd rfl hp
    |(0,c)::q=>exact hhy c q
    |(i+1,c)::q=>exact hh2 _ (by simp)
   ·intro k hk;rcases List.mem_append.1 hk with hk|hk
    ·obtain⟨h3,h4,h5⟩:=hm k (hsy k hk);exact⟨h3,fun o ho=>h4 o (hsub2 o k ho),h5⟩
    ·obtain⟨h3,h4,o,h5⟩:=hm2 k hk;exact⟨h3,h4,o,hsub o k h5⟩
   ·rw[hoth2 o ho];exact hoth o (fun u hu=>ho u (hmon2 u hu))
 | [],_::_,_,_,_,_,_,hs,_,_=>hs.elim
 |_::_,[],_,_,_,_,_,hs,_,_=>hs.elim
def zhj:Nat→List (Nat×AV)→Option (List (List SV))
 |_,[]=>some []
 |i,(j,a)::ps=>match j == i,zef a,zhj (i+1) ps with
  |true,some cs,some css=>some (cs::css)
  |_,_,_=>none
def zcg(e:TypeId)(T:Ty)(n:Nat)(css:List (List SV))(d:Nat):M (AV×List (Nat×Ent)) :=
 match css.length == n&&Nat.ble (n*T.sz) 16777216 with
 | true=>M.bind (M.free d) fun _=>M.bind (zhr T css []) fun xc=>(match xc.2.any (fun u=>u.1 == d) with
  |true=>M.fail
  |false=>M.pure (.one (.ref d 0 [] none),xc.2++[(d,.row ⟨e,T,xc.1⟩ 0 none)]))
 |false=>M.fail
theorem zpd(off:Nat):∀ (us:List Value) (k:Nat) (cs:Array Value),(us.zipIdx k).foldl (fun cs (c,j)=>cs.setIfInBounds (off+j) c) cs=(cs.toList.take (off+k)++us++cs.toList.drop (off+k+us.length)).toArray∨cs.size<off+k+us.length:=by
 intro us
 induction us with
 |nil=>intro k cs;left;simp
 |cons u us ih =>
  intro k cs
  by_cases hs:cs.size<off+k+(u::us).length
  ·right;exact hs
  ·left;simp only[List.zipIdx_cons,List.foldl_cons];rcases ih (k+1) (cs.setIfInBounds (off+k) u) with h|h
   ·rw[h];congr 1;have:=list_seg_step cs.toList (off+k) u us (by simp at hs ⊢;omega);simpa [Array.toList_setIfInBounds,Nat.add_assoc,Nat.add_comm,Nat.add_left_comm] using this
   ·simp at h hs;omega
end
end Go.Proofs.Ytbjgiioppmkpiaa.Rx

namespace Go.Proofs.Ytbjgiioppmkpiaa.Rx
open Go Go.RowKit
section
variable{P:Program}{cx:Cx}{I:In}{FF:Nat→List Nat}{ob:Ob}{w:World}{t:TypeId}{ti:TI}
theorem TIok.slice(h:TIok P t ti){e:TypeId}(hd:ti.d = .slice e):P.underlying t=some (.slice e):=by
 have:=h.fits;rw[hd]at this;have hu:=h.hd;cases hdd:h.d <;> rw[hdd]at this <;> simp[TD.fits]at this;rw[hdd]at hu;rw[hu,this]
theorem TIok.isInt(h:TIok P t ti){k:IntKind}(hd:ti.d = .int k):P.underlying t=some (.int k):=by
 have:=h.fits;rw[hd]at this;have hu:=h.hd;cases hdd:h.d <;> rw[hdd]at this <;> simp[TD.fits]at this;rw[hdd]at hu;rw[hu,this]
theorem TIok.isBool(h:TIok P t ti)(hd:ti.d = .bool):P.underlying t=some .bool:=by
 have:=h.fits;rw[hd]at this;have hu:=h.hd;cases hdd:h.d <;> rw[hdd]at this <;> simp[TD.fits]at this;rw[hdd]at hu;exact hu
theorem TIok.isStr(h:TIok P t ti)(hd:ti.d = .str):P.underlying t=some .string:=by
 have:=h.fits;rw[hd]at this;have hu:=h.hd;cases hdd:h.d <;> rw[hdd]at this <;> simp[TD.fits]at this;rw[hdd]at hu;exact hu
theorem yfm:Array.map (fun _:Nat=>(default:Value)) (Array.range 0) = #[]:=by apply Array.ext';simp
theorem zs1(size:Nat):∀ (vs:List Value) (k:Nat) (cells:Array Value),(∀ v∈vs,v.cells.toList.length=size)→(k+vs.length)*size≤cells.size →
  Instr.fill (fun i=>some (i*size,size)) cells ((vs.zipIdx k).map fun x=>(x.2,x.1))=some (cells.toList.take (k*size)++(vs.map (·.cells.toList)).flatten++cells.toList.drop ((k+vs.length)*size)).toArray
 | [],k,cells,_,_=>by simp[Instr.fill]
 |v::vs,k,cells,hv,hs=>by
  have h0:v.cells.size=size:=by simpa using hv v List.mem_cons_self
  have hs':k*size+size+vs.length*size≤cells.size:=by
   have:(k+(v::vs).length)*size=k*size+size+vs.length*size:=by simp[Nat.add_mul];omega
   omega
  simp only[List.zipIdx_cons,List.map_cons,Instr.fill,h0];rw[if_neg (by simp;omega)];have hf:=zpd (k*size) v.cells.toList 0 cells;rcases hf with hf|hf
  ·have e1:Array.foldl (fun cs x=>cs.setIfInBounds (k*size+x.2) x.1) cells (v.cells.zipIdx)=List.foldl (fun cs x=>cs.setIfInBounds (k*size+x.2) x.1) cells (v.cells.toList.zipIdx 0):=by
    rw[← Array.foldl_toList];simp
   have e2:=e1.trans hf;rw[e2];rw[zs1 size vs (k+1) _ (fun v' hv'=>hv v' (List.mem_cons_of_mem _ hv')) (by simp[h0,Nat.add_mul];omega)];congr 2;simp only[Nat.add_zero,List.toList_toArray];have hlen:(List.take (k*size) cells.toList++v.cells.toList).length=(k+1)*size:=by simp[h0,Nat.add_mul];omega
   have hvl:v.cells.toList.length=size:=by simp[h0]
   rw[← hlen,List.take_left' (by simp)];have:(k+1+vs.length)*size=(List.take (k*size) cells.toList++v.cells.toList).length+vs.length*size:=by rw[hlen,Nat.add_mul]
   rw[this,List.drop_append,List.drop_eq_nil_of_le (by omega),List.nil_append,List.drop_drop];simp only[List.map_cons,List.flatten_cons,List.append_assoc,hvl,h0];congr 3;congr 1;simp[Nat.add_mul,h0];omega
  ·simp[h0]at hf;omega
theorem zki{ob:Ob}:∀ {ps:List (Nat×AV)} {qs:List (Nat×Value)} {i:Nat} {css:List (List SV)},zhj i ps=some css→F2 (fun p q=>p.1=q.1∧RelA cx I ob p.2 q.2) ps qs →
  ∃ vs:List Value,qs=(vs.zipIdx i).map (fun x=>(x.2,x.1))∧F2 (F2 (RelS cx I ob)) css (vs.map (·.cells.toList))∧vs.length=css.length
 | [],[],i,css,h,_=>by
  injection h with h;subst h
  exact⟨[],rfl,trivial,rfl⟩
 |(j,a)::ps,(j',v)::qs,i,css,h,hr=>by
  simp only[zhj]at h;split at h
  ·rename_i cs css' hj hcs hcss;injection h with h;subst h
   obtain⟨vs,hq,hf,hl⟩:=zki hcss hr.2;have hj':j=i:=by simpa using hj
   have:=hr.1.1;simp only at this;subst this;subst hj';refine⟨v::vs,by simp[hq],⟨zed hcs hr.1.2,hf⟩,by simp[hl]⟩
  ·cases h
 | [],_::_,_,_,_,h=>h.elim
 |_::_,[],_,_,_,h=>h.elim
theorem zlt{e:TypeId}{tie:TI}{T:Ty}(hT:P.underlying t=some (.slice e))(hE:TIok P e tie)(hty:tie.ty=some T)(h:RelH cx I FF ob w){n:Nat}{parts:List (Nat×AV)}{qs:Array (Nat×Value)}
  (hq:F2 (fun p q=>p.1=q.1∧RelA cx I ob p.2 q.2) parts qs.toList) {css:List (List SV)} (hp:zhj 0 parts=some css) {d:Nat} {av:AV} {ups:List (Nat×Ent)} {lg:List Nat}
  (he:(zcg e T n css d ob).ev=some ((av,ups),lg)):Did P cx I ob w ((Instr.buildSlice t n qs).run P w) av ups:=by
 unfold zcg at he
 cases hc:(css.length == n&&Nat.ble (n*T.sz) 16777216) with
 |false=>simp only[hc]at he;exact(M.ev_fail (ob:=ob) he).elim
 |true =>
 simp only[hc]at he;simp only[Bool.and_eq_true]at hc;have hn:css.length=n:=by simpa using hc.1
 have hsmall:=Nat.le_of_ble_eq_true hc.2;obtain⟨_,l1,l2,he1,he2,rfl⟩:=M.ev_bind he;have hd:=M.ev_free he1;obtain⟨⟨xs,cons⟩,l3,l4,he3,he4,rfl⟩:=M.ev_bind he2;simp only at he4
 cases hany:cons.any (fun u=>u.1 == d) with
 |true=>simp only[hany]at he4;exact(M.ev_fail (ob:=ob) he4).elim
 |false =>
 simp only[hany]at he4;have hpu:=M.ev_pure (ob:=ob) he4;injection hpu with e1 e2
 subst e1;subst e2
 have hno:∀ u∈cons,u.1≠d:=by
  intro u hu e;have:=List.any_eq_false.1 hany u hu;simp[e]at this
 obtain⟨vs,hqs,hcv,hvl⟩:=zki hp hq;obtain⟨FF1,H,F,h1,x1,hre,hnd,hhole,hm,hsub,hoth,_⟩:=zkx (cons:=[]) h hcv (Ext.refl I ob) he3;simp only at h1 x1 hre hoth;obtain⟨htsz,htz⟩:=hE.ty T hty;have hpos:=T.sz_pos
 have hcsz:∀ v∈vs,v.cells.toList.length=T.sz:=by
  intro v hv;have hre':=hre;clear hqs hq hvl
  -- each element has its size
  have key:∀ (vss:List (List Value)) (css:List (List SV)) (cons0:List (Nat×Ent)) (r:List T.den×List (Nat×Ent)) (lg:List Nat),F2 (F2 (RelS cx I ob)) css vss→(zhr T css cons0 ob).ev=some (r,lg)→∀ us∈vss,us.length=T.sz:=by
   intro vss
   induction vss with
   |nil=>intro _ _ _ _ _ _ us hus;cases hus
   |cons us0 vss ih =>
    intro css cons0 r lg hf hev us hus
    cases css with
    |nil=>exact hf.elim
    |cons cs css =>
     obtain⟨⟨ls,c1⟩,_,_,hv1,hv2,_⟩:=M.ev_bind hev;simp only at hv2
     cases hx:za0 T ls with
     |none=>simp only[hx]at hv2;exact(M.ev_fail (ob:=ob) hv2).elim
     |some y =>
      simp only[hx]at hv2;obtain⟨rr,_,_,hv3,_,_⟩:=M.ev_bind hv2;rcases List.mem_cons.1 hus with rfl|hus
      ·have hl:ls.length=cs.length:=by
        have:∀ (ss:List SV) (c0:List (Nat×Ent)) (r:List LS×List (Nat×Ent)) (lg:List Nat),(resM ss c0 ob).ev=some (r,lg)→r.1.length=ss.length:=by
         intro ss
         induction ss with
         |nil=>intro c0 r lg h;have:=M.ev_pure (ob:=ob) h;subst this;rfl
         |cons s ss ih =>
          intro c0 r lg h;obtain⟨a,_,_,_,h2,_⟩:=M.ev_bind h;obtain⟨b,_,_,h3,h4,_⟩:=M.ev_bind h2;have:=M.ev_pure (ob:=ob) h4;subst this;simp[ih _ _ _ h3]
        exact this _ _ _ _ hv1
       rw[← hf.1.len,← hl];unfold za0 at hx;split at hx
       ·rename_i hq;simpa using hq
       ·cases hx
      ·exact ih css _ rr _ hf.2 hv3 us hus
  exact key _ _ _ _ _ hcv he3 _ (List.mem_map.2 ⟨v,hv,rfl⟩)
 have hlen:vs.length=n:=by rw[hvl,hn]
 have hxl:xs.length=n:=by
  have h3:=hre.len
  have h4:((vs.map (·.cells.toList)).flatten).length=vs.length*T.sz:=by
   clear hqs hq hvl hlen hre h3 hcv
   induction vs with
   |nil=>simp
   |cons v vs ih =>
    simp only[List.map_cons,List.flatten_cons,List.length_append,List.length_cons,Nat.add_mul,Nat.one_mul];rw[ih (fun v' hv'=>hcsz v' (List.mem_cons_of_mem _ hv')),hcsz v List.mem_cons_self];omega
  rw[h4,hlen]at h3;exact(Nat.eq_of_mul_eq_mul_right hpos h3).symm
 have hsz:hE.i.size=T.sz:=by rw[hE.size,htsz]
 let cells:Array Value:=(vs.map (·.cells.toList)).flatten.toArray
 have hrun:(Instr.buildSlice t n qs).run P w = .ok (.slice (some ⟨w.heap.size,0,none⟩) n n) (w.alloc (.cells cells e)):=by
  have hfill:∀ (z:Array Value),Instr.fill (fun i=>some (i*T.sz,T.sz)) ((Array.range (n*T.sz)).map (fun i=>z[i % z.size]!)) qs.toList=some cells:=by
   intro z;rw[hqs,zs1 T.sz vs 0 _ hcsz (by simp[hlen])];simp[hlen,cells]
  have hb:¬ (16777216<n*T.sz):=by omega
  by_cases hz:n*T.sz=0
  ·have hn0:n=0:=by
    rcases Nat.mul_eq_zero.1 hz with h|h
    ·exact h
    ·omega
   have hv0:vs=[]:=List.eq_nil_of_length_eq_zero (by omega)
   have hq0:qs = #[]:=by
    apply Array.ext';rw[hqs,hv0];rfl
   have hc0:cells = #[]:=by simp[cells,hv0]
   rw[hc0];simp[Instr.buildSlice,run_underlying hT,sizeOf,typeInfo,hE.hi,hsz,hn0,hq0,newRow,Instr.fill];rw[yfm]
  ·have:=hfill hE.z.cells;simp[Instr.buildSlice,run_underlying hT,sizeOf,typeInfo,zeroValue,hE.hi,hE.hz,hsz,hb,hz,this,newRow]
 have hf:=h1.fresh;have hd1:ob.puts cons d=none:=by rw[Ob.puts_other hno];exact hd
 have h2:=h1.world (zbx w (.cells cells e) (fun _=>False)) (fun k hk=>hk.elim);have e2:ob.puts (cons++[(d,Ent.row ⟨e,T,xs⟩ 0 none)])=(ob.puts cons).put d (.row ⟨e,T,xs⟩ 0 none):=by rw[Ob.puts_append];rfl
 have hcells:cells.toList=(vs.map (·.cells.toList)).flatten:=by simp[cells]
 have fin:∃ H' F' A c,OwR (w.alloc (.cells cells e)) e T H' xs (.slice (some ⟨w.heap.size,0,none⟩) n n) F'∧(∀ p,(H' p).hole=false)∧F'.Nodup∧(∀ k∈F',k∈F∨k=w.heap.size)∧H' []=⟨A,c,xs.length,T.sz,false⟩∧Value.slice (some ⟨w.heap.size,0,none⟩) n n = .slice A xs.length c:=by
  by_cases hz:n=0
  ·subst hz;have hx0:xs=[]:=List.eq_nil_of_length_eq_zero hxl;subst hx0;exact⟨fun p=>match p with | []=>⟨some ⟨w.heap.size,0,none⟩,0,0,T.sz,false⟩|a::q=>H0 q,[],_,_,OwR.empty rfl,(fun p=>by cases p <;> rfl),List.nodup_nil,(fun k hk=>by cases hk),rfl,rfl⟩
  ·let Hn:Path→Hd:=fun p=>match p with | []=>⟨some ⟨w.heap.size,0,none⟩,n,n,T.sz,false⟩|a::q=>H (a::q)
   have hre2:RE (w.alloc (.cells cells e)) T Hn xs (vs.map (·.cells.toList)).flatten F :=
    (hre.frame (fun k hk=>Below.heap_alloc w _ k (hm k hk).1.2.2)).imp (fun k x c f _ hr=>Ow.hd T (fun j _ _ p=>rfl) hr)
   have hl:=OwR.laid (b:=0) (cap:=n) hre2 (.old (heap_alloc_new w _)) hz (by omega) (by simp only [maxLen]; have:=Nat.le_mul_of_pos_right n hpos; omega) (by
    have:=hre.len;rw[← hcells,hxl]at this;simp at this
    omega) (by
    rw[hcells,List.drop_zero];have:=hre.len
    rw[List.take_of_length_le (by omega)]) (by simp[Hn,hxl])
   rw[hxl]at hl;refine⟨Hn,_,some ⟨w.heap.size,0,none⟩,n,hl,fun p=>?_,?_,fun k hk=>?_,by simp[Hn,hxl],by rw[hxl]⟩
   ·cases p with
    |nil=>rfl
    |cons a q=>exact hhole _ (by simp)
   ·rw[List.nodup_cons];exact⟨fun hk=>Nat.lt_irrefl _ (hm _ hk).1.2.2,hnd⟩
   ·rcases List.mem_cons.1 hk with rfl|hk
    ·exact .inr rfl
    ·exact .inl hk
 obtain⟨H',F',A,c,ho,hh,hn',hF',h0,hve⟩:=fin
 obtain ⟨I',FF',x,hr,hs⟩:=zhq h2 hd1 (r:=⟨e,T,xs⟩) ho hh hn' (fun k hk=>by
  rcases hF' k hk with hk|rfl
  ·exact⟨⟨(hm k hk).1.1,(hm k hk).1.2.1,by have:=(hm k hk).1.2.2;simp;omega⟩,(hm k hk).2.1⟩
  ·exact⟨⟨hf.1,hf.2.1,by simp⟩,hf.2.2⟩) h0 hve
 refine⟨_,_,I',FF',hrun,?_,?_,?_⟩
 ·rw[e2];exact x1.trans x
 ·rw[e2];exact hr
 ·rw[e2];exact hs
def zex(e:TypeId)(T:Ty)(bytes:Nat)(n:Int)(d:Nat):M (AV×List (Nat×Ent)) :=
 M.bind (M.test (decide (0≤n))) fun _=>M.bind (M.test (decide (n*bytes≤140737488355328))) fun _=>M.bind (M.free d) fun _ =>
  M.pure (.one (.ref d 0 [] none),[(d,.row ⟨e,T,List.replicate n.toNat T.dflt⟩ 0 none)])
theorem zs9{T:Ty}{zs:List Value}(hz:zs.map zk=T.zks.map some):∀ (n:Nat),RE w T (fun _=>⟨none,0,0,0,false⟩) (List.replicate n T.dflt) (List.replicate n zs).flatten []
 |0=>⟨rfl,rfl⟩
 |n+1=>by
  have ih:=zs9 hz n;rw[List.replicate_succ,List.replicate_succ];refine⟨zs,_,[],[],rfl,rfl,zli T hz,?_⟩;exact RL.unshift (d:=1) (i:=0) (R:=fun k x cs F=>Ow w T (fun c p=>⟨none,0,0,0,false⟩) 0 x cs F) ih
theorem ztb(z:Array Value)(hz:0<z.size):∀ n:Nat,((Array.range (n*z.size)).map (fun i=>z[i % z.size]!)).toList=(List.replicate n z.toList).flatten:=by
 intro n;apply List.ext_getElem?;intro j;have hl:((List.replicate n z.toList).flatten).length=n*z.size:=by simp
 simp only[Array.toList_map,Array.toList_range,List.getElem?_map]
 by_cases hj:j<n*z.size
 ·have hm:j % z.size<z.size:=Nat.mod_lt _ hz;rw[List.getElem?_range hj];simp only[Option.map_some]
  have key:∀ (n j:Nat),j<n*z.size→((List.replicate n z.toList).flatten)[j]? = z.toList[j % z.size]?:=by
   intro n
   induction n with
   |zero=>intro j hj;simp at hj
   |succ n ih =>
    intro j hj;rw[List.replicate_succ,List.flatten_cons]
    by_cases h1:j<z.size
    ·rw[List.getElem?_append_left (by simpa using h1),Nat.mod_eq_of_lt h1]
    ·rw[List.getElem?_append_right (by simpa using h1)];have hl:z.toList.length=z.size:=by simp
     rw[hl,ih (j - z.size) (by rw[Nat.succ_mul]at hj;omega)];congr 1;exact(Nat.mod_eq_sub_mod (by omega)).symm
  rw[key n j hj];have:z[j % z.size]! = z[j % z.size]:=getElem!_pos z _ hm;rw[this];simp[hm]
 ·rw[List.getElem?_eq_none (by simpa using hj),List.getElem?_eq_none (by omega)];rfl
theorem znl{e:TypeId}{tie:TI}{T:Ty}(hT:P.underlying t=some (.slice e))(hE:TIok P e tie)(hty:tie.ty=some T)(hby:0<tie.bytes)(h:RelH cx I FF ob w){n:Int}{k:IntKind}{d:Nat}{av:AV}{ups:List (Nat×Ent)}{lg:List Nat}
  (he:(zex e T tie.bytes n d ob).ev=some ((av,ups),lg)):Did P cx I ob w ((Instr.makeSlice t (.int k n) (.int k n)).run P w) av ups:=by
 obtain⟨_,l1,l2,he1,he2,rfl⟩:=M.ev_bind he;have hn0:0≤n:=by simpa using M.ev_test he1
 obtain⟨_,l3,l4,he3,he4,rfl⟩:=M.ev_bind he2;have hnb:n*(tie.bytes:Int)≤140737488355328:=by simpa using M.ev_test he3
 obtain⟨_,l5,l6,he5,he6,rfl⟩:=M.ev_bind he4;have hd:=M.ev_free he5;have hpu:=M.ev_pure (ob:=ob) he6;injection hpu with e1 e2
 subst e1;subst e2;obtain⟨m,rfl⟩:∃ m:Nat,n=m:=⟨n.toNat,by omega⟩
 have hmb:m*tie.bytes≤140737488355328:=by
  have h3:((m*tie.bytes:Nat):Int)≤140737488355328:=by rw[Int.natCast_mul];exact hnb
  omega
 have hm:m≤140737488355328:=Nat.le_trans (Nat.le_mul_of_pos_right m hby) hmb;obtain⟨htsz,htz⟩:=hE.ty T hty;have hpos:=T.sz_pos;have hsz:hE.i.size=T.sz:=by rw[hE.size,htsz]
 have hzs:hE.z.cells.size=T.sz:=by
  have:=congrArg List.length hE.zs;simp at this;rw[this,← htz];clear this
  have:∀ T:Ty,T.zks.length=T.sz:=by
   intro T
   induction T with
   |pair a b iha ihb=>simp[Ty.zks,Ty.sz,iha,ihb]
   |_=>rfl
  exact this T
 have hwrap:IntKind.i64.wrap (m:Int)=m:=by
  exact IntWalk.i64_in _ (by omega)
 let cells:Array Value:=((List.replicate m hE.z.cells.toList).flatten).toArray
 have hrun:(Instr.makeSlice t (.int k m) (.int k m)).run P w = .ok (.slice (some ⟨w.heap.size,0,none⟩) m m) (w.alloc (.cells cells e)):=by
  have hbig:¬ ((281474976710656:Int)<(hE.i.bytes:Int)*m):=by
   rw[hE.bytes];have:((tie.bytes:Int)*m)=((m*tie.bytes:Nat):Int):=by rw[Nat.mul_comm];simp
   omega
  by_cases hz:m*T.sz=0
  ·have hm0:m=0:=by
    rcases Nat.mul_eq_zero.1 hz with h|h
    ·exact h
    ·omega
   subst hm0;have:IntKind.i64.wrap 0=0:=rfl;simp[Instr.makeSlice,run_underlying hT,asInt,asIntOf,sizeOf,typeInfo,hE.hi,hsz,this,newRow,cells];rw[yfm]
  ·have hneg:¬ ((m:Int)<0):=by omega
   have hz2:¬ (m=0∨T.sz=0):=by
    intro hh;rcases hh with hh|hh
    ·exact hz (by rw[hh];simp)
    ·exact hz (by rw[hh];simp)
   have hzf:=ztb hE.z.cells (by omega) m;rw[hzs]at hzf
   have hzf':(Array.range (m*T.sz)).map (fun i=>hE.z.cells[i % T.sz]!)=cells:=by
    apply Array.ext';rw[hzf]
   simp[Instr.makeSlice,run_underlying hT,asInt,asIntOf,sizeOf,typeInfo,zeroValue,hE.hi,hE.hz,hsz,hwrap,hbig,hz2,newRow,hzs,hzf',hneg,Int.toNat_natCast];intro h;exact absurd h hz
 have hf:=h.fresh;have h2:=h.world (zbx w (.cells cells e) (fun _=>False)) (fun k hk=>hk.elim);have hzl:hE.z.cells.toList.map zk=T.zks.map some:=by rw[hE.zs,htz]
 have fin:∃ H' F' A c,OwR (w.alloc (.cells cells e)) e T H' (List.replicate m T.dflt) (.slice (some ⟨w.heap.size,0,none⟩) m m) F'∧(∀ p,(H' p).hole=false)∧F'.Nodup∧(∀ k∈F',k=w.heap.size)∧H' []=⟨A,c,(List.replicate m T.dflt).length,T.sz,false⟩∧Value.slice (some ⟨w.heap.size,0,none⟩) m m = .slice A (List.replicate m T.dflt).length c:=by
  by_cases hz:m=0
  ·subst hz;exact⟨fun p=>match p with | []=>⟨some ⟨w.heap.size,0,none⟩,0,0,T.sz,false⟩|a::q=>H0 q,[],_,_,OwR.empty rfl,(fun p=>by cases p <;> rfl),List.nodup_nil,(fun k hk=>by cases hk),rfl,rfl⟩
  ·let Hn:Path→Hd:=fun p=>match p with | []=>⟨some ⟨w.heap.size,0,none⟩,m,m,T.sz,false⟩|a::q=>⟨none,0,0,0,false⟩
   have hre:=zs9 (w:=w.alloc (.cells cells e)) hzl m;have hre2:RE (w.alloc (.cells cells e)) T Hn (List.replicate m T.dflt) (List.replicate m hE.z.cells.toList).flatten []:=hre.imp (fun k x c f _ hr=>Ow.hd T (fun j _ _ p=>rfl) hr);have hcl:cells.size=m*T.sz:=by simp[cells,hzs]
   have hl:=OwR.laid (b:=0) (cap:=m) hre2 (.old (heap_alloc_new w _)) hz (by simp) (by simp only [maxLen]; omega) (by omega) (by
    simp only[cells,List.toList_toArray,List.drop_zero,List.length_replicate]
    rw[List.take_of_length_le (by simp[hzs])]) (by simp[Hn])
   simp only[List.length_replicate]at hl;refine⟨Hn,_,some ⟨w.heap.size,0,none⟩,m,hl,fun p=>?_,by simp,fun k hk=>by simpa using hk,by simp[Hn],by simp⟩;cases p <;> rfl
 obtain⟨H',F',A,c,ho,hh,hn',hF',h0,hve⟩:=fin
 obtain ⟨I',FF',x,hr,hs⟩:=zhq h2 hd (r:=⟨e,T,List.replicate m T.dflt⟩) ho hh hn' (fun k hk=>by
  have:=hF' k hk;subst this
  exact⟨⟨hf.1,hf.2.1,by simp⟩,hf.2.2⟩) h0 hve
 exact⟨_,_,I',FF',hrun,x,hr,hs⟩
end
end Go.Proofs.Ytbjgiioppmkpiaa.Rx

namespace Go.Proofs.Ytbjgiioppmkpiaa.Rx
open Go Go.RowKit
def Ty.flat:Ty→Bool
 | .row _ _=>false
 | .pair a b=>a.flat&&b.flat
 |_=>true
section
variable{P:Program}{cx:Cx}{I:In}{FF:Nat→List Nat}{ob:Ob}{w:World}{t:TypeId}{ti:TI}
theorem Ow.flat{w w':World}:∀ (T:Ty) {H H':Nat→Path→Hd} {c c':Nat} {x:T.den} {cs:List Value} {F:List Nat},T.flat=true→Ow w T H c x cs F→F=[]∧Ow w' T H' c' x cs []
 | .int _,_,_,_,_,_,_,_,_,h=>⟨h.2,h.1,rfl⟩
 | .bool,_,_,_,_,_,_,_,_,h=>⟨h.2,h.1,rfl⟩
 | .str,_,_,_,_,_,_,_,_,h=>⟨h.2,h.1,rfl⟩
 | .row _ _,_,_,_,_,_,_,_,hf,_=>by cases hf
 | .pair a b,H,H',c,c',x,cs,F,hf,h=>by
  simp only[Ty.flat,Bool.and_eq_true]at hf;obtain⟨c1,c2,F1,F2,rfl,rfl,h1,h2⟩:=h;obtain⟨e1,h3⟩:=Ow.flat (w':=w') (H':=H') (c':=c') a hf.1 h1;obtain⟨e2,h4⟩:=Ow.flat (w':=w') (H':=H') (c':=c'+a.sz) b hf.2 h2;exact⟨by rw[e1,e2];rfl,c1,c2,[],[],rfl,rfl,h3,h4⟩
theorem Cn.flat{w w':World}{Z:Nat→Prop}:∀ (T:Ty) {H':Nat→Path→Hd} {c':Nat} {x:T.den} {cs:List Value},T.flat=true→Cn w Z T x cs→Ow w' T H' c' x cs []
 | .int _,_,_,_,_,_,h=>⟨h,rfl⟩
 | .bool,_,_,_,_,_,h=>⟨h,rfl⟩
 | .str,_,_,_,_,_,h=>⟨h,rfl⟩
 | .row _ _,_,_,_,_,hf,_=>by cases hf
 | .pair a b,H',c',x,cs,hf,h=>by
  simp only[Ty.flat,Bool.and_eq_true]at hf;obtain⟨c1,c2,rfl,h1,h2⟩:=h;exact⟨c1,c2,[],[],rfl,rfl,Cn.flat a hf.1 h1,Cn.flat b hf.2 h2⟩
theorem RL.bare{α:Type}{R R':Nat→α→List Value→List Nat→Prop}(hr:∀ k x c f,R k x c f→R' k x c []):∀ {i:Nat} {xs:List α} {cs:List Value} {F:List Nat},RL R i xs cs F→RL R' i xs cs []
 |_,[],_,_,h=>⟨h.1,rfl⟩
 |_,_::_,_,_,h=>by
  obtain⟨c1,c2,F1,F2,rfl,rfl,h1,h2⟩:=h;exact⟨c1,c2,[],[],rfl,rfl,hr _ _ _ _ h1,RL.bare hr h2⟩
theorem RE.flat{w w':World}{T:Ty}{H H':Path→Hd}(hf:T.flat=true){xs:List T.den}{us:List Value}{F:List Nat}(h:RE w T H xs us F):RE w' T H' xs us [] :=
 RL.bare (R:=fun i x cs F=>Ow w T (fun c' p=>H ((i,c')::p)) 0 x cs F) (R':=fun i x cs F=>Ow w' T (fun c' p=>H' ((i,c')::p)) 0 x cs F) (fun _ _ _ _ h=>(Ow.flat T hf h).2) h
theorem CnR.elems{w w':World}{Z:Nat→Prop}{T:Ty}{H':Path→Hd}(hf:T.flat=true){xs:List T.den}{v:Value}(h:CnR w Z T xs v) :
  ∃ A c us,v = .slice A xs.length c∧xs.length≤c∧RE w' T H' xs us []∧zlh w A us∧(A=none→us=[]):=by
 obtain⟨A,cap,rfl,h1,h2,h3,h4⟩:=h;rcases h3 with h3|⟨g,b,cells,q,fz,rfl,hz,hg,hs,hl⟩
 ·subst h3;exact⟨A,cap,[],rfl,h1,⟨rfl,rfl⟩,.inl rfl,fun _=>rfl⟩
 ·refine⟨some ⟨g,b,none⟩,cap,(cells.toList.drop b).take (xs.length*T.sz),rfl,h1,?_,.inr ⟨_,rfl,fun j u hu=>?_⟩,(fun h=>by cases h)⟩
  ·exact hl.imp (fun k x c f _ h=>by rw[h.2];exact Cn.flat T hf h.1)
  ·rw[zbu,cell_of_row w g (b+j) cells q fz hg];simp only[List.getElem?_take,List.getElem?_drop]at hu;split at hu
   ·simpa using hu
   ·cases hu
def zuo(e:TypeId)(T:Ty):SV→M (List T.den×List (Nat×Ent))
 | .nil=>M.pure ([],[])
 | .ref o v [] vw=>M.bind (res1 (.ref o v [] vw) []) fun lc=>(match lc.1 with
  | .rw r=>(match r.e == e,zaq r T with|true,some xs=>M.pure (xs,lc.2)|_,_=>M.fail)
  |_=>M.fail)
 |_=>M.fail
def aAdd(e:TypeId)(T:Ty)(s:SV)(cons:List (Nat×Ent)):M (List T.den×List (Nat×Ent)) :=
 match s with
 | .nil=>M.pure ([],cons)
 | .con r=>(match T.flat,zaq r T with|true,some xs=>M.pure (xs,cons)|_,_=>M.fail)
 | .ref o v [] vw=>M.bind (res1 (.ref o v [] vw) cons) fun lc=>(match lc.1 with
  | .rw r=>(match zaq r T with|some xs=>M.pure (xs,lc.2)|none=>M.fail)
  |_=>M.fail)
 | .ref o v (a :: p) vw=>(match cons.any (fun c=>c.1 == o) with
  |true=>M.fail
  | false=>(match T.flat with
   |true=>M.bind (M.get o) fun
    | .row r cur none=>(match v == cur,zbe (a :: p) r with
     |true,some r'=>(match zaq r' T with|some xs=>M.pure (zfd xs vw,cons)|none=>M.fail)
     |_,_=>M.fail)
    |_=>M.fail
   |false=>M.fail))
 |_=>M.fail
def zlg(e:TypeId)(T:Ty)(bytes o v:Nat)(p:Path)(x:SV):M (AV×List (Nat×Ent)) :=
 M.bind (M.get o) fun
  | .row r cur none=>(match Nat.beq v cur&&(T.flat&&!Nat.beq r.e e),zbe p r with
   | true,some r'=>(match Nat.beq r'.e e,zaq r' T with
    | true,some xs=>M.bind (aAdd e T x []) fun ac=>M.bind (M.test (decide ((xs.length + ac.1.length) * bytes≤140737488355328))) fun _=>(match ac.2.any (fun u=>u.1 == o) with
     |true=>M.fail
     |false=>M.pure (.one (.ref o (cur+1) [] none),ac.2++[(o,.mid r cur ⟨e,T,xs++ac.1⟩)]))
    |_,_=>M.fail)
   |_,_=>M.fail)
  |_=>M.fail
def zjh(e:TypeId)(T:Ty)(bytes:Nat)(s x:SV)(d:Nat):M (AV×List (Nat×Ent)) :=
 M.bind (zuo e T s) fun bc=>M.bind (aAdd e T x bc.2) fun ac =>
  M.bind (M.test (decide ((bc.1.length + ac.1.length) * bytes≤140737488355328))) fun _=>M.bind (M.free d) fun _=>(match ac.2.any (fun u=>u.1 == d) with
   |true=>M.fail
   |false=>M.pure (.one (.ref d 0 [] none),ac.2++[(d,.row ⟨e,T,bc.1++ac.1⟩ 0 none)]))
def zlf(e:TypeId)(T:Ty)(bytes:Nat)(s x:SV)(d:Nat):M (AV×List (Nat×Ent)) :=
 match s with
 | .ref o v (a::p) none=>zlg e T bytes o v (a::p) x
 |s=>zjh e T bytes s x d
theorem zay{r:Rw}{T:Ty}{xs:List T.den}(h:zaq r T=some xs):r=⟨r.e,T,xs⟩:=by
 obtain⟨e,t,ys⟩:=r;unfold zaq at h;split at h
 ·rename_i ht;simp only at ht;subst ht;injection h with h
  subst h;rfl
 ·cases h
theorem zs4{e:TypeId}{T:Ty}(h:RelH cx I FF ob w){s:SV}{v:Value}(hs:RelS cx I ob s v){r:List T.den×List (Nat×Ent)}{lg:List Nat}(he:(zuo e T s ob).ev=some (r,lg)) :
  ∃ FF' H F,RelH cx I FF' (ob.puts r.2) w∧Ext I ob I (ob.puts r.2)∧OwR w e T H r.1 v F∧F.Nodup∧(∀ p,(H p).hole=false) ∧
   (∀ k∈F,(¬ cx.Z k∧(cx.D0 k∨cx.w0.heap.size≤k)∧k<w.heap.size)∧(∀ o,k∉FF' o)):=by
 cases s with
 |nil =>
  have:=M.ev_pure (ob:=ob) he;subst this;have hv:v = .slice none 0 0:=hs;subst hv;refine⟨FF,fun p=>match p with | []=>⟨none,0,0,T.sz,false⟩|a::q=>H0 q,[],h,Ext.refl I ob,OwR.empty rfl,List.nodup_nil,(fun p=>by cases p <;> rfl),(fun k hk=>by cases hk)⟩
 |ref o ver p vw =>
  cases p with
  |cons a p=>exact(M.ev_fail (ob:=ob) he).elim
  |nil =>
   simp only[zuo]at he;obtain⟨⟨l,cons⟩,l1,l2,he1,he2,rfl⟩:=M.ev_bind he;obtain⟨FF',H,F,h1,x1,hl,hn,hh,hm,_,_,_⟩:=zi6 (cons:=[]) h hs (Ext.refl I ob) he1;simp only at he2 h1 x1 hl
   cases l with
   |rw q =>
    simp only at he2
    cases hq:(q.e == e) with
    |false=>simp only[hq]at he2;exact(M.ev_fail (ob:=ob) he2).elim
    |true =>
     cases hc:zaq q T with
     |none=>simp only[hq,hc]at he2;exact(M.ev_fail (ob:=ob) he2).elim
     |some xs =>
      simp only[hq,hc]at he2;have:=M.ev_pure (ob:=ob) he2;subst this;have hqe:q.e=e:=by simpa using hq
      have hqq:=zay hc;rw[hqe]at hqq;subst hqq;exact⟨FF',H,F,h1,x1,hl,hn,hh,fun k hk=>⟨(hm k hk).1,(hm k hk).2.1⟩⟩
   |_=>simp only at he2;exact(M.ev_fail (ob:=ob) he2).elim
 |_=>exact(M.ev_fail (ob:=ob) he).elim
theorem zrh{e:TypeId}{T:Ty}{s:SV}{v:Value}{cons:List (Nat×Ent)}(h:RelH cx I FF (ob.puts cons) w)(hs:RelS cx I ob s v)(x:Ext I ob I (ob.puts cons)){r:List T.den×List (Nat×Ent)}{lg:List Nat}
  (he:(aAdd e T s cons ob).ev=some (r,lg)) :
  ∃ FF' H G X c us,RelH cx I FF' (ob.puts r.2) w∧Ext I ob I (ob.puts r.2)∧v = .slice X r.1.length c∧RE w T H r.1 us G∧zlh w X us∧(X=none→us=[])∧G.Nodup∧(∀ p,p≠[]→(H p).hole=false) ∧
   (∀ k∈G,(¬ cx.Z k∧(cx.D0 k∨cx.w0.heap.size≤k)∧k<w.heap.size)∧(∀ o,k∉FF' o)∧∃ o,k∈FF o)∧(∀ o k,k∈FF' o→k∈FF o):=by
 cases s with
 |nil =>
  have:=M.ev_pure (ob:=ob) he;subst this;have hv:v = .slice none 0 0:=hs;subst hv;exact⟨FF,H0,[],none,0,[],h,x,rfl,⟨rfl,rfl⟩,.inl rfl,fun _=>rfl,List.nodup_nil,fun _ _=>rfl,(fun k hk=>by cases hk),fun _ _ h=>h⟩
 |con q =>
  simp only[aAdd]at he
  cases hf:T.flat with
  |false=>simp only[hf]at he;exact(M.ev_fail (ob:=ob) he).elim
  |true =>
   cases hc:zaq q T with
   |none=>simp only[hf,hc]at he;exact(M.ev_fail (ob:=ob) he).elim
   |some xs =>
    simp only[hf,hc]at he;have:=M.ev_pure (ob:=ob) he;subst this;have hqq:=zay hc;have hs':CnR cx.w0 cx.Z q.t q.xs v:=hs
    have hs2:CnR w cx.Z T xs v:=by
     rw[hqq]at hs';exact CnR.imp (fun k hk=>⟨hk,h.kp.block k (h.zone k hk).1 (h.zone k hk).2⟩) hs'
    obtain⟨A,c,us,rfl,hle,hre,hr,hA⟩:=hs2.elems (w':=w) (H':=H0) hf;exact⟨FF,H0,[],A,c,us,h,x,rfl,hre,hr,hA,List.nodup_nil,fun _ _=>rfl,(fun k hk=>by cases hk),fun _ _ h=>h⟩
 |ref o ver p vw =>
  cases p with
  |nil =>
   simp only[aAdd]at he;obtain⟨⟨l,cons'⟩,l1,l2,he1,he2,rfl⟩:=M.ev_bind he;obtain⟨FF',H,F,h1,x1,hl,hn,hh,hm,hsub,_,_⟩:=zi6 h hs x he1;simp only at he2 h1 x1 hl
   cases l with
   |rw q =>
    simp only at he2
    cases hc:zaq q T with
    |none=>simp only[hc]at he2;exact(M.ev_fail (ob:=ob) he2).elim
    |some xs =>
     simp only[hc]at he2;have:=M.ev_pure (ob:=ob) he2;subst this;have hqq:=zay hc;have hl':OwR w q.e q.t H q.xs v F:=hl;rw[hqq]at hl';obtain⟨us,F1,rfl,hlen,_,_,hre,hr,hA,hsb,_,hnd,_,_⟩:=OwR.elems hl' (hh []);simp only at hlen;refine⟨FF',H,F1,(H []).A,(H []).cap,us,h1,x1,by rw[hlen],hre,hr,hA,hnd hn,fun p _=>hh p,fun k hk=>?_,hsub⟩;obtain⟨h3,h4,h5⟩:=hm k (hsb k hk);exact⟨h3,h4,h5⟩
   |_=>simp only at he2;exact(M.ev_fail (ob:=ob) he2).elim
  |cons a p =>
   simp only[aAdd]at he
   cases hany:cons.any (fun c=>c.1 == o) with
   |true=>simp only[hany]at he;exact(M.ev_fail (ob:=ob) he).elim
   |false =>
    cases hf:T.flat with
    |false=>simp only[hany,hf]at he;exact(M.ev_fail (ob:=ob) he).elim
    |true =>
     simp only[hany,hf]at he;obtain⟨en,l1,l2,he1,he2,rfl⟩:=M.ev_bind he;have hob:=M.ev_get he1
     cases en with
     |box cs=>exact(M.ev_fail (ob:=ob) he2).elim
     |dead vv=>exact(M.ev_fail (ob:=ob) he2).elim
     |iter _ _=>exact(M.ev_fail (ob:=ob) he2).elim
     |map _=>exact(M.ev_fail (ob:=ob) he2).elim
     |grp _ _ _=>exact(M.ev_fail (ob:=ob) he2).elim
     |lit _ _=>exact(M.ev_fail (ob:=ob) he2).elim
     |mit _ _ _=>exact(M.ev_fail (ob:=ob) he2).elim
     |gh _=>exact(M.ev_fail (ob:=ob) he2).elim
     |half _ _ _=>exact(M.ev_fail (ob:=ob) he2).elim
     |ro _=>exact(M.ev_fail (ob:=ob) he2).elim
     |mid _ _ _=>exact(M.ev_fail (ob:=ob) he2).elim
     |rv _ _=>exact(M.ev_fail (ob:=ob) he2).elim
     |row r0 cur hole =>
      cases hole with
      |some q=>exact(M.ev_fail (ob:=ob) he2).elim
      |none =>
       simp only at he2
       cases hv:(ver == cur) with
       |false=>simp only[hv]at he2;exact(M.ev_fail (ob:=ob) he2).elim
       |true =>
        cases hr':zbe (a::p) r0 with
        |none=>simp only[hv,hr']at he2;exact(M.ev_fail (ob:=ob) he2).elim
        |some r' =>
         simp only[hv,hr']at he2
         cases hc:zaq r' T with
         |none=>simp only[hc]at he2;exact(M.ev_fail (ob:=ob) he2).elim
         |some xs =>
          simp only[hc]at he2;have:=M.ev_pure (ob:=ob) he2;subst this;have hver:ver=cur:=by simpa using hv
          subst hver
          have hno:∀ u∈cons,u.1≠o:=by
           intro u hu e;have:=List.any_eq_false.1 hany u hu;simp[e]at this
          have hob':ob.puts cons o=some (.row r0 ver none):=by rw[Ob.puts_other hno];exact hob
          obtain⟨⟨v0,ho⟩,hroot,hhole,_⟩:=h.rel o _ hob'
          have hnoh:∀ q,(I o ver q).hole=false:=by
           intro q
           cases hq:(I o ver q).hole with
           |false=>rfl
           |true=>exact absurd (hhole q hq) (by simp)
          obtain⟨_,hpv,off,len,hvw,hol,A,c,rfl,hlc,hcm,hex,hcc⟩:=hs;obtain⟨v',Fa,F',Fb,hF,ho',_⟩:=ho.focus (a::p) (h.nd o) (zbz hpv (fun q _=>hnoh q)) hr';have e0:(a::p)++[]=a::p:=List.append_nil _;have hqq:=zay hc;rw[hqq]at ho'
          have hlen:xs.length=(I o ver (a::p)).len:=by
           unfold OwR OwRow at ho';simp only[e0]at ho';rw[if_neg (by simp[hnoh])]at ho';exact ho'.2.1
          have hcnd:c=0∧len=0∨(c+off=(I o ver (a::p)).cap∧∃ g b,(I o ver (a::p)).A=some ⟨g,b,none⟩∧A=some ⟨g,b+off*T.sz,none⟩):=by
           rcases hcc with hcc|⟨hcc,g,b,hA,hA'⟩
           ·exact .inl ⟨hcc,by omega⟩
           ·by_cases hz:c=0
            ·exact .inl ⟨hz,by omega⟩
            ·refine .inr ⟨hcc,g,b,hA,?_⟩;rw[hA'];unfold OwR OwRow at ho';simp only[e0]at ho';rw[if_neg (by simp[hnoh])]at ho';rw[if_neg (by omega)]at ho';rw[ho'.2.2.2.2.1]
          obtain⟨F2,_,hview⟩:=ho'.view (H':=fun q=>match q with | []=>⟨A,c,len,T.sz,false⟩|(i,c')::p'=>I o ver ((a::p)++((i+off,c')::p'))) (by simp only[e0];exact hnoh _) (by simp only[e0];exact hol) (by simp only[e0];exact hcnd) hlc rfl (fun i c p=>rfl)
          have hxs:(xs.drop off).take len=zfd xs vw:=by
           cases vw with
           |none =>
            simp only[Option.getD_none,Prod.mk.injEq]at hvw;obtain⟨rfl,rfl⟩:=hvw;simp[zfd,← hlen]
           |some ol =>
            simp only[Option.getD_some]at hvw;subst hvw;rfl
          rw[hxs]at hview;obtain⟨us,F1,hve,hlen2,_,_,hre,hr,hA,_,_,_,_,_⟩:=OwR.elems hview rfl;simp only at hve hlen2 hr hA;refine⟨FF,H0,[],A,c,us,h,x,by rw[hlen2],hre.flat hf,hr,hA,List.nodup_nil,fun _ _=>rfl,(fun k hk=>by cases hk),fun _ _ h=>h⟩
 |_=>exact(M.ev_fail (ob:=ob) he).elim
theorem zrg{e:TypeId}{tie:TI}{T:Ty}{ty:TypeId}(hT:P.underlying t=some (.slice e))(hE:TIok P e tie)(hty:tie.ty=some T)(hby:0<tie.bytes)(h:RelH cx I FF ob w){s x:SV}{vs vx:Value}
  (hs:RelS cx I ob s vs) (hx:RelS cx I ob x vx) {d:Nat} {av:AV} {ups:List (Nat×Ent)} {lg:List Nat}
  (he:(zjh e T tie.bytes s x d ob).ev=some ((av,ups),lg)):Did P cx I ob w ((Builtin.append_ #[t,t] ty #[vs,vx]).run P w) av ups:=by
 obtain⟨⟨xs,c1⟩,l1,l2,he1,he2,rfl⟩:=M.ev_bind he;obtain⟨⟨ys,c2⟩,l3,l4,he3,he4,rfl⟩:=M.ev_bind he2;obtain⟨_,l5,l6,he5,he6,rfl⟩:=M.ev_bind he4;obtain⟨_,l7,l8,he7,he8,rfl⟩:=M.ev_bind he6;have hbd:(xs.length+ys.length)*tie.bytes≤140737488355328:=by simpa using M.ev_test he5
 have hd:=M.ev_free he7;simp only at he8
 cases hany:c2.any (fun u=>u.1 == d) with
 |true=>simp only[hany]at he8;exact(M.ev_fail (ob:=ob) he8).elim
 |false =>
 simp only[hany]at he8;have hpu:=M.ev_pure (ob:=ob) he8;injection hpu with e1 e2
 subst e1;subst e2
 have hno:∀ u∈c2,u.1≠d:=by
  intro u hu e;have:=List.any_eq_false.1 hany u hu;simp[e]at this
 obtain⟨FF1,H1,F,h1,x1,hb,hnF,hhF,hmF⟩:=zs4 h hs he1;simp only at h1 x1 hb;obtain⟨FF2,H2,G,X,cx',us,h2,x2,rfl,hre,hr,hX,hnG,hhG,hmG,hsub⟩:=zrh h1 hx x1 he3;simp only at h2 x2 hre
 have hdis:(F++G).Nodup:=by
  rw[List.nodup_append];refine⟨hnF,hnG,fun a ha b hb e=>?_⟩;subst e;obtain⟨_,_,o,ho⟩:=hmG a hb;exact(hmF a ha).2 o ho
 have hmx:xs.length+ys.length≤maxLen:=by
  have:=Nat.le_mul_of_pos_right (xs.length+ys.length) hby
  simp only[maxLen];omega
 obtain ⟨A,c,w',F',H',hrun,ho,hk,hnF',hF',hnew,hholes,hH'⟩:=zmu (P:=P) (ty:=ty) (cx:=cx') hE hty hT hb (hhF []) hre hr hX hbd hmx (fun k hk=>by
  rcases List.mem_append.1 hk with hk|hk
  ·exact(hmF k hk).1.2.2
  ·exact(hmG k hk).1.2.2) hdis
 have hf:=h2.fresh;have h3:=h2.world hk (fun k hk=>⟨(hmF k hk).1.2.1,fun o ho=>(hmF k hk).2 o (hsub o k ho)⟩);have hd2:ob.puts c2 d=none:=by rw[Ob.puts_other hno];exact hd
 have hh':∀ p,(H' p).hole=false:=by
  intro p
  cases hp:(H' p).hole with
  |false=>rfl
  |true =>
   obtain⟨q,hq,hh⟩:=hholes p hp;rcases hh with hh|hh
   ·rw[hhF]at hh;cases hh
   ·rw[hhG q hq]at hh;cases hh
 have hlen2:(xs++ys).length=xs.length+ys.length:=List.length_append
 obtain ⟨I',FF',x3,hr3,hs3⟩:=zhq h3 hd2 (r:=⟨e,T,xs ++ ys⟩) ho hh' hnF' (fun k hk'=>by
  rcases hF' k hk' with hk2|hk2|rfl
  ·exact⟨⟨(hmF k hk2).1.1,(hmF k hk2).1.2.1,Nat.lt_of_lt_of_le (hmF k hk2).1.2.2 hk.size⟩,fun o ho=>(hmF k hk2).2 o (hsub o k ho)⟩
  ·exact⟨⟨(hmG k hk2).1.1,(hmG k hk2).1.2.1,Nat.lt_of_lt_of_le (hmG k hk2).1.2.2 hk.size⟩,(hmG k hk2).2.1⟩
  ·exact⟨⟨hf.1,hf.2.1,hnew hk'⟩,hf.2.2⟩) (by rw[hH',hlen2]) (by rw[hlen2])
 have e2:ob.puts (c2++[(d,Ent.row ⟨e,T,xs++ys⟩ 0 none)])=(ob.puts c2).put d (.row ⟨e,T,xs++ys⟩ 0 none):=by rw[Ob.puts_append];rfl
 refine⟨_,w',I',FF',hrun,?_,?_,?_⟩
 ·rw[e2];exact x2.trans x3
 ·rw[e2];exact hr3
 ·rw[e2];exact hs3
theorem zuw{b:Sb}:∀ {t:Ty} {x:t.den} {c:Nat} {f:(b:Sb)→Option b.s.den},sub t x c=some b→f b=some b.y→upd t x c f=some x
 | .pair s t,x,c,f,h,hf=>by
  simp only[sub]at h;simp only[upd];split
  ·rename_i hc;rw[if_pos hc]at h;rw[zuw h hf]
  ·rename_i hc;rw[if_neg hc]at h;rw[zuw h hf]
 | .int k,x,c,f,h,hf=>by
  simp only[sub]at h;simp only[upd];split at h
  ·rename_i hc;injection h with h;subst h;rw[if_pos hc];exact hf
  ·cases h
 | .bool,x,c,f,h,hf=>by
  simp only[sub]at h;simp only[upd];split at h
  ·rename_i hc;injection h with h;subst h;rw[if_pos hc];exact hf
  ·cases h
 | .str,x,c,f,h,hf=>by
  simp only[sub]at h;simp only[upd];split at h
  ·rename_i hc;injection h with h;subst h;rw[if_pos hc];exact hf
  ·cases h
 | .row e t,x,c,f,h,hf=>by
  simp only[sub]at h;simp only[upd];split at h
  ·rename_i hc;injection h with h;subst h;rw[if_pos hc];exact hf
  ·cases h
theorem zm9{α:Type}(l:List α)(i:Nat)(d:α):l.set i (l.getD i d)=l:=by
 apply List.ext_getElem?;intro j;rw[List.getElem?_set];split
 ·rename_i h;subst h;split
  ·rename_i hl;rw[List.getD_eq_getElem?_getD,List.getElem?_eq_getElem hl];rfl
  ·rename_i hl;rw[List.getElem?_eq_none (by omega)]
 ·rfl
theorem zod:∀ {p:Path} {r r':Rw},zbe p r=some r'→zbo p r (fun r1=>some r1.xs)=some r.xs
 | [],r,r',h=>rfl
 |(i,c)::p,r,r',h=>by
  simp only[zbe]at h;simp only[zbo]
  cases hs:sub r.t (r.xs.getD i r.t.dflt) c with
  |none=>rw[hs]at h;cases h
  |some b =>
   rw[hs]at h;simp only at h
   cases hb:zll b with
   |none=>rw[hb]at h;cases h
   |some r1 =>
    rw[hb]at h
    have hu:upd r.t (r.xs.getD i r.t.dflt) c (zpa fun r'=>zbo p r' fun r1=>some r1.xs)=some (r.xs.getD i r.t.dflt):=zuw hs (by
     obtain⟨s,y⟩:=b
     cases s with
     |row e t =>
      simp only[zll]at hb;injection hb with hb
      subst hb;exact zod h
     |int k=>cases hb
     |bool=>cases hb
     |str=>cases hb
     |pair a b=>cases hb)
    rw[hu];simp only[zm9]
theorem RL.nilF{α:Type}{R:Nat→α→List Value→List Nat→Prop}(hr:∀ k x c f,R k x c f→f=[]):∀ {i:Nat} {xs:List α} {cs:List Value} {F:List Nat},RL R i xs cs F→F=[]
 |_,[],_,_,h=>h.2
 |_,_::_,_,_,h=>by
  obtain⟨c1,c2,F1,F2,rfl,rfl,h1,h2⟩:=h;rw[hr _ _ _ _ h1,RL.nilF hr h2];rfl
theorem ye9{t ty e:TypeId}{ti:TI}{T:Ty}(hfl:T.flat=true)(hti:TIok P e ti)(hty:ti.ty=some T)(ht:P.underlying t=some (.slice e))
  {H1 H2:Path→Hd} {xs ys:List T.den} {v:Value} {F:List Nat} {X:Option Addr} {cx:Nat} {news:List Value}
  (hb:OwR w e T H1 xs v F) (hno:∀ p,(H1 p).hole=false) (hx:RE w T H2 ys news []) (hh2:∀ p,p≠[]→(H2 p).hole=false) (hr:zlh w X news) (hX:X=none→news=[])
  (hbd:(xs.length+ys.length)*ti.bytes≤140737488355328) (hmx:xs.length+ys.length≤maxLen) (hlt:∀ k∈F,k<w.heap.size) (hnd:F.Nodup) :
  ∃ (A:Option Addr) (c:Nat) (w':World) (Fz:List Nat),(Builtin.append_ #[t,t] ty #[v,.slice X ys.length cx]).run P w = .ok (.slice A (xs.length+ys.length) c) w'∧OwR w' e T H1 xs v F ∧
   CnR w' (fun k=>k∈Fz) T (xs++ys) (.slice A (xs.length+ys.length) c)∧Kp w (fun k=>k∈F) w'∧(∀ k∈Fz,k∈F∨(k=w.heap.size∧k<w'.heap.size)) ∧
   (∀ k∈Fz,∃ cells,HC w' k cells e)∧xs.length+ys.length≤c∧c≤maxLen∧(c=0∨∃ g b,A=some ⟨g,b,none⟩):=by
 obtain⟨A,c,w',F',H',hrun,ho,hk,hnF',hF',hnew,hholes,hH'⟩:=zmu (P:=P) (ty:=ty) (cx:=cx) hti hty ht hb (hno []) hx hr hX hbd hmx (by simpa using hlt) (by simpa using hnd)
 have hh':∀ p,(H' p).hole=false:=by
  intro p
  cases hp:(H' p).hole with
  |false=>rfl
  |true =>
   obtain⟨q,hq,hh⟩:=hholes p hp;rcases hh with hh|hh
   ·rw[hno]at hh;cases hh
   ·rw[hh2 q hq]at hh;cases hh
 have hcn:=OwR.toCn (Z:=fun k=>k∈F') hh' (fun k hk=>hk) ho;have hflR:∀ (w:World) (H:Path→Hd) (k:Nat) (x:T.den) (c:List Value) (f:List Nat),Ow w T (fun c' p=>H ((k,c')::p)) 0 x c f→f=[]:=fun w H k x c f h=>(Ow.flat (w':=w) (H':=fun c' p=>H ((k,c')::p)) (c':=0) T hfl h).1;have hsh:=ho;unfold OwR OwRow at hsh;rw[if_neg (by simp[hh']),hH']at hsh;obtain⟨_,_,hle,hcm,h5⟩:=hsh;simp only at hle hcm h5
 have hold:OwR w' e T H1 xs v F:=by
  obtain⟨us,F1',_,_,hle1,_,hre,hru,hAn,_,_,_,_,_⟩:=hb.elems (hno []);have hb':=hb;unfold OwR OwRow at hb' ⊢;rw[if_neg (by simp[hno])]at hb' ⊢;obtain⟨hv1,hl1,h3,h4,h5'⟩:=hb';refine⟨hv1,hl1,h3,h4,?_⟩
  by_cases hc0:(H1 []).cap=0
  ·rw[if_pos hc0]at h5' ⊢;exact h5'
  ·rw[if_neg hc0]at h5' ⊢;obtain⟨hsz,g,b,cells,F1,hA,hF,hg,hs,hrl⟩:=h5';have hF1:F1=[]:=RL.nilF (fun k x c f h=>hflR _ _ k x c f h) hrl;subst hF1;obtain⟨htsz,htz⟩:=hti.ty T hty;have hisz:hti.i.size=T.sz:=by rw[hti.size,htsz]
   have hnl:news.length=ys.length*T.sz:=hx.len;have hul:us.length=xs.length*T.sz:=hre.len
   have hbare:∀ {cs:List Value},RL (fun i x cs F=>Ow w T (fun c' p=>H1 ((i,c')::p)) 0 x cs F) 0 xs cs []→RL (fun i x cs F=>Ow w' T (fun c' p=>H1 ((i,c')::p)) 0 x cs F) 0 xs cs [] :=
    fun h=>RE.flat (w:=w) (w':=w') (H:=H1) (H':=H1) hfl h
   by_cases hroom:xs.length+ys.length≤(H1 []).cap
   ·have hfit:b+xs.length*T.sz+news.length≤cells.size:=by
     have:=Nat.mul_le_mul_right T.sz hroom;rw[Nat.add_mul]at this;omega
    have hrun2:=zdw (P:=P) (w:=w) t ty e hti.i ht hti.hi g b xs.length (H1 []).cap ys.length cx X [] news cells hg (by rw[hnl,hisz]) hr hX hx.one hroom (by rw[hisz];exact hfit);rw[hv1,hA,← hl1,hrun2]at hrun;injection hrun with _ hrun
    subst hrun;rw[hisz];refine⟨hsz,g,b,_,[],hA,hF,HC.set (by simp;omega) hg,?_,?_⟩
    ·simp;omega
    ·have e1:(((cells.toList.take (b+xs.length*T.sz)++news++cells.toList.drop (b+xs.length*T.sz+news.length)).toArray.toList.drop b).take ((H1 []).len*T.sz))=((cells.toList.drop b).take ((H1 []).len*T.sz)):=by
      apply List.ext_getElem?;intro j;have hsp:=zcv cells.toList news (b+xs.length*T.sz) (b+j) (by simpa using hfit);simp only[List.getElem?_take,List.getElem?_drop];rw[hsp]
      by_cases h1:j<(H1 []).len*T.sz
      ·rw[if_pos h1,if_pos h1,if_pos (by rw[hl1];omega)]
      ·rw[if_neg h1,if_neg h1]
     rw[e1];have:=hbare hrl;rw[hisz]at this;exact this
   ·have hg2:(H1 []).cap<xs.length+ys.length:=by omega
    have hfit:=growslice_fits (old:=(H1 []).cap) hg2 hbd;have hgrow:=zdx (P:=P) (w:=w) t ty e hti.i hti.z ht hti.hi hti.hz (H1 []).A X xs.length (H1 []).cap ys.length cx us news (by rw[hul,hisz]) hru hAn (by rw[hnl,hisz]) hr hX hg2 (by simp only[maxLen]at hmx;omega) (by rw[hti.bytes];exact hfit);rw[hv1,← hl1,hgrow]at hrun;injection hrun with _ hrun
    have hgl:g<w.heap.size:=hlt g (by rw[hF];simp);refine⟨hsz,g,b,cells,[],hA,hF,?_,hs,hbare hrl⟩;rw[← hrun];exact hg.frame (Below.heap_alloc w.drew _ g hgl)
 refine⟨A,c,w',F',hrun,hold,hcn,hk,fun k hk'=>?_,fun k hk'=>?_,hle,hcm,?_⟩
 ·rcases hF' k hk' with h|h|h
  ·exact .inl h
  ·cases h
  ·exact .inr ⟨h,by rw[h];exact hnew (by rw[← h];exact hk')⟩
 ·by_cases hc0:c=0
  ·rw[if_pos hc0]at h5;rw[h5]at hk';cases hk'
  ·rw[if_neg hc0]at h5;obtain⟨_,g,b,cells,F1,_,hF,hg,_,hrl⟩:=h5;have hF1:F1=[]:=RL.nilF (fun k x c f h=>hflR _ _ k x c f h) hrl;subst hF1;rw[hF]at hk';rw[List.mem_singleton.1 hk'];exact⟨cells,hg⟩
 ·by_cases hc0:c=0
  ·exact .inl hc0
  ·rw[if_neg hc0]at h5;obtain⟨_,g,b,_,_,hA,_⟩:=h5;exact .inr ⟨g,b,hA⟩
theorem zuk{e:TypeId}{tie:TI}{T:Ty}{ty:TypeId}(hT:P.underlying t=some (.slice e))(hE:TIok P e tie)(hty:tie.ty=some T)(hby:0<tie.bytes)(h:RelH cx I FF ob w){o v:Nat}{p:Path}{x:SV}{vs vx:Value}
  (hs:RelS cx I ob (.ref o v p none) vs) (hx:RelS cx I ob x vx) {av:AV} {ups:List (Nat×Ent)} {lg:List Nat}
  (he:(zlg e T tie.bytes o v p x ob).ev=some ((av,ups),lg)):Did P cx I ob w ((Builtin.append_ #[t,t] ty #[vs,vx]).run P w) av ups:=by
 unfold zlg at he;obtain⟨en,l1,l2,he1,he2,rfl⟩:=M.ev_bind he;have hob:=M.ev_get he1
 cases en with
 |box cs=>exact(M.ev_fail (ob:=ob) he2).elim
 |dead vv=>exact(M.ev_fail (ob:=ob) he2).elim
 |iter _ _=>exact(M.ev_fail (ob:=ob) he2).elim
 |map _=>exact(M.ev_fail (ob:=ob) he2).elim
 |grp _ _ _=>exact(M.ev_fail (ob:=ob) he2).elim
 |lit _ _=>exact(M.ev_fail (ob:=ob) he2).elim
 |mit _ _ _=>exact(M.ev_fail (ob:=ob) he2).elim
 |gh _=>exact(M.ev_fail (ob:=ob) he2).elim
 |half _ _ _=>exact(M.ev_fail (ob:=ob) he2).elim
 |ro _=>exact(M.ev_fail (ob:=ob) he2).elim
 |mid _ _ _=>exact(M.ev_fail (ob:=ob) he2).elim
 |rv _ _=>exact(M.ev_fail (ob:=ob) he2).elim
 |row r cur hole =>
 cases hole with
 |some _=>exact(M.ev_fail (ob:=ob) he2).elim
 |none =>
 simp only at he2
 cases hck:Nat.beq v cur&&(T.flat&&!Nat.beq r.e e) with
 |false=>simp only[hck]at he2;exact(M.ev_fail (ob:=ob) he2).elim
 |true =>
 cases hra:zbe p r with
 |none=>simp only[hck,hra]at he2;exact(M.ev_fail (ob:=ob) he2).elim
 |some r' =>
 simp only[hck,hra]at he2
 cases hre:Nat.beq r'.e e with
 |false=>simp only[hre]at he2;exact(M.ev_fail (ob:=ob) he2).elim
 |true =>
 cases hcr:zaq r' T with
 |none=>simp only[hre,hcr]at he2;exact(M.ev_fail (ob:=ob) he2).elim
 |some xs =>
 simp only[hre,hcr]at he2;obtain⟨⟨ys,c2⟩,l3,l4,he3,he4,rfl⟩:=M.ev_bind he2;obtain⟨_,l5,l6,he5,he6,rfl⟩:=M.ev_bind he4;have hbd:(xs.length+ys.length)*tie.bytes≤140737488355328:=by simpa using M.ev_test he5
 simp only at he6
 cases hany:c2.any (fun u=>u.1 == o) with
 |true=>simp only[hany]at he6;exact(M.ev_fail (ob:=ob) he6).elim
 |false =>
 simp only[hany]at he6;have hpu:=M.ev_pure (ob:=ob) he6;injection hpu with e1 e2
 subst e1;subst e2;simp only[Bool.and_eq_true,Bool.not_eq_true']at hck;obtain⟨hvc,hfl,hne⟩:=hck;have hvc:=Nat.eq_of_beq_eq_true hvc;subst hvc;have hne:r.e≠e:=fun e1=>by rw[e1,Nat.beq_refl]at hne;cases hne
 have hre:=Nat.eq_of_beq_eq_true hre;have hqq:=zay hcr;rw[hre]at hqq;subst hqq
 have hno:∀ u∈c2,u.1≠o:=by
  intro u hu e;have:=List.any_eq_false.1 hany u hu;simp[e]at this
 obtain⟨FF2,H2,G,X,cx',us,h2,x2,rfl,hre2,hrd,hX,hnG,hhG,hmG,hsub⟩:=zrh (cons:=[]) h hx (Ext.refl I ob) he3;simp only at h2 x2 hre2;have hob2:ob.puts c2 o=some (.row r v none):=by rw[Ob.puts_other hno];exact hob
 obtain⟨⟨v0,how⟩,hroot,hhole,_⟩:=h2.rel o _ hob2
 have hnoh:∀ q,(I o v q).hole=false:=by
  intro q
  cases hq:(I o v q).hole with
  |false=>rfl
  |true=>exact absurd (hhole q hq) (by simp)
 obtain⟨hkn,hpv,off,len,hvw,hol,A,cc,rfl,hlc,hcm,hex,hcc⟩:=hs;obtain⟨hA,hC⟩:=hex rfl;simp only[Option.getD_none,Prod.mk.injEq]at hvw;obtain⟨rfl,rfl⟩:=hvw;obtain⟨v',Fa,F',Fb,hF,ho',hput⟩:=how.focus p (h2.nd o) (zbz hpv (fun q _=>hnoh q)) hra
 have hv':v' = .slice A (I o v p).len cc∧xs.length=(I o v p).len:=by
  have h1:=ho';unfold OwR OwRow at h1;simp only[List.append_nil]at h1;rw[if_neg (by simp[hnoh])]at h1;exact⟨by rw[h1.1,hA,hC],h1.2.1⟩
 rw[← hv'.1];have hlenI:=hv'.2
 have hmx:xs.length+ys.length≤maxLen:=by
  have:=Nat.le_mul_of_pos_right (xs.length+ys.length) hby
  simp only[maxLen];omega
 have hF'o:∀ k∈F',k∈FF2 o:=fun k hk=>by rw[hF];simp[hk]
 have hmine:=fun k (hk:k∈F')=>h2.mine o k (hF'o k hk);have hndF:(Fa++(F'++Fb)).Nodup:=by rw[← hF];exact h2.nd o
 obtain ⟨A',c',w',Fz,hrun,ho2,hcn,hkp,hFz,hzc,hle',hcm',hsl⟩:=ye9 (P:=P) (ty:=ty) (cx:=cx') hfl hE hty hT (w:=w) ho' (fun q=>hnoh _) (hre2.flat (w':=w) (H':=H2) hfl) hhG hrd hX hbd hmx (fun k hk=>(hmine k hk).2.2) (by
  have:=List.nodup_append.1 hndF
  exact(List.nodup_append.1 this.2.1).1)
 -- the whole,as it was
 have hwh:=hput w' (I o v) xs F' r.xs (fun r1=>some r1.xs) rfl (zod hra) (fun k hk=>by
  have hkF:k∈FF2 o:=by rw[hF];rcases List.mem_append.1 hk with h|h <;> simp[h]
  refine hkp.block k (h2.mine o k hkF).2.2 (fun hk'=>?_);have h3:=List.nodup_append.1 hndF;have h4:=List.nodup_append.1 h3.2.1;rcases List.mem_append.1 hk with h|h
  ·exact h3.2.2 k h k (by simp[hk']) rfl
  ·exact h4.2.2 k hk' k h rfl) (fun _ _=>rfl) ho2
 rw[← hF]at hwh;have hsz2:(FF2 o).length=(FF2 o).length:=rfl;have hf:=h2.fresh;have ht:=h2.take hob2
 have hw2:=ht.world hkp (fun k hk=>by
  refine⟨(hmine k hk).2.1,fun o' ho'=>?_⟩;unfold zaj at ho';split at ho'
  ·cases ho'
  ·rename_i hne'
   exact h2.dj o o' (fun e=>hne' e.symm) k (hF'o k hk) ho')
 let Fp:List Nat:=if w.heap.size∈Fz∧w.heap.size<w'.heap.size then [w.heap.size] else []
 have hFp:∀ k∈Fp,k=w.heap.size∧k<w'.heap.size:=by
  intro k hk
  by_cases hz:w.heap.size∈Fz∧w.heap.size<w'.heap.size
  ·simp only[Fp,if_pos hz]at hk;rw[List.mem_singleton.1 hk];exact⟨rfl,hz.2⟩
  ·simp only[Fp,if_neg hz]at hk;cases hk
 have hFzF:∀ k∈Fz,k∈FF2 o++Fp:=by
  intro k hk;rcases hFz k hk with h|⟨h,h'⟩
  ·exact List.mem_append_left _ (hF'o k h)
  ·refine List.mem_append_right _ ?_;subst h;simp only[Fp,if_pos (And.intro hk h')];exact List.mem_singleton.2 rfl
 let I':In:=fun o1 v1=>if o1=o∧v1=v+1 then (fun q=>match q with | []=>⟨A',c',xs.length+ys.length,T.sz,false⟩|a::q=>H0 q) else I o1 v1
 have hI1:I' o (v+1) []=⟨A',c',xs.length+ys.length,T.sz,false⟩:=by simp[I']
 have hI0:∀ u,u≤v→I' o u=I o u:=fun u hu=>by simp only[I'];rw[if_neg (by omega)]
 have hdv:(Ent.row r v none).ver=v:=rfl
 have xI:Ext I ((ob.puts c2).put o (.dead (Ent.row r v none).ver)) I' (((ob.puts c2).put o (.dead (Ent.row r v none).ver)).put o (.mid r v ⟨e,T,xs++ys⟩)):=by
  refine⟨fun o1 v1 hk=>?_,zak (fun e0 h0=>by simp[Ob.put]at h0;subst h0;exact Nat.le_succ _)⟩;simp only[I'];rw[if_neg];rintro ⟨rfl,rfl⟩;obtain⟨e0,h0,hl⟩:=hk;simp[Ob.put]at h0;subst h0;have:v+1≤v:=hl;omega
 have hmain:∀ g b,(I o v []).A=some ⟨g,b,none⟩→∀ k∈Fz,k≠g:=by
  intro g b hg k hk e1;subst e1;obtain⟨cells,hz⟩:=hzc k hk;have h3:=hwh;unfold OwR OwRow at h3;rw[if_neg (by simp[hnoh])]at h3;obtain⟨_,_,_,_,h5⟩:=h3
  by_cases hc0:(I o v []).cap=0
  ·rw[if_pos hc0]at h5;rw[hF]at h5
   have hF0:F'=[]:=by
    have h6:=List.append_eq_nil_iff.1 h5;exact(List.append_eq_nil_iff.1 h6.2).1
   have hk2:=hFz k hk;subst hF0;rcases hk2 with h|⟨h,_⟩
   ·cases h
   ·have hp2:=hpv
    cases p with
    |nil=>
     simp only[zbe]at hra;injection hra with hra
     exact hne (by rw[hra])
    |cons a q =>
     obtain⟨i,c0⟩:=a;have h7:i<(I o v []).len:=hpv.1;have h8:=hwh;unfold OwR OwRow at h8;rw[if_neg (by simp[hnoh])]at h8;omega
  ·rw[if_neg hc0]at h5;obtain⟨_,g',b',cells',F1,hA1,_,hg1,_⟩:=h5;rw[hg]at hA1;injection hA1 with hA1
   injection hA1 with e3
   subst e3;obtain⟨_,_,hz⟩:=hz;obtain⟨_,_,hg1⟩:=hg1;rw[hz]at hg1;injection hg1 with hg1
   injection hg1 with _ hg1
   exact hne hg1.symm
 have hlen2:(xs++ys).length=xs.length+ys.length:=List.length_append
 have hgive:=hw2.give (o:=o) (I':=I') (e:=.mid r v ⟨e,T,xs++ys⟩) (F:=FF2 o++Fp) (by simp[zaj]) (fun e0 h0=>by simp[Ob.put]at h0;subst h0;exact Nat.le_succ _) xI
  ⟨⟨v0,FF2 o,Fp,rfl,by rw [hI0 v (Nat.le_refl _)]; exact hwh⟩,fun q=>by rw [hI0 v (Nat.le_refl _)]; exact hnoh q,fun u hu=>by rw [hI0 u hu,hI0 v (Nat.le_refl _)]; exact hroot u hu,
   .slice A' (xs.length+ys.length) c',CnR.imp (fun k hk=>⟨⟨hFzF k hk,fun g b hg=>hmain g b (by rw[hI0 v (Nat.le_refl _)]at hg;exact hg) k hk⟩,rfl⟩) hcn,by rw[hI1]⟩
  (by
   rw[List.nodup_append];refine⟨h2.nd o,?_,fun a ha b hb e1=>?_⟩
   ·simp only[Fp];split <;> simp
   ·subst e1;have:=(h2.mine o a ha).2.2;have:=(hFp a hb).1
    omega)
  (fun k hk o' ho'=>by
   unfold zaj at ho';split at ho'
   ·cases ho'
   ·rename_i hne';rcases List.mem_append.1 hk with hk|hk
    ·exact h2.dj o o' (fun e=>hne' e.symm) k hk ho'
    ·have:=(hFp k hk).1;have:=(h2.mine o' k ho').2.2
     omega)
  (fun k hk=>by
   rcases List.mem_append.1 hk with hk|hk
   ·have:=h2.mine o k hk;exact⟨this.1,this.2.1,Nat.lt_of_lt_of_le this.2.2 hkp.size⟩
   ·obtain⟨h3,h4⟩:=hFp k hk;subst h3
    exact⟨hf.1,hf.2.1,h4⟩)
 have e2:ob.puts (c2++[(o,Ent.mid r v ⟨e,T,xs++ys⟩)])=((ob.puts c2).put o (.dead (Ent.row r v none).ver)).put o (.mid r v ⟨e,T,xs++ys⟩):=by
  rw[Ob.puts_append];funext k;simp only[Ob.puts,Ob.put];split <;> rfl
 refine⟨_,w',I',zaj (zaj FF2 o []) o (FF2 o++Fp),hrun,?_,?_,?_⟩
 ·rw[e2];refine x2.trans ⟨fun o1 v1 hk=>?_,fun o1 v1 hk=>?_⟩
  ·simp only[I'];rw[if_neg];rintro ⟨rfl,rfl⟩;obtain⟨e0,h0,hl⟩:=hk;rw[hob2]at h0;injection h0 with h0
   subst h0;have:v+1≤v:=hl;omega
  ·obtain⟨e0,h0,hl⟩:=hk
   by_cases ho1:o1=o
   ·subst ho1;rw[hob2]at h0;injection h0 with h0
    subst h0;exact⟨.mid r v ⟨e,T,xs++ys⟩,by simp[Ob.put],Nat.le_succ_of_le hl⟩
   ·exact⟨e0,by simp[Ob.put,ho1,h0],hl⟩
 ·rw[e2];exact hgive
 ·rw[e2];refine⟨⟨.mid r v ⟨e,T,xs++ys⟩,by simp[Ob.put],Nat.le_refl _⟩,trivial,0,xs.length+ys.length,by rw[hI1];rfl,by rw[hI1];simp,A',c',rfl,hle',hcm',fun _=>by rw[hI1];exact⟨rfl,rfl⟩,?_⟩;rcases hsl with h|⟨g,b,h⟩
  ·exact .inl h
  ·exact .inr ⟨by simp only[hI1,Nat.add_zero],g,b,by simp only[hI1];exact h,by rw[h];simp⟩
theorem zuj{e:TypeId}{tie:TI}{T:Ty}{ty:TypeId}(hT:P.underlying t=some (.slice e))(hE:TIok P e tie)(hty:tie.ty=some T)(hby:0<tie.bytes)(h:RelH cx I FF ob w){s x:SV}{vs vx:Value}
  (hs:RelS cx I ob s vs) (hx:RelS cx I ob x vx) {d:Nat} {av:AV} {ups:List (Nat×Ent)} {lg:List Nat}
  (he:(zlf e T tie.bytes s x d ob).ev=some ((av,ups),lg)):Did P cx I ob w ((Builtin.append_ #[t,t] ty #[vs,vx]).run P w) av ups:=by
 unfold zlf at he;split at he
 ·exact zuk hT hE hty hby h hs hx he
 ·exact zrg hT hE hty hby h hs hx he
end
end Go.Proofs.Ytbjgiioppmkpiaa.Rx

namespace Go.Proofs.Ytbjgiioppmkpiaa.Rx
open Go Go.RowKit
def vlen(vw:Option (Nat×Nat))(n:Nat):Nat:=match vw with|none=>n|some ol=>ol.2
def voff(vw:Option (Nat×Nat)):Nat:=match vw with|none=>0|some ol=>ol.1
def vidx(vw:Option (Nat×Nat))(i:Nat):Nat:=match vw with|none=>i|some ol=>ol.1+i
def aRow(o v:Nat)(p:Path):M Rw:=M.bind (M.get o) fun
 | .row r cur hole=>(match zln p v cur hole,zbe p r with
  |true,some r'=>M.pure r'
  |_,_=>M.fail)
 | .half r k c=>(match p with | []=>M.pure r|_=>M.fail)
 | .ro r=>(match p with | []=>M.pure r|_=>M.fail)
 | .mid r rt q=>(match p,Nat.ble v rt with | [],true=>M.pure r|_,_=>M.fail)
 |_=>M.fail
def aLen:SV→M Nat
 | .str s=>M.pure s.size
 | .nil=>M.pure 0
 | .con r=>M.pure r.xs.length
 | .ref o v p vw=>M.bind (aRow o v p) fun r=>M.pure (vlen vw r.xs.length)
 |_=>M.fail
def zca(sz:Nat)(s:SV)(i:Int):M AV :=
 match s with
 | .con r=>M.bind (M.test (decide (0≤i))) fun _=>M.bind (M.test (decide (i < r.xs.length))) fun _=>(match r.t.sz == sz with
  |true=>M.pure (.one (.cptr r i.toNat 0))
  |false=>M.fail)
 | .ref o v p vw=>M.bind (aRow o v p) fun r=>M.bind (M.test (decide (0≤i))) fun _=>M.bind (M.test (decide (i < (vlen vw r.xs.length:Nat)))) fun _=>(match r.t.sz == sz with
  |true=>M.pure (.one (.ptr o v p (vidx vw i.toNat) 0))
  |false=>M.fail)
 |_=>M.fail
def intO:Option AV→Option (Option Int)
 |none=>some none
 |some (.one (.int _ n))=>some (some n)
 |_=>none
def cutL{α:Type}(xs:List α):Option Int→Option Int→List α
 |none,none=>xs
 |some l,none=>xs.drop l.toNat
 |none,some h=>xs.take h.toNat
 |some l,some h=>(xs.drop l.toNat).take (h - l).toNat
def zjn(l:Option Int)(h:Int):M Unit:=match l with|none=>M.pure ()|some l=>M.bind (M.test (decide (0≤l))) fun _=>M.test (decide (l≤h))
def zjp(h:Option Int)(n:Nat):M Unit:=match h with|none=>M.pure ()|some h=>M.bind (M.test (decide (0≤h))) fun _=>M.test (decide (h≤n))
def zg5(sz:Nat)(s:SV)(lo hi:Option Int):M AV :=
 match s with
 | .str s=>M.bind (zjp hi s.size) fun _=>M.bind (zjn lo (hi.getD s.size)) fun _=>M.pure (.one (.str (s.extract ((lo.getD 0).toNat) ((hi.getD s.size).toNat))))
 | .con r=>(match r.t.sz == sz with
  |true=>M.bind (zjp hi r.xs.length) fun _=>M.bind (zjn lo (hi.getD r.xs.length)) fun _=>M.pure (.one (.con ⟨r.e,r.t,cutL r.xs lo hi⟩))
  |false=>M.fail)
 | .ref o v p vw=>M.bind (aRow o v p) fun r=>(match r.t.sz == sz with
  |true=>M.bind (zjp hi (vlen vw r.xs.length)) fun _=>M.bind (zjn lo (hi.getD (vlen vw r.xs.length:Nat))) fun _ =>
    M.pure (.one (.ref o v p (some ((voff vw)+(lo.getD 0).toNat,(hi.getD (vlen vw r.xs.length:Nat) - lo.getD 0).toNat))))
  |false=>M.fail)
 |_=>M.fail
section
variable{P:Program}{cx:Cx}{I:In}{FF:Nat→List Nat}{ob:Ob}{w:World}{t:TypeId}{ti:TI}
theorem Did.still(h:RelH cx I FF ob w){run:Result Value}{u:Value}{av:AV}(hr:run = .ok u w)(ha:RelA cx I ob av u):Did P cx I ob w run av [] :=
 ⟨u,w,I,FF,hr,Ext.refl I ob,h,ha⟩
theorem zqd(h:RelH cx I FF ob w){o v:Nat}{p:Path}{r':Rw}{lg:List Nat}(hk:zce ob o v)(hpv:pv (I o v) p)(he:(aRow o v p ob).ev=some (r',lg)) :
  r'.xs.length=(I o v p).len∧((I o v p).cap≠0→(I o v p).sz=r'.t.sz)∧(I o v p).len≤(I o v p).cap:=by
 unfold aRow at he;obtain⟨en,l1,l2,he1,he2,rfl⟩:=M.ev_bind he;have hob:=M.ev_get he1
 cases en with
 |box cs=>exact(M.ev_fail (ob:=ob) he2).elim
 |dead vv=>exact(M.ev_fail (ob:=ob) he2).elim
 |iter _ _=>exact(M.ev_fail (ob:=ob) he2).elim
 |map _=>exact(M.ev_fail (ob:=ob) he2).elim
 |grp _ _ _=>exact(M.ev_fail (ob:=ob) he2).elim
 |lit _ _=>exact(M.ev_fail (ob:=ob) he2).elim
 |mit _ _ _=>exact(M.ev_fail (ob:=ob) he2).elim
 |gh _=>exact(M.ev_fail (ob:=ob) he2).elim
 |rv _ _=>exact(M.ev_fail (ob:=ob) he2).elim
 |mid r rt q =>
  cases p with
  |cons a p=>exact(M.ev_fail (ob:=ob) he2).elim
  |nil =>
   simp only at he2
   cases hle:Nat.ble v rt with
   |false=>simp only[hle]at he2;exact(M.ev_fail (ob:=ob) he2).elim
   |true =>
    simp only[hle]at he2;have:=M.ev_pure (ob:=ob) he2;subst this;obtain⟨⟨v0,F0,Fp,_,how⟩,hnoh,hroot,_⟩:=h.rel o _ hob;rw[hroot v (Nat.le_of_ble_eq_true hle)];unfold OwR OwRow at how;rw[if_neg (by simp[hnoh])]at how;obtain⟨_,hl,hle2,_,h5⟩:=how;refine⟨hl,fun hc=>?_,hle2⟩;rw[if_neg hc]at h5;exact h5.1
 |ro r =>
  cases p with
  |cons a p=>exact(M.ev_fail (ob:=ob) he2).elim
  |nil =>
   have:=M.ev_pure (ob:=ob) he2;subst this;obtain⟨e0,he0,hle0⟩:=hk;have hv0:v=0:=by rw[hob]at he0;injection he0 with he0;subst he0;exact Nat.le_zero.1 hle0
   subst hv0;obtain⟨v0,⟨⟨A,cap,he,hlc,_⟩,_⟩,hv0,hsz⟩:=h.rel o _ hob;rw[hv0]at he;injection he with e1 e2 e3
   exact⟨e2.symm,fun _=>hsz,by rw[e2,e3];exact hlc⟩
 |half r k c =>
  cases p with
  |cons a p=>exact(M.ev_fail (ob:=ob) he2).elim
  |nil =>
   have:=M.ev_pure (ob:=ob) he2;subst this;obtain⟨e0,he0,hle0⟩:=hk;have hv0:v=0:=by rw[hob]at he0;injection he0 with he0;subst he0;exact Nat.le_zero.1 hle0
   subst hv0;obtain⟨H,v0,⟨hnoh,how⟩,hroot⟩:=h.rel o _ hob;rw[hroot];unfold OwRow at how;rw[if_neg (by simp[hnoh])]at how;obtain⟨_,hl,hle2,_,h5⟩:=how;refine⟨hl,fun hc=>?_,hle2⟩;rw[if_neg hc]at h5;exact h5.1
 |row r cur hole =>
  simp only at he2
  cases hok:zln p v cur hole with
  |false=>simp only[hok]at he2;exact(M.ev_fail (ob:=ob) he2).elim
  |true =>
   cases hr:zbe p r with
   |none=>simp only[hok,hr]at he2;exact(M.ev_fail (ob:=ob) he2).elim
   |some r1 =>
    simp only[hok,hr]at he2;have:=M.ev_pure (ob:=ob) he2;subst this;obtain⟨⟨v0,ho⟩,hroot,hhole,hne⟩:=h.rel o _ hob
    have hle:v≤cur:=by
     obtain⟨e,he,hle⟩:=hk;rw[hob]at he;injection he with he;subst he;exact hle
    have key:I o v p=I o cur p∧pv (I o cur) p∧∀ q,q <+: p→(I o cur q).hole=false:=by
     simp only[zln,Bool.or_eq_true,Bool.and_eq_true]at hok;rcases hok with hok|hok
     ·have:p=[]:=by simpa using hok
      subst this;refine⟨hroot v hle,trivial,fun q hq=>?_⟩;have:=List.prefix_nil.1 hq;subst this
      cases hh:(I o cur []).hole with
      |false=>rfl
      |true=>exact absurd (hhole [] hh) hne
     ·have:v=cur:=by simpa using hok.1
      subst this;refine⟨rfl,hpv,fun q _=>?_⟩
      cases hh:(I o v q).hole with
      |false=>rfl
      |true=>have:=hhole q hh;rw[this]at hok;simp at hok
    obtain⟨v',Fa,F',Fb,hF,ho',_⟩:=ho.focus p (h.nd o) (zbz key.2.1 key.2.2) hr;have e0:p++[]=p:=List.append_nil p;unfold OwR OwRow at ho';simp only[e0]at ho';rw[if_neg (by simp[key.2.2 p List.prefix_rfl])]at ho';rw[key.1];obtain⟨_,hl,hle2,_,h5⟩:=ho';refine⟨hl,fun hc=>?_,hle2⟩;rw[if_neg hc]at h5;exact h5.1
theorem yje(h:RelH cx I FF ob w){s:SV}{v:Value}{n:Nat}{lg:List Nat}(hs:RelS cx I ob s v)(he:(aLen s ob).ev=some (n,lg)):(∃ b,v = .string b∧b.size=n)∨∃ A c,v = .slice A n c:=by
 cases s with
 |str b=>have:=M.ev_pure (ob:=ob) he;exact .inl ⟨b,hs,this⟩
 |nil=>have:=M.ev_pure (ob:=ob) he;subst this;exact .inr ⟨_,_,hs⟩
 |con r=>have:=M.ev_pure (ob:=ob) he;subst this;obtain⟨A,c,hv,_⟩:=hs;exact .inr ⟨_,_,hv⟩
 |ref o ver p vw =>
  simp only[aLen]at he;obtain⟨r,l1,l2,he1,he2,rfl⟩:=M.ev_bind he;have:=M.ev_pure (ob:=ob) he2;subst this;obtain⟨hk,hpv,off,len,hvw,hol,A,c,rfl,_⟩:=hs;obtain⟨hl,_⟩:=zqd h hk hpv he1;refine .inr ⟨A,c,?_⟩
  cases vw with
  |none=>simp only[Option.getD_none,Prod.mk.injEq]at hvw;simp only[vlen];rw[hl,hvw.2]
  |some ol=>simp only[Option.getD_some]at hvw;subst hvw;rfl
 |_=>exact(M.ev_fail (ob:=ob) he).elim
theorem zvv{ty:TypeId}(hd:ti.d = .str∨∃ e,ti.d = .slice e)(hT:TIok P t ti){v:Value}{n:Nat}(hv:(ti.d = .str∧∃ b,v = .string b∧b.size=n)∨((∃ e,ti.d = .slice e)∧∃ A c,v = .slice A n c)) :
  (Builtin.len_ #[t] ty #[v]).run P w = .ok (.int .i64 n) w:=by
 rcases hv with ⟨hd,b,rfl,hn⟩|⟨⟨e,hd⟩,A,c,rfl⟩
 ·simp[Builtin.len_,run_underlying (hT.isStr hd),goInt,hn]
 ·simp[Builtin.len_,run_underlying (hT.slice hd),goInt]
theorem zj9{e:TypeId}{tie:TI}(hT:P.underlying t=some (.slice e))(hE:TIok P e tie){g b len c:Nat}{k:IntKind}{i:Int}(h0:0≤i)(h1:i<len) :
  (Instr.indexAt t (.slice (some ⟨g,b,none⟩) len c) (.int k i)).run P w = .ok (.pointer (some ⟨g,b+i.toNat*tie.sz,none⟩)) w:=by
 simp[Instr.indexAt,asIntOf,run_underlying hT,h0,h1,hE.sizeOf,zbu]
theorem znt{e:TypeId}{tie:TI}(hT:P.underlying t=some (.slice e))(hE:TIok P e tie)(h:RelH cx I FF ob w){s:SV}{v:Value}{k:IntKind}{i:Int}{av:AV}{lg:List Nat}(hs:RelS cx I ob s v)
  (he:(zca tie.sz s i ob).ev=some (av,lg)):∃ u,(Instr.indexAt t v (.int k i)).run P w = .ok u w∧RelA cx I ob av u:=by
 cases s with
 |con r =>
  simp only[zca]at he;obtain⟨_,l1,l2,he1,he2,rfl⟩:=M.ev_bind he;obtain⟨_,l3,l4,he3,he4,rfl⟩:=M.ev_bind he2;have h0:0≤i:=by simpa using M.ev_test he1
  have h1:i<r.xs.length:=by simpa using M.ev_test he3
  try simp only at he4
  cases hsz:r.t.sz == tie.sz with
  |false=>simp only[hsz]at he4;exact(M.ev_fail (ob:=ob) he4).elim
  |true =>
   simp only[hsz]at he4;have:=M.ev_pure (ob:=ob) he4;subst this;have hs':CnR cx.w0 cx.Z r.t r.xs v:=hs;have hlt:i.toNat<r.xs.length:=by omega
   obtain⟨g,b,cap,cells,q,fz,ci,rfl,_⟩:=hs'.get hlt;refine⟨_,zj9 hT hE h0 h1,hlt,g,b,cap,hs',?_⟩;have:r.t.sz=tie.sz:=by simpa using hsz
   rw[this,Nat.add_zero]
 |ref o ver p vw =>
  simp only[zca]at he;obtain⟨r,l1,l2,he1,he2,rfl⟩:=M.ev_bind he;obtain⟨_,l3,l4,he3,he4,rfl⟩:=M.ev_bind he2;obtain⟨_,l5,l6,he5,he6,rfl⟩:=M.ev_bind he4;have h0:0≤i:=by simpa using M.ev_test he3
  have h1:=M.ev_test he5;simp only[decide_eq_true_eq]at h1
  try simp only at he6
  cases hsz:r.t.sz == tie.sz with
  |false=>simp only[hsz]at he6;exact(M.ev_fail (ob:=ob) he6).elim
  |true =>
   simp only[hsz]at he6;have:=M.ev_pure (ob:=ob) he6;subst this;obtain⟨hk,hpv,off,len,hvw,hol,A,c,rfl,hlc,hcm,hex,hc⟩:=hs;obtain⟨hl,hszI,hlcap⟩:=zqd h hk hpv he1
   have hlen:(vlen vw r.xs.length:Nat)=len∧(vidx vw i.toNat)=off+i.toNat:=by
    cases vw with
    |none=>simp only[Option.getD_none,Prod.mk.injEq]at hvw;exact⟨hl.trans hvw.2,by rw[← hvw.1];simp[vidx]⟩
    |some ol=>simp only[Option.getD_some]at hvw;subst hvw;exact⟨rfl,rfl⟩
   rw[hlen.1]at h1;rcases hc with hc|⟨hc,g,b,hA,rfl⟩
   ·omega
   ·refine⟨_,zj9 hT hE h0 h1,?_⟩;rw[hlen.2];refine⟨hk,hpv,by omega,g,b,hA,?_⟩;have:(I o ver p).sz=tie.sz:=by rw[hszI (by omega)];simpa using hsz
    rw[this,Nat.add_zero,Nat.add_mul,Nat.add_assoc]
 |_=>exact(M.ev_fail (ob:=ob) he).elim
theorem zcr{P:Program}{w:World}{k:IntKind}{i:Int}{y:Nat}{c:BoundsCode}(h0:0≤i)(h1:i≤y):(Instr.sliceBound (.int k i) y c).run P w = .ok i.toNat w:=by
 simp[Instr.sliceBound,asIntOf,h0,h1]
def valO(k:IntKind):Option Int→Option Value
 |none=>none
 |some n=>some (.int k n)
theorem zjm{l:Option Int}{h:Int}{u:Unit}{lg:List Nat}(he:(zjn l h ob).ev=some (u,lg)):∀ x,l=some x→0≤x∧x≤h:=by
 intro x hx;subst hx;simp only[zjn]at he;obtain⟨_,l1,l2,he1,he2,_⟩:=M.ev_bind he;exact⟨by simpa using M.ev_test he1,by simpa using M.ev_test he2⟩
theorem zjo{l:Option Int}{n:Nat}{u:Unit}{lg:List Nat}(he:(zjp l n ob).ev=some (u,lg)):∀ x,l=some x→0≤x∧x≤n:=by
 intro x hx;subst hx;simp only[zjp]at he;obtain⟨_,l1,l2,he1,he2,_⟩:=M.ev_bind he;exact⟨by simpa using M.ev_test he1,by simpa using M.ev_test he2⟩
theorem zdv{P:Program}{w:World}{b:Bool}{len cap:Nat}{k1 k2:IntKind}{lo hi:Option Int}(hc:len≤cap)(hh:∀ x,hi=some x→0≤x∧x≤len)(hl:∀ x,lo=some x→0≤x∧x≤hi.getD len) :
  (Instr.sliceBounds b len cap (valO k1 lo) (valO k2 hi) none).run P w = .ok ((lo.getD 0).toNat,(hi.getD len).toNat,cap) w:=by
 cases hi with
 |none =>
  cases lo with
  |none=>simp[Instr.sliceBounds,valO]
  |some l =>
   have h2:=hl l rfl;simp only[Option.getD_none]at h2;have:=zcr (P:=P) (w:=w) (k:=k1) (c:=.sliceB) h2.1 h2.2;simp[Instr.sliceBounds,valO,this]
 |some h =>
  have h1:=hh h rfl;have e1:∀ c,(Instr.sliceBound (.int k2 h) cap c).run P w = .ok h.toNat w:=fun c=>zcr h1.1 (by omega)
  cases lo with
  |none=>cases b <;> simp[Instr.sliceBounds,valO,e1]
  |some l =>
   have h2:=hl l rfl;simp only[Option.getD_some]at h2;have e2:(Instr.sliceBound (.int k1 l) h.toNat .sliceB).run P w = .ok l.toNat w:=zcr h2.1 (by omega);cases b <;> simp[Instr.sliceBounds,valO,e1,e2]
theorem yk3{α:Type}(xs:List α)(lo hi:Option Int)(hh:∀ x,hi=some x→0≤x∧x≤xs.length)(hl:∀ x,lo=some x→0≤x∧x≤hi.getD xs.length) :
  cutL xs lo hi=(xs.drop (lo.getD 0).toNat).take ((hi.getD xs.length).toNat - (lo.getD 0).toNat)∧(lo.getD 0).toNat≤(hi.getD xs.length).toNat∧(hi.getD xs.length).toNat≤xs.length:=by
 cases hi with
 |none =>
  cases lo with
  |none=>simp[cutL]
  |some l =>
   have:=hl l rfl;simp only[Option.getD_none]at this;simp only[cutL,Option.getD_some,Option.getD_none,Int.toNat_natCast];refine⟨?_,by omega,by omega⟩;rw[List.take_of_length_le (by simp)]
 |some h =>
  have h1:=hh h rfl
  cases lo with
  |none =>
   simp only[cutL,Option.getD_some,Option.getD_none];exact⟨by simp,by simp,by omega⟩
  |some l =>
   have:=hl l rfl;simp only[Option.getD_some]at this;simp only[cutL,Option.getD_some];refine⟨?_,by omega,by omega⟩;congr 1;omega
theorem zdu{e:TypeId}{tie:TI}(hT:P.underlying t=some (.slice e))(hE:TIok P e tie){A:Option Addr}{len cap:Nat}{k1 k2:IntKind}{lo hi:Option Int}(hc:len≤cap)(hh:∀ x,hi=some x→0≤x∧x≤len)(hl:∀ x,lo=some x→0≤x∧x≤hi.getD len) :
  (Instr.sliceAt t (.slice A len cap) (valO k1 lo) (valO k2 hi) none).run P w =
   .ok (.slice (if cap=(lo.getD 0).toNat then A else A.map (·.add ((lo.getD 0).toNat*tie.sz))) ((hi.getD len).toNat - (lo.getD 0).toNat) (cap - (lo.getD 0).toNat)) w:=by
 have:=zdv (P:=P) (w:=w) (b:=true) (k1:=k1) (k2:=k2) hc hh hl;simp[Instr.sliceAt,Instr.slice,run_underlying hT,this,hE.sizeOf]
theorem zvn{e:TypeId}{tie:TI}(hT:P.underlying t=some (.slice e))(hE:TIok P e tie)(h:RelH cx I FF ob w){s:SV}{v:Value}{k1 k2:IntKind}{lo hi:Option Int}{av:AV}{lg:List Nat}(hs:RelS cx I ob s v)
  (hns:∀ b,s ≠ .str b) (he:(zg5 tie.sz s lo hi ob).ev=some (av,lg)):∃ u,(Instr.sliceAt t v (valO k1 lo) (valO k2 hi) none).run P w = .ok u w∧RelA cx I ob av u:=by
 cases s with
 |str b=>exact absurd rfl (hns b)
 |con r =>
  simp only[zg5]at he
  cases hsz:r.t.sz == tie.sz with
  |false=>simp only[hsz]at he;exact(M.ev_fail (ob:=ob) he).elim
  |true =>
   simp only[hsz]at he;obtain⟨_,l1,l2,he1,he2,rfl⟩:=M.ev_bind he;obtain⟨_,l3,l4,he3,he4,rfl⟩:=M.ev_bind he2;have:=M.ev_pure (ob:=ob) he4;subst this;have hh:=zjo he1;have hl:=zjm he3;have hs':CnR cx.w0 cx.Z r.t r.xs v:=hs;have hs2:=hs';obtain⟨A,cap,rfl,hle,_⟩:=hs2;have hsz':r.t.sz=tie.sz:=by simpa using hsz
   obtain⟨hcut,h1,h2⟩:=yk3 r.xs lo hi hh hl;refine⟨_,zdu hT hE hle hh hl,?_⟩;show CnR cx.w0 cx.Z r.t (cutL r.xs lo hi) _;rw[hcut];refine hs'.view (e:=e) (by omega) rfl (fun hc=>?_);rw[if_neg (by omega),hsz']
 |ref o ver p vw =>
  simp only[zg5]at he;obtain⟨r,l1,l2,he1,he2,rfl⟩:=M.ev_bind he
  try simp only at he2
  cases hsz:r.t.sz == tie.sz with
  |false=>simp only[hsz]at he2;exact(M.ev_fail (ob:=ob) he2).elim
  |true =>
   simp only[hsz]at he2;obtain⟨_,l3,l4,he3,he4,rfl⟩:=M.ev_bind he2;obtain⟨_,l5,l6,he5,he6,rfl⟩:=M.ev_bind he4;have:=M.ev_pure (ob:=ob) he6;subst this;have hh:=zjo he3;have hl:=zjm he5;obtain⟨hk,hpv,off,len,hvw,hol,A,c,rfl,hlc,hcm,hex,hc⟩:=hs;obtain⟨hrl,hszI,hlcap⟩:=zqd h hk hpv he1
   have hlen:(vlen vw r.xs.length:Nat)=len∧(voff vw)=off:=by
    cases vw with
    |none=>simp only[Option.getD_none,Prod.mk.injEq]at hvw;exact⟨hrl.trans hvw.2,hvw.1⟩
    |some ol=>simp only[Option.getD_some]at hvw;subst hvw;exact⟨rfl,rfl⟩
   rw[hlen.1]at hh hl ⊢;rw[hlen.2]
   have hln:(lo.getD 0).toNat≤(hi.getD len).toNat∧(hi.getD len).toNat≤len:=by
    cases hi with
    |none =>
     cases lo with
     |none=>simp
     |some l=>have:=hl l rfl;simp only[Option.getD_none,Option.getD_some,Int.toNat_natCast]at this ⊢;omega
    |some h =>
     have h1:=hh h rfl
     cases lo with
     |none=>simp only[Option.getD_none,Option.getD_some];omega
     |some l=>have:=hl l rfl;simp only[Option.getD_some]at this ⊢;omega
   have hsub:(hi.getD len - lo.getD 0).toNat=(hi.getD len).toNat - (lo.getD 0).toNat:=by
    have hlo0:0≤lo.getD 0:=by
     cases lo with
     |none=>simp
     |some l=>exact(hl l rfl).1
    omega
   rw[hsub];refine⟨_,zdu hT hE hlc hh hl,hk,hpv,_,_,rfl,by omega,_,_,rfl,by omega,by omega,fun h=>(by cases h),?_⟩;rcases hc with hc|⟨hc,g,b,hA,rfl⟩
   ·left;omega
   ·by_cases hz:c=(lo.getD 0).toNat
    ·left;omega
    ·right;refine⟨by omega,g,b,hA,?_⟩;have:(I o ver p).sz=tie.sz:=by rw[hszI (by omega)];simpa using hsz
     rw[if_neg hz,this];simp only[Option.map_some,zbu];rw[Nat.add_mul,Nat.add_assoc]
 |_=>exact(M.ev_fail (ob:=ob) he).elim
theorem zm4(hT:P.underlying t=some .string){b:ByteArray}{sz:Nat}{k1 k2:IntKind}{lo hi:Option Int}{av:AV}{lg:List Nat}
  (he:(zg5 sz (.str b) lo hi ob).ev=some (av,lg)):∃ u,(Instr.sliceAt t (.string b) (valO k1 lo) (valO k2 hi) none).run P w = .ok u w∧RelA cx I ob av u:=by
 simp only[zg5]at he;obtain⟨_,l1,l2,he1,he2,rfl⟩:=M.ev_bind he;obtain⟨_,l3,l4,he3,he4,rfl⟩:=M.ev_bind he2;have:=M.ev_pure (ob:=ob) he4;subst this;have hh:=zjo he1;have hl:=zjm he3;have:=zdv (P:=P) (w:=w) (b:=false) (len:=b.size) (cap:=b.size) (k1:=k1) (k2:=k2) (Nat.le_refl _) hh hl;refine⟨.string (b.extract ((lo.getD 0).toNat) ((hi.getD b.size).toNat)),?_,rfl⟩;simp[Instr.sliceAt,Instr.slice,run_underlying hT,this]
end
end Go.Proofs.Ytbjgiioppmkpiaa.Rx

namespace Go.Proofs.Ytbjgiioppmkpiaa.Rx
open Go Go.RowKit
def aInt(op:BinOp)(k:IntKind)(a b:Int):M AV :=
 match op with
 | .add=>M.pure (.one (.int k (k.wrap (a+b))))
 | .sub=>M.pure (.one (.int k (k.wrap (a - b))))
 | .mul=>M.pure (.one (.int k (k.wrap (a*b))))
 | .quo=>M.bind (M.test (!decide (b=0))) fun _=>M.pure (.one (.int k (k.wrap (a.tdiv b))))
 | .rem=>M.bind (M.test (!decide (b=0))) fun _=>M.pure (.one (.int k (a.tmod b)))
 | .and=>M.pure (.one (.int k (k.wrap ((BitVec.ofInt k.bits a &&& BitVec.ofInt k.bits b).toNat))))
 | .or=>M.pure (.one (.int k (k.wrap ((BitVec.ofInt k.bits a|||BitVec.ofInt k.bits b).toNat))))
 | .xor=>M.pure (.one (.int k (k.wrap ((BitVec.ofInt k.bits a ^^^ BitVec.ofInt k.bits b).toNat))))
 | .eql=>M.pure (.one (.bool (decide (a=b))))
 | .neq=>M.pure (.one (.bool (!decide (a=b))))
 | .lss=>M.pure (.one (.bool (decide (a<b))))
 | .leq=>M.pure (.one (.bool (decide (a≤b))))
 | .gtr=>M.pure (.one (.bool (decide (b<a))))
 | .geq=>M.pure (.one (.bool (decide (b≤a))))
 |_=>M.fail
def aStr(op:BinOp)(a b:ByteArray):M AV :=
 match op with
 | .add=>M.bind (M.test (decide (a.size+b.size≤9223372036854775807))) fun _=>M.pure (.one (.str (a++b)))
 | .eql=>M.pure (.one (.bool (a.toList == b.toList)))
 | .neq=>M.pure (.one (.bool (!(a.toList == b.toList))))
 | .lss=>M.pure (.one (.bool (Op.bytesLess a.toList b.toList)))
 | .leq=>M.pure (.one (.bool (Op.bytesLess a.toList b.toList || a.toList == b.toList)))
 | .gtr=>M.pure (.one (.bool (!(Op.bytesLess a.toList b.toList || a.toList == b.toList))))
 | .geq=>M.pure (.one (.bool (!Op.bytesLess a.toList b.toList)))
 |_=>M.fail
def eqK:IntKind→IntKind→Bool
 | .i8,.i8 | .i16,.i16 | .i32,.i32 | .i64,.i64 | .u8,.u8 | .u16,.u16 | .u32,.u32 | .u64,.u64=>true
 |_,_=>false
theorem ygj{a b:IntKind}(h:eqK a b=true):a=b:=by cases a <;> cases b <;> first|rfl|cases h
def znz:List ZK→List SV→List SV→Option Bool
 | [],[],[]=>some true
 | .int _::zs,.int k a::xs,.int k' b::ys=>(match eqK k k',znz zs xs ys with|true,some r=>some (decide (a=b)&&r)|_,_=>none)
 | .bool::zs,.bool a::xs,.bool b::ys=>(match znz zs xs ys with|some r=>some ((a == b)&&r)|none=>none)
 | .str::zs,.str a::xs,.str b::ys=>(match znz zs xs ys with|some r=>some ((a.toList == b.toList)&&r)|none=>none)
 |_,_,_=>none
def aBin(ti:TI)(op:BinOp)(x y:AV):M AV :=
 match x,y with
 | .one (.int k a),.one (.int k' b) =>
  (match op with
  | .shl=>M.bind (M.test (decide (0≤b))) fun _=>M.pure (.one (.int k (k.wrap (a*2 ^ min b.toNat k.bits))))
  | .shr=>M.bind (M.test (decide (0≤b))) fun _=>M.pure (.one (.int k (a.fdiv (2 ^ min b.toNat k.bits))))
  |_=>match eqK k k' with|true=>aInt op k a b|false=>M.fail)
 | .one (.str a),.one (.str b)=>aStr op a b
 | .one (.bool a),.one (.bool b) =>
  (match ti.d,op with
  | .bool,.eql=>M.pure (.one (.bool (a == b)))
  | .bool,.neq=>M.pure (.one (.bool (!(a == b))))
  |_,_=>M.fail)
 | .agg xs,.agg ys=>(match ti.eq,znz ti.z xs ys with
  | true,some b=>(match op with
   | .eql=>M.pure (.one (.bool b))
   | .neq=>M.pure (.one (.bool (!b)))
   |_=>M.fail)
  |_,_=>M.fail)
 |_,_=>M.fail
def aUn(op:UnOp)(x:AV):M AV :=
 match op,x with
 | .neg,.one (.int k n)=>M.pure (.one (.int k (k.wrap (0 - n))))
 | .not,.one (.bool b)=>M.pure (.one (.bool (!b)))
 |_,_=>M.fail
def bts(s:ByteArray)(i:Int):Int:=((s.data.toList.getD i.toNat 0).toNat:Int)
def zp2(x:AV)(i:Int):M AV :=
 match x with
 | .one (.str s)=>M.bind (M.test (decide (0≤i))) fun _=>M.bind (M.test (decide (i<s.size))) fun _=>M.pure (.one (.int .u8 (bts s i)))
 |_=>M.fail
def zx4(fs:List (Nat×Nat)):List SV→List (Nat×AV)→Option (List SV)
 |cs,[]=>some cs
 |cs,(i,a)::ps=>match fs[i]?,zef a with
  | some (off,sz),some us=>(match us.length == sz&&Nat.ble (off + sz) cs.length with
   |true=>zx4 fs (cs.take off++us++cs.drop (off+sz)) ps
   |false=>none)
  |_,_=>none
section
variable{P:Program}{cx:Cx}{I:In}{FF:Nat→List Nat}{ob:Ob}{w:World}{t:TypeId}{ti:TI}
theorem yjg{op:BinOp}{k:IntKind}{a b:Int}{av:AV}{lg:List Nat}(hs:op ≠ .shl∧op ≠ .shr)(he:(aInt op k a b ob).ev=some (av,lg))(x y:Operand) :
  ∃ u,(do eqGuard op t x y (.int k a) (.int k b);binOp op t (.int k a) (.int k b):Sem Value).run P w = .ok u w∧RelA cx I ob av u:=by
 have hg:(eqGuard op t x y (.int k a) (.int k b)).run P w = .ok () w:=by
  unfold eqGuard;split <;> rfl
 rw[Sem.run_bind,hg,Result.andThen_ok];cases op <;> simp only[aInt]at he
 case quo =>
  obtain⟨_,_,_,h1,h2,_⟩:=M.ev_bind he;have:=M.ev_pure (ob:=ob) h2;subst this;have hb:b≠0:=by simpa using M.ev_test h1
  exact⟨_,by simp[binOp,Op.intDiv,hb],rfl⟩
 case rem =>
  obtain⟨_,_,_,h1,h2,_⟩:=M.ev_bind he;have:=M.ev_pure (ob:=ob) h2;subst this;have hb:b≠0:=by simpa using M.ev_test h1
  exact⟨_,by simp[binOp,Op.intDiv,hb],rfl⟩
 case shl=>exact absurd rfl hs.1
 case shr=>exact absurd rfl hs.2
 case andNot=>exact(M.ev_fail (ob:=ob) he).elim
 all_goals
  have:=M.ev_pure (ob:=ob) he;subst this
  first
   |exact⟨_,by simp[binOp,Op.intArith];try rfl,rfl⟩
   |exact⟨_,by simp[binOp,Op.intBits];try rfl,rfl⟩
   |exact⟨.bool _,by simp[binOp,Op.intCmp];try rfl,by simp[RelA,RelS,bne,BEq.beq]⟩
theorem yg6{op:BinOp}{a b:ByteArray}{av:AV}{lg:List Nat}(he:(aStr op a b ob).ev=some (av,lg))(x y:Operand) :
    ∃ u,(do eqGuard op t x y (.string a) (.string b);binOp op t (.string a) (.string b):Sem Value).run P w = .ok u w∧RelA cx I ob av u:=by
  have hg:(eqGuard op t x y (.string a) (.string b)).run P w = .ok () w:=by
    unfold eqGuard;split <;> rfl
  rw[Sem.run_bind,hg,Result.andThen_ok];cases op <;> simp only[aStr]at he
  case add =>
    obtain⟨_,_,_,h1,h2,_⟩:=M.ev_bind he;have:=M.ev_pure (ob:=ob) h2;subst this;have hb:a.size+b.size≤9223372036854775807:=by simpa using M.ev_test h1
    have hc:¬ (((a.size+b.size:Nat):Int) > IntKind.i64.max):=by
      have:IntKind.i64.max=9223372036854775807:=by decide
      rw[this];omega
    refine⟨.string (a++b),?_,rfl⟩;rw[binOp_string_add];unfold Op.stringOp;simp only[if_neg hc,Sem.run_pure]
  all_goals
    first
      |exact(M.ev_fail (ob:=ob) he).elim
      | (have:=M.ev_pure (ob:=ob) he
         subst this
         exact⟨_,by simp[binOp,Op.stringOp];try rfl,rfl⟩)
theorem ydj{P:Program}{t:TypeId}{z:ZK}(h:zkF z (P.underlying t)=true)(w:World):(isAgg t).run P w = .ok false w:=by
 cases hu:P.underlying t with
 |none=>rw[hu]at h;cases z <;> cases h
 |some d =>
  rw[hu]at h;unfold Go.isAgg;rw[Sem.run_bind,run_underlying hu];cases z <;> cases d <;> first|rfl|cases h
theorem zqf{P:Program}{t:TypeId}{z:ZK}(h:zkF z (P.underlying t)=true){xs:Array Value}{i:Nat}{v:Value}(hx:xs[i]? = some v)(w:World):(part t xs i).run P w = .ok v w:=by
 unfold part;rw[Sem.run_bind,ydj h];simp[hx]
theorem F2.hd_drop{cx:Cx}{I:In}{ob:Ob}{v:Array Value}{i:Nat}{x:SV}{l:List SV}(h:F2 (RelS cx I ob) (x::l) (v.toList.drop i)):∃ a,v[i]? = some a∧RelS cx I ob x a∧F2 (RelS cx I ob) l (v.toList.drop (i+1)):=by
 cases hv:v.toList.drop i with
 |nil=>rw[hv]at h;exact h.elim
 |cons a as =>
  rw[hv]at h
  have e1:v.toList[i]? = some a:=by
   have:=List.getElem?_drop (xs:=v.toList) (i:=i) (j:=0);rw[hv]at this;simpa using this.symm
  have e2:v.toList.drop (i+1)=as:=by
   rw[← List.drop_drop,hv];rfl
  exact⟨a,by simpa using e1,h.1,by rw[e2];exact h.2⟩
theorem zh_{dp:Nat}{vx vy:Array Value}:∀ {fs:List Field} {zs:List ZK} {i:Nat} {xs ys:List SV} {b:Bool},eqFs P i zs fs=true→F2 (RelS cx I ob) xs (vx.toList.drop i)→F2 (RelS cx I ob) ys (vy.toList.drop i)→znz zs xs ys=some b →
  (Op.eqFields (dp+1) vx vy fs).run P w = .ok b w
 | [],[],i,[],[],b,hf,hx,hy,he=>by injection he with he;subst he;rfl
 |f::fs,z::zs,i,x::xs,y::ys,b,hf,hx,hy,he=>by
  simp only[eqFs,Bool.and_eq_true]at hf;obtain⟨⟨⟨h1,h2⟩,h3⟩,h4⟩:=hf;have ho:=Nat.eq_of_beq_eq_true h2
  have hname : f.name ≠ "_" := by simpa using h1
  obtain⟨u1,g1,r1,n1⟩:=F2.hd_drop hx;obtain⟨u2,g2,r2,n2⟩:=F2.hd_drop hy
  have one:∀ {e r:Bool},(Op.equalIn (dp+1) f.type u1 u2).run P w = .ok e w→(Op.eqFields (dp+1) vx vy fs).run P w = .ok r w→(Op.eqFields (dp+1) vx vy (f::fs)).run P w = .ok (e&&r) w:=by
   intro e r h5 h6;simp only[Op.eqFields];rw[if_pos hname,ho,Sem.run_bind,zqf h3 g1,Result.andThen_ok,Sem.run_bind,zqf h3 g2,Result.andThen_ok,Sem.run_bind,h5,Result.andThen_ok]
   cases e with
   |true=>simp[h6]
   |false=>simp
  cases hr:znz zs xs ys with
  |none=>cases z <;> cases x <;> cases y <;> simp[znz,hr]at he
  |some r =>
   have rest:=zh_ (dp:=dp) h4 n1 n2 hr;cases z <;> cases x <;> cases y <;> simp only[znz,hr]at he <;> try cases he
   ·rename_i kz k a k' c
    cases hk:eqK k k' with
    |false=>rw[hk]at he;cases he
    |true =>
     rw[hk]at he;injection he with he
     subst he;have:=ygj hk;subst this;have e1:u1 = .int k a:=r1;have e2:u2 = .int k c:=r2;subst e1;subst e2;refine one ?_ rest
     cases hu:P.underlying f.type with
     |none=>rw[hu]at h3;cases h3
     |some d =>
      rw[hu]at h3;cases d <;> first|(rename_i kk;exact(run_equalIn_int w dp f.type k kk a c hu).trans rfl)|cases h3
   ·rename_i a c;have e1:u1 = .bool a:=r1;have e2:u2 = .bool c:=r2;subst e1;subst e2;refine one ?_ rest
    cases hu:P.underlying f.type with
    |none=>rw[hu]at h3;cases h3
    |some d =>
     rw[hu]at h3;cases d <;> first|exact run_equalIn_bool' w dp f.type a c hu|cases h3
   ·rename_i a c;have e1:u1 = .string a:=r1;have e2:u2 = .string c:=r2;subst e1;subst e2;refine one ?_ rest
    cases hu:P.underlying f.type with
    |none=>rw[hu]at h3;cases h3
    |some d =>
     rw[hu]at h3;cases d <;> first|exact run_equalIn_string w dp f.type a c hu|cases h3
 | [],[],_,_::_,_,_,_,_,_,he=>by cases he
 | [],[],_,[],_::_,_,_,_,_,he=>by cases he
 | [],_::_,_,_,_,_,hf,_,_,_=>by cases hf
 |_::_,[],_,_,_,_,hf,_,_,_=>by cases hf
 |_::_,z::_,_,[],_,_,_,_,_,he=>by cases z <;> cases he
 |_::_,z::_,_,x::_,[],_,_,_,_,he=>by cases z <;> cases x <;> cases he
theorem yk9(hT:TIok P t ti){op:BinOp}{x y:AV}{vx vy:Value}{av:AV}{lg:List Nat}(hx:RelA cx I ob x vx)(hy:RelA cx I ob y vy)(he:(aBin ti op x y ob).ev=some (av,lg))(ox oy:Operand) :
    ∃ u,(do eqGuard op t ox oy vx vy;binOp op t vx vy:Sem Value).run P w = .ok u w∧RelA cx I ob av u:=by
  unfold aBin at he;split at he
  · rename_i k a k' b;have h1:vx = .int k a:=hx;have h2:vy = .int k' b:=hy;subst h1;subst h2;split at he
    · obtain⟨_,_,_,h1,h2,_⟩:=M.ev_bind he;have:=M.ev_pure (ob:=ob) h2;subst this;have hb:¬ b<0:=by have:=M.ev_test h1;simp at this;omega
      exact⟨_,by simp[binOp,Op.shift,hb,eqGuard];try rfl,rfl⟩
    · obtain⟨_,_,_,h1,h2,_⟩:=M.ev_bind he;have:=M.ev_pure (ob:=ob) h2;subst this;have hb:¬ b<0:=by have:=M.ev_test h1;simp at this;omega
      exact⟨_,by simp[binOp,Op.shift,hb,eqGuard];try rfl,rfl⟩
    · cases hk:eqK k k' with
      |false=>simp only[hk]at he;exact(M.ev_fail (ob:=ob) he).elim
      |true =>
        simp only[hk]at he;have:=ygj hk;subst this;exact yjg (by constructor <;> assumption) he ox oy
  · rename_i a b;have h1:vx = .string a:=hx;have h2:vy = .string b:=hy;subst h1;subst h2;exact yg6 he ox oy
  · rename_i a b;have h1:vx = .bool a:=hx;have h2:vy = .bool b:=hy;subst h1;subst h2
    cases hd:ti.d <;> cases op <;> simp only[hd]at he <;> first
      |exact(M.ev_fail (ob:=ob) he).elim
      | (have:=M.ev_pure (ob:=ob) he
         subst this;have hu:=hT.isBool hd
         exact⟨_,by simp[binOp,eqGuard,Op.equal,Op.maxDepth,run_equalIn_bool',hu];try rfl,rfl⟩)
  · rename_i xs ys;obtain⟨ax,rfl,hfx⟩:=hx;obtain⟨ay,rfl,hfy⟩:=hy
    cases h1:ti.eq with
    |false=>simp only[h1]at he;exact(M.ev_fail (ob:=ob) he).elim
    |true =>
      cases h3:znz ti.z xs ys with
      |none=>simp only[h1,h3]at he;exact(M.ev_fail (ob:=ob) he).elim
      |some b =>
        simp only[h1,h3]at he
        have main:P.eqGuardType P.depth t=false∧(Op.equalIn 10000 t (.agg ax) (.agg ay)).run P w = .ok b w:=by
          have hk:=hT.eq h1;unfold eqOK at hk;split at hk
          · rename_i fs hu;simp only[Bool.and_eq_true,Bool.not_eq_true']at hk;have hf:P.fieldsOf t=fs:=by unfold Program.fieldsOf;rw[hu]
            refine⟨hk.1.2,?_⟩;rw[run_equalIn_struct w 9999 t ax ay (by rw[hf];exact hu) hk.1.1,hf];exact zh_ (dp:=9998) (i:=0) hk.2 hfx hfy h3
          · cases hk
        obtain⟨m1,m2⟩:=main
        cases op <;> first
          |exact(M.ev_fail (ob:=ob) he).elim
          | (have:=M.ev_pure (ob:=ob) he
             subst this
             exact⟨.bool b,by rw[Sem.run_bind,run_eqGuard_agg w _ t ox oy ax ay m1,Result.andThen_ok,run_eql_struct,m2];rfl,rfl⟩)
          | (have:=M.ev_pure (ob:=ob) he
             subst this
             exact⟨.bool (!b),by rw[Sem.run_bind,run_eqGuard_agg w _ t ox oy ax ay m1,Result.andThen_ok,run_neq_struct,m2];rfl,rfl⟩)
  · exact(M.ev_fail (ob:=ob) he).elim
theorem ymh{op:UnOp}{x:AV}{vx:Value}{av:AV}{lg:List Nat}(hx:RelA cx I ob x vx)(he:(aUn op x ob).ev=some (av,lg)):∃ u,(Op.unary op vx).run P w = .ok u w∧RelA cx I ob av u:=by
 unfold aUn at he;split at he
 ·have h1:vx = .int _ _:=hx;subst h1;have:=M.ev_pure (ob:=ob) he;subst this;exact⟨_,by simp[Op.unary,Op.intArith];try rfl,rfl⟩
 ·have h1:vx = .bool _:=hx;subst h1;have:=M.ev_pure (ob:=ob) he;subst this;exact⟨_,by simp[Op.unary];try rfl,rfl⟩
 ·exact(M.ev_fail (ob:=ob) he).elim
theorem zxr(hT:P.underlying t=some .string){x:AV}{vx:Value}{k:IntKind}{i:Int}{av:AV}{lg:List Nat}(hx:RelA cx I ob x vx)(he:(zp2 x i ob).ev=some (av,lg)) :
  ∃ u,(Instr.index t vx (.int k i)).run P w = .ok u w∧RelA cx I ob av u:=by
 unfold zp2 at he;split at he
 ·rename_i s;have h1:vx = .string s:=hx;subst h1;obtain⟨_,_,_,h1,h2,_⟩:=M.ev_bind he;obtain⟨_,_,_,h3,h4,_⟩:=M.ev_bind h2;have:=M.ev_pure (ob:=ob) h4;subst this;have h0:0≤i:=by simpa using M.ev_test h1
  have hl:i<s.size:=by simpa using M.ev_test h3
  have hn:i.toNat<s.size:=by omega
  refine⟨.int .u8 (bts s i),?_,rfl⟩
  have hb:(s[i.toNat]).toNat=(s.data.toList.getD i.toNat 0).toNat:=by
   congr 1;rw[List.getD_eq_getElem?_getD,List.getElem?_eq_getElem (by simpa using hn)];rfl
  simp[Instr.index,asIntOf,run_underlying hT,h0,ByteArray.getElem?_lt' s _ hn,bts,hb]
 ·exact(M.ev_fail (ob:=ob) he).elim
theorem TIok.struct(h:TIok P t ti){fs:List (Nat×Nat)}(hd:ti.d = .struct fs):∃ gs:Array Field,P.underlying t=some (.struct gs)∧gs.toList.map (fun f=>(f.offset,P.cellsOf f.type))=fs:=by
 have:=h.fits;rw[hd]at this;have hu:=h.hd;cases hdd:h.d <;> rw[hdd]at this <;> simp[TD.fits]at this;rename_i gs;rw[hdd]at hu;exact⟨gs,hu,this⟩
theorem zdg{fs:List (Nat×Nat)}(hT:TIok P t ti)(hd:ti.d = .struct fs){f off sz:Nat}(hf:fs[f]? = some (off,sz))(hsz:sz≠0){g b:Nat} :
  (Instr.fieldAt t (.pointer (some ⟨g,b,none⟩)) f).run P w = .ok (.pointer (some ⟨g,b+off,none⟩)) w:=by
 obtain⟨gs,hu,hg⟩:=hT.struct hd;rw[← hg,List.getElem?_map]at hf
 cases hq:gs.toList[f]? with
 |none=>rw[hq]at hf;cases hf
 |some fl =>
  rw[hq]at hf;injection hf with hf
  injection hf with e1 e2
  have hq':gs[f]? = some fl:=by simpa using hq
  have hc:P.cellsOf fl.type≠0:=by rw[e2];exact hsz
  unfold Program.cellsOf at hc e2
  cases hi:P.info? fl.type with
  |none=>rw[hi]at hc;simp at hc
  |some i =>
   rw[hi]at hc e2;simp only[Option.map_some,Option.getD_some]at hc e2;simp[Instr.fieldAt,run_underlying hu,hq',Instr.sureAddr,fieldPlace,sizeOf,typeInfo,hi,hc,zbu,e1]
def zc7(ti:TI)(s:SV)(f:Nat):M AV :=
 match ti.d with
 | .struct fs=>(match fs[f]? with
  | some (off,sz)=>(match Nat.ble 1 sz with
   | true=>(match s with
    | .bptr o c=>M.pure (.one (.bptr o (c+off)))
    | .ptr o v p i c=>M.pure (.one (.ptr o v p i (c+off)))
    | .cptr r i c=>M.pure (.one (.cptr r i (c+off)))
    |_=>M.fail)
   |false=>M.fail)
  |none=>M.fail)
 |_=>M.fail
theorem zny(hT:TIok P t ti){s:SV}{v:Value}{f:Nat}{av:AV}{lg:List Nat}(hs:RelS cx I ob s v)(he:(zc7 ti s f ob).ev=some (av,lg)):∃ u,(Instr.fieldAt t v f).run P w = .ok u w∧RelA cx I ob av u:=by
 unfold zc7 at he
 cases hd:ti.d with
 |struct fs =>
  simp only[hd]at he
  cases hf:fs[f]? with
  |none=>simp only[hf]at he;exact(M.ev_fail (ob:=ob) he).elim
  |some os =>
   obtain⟨off,sz⟩:=os;simp only[hf]at he
   cases hsz:Nat.ble 1 sz with
   |false=>simp only[hsz]at he;exact(M.ev_fail (ob:=ob) he).elim
   |true =>
    simp only[hsz]at he;have hsz':sz≠0:=by have:=Nat.le_of_ble_eq_true hsz;omega
    cases s with
    |bptr o c =>
     have:=M.ev_pure (ob:=ob) he;subst this;obtain⟨hk,g,hA,rfl⟩:=hs;exact⟨_,zdg hT hd hf hsz',hk,g,hA,rfl⟩
    |ptr o ver p i c =>
     have:=M.ev_pure (ob:=ob) he;subst this;obtain⟨hk,hpv,hi,g,b,hA,rfl⟩:=hs;exact⟨_,zdg hT hd hf hsz',hk,hpv,hi,g,b,hA,by rw[Nat.add_assoc]⟩
    |cptr r i c =>
     have:=M.ev_pure (ob:=ob) he;subst this;obtain⟨hi,g,b,cap,hc,rfl⟩:=hs;exact⟨_,zdg hT hd hf hsz',hi,g,b,cap,hc,by rw[Nat.add_assoc]⟩
    |_=>exact(M.ev_fail (ob:=ob) he).elim
 |_=>simp only[hd]at he;exact(M.ev_fail (ob:=ob) he).elim
theorem zph{gs:Array Field}{fs:List (Nat×Nat)}(hg:gs.toList.map (fun f=>(f.offset,P.cellsOf f.type))=fs):∀ {ps:List (Nat×AV)} {qs:List (Nat×Value)} {cs cs':List SV} {arr:Array Value},
  zx4 fs cs ps=some cs'→F2 (fun p q=>p.1=q.1∧RelA cx I ob p.2 q.2) ps qs→F2 (RelS cx I ob) cs arr.toList →
  ∃ arr',Instr.fill ((gs.map fun f=>(f.offset,P.cellsOf f.type))[·]?) arr qs=some arr'∧F2 (RelS cx I ob) cs' arr'.toList
 | [],[],cs,cs',arr,h,_,hc=>by injection h with h;subst h;exact⟨arr,rfl,hc⟩
 |(i,a)::ps,(j,v)::qs,cs,cs',arr,h,hr,hc=>by
  simp only[zx4]at h;split at h
  ·rename_i off sz us hf hu;split at h
   ·rename_i hb;simp only[Bool.and_eq_true]at hb;have hul:us.length=sz:=by simpa using hb.1
    have hle:=Nat.le_of_ble_eq_true hb.2;have hij:=hr.1.1;simp only at hij;subst hij;have hcv:=zed hu hr.1.2;simp only at hcv;have hvl:v.cells.toList.length=sz:=by rw[← hcv.len,hul]
    have hal:cs.length=arr.size:=by rw[hc.len];simp
    have hpl:(gs.map fun f=>(f.offset,P.cellsOf f.type))[i]? = some (off,sz):=by
     rw[← hf,← hg];simp
    have hfold:=zpd off v.cells.toList 0 arr;rcases hfold with hfold|hfold
    ·have e1:Array.foldl (fun cs x=>cs.setIfInBounds (off+x.2) x.1) arr (v.cells.zipIdx)=List.foldl (fun cs x=>cs.setIfInBounds (off+x.2) x.1) arr (v.cells.toList.zipIdx 0):=by
      rw[← Array.foldl_toList];simp
     have e2:=e1.trans hfold;simp only[Nat.add_zero]at e2
     have hnew:F2 (RelS cx I ob) (cs.take off++us++cs.drop (off+sz)) (arr.toList.take off++v.cells.toList++arr.toList.drop (off+v.cells.toList.length)).toArray.toList:=by
      rw[List.toList_toArray,hvl];exact F2.app (F2.app hc.take hcv) hc.drop
     obtain⟨arr',h1,h2⟩:=zph hg h hr.2 hnew;refine⟨arr',?_,h2⟩;have hvs:v.cells.size=sz:=by simpa using hvl
     simp only[Instr.fill,hpl];rw[if_neg (by simp[hvs];omega)];rw[← h1];congr 1
    ·simp at hfold hvl;omega
   ·cases h
  ·cases h
 | [],_::_,_,_,_,_,h,_=>h.elim
 |_::_,[],_,_,_,_,h,_=>h.elim
def zp4(ti:TI)(ps:List (Nat×AV)):M AV :=
 match ti.d with
 | .struct fs=>(match fs.all (fun f=>Nat.ble 1 f.2),zx4 fs (ti.z.map ZK.sv) ps with
  |true,some cs=>M.pure (.agg cs)
  |_,_=>M.fail)
 |_=>M.fail
theorem zlz{w:World}:∀ (l:List Field),(∀ f∈l,P.cellsOf f.type≠0)→(l.mapM (fun f=>do pure (f.offset,← sizeOf f.type):Field→Sem (Nat×Nat))).run P w = .ok (l.map fun f=>(f.offset,P.cellsOf f.type)) w
 | [],_=>by simp
 |f::l,h=>by
  have ih:=zlz (w:=w) l (fun g hg=>h g (List.mem_cons_of_mem _ hg));have hc:=h f List.mem_cons_self
  have hs:(sizeOf f.type).run P w = .ok (P.cellsOf f.type) w:=by
   unfold Program.cellsOf at hc ⊢
   cases hi:P.info? f.type with
   |none=>rw[hi]at hc;simp at hc
   |some i=>simp[sizeOf,typeInfo,hi]
  simp only[List.mapM_cons,Sem.run_bind,hs,Result.andThen_ok,Sem.run_pure,List.map_cons];rw[ih];simp
theorem zyu(hT:TIok P t ti){ps:List (Nat×AV)}{qs:Array (Nat×Value)}(hq:F2 (fun p q=>p.1=q.1∧RelA cx I ob p.2 q.2) ps qs.toList){av:AV}{lg:List Nat}(he:(zp4 ti ps ob).ev=some (av,lg)) :
  ∃ u,(Instr.build t qs).run P w = .ok u w∧RelA cx I ob av u:=by
 unfold zp4 at he
 cases hd:ti.d with
 |struct fs =>
  simp only[hd]at he
  cases hall:fs.all (fun f=>Nat.ble 1 f.2) with
  |false=>simp only[hall]at he;exact(M.ev_fail (ob:=ob) he).elim
  |true =>
  cases hfill:zx4 fs (ti.z.map ZK.sv) ps with
  |none=>simp only[hall,hfill]at he;exact(M.ev_fail (ob:=ob) he).elim
  |some cs =>
   simp only[hall,hfill]at he;have:=M.ev_pure (ob:=ob) he;subst this;obtain⟨gs,hu,hg⟩:=hT.struct hd;have hz:F2 (RelS cx I ob) (ti.z.map ZK.sv) hT.z.cells.toList:=zp6 hT.zs;obtain⟨arr',h1,h2⟩:=zph hg hfill hq hz
   have hpos:∀ f∈gs.toList,P.cellsOf f.type≠0:=by
    intro f hf;have:(f.offset,P.cellsOf f.type)∈fs:=by rw[← hg];exact List.mem_map.2 ⟨f,hf,rfl⟩
    have:=Nat.le_of_ble_eq_true (List.all_eq_true.1 hall _ this);simp only at this;omega
   have hpl:=zlz (P:=P) (w:=w) gs.toList hpos
   have hpl2:(gs.mapM (fun f=>do pure (f.offset,← sizeOf f.type):Field→Sem (Nat×Nat))).run P w = .ok (gs.map fun f=>(f.offset,P.cellsOf f.type)) w:=by
    rw[Array.mapM_eq_mapM_toList];rw[Sem.run_map,hpl];simp only[Result.andThen_ok];congr 1;apply Array.ext';simp
   refine⟨.agg arr',?_,arr',rfl,h2⟩;simp only[Instr.build,zeroValue,typeInfo,Sem.run_bind,run_program,Result.andThen_ok,hT.hi,hT.hz,Sem.run_pure,run_underlying hu,hpl2,h1]
 |_=>simp only[hd]at he;exact(M.ev_fail (ob:=ob) he).elim
end
end Go.Proofs.Ytbjgiioppmkpiaa.Rx

namespace Go.Proofs.Ytbjgiioppmkpiaa.Rx
open Go Go.RowKit
def zsf:Value→SV
 | .int k n=>.int k n
 | .bool b=>.bool b
 | .string s=>.str s
 | .slice none 0 0=>.nil
 |_=>.undef
def zse:Value→Bool
 | .agg _=>false
 | .tuple _=>false
 |_=>true
def yi9:Value→AV
 | .agg cs=>(match cs.toList.all zse with|true=>.agg (cs.toList.map zsf)|false=>.undef)
 | .tuple _=>.undef
 |v=>.one (zsf v)
def lift(x:M AV):M (AV×List (Nat×Ent)):=M.bind x fun a=>M.pure (a,[])
def za9:Operand→Operand→Bool
 | .tmp a,.tmp b=>Nat.beq a b
 | .const (.int k a),.const (.int k' b)=>decide (k=k')&&decide (a=b)
 |_,_=>false
theorem zoj{a b:Operand}(h:za9 a b=true):a=b:=by
 unfold za9 at h;split at h
 ·rw[Nat.eq_of_beq_eq_true h]
 ·simp only[Bool.and_eq_true,decide_eq_true_eq]at h;rw[h.1,h.2]
 ·cases h
def yoi:AV→Bool
 | .one (.bptr _ _)=>true
 | .one (.ptr _ _ _ _ _)=>true
 | .one (.cptr _ _ _)=>true
 |_=>false
def yfa(src dst:TI)(x:AV):M AV :=
 match dst.d,x with
 | .int k,.one (.int _ n)=>M.pure (.one (.int k (k.wrap n)))
 |_,_=>M.fail
def zh3(mx:Bool):AV→AV→M AV
 | .one (.int k a),.one (.int _ b)=>(match mx with
  |true=>M.pure (.one (.int k (if b > a then b else a)))
  |false=>M.pure (.one (.int k (if b<a then b else a))))
 |_,_=>M.fail
def zey(T:TB)(b:Builtin)(ts:Array TypeId)(xs:List AV)(d:Nat):M (AV×List (Nat×Ent)) :=
 match b,ts.toList,xs with
 | .len,[t],[.one s]=>(match T t with
  | some ti=>(match ti.d,s with
   | .str,.str b=>M.pure (.one (.int .i64 (b.size:Int)),[])
   | .str,_=>M.fail
   | .slice _,.str _=>M.fail
   | .slice _,s=>M.bind (aLen s) fun n=>M.pure (.one (.int .i64 (n:Int)),[])
   |_,_=>M.fail)
  |none=>M.fail)
 | .append,[t,t'],[.one s,.one x]=>(match Nat.beq t t',T t with
  | true,some ti=>(match ti.d with
   | .slice e=>(match T e with
    | some tie=>(match tie.ty,Nat.ble 1 tie.bytes with
     |some ty,true=>zlf e ty tie.bytes s x d
     |_,_=>M.fail)
    |none=>M.fail)
   |_=>M.fail)
  |_,_=>M.fail)
 | .max,_,[x,y]=>lift (zh3 true x y)
 | .min,_,[x,y]=>lift (zh3 false x y)
 |_,_,_=>M.fail
def zwt:List AV→Option (List SV)
 | []=>some []
 |a::as=>match a,zwt as with
  | .one s,some cs=>some (s::cs)
  |_,_=>none
def aOpB(T:TB)(ρ:Operand→AV)(d:Nat):Op→M (AV×List (Nat×Ent))
 | .move x=>M.pure (ρ x,[])
 | .assign x=>M.pure (ρ x,[])
 | .pick c a b=>(match ρ c with
  | .one (.bool c)=>M.split c (M.pure (ρ a,[])) (M.pure (ρ b,[]))
  |_=>M.fail)
 | .alloc t=>(match T t with|some ti=>zs8 ti d|none=>M.fail)
 | .box _ x=>(match zef (ρ x) with|some cs=>aBox cs d|none=>M.fail)
 | .build t ps=>(match T t with|some ti=>lift (zp4 ti (ps.toList.map fun p=>(p.1,ρ p.2)))|none=>M.fail)
 | .buildSlice t n ps=>(match T t with
  | some ti=>(match ti.d with
   | .slice e=>(match T e with
    | some tie=>(match tie.ty,zhj 0 (ps.toList.map fun p=>(p.1,ρ p.2)) with
     |some ty,some css=>zcg e ty n css d
     |_,_=>M.fail)
    |none=>M.fail)
   |_=>M.fail)
  |none=>M.fail)
 | .load t a=>(match T t,ρ a with|some ti,.one p=>lift (zpz ti p)|_,_=>M.fail)
 | .store t a x=>(match T t,ρ a,zef (ρ x) with
  |some ti,.one p,some cs=>M.bind (zpy ti p cs) fun ups=>M.pure (.undef,ups)
  |_,_,_=>M.fail)
 | .nilCheck x=>(match yoi (ρ x) with|true=>M.pure (ρ x,[])|false=>M.fail)
 | .binOp op t x y _=>(match T t with|some ti=>lift (aBin ti op (ρ x) (ρ y))|none=>M.fail)
 | .unOp op _ x=>lift (aUn op (ρ x))
 | .convert s t x=>(match T s,T t with|some si,some ti=>lift (yfa si ti (ρ x))|_,_=>M.fail)
 | .makeSlice t l c=>(match za9 l c,T t,ρ l with
  | true,some ti,.one (.int _ n)=>(match ti.d with
   | .slice e=>(match T e with
    | some tie=>(match tie.ty,Nat.ble 1 tie.bytes with
     |some ty,true=>zex e ty tie.bytes n d
     |_,_=>M.fail)
    |none=>M.fail)
   |_=>M.fail)
  |_,_,_=>M.fail)
 | .slice t x lo hi mx=>(match mx,T t,ρ x,intO (lo.map ρ),intO (hi.map ρ) with
  | none,some ti,.one s,some l,some h=>(match ti.d,s with
   | .str,.str b=>lift (zg5 1 (.str b) l h)
   | .str,_=>M.fail
   | .slice _,.str _=>M.fail
   | .slice e,s=>(match T e with|some tie=>lift (zg5 tie.sz s l h)|none=>M.fail)
   |_,_=>M.fail)
  |_,_,_,_,_=>M.fail)
 | .fieldAddr t x f=>(match T t,ρ x with|some ti,.one s=>lift (zc7 ti s f)|_,_=>M.fail)
 | .indexAddr t x i=>(match T t,ρ x,ρ i with
  | some ti,.one s,.one (.int _ n)=>(match ti.d with
   | .slice e=>(match T e with|some tie=>lift (zca tie.sz s n)|none=>M.fail)
   |_=>M.fail)
  |_,_,_=>M.fail)
 | .index t x i=>(match T t,ρ i with
  |some ti,.one (.int _ n)=>(match ti.d with | .str=>lift (zp2 (ρ x) n)|_=>M.fail)
  |_,_=>M.fail)
 | .extract x i=>(match ρ x with
  | .tup vs=>(match vs[i]? with
   |some (true,cs)=>M.pure (.agg cs,[])
   |some (false,[s])=>M.pure (.one s,[])
   |_=>M.fail)
  |_=>M.fail)
 | .call c=>(match c.callee with
  | .builtin b=>zey T b c.argTypes (c.args.toList.map ρ) d
  |_=>M.fail)
 | .makeFunc (.func f) first caps=>(match first.toList,zwt (caps.toList.map ρ) with
  | [],some cs=>M.pure (.fn f cs,[])
  |_,_=>M.fail)
 |_=>M.fail
theorem zo0{cx:Cx}{I:In}{ob:Ob}{ρ:Operand→AV}{ev:Operand→Value}(hρ:∀ x,RelA cx I ob (ρ x) (ev x)):∀ {xs:List Operand} {cs:List SV},zwt (xs.map ρ)=some cs→F2 (RelS cx I ob) cs (xs.map ev)
 | [],cs,h=>by injection h with h;subst h;trivial
 |x::xs,cs,h=>by
  simp only[List.map_cons,zwt]at h;split at h
  ·rename_i s cs' hx hxs;injection h with h
   subst h;have h1:=hρ x;rw[hx]at h1;exact⟨h1,zo0 hρ hxs⟩
  ·cases h
section
variable{P:Program}{cx:Cx}{I:In}{FF:Nat→List Nat}{ob:Ob}{w:World}{T:TB}
theorem zmj{v:Value}(h:zse v=true):RelS cx I ob (zsf v) v:=by
 unfold zsf;split
 ·rfl
 ·rfl
 ·rfl
 ·rfl
 ·cases v <;> first|rfl|cases h
theorem zww(v:Value):RelA cx I ob (yi9 v) v:=by
 unfold yi9;split
 ·rename_i cs;split
  ·rename_i hall;refine⟨cs,rfl,?_⟩;have:=List.all_eq_true.1 hall;generalize cs.toList=l at this;clear hall
   induction l with
   |nil=>trivial
   |cons v l ih=>exact⟨zmj (this v List.mem_cons_self),ih (fun x hx=>this x (List.mem_cons_of_mem _ hx))⟩
  ·trivial
 ·trivial
 ·rename_i h1 h2;exact zmj (by cases v <;> first|rfl|exact absurd rfl (h1 _)|exact absurd rfl (h2 _))
def DidN(cx:Cx)(I:In)(ob:Ob)(run:Result Next)(av:AV)(ups:List (Nat×Ent)):Prop :=
 ∃ w' I' FF',Ext I ob I' (ob.puts ups)∧RelH cx I' FF' (ob.puts ups) w'∧((∃ u,run = .ok (.value u) w'∧RelA cx I' (ob.puts ups) av u)∨(run = .ok .skip w'∧av = .undef))
theorem Did.next{s:Sem Value}{av:AV}{ups:List (Nat×Ent)}(h:Did P cx I ob w (s.run P w) av ups):DidN cx I ob ((do pure (Next.value (← s)):Sem Next).run P w) av ups:=by
 obtain⟨u,w',I',FF',hr,x,h1,h2⟩:=h;exact⟨w',I',FF',x,h1,.inl ⟨u,by simp[hr],h2⟩⟩
theorem yjd{x:M AV}{av:AV}{ups:List (Nat×Ent)}{lg:List Nat}(h:(lift x ob).ev=some ((av,ups),lg)):ups=[]∧∃ l,(x ob).ev=some (av,l):=by
 obtain⟨a,l1,l2,h1,h2,_⟩:=M.ev_bind h;have:=M.ev_pure (ob:=ob) h2;injection this with e1 e2
 subst e1;exact⟨e2.symm,l1,h1⟩
theorem Did.lift(h:RelH cx I FF ob w){s:Sem Value}{x:M AV}{av:AV}{ups:List (Nat×Ent)}{lg:List Nat}(he:(lift x ob).ev=some ((av,ups),lg))
  (hx:∀ l,(x ob).ev=some (av,l)→∃ u,s.run P w = .ok u w∧RelA cx I ob av u):Did P cx I ob w (s.run P w) av ups:=by
 obtain⟨rfl,l,h1⟩:=yjd he;obtain⟨u,h2,h3⟩:=hx l h1;exact Did.still h h2 h3
theorem yja{α:Type}{ps:List (α×Operand)}{ρ:Operand→AV}{ev:Operand→Value}(hρ:∀ x,RelA cx I ob (ρ x) (ev x)) :
  F2 (fun (p:α×AV) (q:α×Value)=>p.1=q.1∧RelA cx I ob p.2 q.2) (ps.map fun p=>(p.1,ρ p.2)) (ps.map fun p=>(p.1,ev p.2)):=by
 induction ps with
 |nil=>trivial
 |cons p ps ih=>exact⟨⟨rfl,hρ _⟩,ih⟩
theorem zsi{ps:Array (Nat×Operand)}{ρ:Operand→AV}{ev:Operand→Value}(hρ:∀ x,RelA cx I ob (ρ x) (ev x)){qs:Array (Nat×Value)}(hq:qs=ps.map fun (i,x)=>(i,ev x)) :
  F2 (fun (p:Nat×AV) (q:Nat×Value)=>p.1=q.1∧RelA cx I ob p.2 q.2) (ps.toList.map fun p=>(p.1,ρ p.2)) qs.toList:=by
 subst hq;rw[Array.toList_map];exact yja hρ
theorem zst{ρ:Operand→AV}{ev:Operand→Value}(hρ:∀ x,RelA cx I ob (ρ x) (ev x)){lo:Option Operand}{l:Option Int}(h:intO (lo.map ρ)=some l):∃ k,lo.map ev=valO k l:=by
 cases lo with
 |none=>injection h with h;subst h;exact⟨.i64,rfl⟩
 |some x =>
  simp only[Option.map_some]at h ⊢;have hx:=hρ x
  cases hr:ρ x with
  |one s =>
   rw[hr]at h hx
   cases s with
   |int k n=>injection h with h;subst h;exact⟨k,by rw[show ev x=_ from hx];rfl⟩
   |_=>cases h
  |_=>rw[hr]at h;cases h
theorem zrd(hT:TBok P T)(h:RelH cx I FF ob w){b:Builtin}{ts:Array TypeId}{xs:List AV}{vs:List Value}(hv:F2 (RelA cx I ob) xs vs){ty:TypeId}{cs:Array Bool}{d:Nat}{av:AV}{ups:List (Nat×Ent)}{lg:List Nat}
    (he:(zey T b ts xs d ob).ev=some ((av,ups),lg)):DidN cx I ob ((Go.builtin b ts ty cs vs.toArray).run P w) av ups:=by
  generalize hm:zey T b ts xs d=m at he;unfold zey at hm;split at hm <;> subst hm
  · rename_i t s hts
    obtain⟨v,rfl⟩:∃ v,vs=[v]:=by
      cases vs with
      |nil=>exact hv.elim
      |cons v vs=>cases vs with
        |nil=>exact⟨v,rfl⟩
        |cons _ _=>exact hv.2.elim
    have hs:RelS cx I ob s v:=hv.1;have hts':ts = #[t]:=by apply Array.ext';exact hts
    subst hts'
    cases hTt:T t with
    |none=>simp only[hTt]at he;exact(M.ev_fail (ob:=ob) he).elim
    |some ti =>
      simp only[hTt]at he;obtain⟨hti⟩:=hT.get hTt
      cases hd:ti.d with
      |str =>
        cases s <;> simp only[hd]at he <;> first
          |exact(M.ev_fail (ob:=ob) he).elim
          | (have:=M.ev_pure (ob:=ob) he
             injection this with e1 e2
             subst e1;subst e2;have hvv:v = .string _:=hs;subst hvv
             exact⟨w,I,FF,Ext.refl I ob,h,.inl ⟨_,by simp only[Go.builtin,Sem.run_bind];rw[zvv (P:=P) (w:=w) (.inl hd) hti (.inl ⟨hd,_,rfl,rfl⟩)];rfl,rfl⟩⟩)
      |slice e =>
        have key:∀ s,(∀ b,s ≠ .str b)→RelS cx I ob s v→(M.bind (aLen s) (fun n=>M.pure ((AV.one (.int .i64 (n:Int)),[]):AV×List (Nat×Ent))) ob).ev=some ((av,ups),lg)→DidN cx I ob ((Go.builtin .len #[t] ty cs #[v]).run P w) av ups:=by
          intro s hns hs he;obtain⟨n,l1,l2,h1,h2,rfl⟩:=M.ev_bind he;have:=M.ev_pure (ob:=ob) h2;injection this with e1 e2
          subst e1;subst e2;rcases yje h hs h1 with ⟨b,rfl,_⟩|⟨A,c,rfl⟩
          · exfalso
            cases s with
            |str b=>exact hns b rfl
            |nil=>cases hs
            |con r=>obtain⟨_,_,hh,_⟩:=hs;cases hh
            |ref o ver p vw=>obtain⟨_,_,_,_,_,_,_,_,hh,_⟩:=hs;cases hh
            |_=>exact(M.ev_fail (ob:=ob) h1).elim
          · exact⟨w,I,FF,Ext.refl I ob,h,.inl ⟨_,by simp only[Go.builtin,Sem.run_bind];rw[zvv (P:=P) (w:=w) (.inr ⟨e,hd⟩) hti (.inr ⟨⟨e,hd⟩,A,c,rfl⟩)];rfl,rfl⟩⟩
        cases s <;> simp only[hd]at he <;> first
          |exact(M.ev_fail (ob:=ob) he).elim
          |exact key _ (by intro b hb;cases hb) hs he
      |_=>simp only[hd]at he;exact(M.ev_fail (ob:=ob) he).elim
  · rename_i t t' s x hts
    obtain⟨v1,v2,rfl⟩:∃ v1 v2,vs=[v1,v2]:=by
      cases vs with
      |nil=>exact hv.elim
      |cons v vs=>cases vs with
        |nil=>exact hv.2.elim
        |cons v2 vs=>cases vs with
          |nil=>exact⟨v,v2,rfl⟩
          |cons _ _=>exact hv.2.2.elim
    have hts':ts = #[t,t']:=by apply Array.ext';exact hts
    subst hts'
    cases htt:Nat.beq t t' with
    |false=>simp only[htt]at he;exact(M.ev_fail (ob:=ob) he).elim
    |true =>
      have:=Nat.eq_of_beq_eq_true htt;subst this
      cases hTt:T t with
      |none=>simp only[htt,hTt]at he;exact(M.ev_fail (ob:=ob) he).elim
      |some ti =>
        simp only[htt,hTt]at he;obtain⟨hti⟩:=hT.get hTt
        cases hd:ti.d with
        |slice e =>
          simp only[hd]at he
          cases hTe:T e with
          |none=>simp only[hTe]at he;exact(M.ev_fail (ob:=ob) he).elim
          |some tie =>
            simp only[hTe]at he;obtain⟨htie⟩:=hT.get hTe
            cases hty:tie.ty with
            |none=>simp only[hty]at he;exact(M.ev_fail (ob:=ob) he).elim
            |some Ty =>
              cases hb:Nat.ble 1 tie.bytes with
              |false=>simp only[hty,hb]at he;exact(M.ev_fail (ob:=ob) he).elim
              |true =>
                simp only[hty,hb]at he;exact Did.next (s:=Builtin.append_ #[t,t] ty #[v1,v2]) (zuj (hti.slice hd) htie hty (Nat.le_of_ble_eq_true hb) h hv.1 hv.2.1 he)
        |_=>simp only[hd]at he;exact(M.ev_fail (ob:=ob) he).elim
  · rename_i x y
    obtain⟨v1,v2,rfl⟩:∃ v1 v2,vs=[v1,v2]:=by
      cases vs with
      |nil=>exact hv.elim
      |cons v vs=>cases vs with
        |nil=>exact hv.2.elim
        |cons v2 vs=>cases vs with
          |nil=>exact⟨v,v2,rfl⟩
          |cons _ _=>exact hv.2.2.elim
    refine Did.next (s:=Builtin.max_ ts ty #[v1,v2]) (Did.lift h he (fun l hl=>?_));unfold zh3 at hl;split at hl
    · have h1:v1 = .int _ _:=hv.1;have h2:v2 = .int _ _:=hv.2.1;subst h1;subst h2;have:=M.ev_pure (ob:=ob) hl;subst this;exact⟨_,by simp[Builtin.max_,Builtin.max2];try rfl,rfl⟩
    · exact(M.ev_fail (ob:=ob) hl).elim
  · rename_i x y
    obtain⟨v1,v2,rfl⟩:∃ v1 v2,vs=[v1,v2]:=by
      cases vs with
      |nil=>exact hv.elim
      |cons v vs=>cases vs with
        |nil=>exact hv.2.elim
        |cons v2 vs=>cases vs with
          |nil=>exact⟨v,v2,rfl⟩
          |cons _ _=>exact hv.2.2.elim
    refine Did.next (s:=Builtin.min_ ts ty #[v1,v2]) (Did.lift h he (fun l hl=>?_));unfold zh3 at hl;split at hl
    · have h1:v1 = .int _ _:=hv.1;have h2:v2 = .int _ _:=hv.2.1;subst h1;subst h2;have:=M.ev_pure (ob:=ob) hl;subst this;exact⟨_,by simp[Builtin.min_,Builtin.min2];try rfl,rfl⟩
    · exact(M.ev_fail (ob:=ob) hl).elim
  · exact(M.ev_fail (ob:=ob) he).elim
end
end Go.Proofs.Ytbjgiioppmkpiaa.Rx

namespace Go.Proofs.Ytbjgiioppmkpiaa.Rx
open Go Go.RowKit
section
variable{P:Program}{cx:Cx}{I:In}{FF:Nat→List Nat}{ob:Ob}{w:World}{T:TB}
set_option maxHeartbeats 1000000 in
theorem ybk(hT:TBok P T)(h:RelH cx I FF ob w){ρ:Operand→AV}{ev:Operand→Value}(hρ:∀ x,RelA cx I ob (ρ x) (ev x))(hev:∀ a b,za9 a b=true→ev a=ev b){d:Nat}{dst:Option Tmp}{ty:TypeId}{pos:String}{after:Array Edge}{guard:Option (Nat×Bool)}(x:Operand){av:AV}{ups:List (Nat×Ent)}{lg:List Nat}
  (he:(aOpB T ρ d (.move x) ob).ev=some ((av,ups),lg)):DidN cx I ob ((execOp ev ⟨dst,.move x,ty,pos,after,guard⟩).run P w) av ups:=by
 have:=M.ev_pure (ob:=ob) he;injection this with e1 e2
 subst e1;subst e2;exact⟨w,I,FF,Ext.refl I ob,h,.inl ⟨_,rfl,hρ x⟩⟩
set_option maxHeartbeats 1000000 in
theorem ztl(hT:TBok P T)(h:RelH cx I FF ob w){ρ:Operand→AV}{ev:Operand→Value}(hρ:∀ x,RelA cx I ob (ρ x) (ev x))(hev:∀ a b,za9 a b=true→ev a=ev b){d:Nat}{dst:Option Tmp}{ty:TypeId}{pos:String}{after:Array Edge}{guard:Option (Nat×Bool)}(x:Operand){av:AV}{ups:List (Nat×Ent)}{lg:List Nat}
  (he:(aOpB T ρ d (.assign x) ob).ev=some ((av,ups),lg)):DidN cx I ob ((execOp ev ⟨dst,.assign x,ty,pos,after,guard⟩).run P w) av ups:=by
 have:=M.ev_pure (ob:=ob) he;injection this with e1 e2
 subst e1;subst e2;exact⟨w,I,FF,Ext.refl I ob,h,.inl ⟨_,rfl,hρ x⟩⟩
set_option maxHeartbeats 1000000 in
theorem ybj(hT:TBok P T)(h:RelH cx I FF ob w){ρ:Operand→AV}{ev:Operand→Value}(hρ:∀ x,RelA cx I ob (ρ x) (ev x))(hev:∀ a b,za9 a b=true→ev a=ev b){d:Nat}{dst:Option Tmp}{ty:TypeId}{pos:String}{after:Array Edge}{guard:Option (Nat×Bool)}(c a b:Operand){av:AV}{ups:List (Nat×Ent)}{lg:List Nat}
  (he:(aOpB T ρ d (.pick c a b) ob).ev=some ((av,ups),lg)):DidN cx I ob ((execOp ev ⟨dst,.pick c a b,ty,pos,after,guard⟩).run P w) av ups:=by
 simp only[aOpB]at he;have hc:=hρ c
 cases hr:ρ c with
 |one s =>
  rw[hr]at hc
  cases s with
  |bool cb =>
   simp only[hr]at he;have hcv:ev c = .bool cb:=hc;rcases M.ev_split he with ⟨rfl,h2⟩|⟨rfl,h2⟩
   ·have:=M.ev_pure (ob:=ob) h2;injection this with e1 e2
    subst e1;subst e2;exact⟨w,I,FF,Ext.refl I ob,h,.inl ⟨_,by simp[execOp,hcv,asBool];try rfl,hρ a⟩⟩
   ·have:=M.ev_pure (ob:=ob) h2;injection this with e1 e2
    subst e1;subst e2;exact⟨w,I,FF,Ext.refl I ob,h,.inl ⟨_,by simp[execOp,hcv,asBool];try rfl,hρ b⟩⟩
  |_=>simp only[hr]at he;exact(M.ev_fail (ob:=ob) he).elim
 |_=>simp only[hr]at he;exact(M.ev_fail (ob:=ob) he).elim
set_option maxHeartbeats 1000000 in
theorem zvt(hT:TBok P T)(h:RelH cx I FF ob w){ρ:Operand→AV}{ev:Operand→Value}(hρ:∀ x,RelA cx I ob (ρ x) (ev x))(hev:∀ a b,za9 a b=true→ev a=ev b){d:Nat}{dst:Option Tmp}{ty:TypeId}{pos:String}{after:Array Edge}{guard:Option (Nat×Bool)}(t:TypeId){av:AV}{ups:List (Nat×Ent)}{lg:List Nat}
  (he:(aOpB T ρ d (.alloc t) ob).ev=some ((av,ups),lg)):DidN cx I ob ((execOp ev ⟨dst,.alloc t,ty,pos,after,guard⟩).run P w) av ups:=by
 simp only[aOpB]at he
 cases ht:T t with
 |none=>simp only[ht]at he;exact(M.ev_fail (ob:=ob) he).elim
 |some ti =>
  simp only[ht]at he;obtain⟨hti⟩:=hT.get ht;exact Did.next (s:=Instr.alloc t true (.tuple #[])) (zzc hti h he)
set_option maxHeartbeats 1000000 in
theorem yhn(hT:TBok P T)(h:RelH cx I FF ob w){ρ:Operand→AV}{ev:Operand→Value}(hρ:∀ x,RelA cx I ob (ρ x) (ev x))(hev:∀ a b,za9 a b=true→ev a=ev b){d:Nat}{dst:Option Tmp}{ty:TypeId}{pos:String}{after:Array Edge}{guard:Option (Nat×Bool)}(t:TypeId)(x:Operand){av:AV}{ups:List (Nat×Ent)}{lg:List Nat}
  (he:(aOpB T ρ d (.box t x) ob).ev=some ((av,ups),lg)):DidN cx I ob ((execOp ev ⟨dst,.box t x,ty,pos,after,guard⟩).run P w) av ups:=by
 simp only[aOpB]at he
 cases hc:zef (ρ x) with
 |none=>simp only[hc]at he;exact(M.ev_fail (ob:=ob) he).elim
 |some cs =>
  simp only[hc]at he;exact Did.next (s:=Instr.box t (ev x)) (yk7 h (zed hc (hρ x)) he)
set_option maxHeartbeats 1000000 in
theorem zvr(hT:TBok P T)(h:RelH cx I FF ob w){ρ:Operand→AV}{ev:Operand→Value}(hρ:∀ x,RelA cx I ob (ρ x) (ev x))(hev:∀ a b,za9 a b=true→ev a=ev b){d:Nat}{dst:Option Tmp}{ty:TypeId}{pos:String}{after:Array Edge}{guard:Option (Nat×Bool)}(t:TypeId)(ps:Array (Nat×Operand)){av:AV}{ups:List (Nat×Ent)}{lg:List Nat}
  (he:(aOpB T ρ d (.build t ps) ob).ev=some ((av,ups),lg)):DidN cx I ob ((execOp ev ⟨dst,.build t ps,ty,pos,after,guard⟩).run P w) av ups:=by
 simp only[aOpB]at he
 cases ht:T t with
 |none=>simp only[ht]at he;exact(M.ev_fail (ob:=ob) he).elim
 |some ti =>
  simp only[ht]at he;obtain⟨hti⟩:=hT.get ht
  have key:∀ qs,qs=(ps.map fun (i,x)=>(i,ev x))→DidN cx I ob ((do pure (Next.value (← Instr.build t qs)):Sem Next).run P w) av ups :=
   fun qs hq=>Did.next (Did.lift h he (fun l hl=>zyu hti (zsi hρ hq) hl))
  exact key _ rfl
set_option maxHeartbeats 1000000 in
theorem zlk(hT:TBok P T)(h:RelH cx I FF ob w){ρ:Operand→AV}{ev:Operand→Value}(hρ:∀ x,RelA cx I ob (ρ x) (ev x))(hev:∀ a b,za9 a b=true→ev a=ev b){d:Nat}{dst:Option Tmp}{ty:TypeId}{pos:String}{after:Array Edge}{guard:Option (Nat×Bool)}(t:TypeId)(n:Nat)(ps:Array (Nat×Operand)){av:AV}{ups:List (Nat×Ent)}{lg:List Nat}
  (he:(aOpB T ρ d (.buildSlice t n ps) ob).ev=some ((av,ups),lg)):DidN cx I ob ((execOp ev ⟨dst,.buildSlice t n ps,ty,pos,after,guard⟩).run P w) av ups:=by
 simp only[aOpB]at he
 cases ht:T t with
 |none=>simp only[ht]at he;exact(M.ev_fail (ob:=ob) he).elim
 |some ti =>
  simp only[ht]at he;obtain⟨hti⟩:=hT.get ht
  cases hd:ti.d with
  |slice e =>
   simp only[hd]at he
   cases hte:T e with
   |none=>simp only[hte]at he;exact(M.ev_fail (ob:=ob) he).elim
   |some tie =>
    simp only[hte]at he;obtain⟨htie⟩:=hT.get hte
    cases hty:tie.ty with
    |none=>simp only[hty]at he;exact(M.ev_fail (ob:=ob) he).elim
    |some Ty =>
     cases hp:zhj 0 (ps.toList.map fun p=>(p.1,ρ p.2)) with
     |none=>simp only[hty,hp]at he;exact(M.ev_fail (ob:=ob) he).elim
     |some css =>
      simp only[hty,hp]at he
      have key:∀ qs,qs=(ps.map fun (i,x)=>(i,ev x))→DidN cx I ob ((do pure (Next.value (← Instr.buildSlice t n qs)):Sem Next).run P w) av ups :=
       fun qs hq=>Did.next (zlt (hti.slice hd) htie hty h (zsi hρ hq) hp he)
      exact key _ rfl
  |_=>simp only[hd]at he;exact(M.ev_fail (ob:=ob) he).elim
set_option maxHeartbeats 1000000 in
theorem ybl(hT:TBok P T)(h:RelH cx I FF ob w){ρ:Operand→AV}{ev:Operand→Value}(hρ:∀ x,RelA cx I ob (ρ x) (ev x))(hev:∀ a b,za9 a b=true→ev a=ev b){d:Nat}{dst:Option Tmp}{ty:TypeId}{pos:String}{after:Array Edge}{guard:Option (Nat×Bool)}(t:TypeId)(a:Operand){av:AV}{ups:List (Nat×Ent)}{lg:List Nat}
  (he:(aOpB T ρ d (.load t a) ob).ev=some ((av,ups),lg)):DidN cx I ob ((execOp ev ⟨dst,.load t a,ty,pos,after,guard⟩).run P w) av ups:=by
 simp only[aOpB]at he;have ha:=hρ a
 cases ht:T t with
 |none=>simp only[ht]at he;exact(M.ev_fail (ob:=ob) he).elim
 |some ti =>
  obtain⟨hti⟩:=hT.get ht
  cases hr:ρ a with
  |one p =>
   rw[hr]at ha;simp only[ht,hr]at he;exact Did.next (s:=Instr.loadAt t (ev a)) (Did.lift h he (fun l hl=>zsq hti h ha hl))
  |_=>simp only[ht,hr]at he;exact(M.ev_fail (ob:=ob) he).elim
set_option maxHeartbeats 1000000 in
theorem zvo(hT:TBok P T)(h:RelH cx I FF ob w){ρ:Operand→AV}{ev:Operand→Value}(hρ:∀ x,RelA cx I ob (ρ x) (ev x))(hev:∀ a b,za9 a b=true→ev a=ev b){d:Nat}{dst:Option Tmp}{ty:TypeId}{pos:String}{after:Array Edge}{guard:Option (Nat×Bool)}(t:TypeId)(a x:Operand){av:AV}{ups:List (Nat×Ent)}{lg:List Nat}
  (he:(aOpB T ρ d (.store t a x) ob).ev=some ((av,ups),lg)):DidN cx I ob ((execOp ev ⟨dst,.store t a x,ty,pos,after,guard⟩).run P w) av ups:=by
 simp only[aOpB]at he;have ha:=hρ a
 cases ht:T t with
 |none=>simp only[ht]at he;exact(M.ev_fail (ob:=ob) he).elim
 |some ti =>
  obtain⟨hti⟩:=hT.get ht
  cases hr:ρ a with
  |one p =>
   rw[hr]at ha
   cases hc:zef (ρ x) with
   |none=>simp only[ht,hr,hc]at he;exact(M.ev_fail (ob:=ob) he).elim
   |some cs =>
    simp only[ht,hr,hc]at he;obtain⟨us,l1,l2,he1,he2,rfl⟩:=M.ev_bind he;have:=M.ev_pure (ob:=ob) he2;injection this with e1 e2
    subst e1;subst e2;obtain⟨w',I',FF',hrun,x',h1⟩:=zu0 hti h ha (zed hc (hρ x)) he1;exact⟨w',I',FF',x',h1,.inr ⟨by simp[execOp,hrun],rfl⟩⟩
  |_=>simp only[ht,hr]at he;exact(M.ev_fail (ob:=ob) he).elim
set_option maxHeartbeats 1000000 in
theorem zoh(hT:TBok P T)(h:RelH cx I FF ob w){ρ:Operand→AV}{ev:Operand→Value}(hρ:∀ x,RelA cx I ob (ρ x) (ev x))(hev:∀ a b,za9 a b=true→ev a=ev b){d:Nat}{dst:Option Tmp}{ty:TypeId}{pos:String}{after:Array Edge}{guard:Option (Nat×Bool)}(x:Operand){av:AV}{ups:List (Nat×Ent)}{lg:List Nat}
  (he:(aOpB T ρ d (.nilCheck x) ob).ev=some ((av,ups),lg)):DidN cx I ob ((execOp ev ⟨dst,.nilCheck x,ty,pos,after,guard⟩).run P w) av ups:=by
 simp only[aOpB]at he;have hx:=hρ x
 cases hp:yoi (ρ x) with
 |false=>simp only[hp]at he;exact(M.ev_fail (ob:=ob) he).elim
 |true =>
  simp only[hp]at he;have:=M.ev_pure (ob:=ob) he;injection this with e1 e2
  subst e1;subst e2
  have:∃ a,ev x = .pointer (some a):=by
   cases hr:ρ x with
   |one s =>
    rw[hr]at hx hp
    cases s with
    |bptr o c=>obtain⟨_,g,_,hv⟩:=hx;exact⟨_,hv⟩
    |ptr o v p i c=>obtain⟨_,_,_,g,b,_,hv⟩:=hx;exact⟨_,hv⟩
    |cptr r i c=>obtain⟨_,g,b,cap,_,hv⟩:=hx;exact⟨_,hv⟩
    |_=>cases hp
   |_=>rw[hr]at hp;cases hp
  obtain⟨a,hv⟩:=this;exact⟨w,I,FF,Ext.refl I ob,h,.inl ⟨ev x,by simp[execOp,hv],hx⟩⟩
set_option maxHeartbeats 1000000 in
theorem zvs(hT:TBok P T)(h:RelH cx I FF ob w){ρ:Operand→AV}{ev:Operand→Value}(hρ:∀ x,RelA cx I ob (ρ x) (ev x))(hev:∀ a b,za9 a b=true→ev a=ev b){d:Nat}{dst:Option Tmp}{ty:TypeId}{pos:String}{after:Array Edge}{guard:Option (Nat×Bool)}(op:BinOp)(t:TypeId)(x y:Operand)(yt:TypeId){av:AV}{ups:List (Nat×Ent)}{lg:List Nat}
  (he:(aOpB T ρ d (.binOp op t x y yt) ob).ev=some ((av,ups),lg)):DidN cx I ob ((execOp ev ⟨dst,.binOp op t x y yt,ty,pos,after,guard⟩).run P w) av ups:=by
 simp only[aOpB]at he
 cases ht:T t with
 |none=>simp only[ht]at he;exact(M.ev_fail (ob:=ob) he).elim
 |some ti =>
  simp only[ht]at he;obtain⟨hti⟩:=hT.get ht;exact Did.next (s:=do eqGuard op t x y (ev x) (ev y);Go.binOp op t (ev x) (ev y)) (Did.lift h he (fun l hl=>yk9 hti (hρ x) (hρ y) hl x y))
set_option maxHeartbeats 1000000 in
theorem ybi(hT:TBok P T)(h:RelH cx I FF ob w){ρ:Operand→AV}{ev:Operand→Value}(hρ:∀ x,RelA cx I ob (ρ x) (ev x))(hev:∀ a b,za9 a b=true→ev a=ev b){d:Nat}{dst:Option Tmp}{ty:TypeId}{pos:String}{after:Array Edge}{guard:Option (Nat×Bool)}(op:UnOp)(t:TypeId)(x:Operand){av:AV}{ups:List (Nat×Ent)}{lg:List Nat}
  (he:(aOpB T ρ d (.unOp op t x) ob).ev=some ((av,ups),lg)):DidN cx I ob ((execOp ev ⟨dst,.unOp op t x,ty,pos,after,guard⟩).run P w) av ups:=by
 simp only[aOpB]at he;exact Did.next (s:=Op.unary op (ev x)) (Did.lift h he (fun l hl=>ymh (hρ x) hl))
set_option maxHeartbeats 1000000 in
theorem zqb(hT:TBok P T)(h:RelH cx I FF ob w){ρ:Operand→AV}{ev:Operand→Value}(hρ:∀ x,RelA cx I ob (ρ x) (ev x))(hev:∀ a b,za9 a b=true→ev a=ev b){d:Nat}{dst:Option Tmp}{ty:TypeId}{pos:String}{after:Array Edge}{guard:Option (Nat×Bool)}(s t:TypeId)(x:Operand){av:AV}{ups:List (Nat×Ent)}{lg:List Nat}
  (he:(aOpB T ρ d (.convert s t x) ob).ev=some ((av,ups),lg)):DidN cx I ob ((execOp ev ⟨dst,.convert s t x,ty,pos,after,guard⟩).run P w) av ups:=by
 simp only[aOpB]at he;have hx:=hρ x
 cases hs:T s with
 |none=>simp only[hs]at he;exact(M.ev_fail (ob:=ob) he).elim
 |some si =>
  cases ht:T t with
  |none=>simp only[hs,ht]at he;exact(M.ev_fail (ob:=ob) he).elim
  |some ti =>
   simp only[hs,ht]at he;obtain⟨hsi⟩:=hT.get hs;obtain⟨hti⟩:=hT.get ht;refine Did.next (s:=Go.convert s t (ev x)) (Did.lift h he (fun l hl=>?_));unfold yfa at hl
   cases hd:ti.d with
   |int k =>
    cases hr:ρ x with
    |one sv =>
     rw[hr]at hx
     cases sv with
     |int k' n =>
      simp only[hd,hr]at hl;have:=M.ev_pure (ob:=ob) hl;subst this;have hv:ev x = .int k' n:=hx;refine⟨.int k (k.wrap n),?_,rfl⟩;rw[hv];unfold Go.convert;simp only[Sem.run_bind,run_underlying hsi.hd,run_underlying (hti.isInt hd),Result.andThen_ok];rfl
     |_=>simp only[hd,hr]at hl;exact(M.ev_fail (ob:=ob) hl).elim
    |_=>simp only[hd,hr]at hl;exact(M.ev_fail (ob:=ob) hl).elim
   |_=>simp only[hd]at hl;exact(M.ev_fail (ob:=ob) hl).elim
set_option maxHeartbeats 1000000 in
theorem zm6(hT:TBok P T)(h:RelH cx I FF ob w){ρ:Operand→AV}{ev:Operand→Value}(hρ:∀ x,RelA cx I ob (ρ x) (ev x))(hev:∀ a b,za9 a b=true→ev a=ev b){d:Nat}{dst:Option Tmp}{ty:TypeId}{pos:String}{after:Array Edge}{guard:Option (Nat×Bool)}(t:TypeId)(l c:Operand){av:AV}{ups:List (Nat×Ent)}{lg:List Nat}
  (he:(aOpB T ρ d (.makeSlice t l c) ob).ev=some ((av,ups),lg)):DidN cx I ob ((execOp ev ⟨dst,.makeSlice t l c,ty,pos,after,guard⟩).run P w) av ups:=by
 simp only[aOpB]at he;have hl:=hρ l
 cases hs:za9 l c with
 |false=>simp only[hs]at he;exact(M.ev_fail (ob:=ob) he).elim
 |true =>
  cases ht:T t with
  |none=>simp only[hs,ht]at he;exact(M.ev_fail (ob:=ob) he).elim
  |some ti =>
   obtain⟨hti⟩:=hT.get ht
   cases hr:ρ l with
   |one sv =>
    rw[hr]at hl
    cases sv with
    |int k n =>
     simp only[hs,ht,hr]at he
     cases hd:ti.d with
     |slice e =>
      simp only[hd]at he
      cases hte:T e with
      |none=>simp only[hte]at he;exact(M.ev_fail (ob:=ob) he).elim
      |some tie =>
       simp only[hte]at he;obtain⟨htie⟩:=hT.get hte
       cases hty:tie.ty with
       |none=>simp only[hty]at he;exact(M.ev_fail (ob:=ob) he).elim
       |some Ty =>
        cases hb:Nat.ble 1 tie.bytes with
        |false=>simp only[hty,hb]at he;exact(M.ev_fail (ob:=ob) he).elim
        |true =>
         simp only[hty,hb]at he;have hv:ev l = .int k n:=hl;have hv2:ev c = .int k n:=by rw[← hev l c hs];exact hv
         refine Did.next (s:=Instr.makeSlice t (ev l) (ev c)) ?_;rw[hv,hv2];exact znl (hti.slice hd) htie hty (Nat.le_of_ble_eq_true hb) h he
     |_=>simp only[hd]at he;exact(M.ev_fail (ob:=ob) he).elim
    |_=>simp only[hs,ht,hr]at he;exact(M.ev_fail (ob:=ob) he).elim
   |_=>simp only[hs,ht,hr]at he;exact(M.ev_fail (ob:=ob) he).elim
set_option maxHeartbeats 1000000 in
theorem zvp(hT:TBok P T)(h:RelH cx I FF ob w){ρ:Operand→AV}{ev:Operand→Value}(hρ:∀ x,RelA cx I ob (ρ x) (ev x))(hev:∀ a b,za9 a b=true→ev a=ev b){d:Nat}{dst:Option Tmp}{ty:TypeId}{pos:String}{after:Array Edge}{guard:Option (Nat×Bool)}(t:TypeId)(x:Operand)(lo hi mx:Option Operand){av:AV}{ups:List (Nat×Ent)}{lg:List Nat}
  (he:(aOpB T ρ d (.slice t x lo hi mx) ob).ev=some ((av,ups),lg)):DidN cx I ob ((execOp ev ⟨dst,.slice t x lo hi mx,ty,pos,after,guard⟩).run P w) av ups:=by
 simp only[aOpB]at he;have hx:=hρ x
 cases mx with
 |some m=>exact(M.ev_fail (ob:=ob) he).elim
 |none =>
  cases ht:T t with
  |none=>simp only[ht]at he;exact(M.ev_fail (ob:=ob) he).elim
  |some ti =>
   obtain⟨hti⟩:=hT.get ht
   cases hr:ρ x with
   |one s =>
    rw[hr]at hx
    cases hlo:intO (lo.map ρ) with
    |none=>simp only[ht,hr,hlo]at he;exact(M.ev_fail (ob:=ob) he).elim
    |some l =>
     cases hhi:intO (hi.map ρ) with
     |none=>simp only[ht,hr,hlo,hhi]at he;exact(M.ev_fail (ob:=ob) he).elim
     |some hh =>
      simp only[ht,hr,hlo,hhi]at he;obtain⟨k1,hl1⟩:=zst hρ hlo;obtain⟨k2,hl2⟩:=zst hρ hhi;refine Did.next (s:=Instr.sliceAt t (ev x) (lo.map ev) (hi.map ev) none) ?_;rw[hl1,hl2];have hx':RelS cx I ob s (ev x):=hx
      cases hd:ti.d with
      |str =>
       cases s with
       |str b =>
        simp only[hd]at he;have hv:ev x = .string b:=hx;rw[hv];exact Did.lift h he (fun l hl=>zm4 (hti.isStr hd) hl)
       |_=>simp only[hd]at he;exact(M.ev_fail (ob:=ob) he).elim
      |slice e =>
       cases hte:T e with
       |none =>
        cases s with
        |str b=>simp only[hd]at he;exact(M.ev_fail (ob:=ob) he).elim
        |_=>simp only[hd,hte]at he;exact(M.ev_fail (ob:=ob) he).elim
       |some tie =>
        obtain⟨htie⟩:=hT.get hte
        cases s with
        |str b=>simp only[hd]at he;exact(M.ev_fail (ob:=ob) he).elim
        |_ =>
         simp only[hd,hte]at he;exact Did.lift h he (fun l hl=>zvn (hti.slice hd) htie h hx' (fun b hb=>by cases hb) hl)
      |_=>simp only[hd]at he;exact(M.ev_fail (ob:=ob) he).elim
   |_=>simp only[ht,hr]at he;exact(M.ev_fail (ob:=ob) he).elim
set_option maxHeartbeats 1000000 in
theorem zm8(hT:TBok P T)(h:RelH cx I FF ob w){ρ:Operand→AV}{ev:Operand→Value}(hρ:∀ x,RelA cx I ob (ρ x) (ev x))(hev:∀ a b,za9 a b=true→ev a=ev b){d:Nat}{dst:Option Tmp}{ty:TypeId}{pos:String}{after:Array Edge}{guard:Option (Nat×Bool)}(t:TypeId)(x:Operand)(f:Nat){av:AV}{ups:List (Nat×Ent)}{lg:List Nat}
  (he:(aOpB T ρ d (.fieldAddr t x f) ob).ev=some ((av,ups),lg)):DidN cx I ob ((execOp ev ⟨dst,.fieldAddr t x f,ty,pos,after,guard⟩).run P w) av ups:=by
 simp only[aOpB]at he;have hx:=hρ x
 cases ht:T t with
 |none=>simp only[ht]at he;exact(M.ev_fail (ob:=ob) he).elim
 |some ti =>
  obtain⟨hti⟩:=hT.get ht
  cases hr:ρ x with
  |one s =>
   rw[hr]at hx;simp only[ht,hr]at he;exact Did.next (s:=Instr.fieldAt t (ev x) f) (Did.lift h he (fun l hl=>zny hti hx hl))
  |_=>simp only[ht,hr]at he;exact(M.ev_fail (ob:=ob) he).elim
set_option maxHeartbeats 1000000 in
theorem zm7(hT:TBok P T)(h:RelH cx I FF ob w){ρ:Operand→AV}{ev:Operand→Value}(hρ:∀ x,RelA cx I ob (ρ x) (ev x))(hev:∀ a b,za9 a b=true→ev a=ev b){d:Nat}{dst:Option Tmp}{ty:TypeId}{pos:String}{after:Array Edge}{guard:Option (Nat×Bool)}(t:TypeId)(x i:Operand){av:AV}{ups:List (Nat×Ent)}{lg:List Nat}
  (he:(aOpB T ρ d (.indexAddr t x i) ob).ev=some ((av,ups),lg)):DidN cx I ob ((execOp ev ⟨dst,.indexAddr t x i,ty,pos,after,guard⟩).run P w) av ups:=by
 simp only[aOpB]at he;have hx:=hρ x;have hi:=hρ i
 cases ht:T t with
 |none=>simp only[ht]at he;exact(M.ev_fail (ob:=ob) he).elim
 |some ti =>
  obtain⟨hti⟩:=hT.get ht
  cases hr:ρ x with
  |one s =>
   rw[hr]at hx
   cases hri:ρ i with
   |one si =>
    rw[hri]at hi
    cases si with
    |int k n =>
     simp only[ht,hr,hri]at he
     cases hd:ti.d with
     |slice e =>
      simp only[hd]at he
      cases hte:T e with
      |none=>simp only[hte]at he;exact(M.ev_fail (ob:=ob) he).elim
      |some tie =>
       simp only[hte]at he;obtain⟨htie⟩:=hT.get hte;have hv:ev i = .int k n:=hi;refine Did.next (s:=Instr.indexAt t (ev x) (ev i)) (Did.lift h he (fun l hl=>?_));rw[hv];exact znt (hti.slice hd) htie h hx hl
     |_=>simp only[hd]at he;exact(M.ev_fail (ob:=ob) he).elim
    |_=>simp only[ht,hr,hri]at he;exact(M.ev_fail (ob:=ob) he).elim
   |_=>simp only[ht,hr,hri]at he;exact(M.ev_fail (ob:=ob) he).elim
  |_=>simp only[ht,hr]at he;exact(M.ev_fail (ob:=ob) he).elim
set_option maxHeartbeats 1000000 in
theorem zvq(hT:TBok P T)(h:RelH cx I FF ob w){ρ:Operand→AV}{ev:Operand→Value}(hρ:∀ x,RelA cx I ob (ρ x) (ev x))(hev:∀ a b,za9 a b=true→ev a=ev b){d:Nat}{dst:Option Tmp}{ty:TypeId}{pos:String}{after:Array Edge}{guard:Option (Nat×Bool)}(t:TypeId)(x i:Operand){av:AV}{ups:List (Nat×Ent)}{lg:List Nat}
  (he:(aOpB T ρ d (.index t x i) ob).ev=some ((av,ups),lg)):DidN cx I ob ((execOp ev ⟨dst,.index t x i,ty,pos,after,guard⟩).run P w) av ups:=by
 simp only[aOpB]at he;have hi:=hρ i
 cases ht:T t with
 |none=>simp only[ht]at he;exact(M.ev_fail (ob:=ob) he).elim
 |some ti =>
  obtain⟨hti⟩:=hT.get ht
  cases hri:ρ i with
  |one si =>
   rw[hri]at hi
   cases si with
   |int k n =>
    simp only[ht,hri]at he
    cases hd:ti.d with
    |str =>
     simp only[hd]at he;have hv:ev i = .int k n:=hi;refine Did.next (s:=Instr.index t (ev x) (ev i)) (Did.lift h he (fun l hl=>?_));rw[hv];exact zxr (hti.isStr hd) (hρ x) hl
    |_=>simp only[hd]at he;exact(M.ev_fail (ob:=ob) he).elim
   |_=>simp only[ht,hri]at he;exact(M.ev_fail (ob:=ob) he).elim
  |_=>simp only[ht,hri]at he;exact(M.ev_fail (ob:=ob) he).elim
set_option maxHeartbeats 1000000 in
theorem zqa(hT:TBok P T)(h:RelH cx I FF ob w){ρ:Operand→AV}{ev:Operand→Value}(hρ:∀ x,RelA cx I ob (ρ x) (ev x))(hev:∀ a b,za9 a b=true→ev a=ev b){d:Nat}{dst:Option Tmp}{ty:TypeId}{pos:String}{after:Array Edge}{guard:Option (Nat×Bool)}(x:Operand)(i:Nat){av:AV}{ups:List (Nat×Ent)}{lg:List Nat}
  (he:(aOpB T ρ d (.extract x i) ob).ev=some ((av,ups),lg)):DidN cx I ob ((execOp ev ⟨dst,.extract x i,ty,pos,after,guard⟩).run P w) av ups:=by
 simp only[aOpB]at he;have hx:=hρ x
 cases hr:ρ x with
 |tup vs =>
  rw[hr]at hx;simp only[hr]at he;obtain⟨arr,hv,hf⟩:=hx
  cases hi:vs[i]? with
  |none=>simp only[hi]at he;exact(M.ev_fail (ob:=ob) he).elim
  |some bc =>
   obtain⟨u,hu,hrel⟩:=hf.get hi;have hu':arr[i]? = some u:=by simpa using hu
   have hrun:(execOp ev ⟨dst,.extract x i,ty,pos,after,guard⟩).run P w = .ok (Next.value u) w:=by simp[execOp,hv,Instr.extract,hu']
   obtain⟨b,cs⟩:=bc
   cases b with
   |true =>
    simp only[hi]at he;have:=M.ev_pure (ob:=ob) he;injection this with e1 e2
    subst e1;subst e2;simp only[if_true]at hrel;exact⟨w,I,FF,Ext.refl I ob,h,.inl ⟨u,hrun,hrel⟩⟩
   |false =>
    simp only[Bool.false_eq_true,if_false]at hrel;obtain⟨s,hs,hrel⟩:=hrel;subst hs;simp only[hi]at he;have:=M.ev_pure (ob:=ob) he;injection this with e1 e2
    subst e1;subst e2;exact⟨w,I,FF,Ext.refl I ob,h,.inl ⟨u,hrun,hrel⟩⟩
 |_=>simp only[hr]at he;exact(M.ev_fail (ob:=ob) he).elim
set_option maxHeartbeats 1000000 in
theorem ybm(hT:TBok P T)(h:RelH cx I FF ob w){ρ:Operand→AV}{ev:Operand→Value}(hρ:∀ x,RelA cx I ob (ρ x) (ev x))(hev:∀ a b,za9 a b=true→ev a=ev b){d:Nat}{dst:Option Tmp}{ty:TypeId}{pos:String}{after:Array Edge}{guard:Option (Nat×Bool)}(c:Call){av:AV}{ups:List (Nat×Ent)}{lg:List Nat}
  (he:(aOpB T ρ d (.call c) ob).ev=some ((av,ups),lg)):DidN cx I ob ((execOp ev ⟨dst,.call c,ty,pos,after,guard⟩).run P w) av ups:=by
 simp only[aOpB]at he
 cases hc:c.callee with
 |builtin b =>
  simp only[hc]at he
  have hv:F2 (RelA cx I ob) (c.args.toList.map ρ) (c.args.toList.map ev):=by
   generalize c.args.toList=l
   induction l with
   |nil=>trivial
   |cons x l ih=>exact⟨hρ x,ih⟩
  have:=zrd (P:=P) (ty:=ty) (cs:=c.args.map fun | .const _=>true|_=>false) hT h hv he;have e:(c.args.toList.map ev).toArray=c.args.map ev:=by apply Array.ext';simp
  rw[e]at this
  have hex:execOp ev ⟨dst,.call c,ty,pos,after,guard⟩=Go.builtin b c.argTypes ty (c.args.map fun | .const _=>true|_=>false) (c.args.map ev):=by
   simp only[execOp,resolve,hc];rfl
  rw[hex];exact this
 |_=>simp only[hc]at he;exact(M.ev_fail (ob:=ob) he).elim
set_option maxHeartbeats 1000000 in
theorem zoi(hT:TBok P T)(h:RelH cx I FF ob w){ρ:Operand→AV}{ev:Operand→Value}(hρ:∀ x,RelA cx I ob (ρ x) (ev x))(hev:∀ a b,za9 a b=true→ev a=ev b){d:Nat}{dst:Option Tmp}{ty:TypeId}{pos:String}{after:Array Edge}{guard:Option (Nat×Bool)}(fn:Fn)(fi ca:Array Operand){av:AV}{ups:List (Nat×Ent)}{lg:List Nat}
  (he:(aOpB T ρ d (.makeFunc fn fi ca) ob).ev=some ((av,ups),lg)):DidN cx I ob ((execOp ev ⟨dst,.makeFunc fn fi ca,ty,pos,after,guard⟩).run P w) av ups:=by
 cases fn with
 |func f =>
  simp only[aOpB]at he
  cases hfi:fi.toList with
  |cons _ _=>simp only[hfi]at he;exact(M.ev_fail (ob:=ob) he).elim
  |nil =>
  cases hca:zwt (ca.toList.map ρ) with
  |none=>simp only[hfi,hca]at he;exact(M.ev_fail (ob:=ob) he).elim
  |some cs =>
   simp only[hfi,hca]at he;have:=M.ev_pure (ob:=ob) he;injection this with e1 e2
   subst e1;subst e2;have hfe:fi = #[]:=by cases fi;simpa using hfi
   subst hfe;refine⟨w,I,FF,Ext.refl I ob,h,.inl ⟨.func (.func f) #[] (ca.map ev),?_,⟨ca.map ev,rfl,?_⟩⟩⟩
   ·simp[execOp,Instr.makeFunc]
   ·have:=zo0 hρ hca;show F2 (RelS cx I ob) cs (ca.map ev).toList;simpa using this
 |_=>exact(M.ev_fail (ob:=ob) he).elim
set_option maxHeartbeats 1000000 in
theorem yi6(hT:TBok P T)(h:RelH cx I FF ob w){ρ:Operand→AV}{ev:Operand→Value}(hρ:∀ x,RelA cx I ob (ρ x) (ev x))(hev:∀ a b,za9 a b=true→ev a=ev b){d:Nat}{o:Oper}{av:AV}{ups:List (Nat×Ent)}{lg:List Nat}
  (he:(aOpB T ρ d o.op ob).ev=some ((av,ups),lg)):DidN cx I ob ((execOp ev o).run P w) av ups:=by
 obtain⟨dst,op,ty,pos,after,guard⟩:=o;simp only at he
 cases op with
 |move x=>exact ybk hT h hρ hev x he
 |assign x=>exact ztl hT h hρ hev x he
 |pick c a b=>exact ybj hT h hρ hev c a b he
 |alloc t=>exact zvt hT h hρ hev t he
 |box t x=>exact yhn hT h hρ hev t x he
 |build t ps=>exact zvr hT h hρ hev t ps he
 |buildSlice t n ps=>exact zlk hT h hρ hev t n ps he
 |load t a=>exact ybl hT h hρ hev t a he
 |store t a x=>exact zvo hT h hρ hev t a x he
 |nilCheck x=>exact zoh hT h hρ hev x he
 |binOp op t x y yt=>exact zvs hT h hρ hev op t x y yt he
 |unOp op t x=>exact ybi hT h hρ hev op t x he
 |convert s t x=>exact zqb hT h hρ hev s t x he
 |makeSlice t l c=>exact zm6 hT h hρ hev t l c he
 |slice t x lo hi mx=>exact zvp hT h hρ hev t x lo hi mx he
 |fieldAddr t x f=>exact zm8 hT h hρ hev t x f he
 |indexAddr t x i=>exact zm7 hT h hρ hev t x i he
 |index t x i=>exact zvq hT h hρ hev t x i he
 |extract x i=>exact zqa hT h hρ hev x i he
 |call c=>exact ybm hT h hρ hev c he
 |makeFunc fn fi ca=>exact zoi hT h hρ hev fn fi ca he
 |_=>exact(M.ev_fail (ob:=ob) he).elim
end
end Go.Proofs.Ytbjgiioppmkpiaa.Rx

namespace Go.Proofs.Ytbjgiioppmkpiaa.Rx
open Go Go.RowKit
inductive PK where
 |val (t:Ty) (agg:Bool)
 |own (t:Ty) (agg:Bool)
 |io (t:Ty) (agg:Bool)
 |bx (t:Ty)
 |bo (t:Ty)
 |cp (t:Ty)
 |fn (f:FuncId) (ts:List Ty)
inductive RK where
 |own (t:Ty) (agg:Bool)
 |val (t:Ty) (agg:Bool)
 |bx (t:Ty)
 |half (e:TypeId) (t:Ty) (c:Nat)
 |ro (e:TypeId) (t:Ty) (agg:Bool)
 |rw (e:TypeId) (t:Ty)
@[reducible] def zrc:List Ty→Type
 | []=>Unit
 |t::ts=>t.den×zrc ts
@[reducible] def PK.den:PK→Type
 | .val t _=>t.den
 | .own t _=>t.den
 | .io t _=>t.den
 | .bx t=>t.den
 | .bo t=>t.den
 | .cp t=>t.den
 | .fn _ ts=>zrc ts
@[reducible] def RK.den:RK→Type
 | .own t _=>t.den
 | .val t _=>t.den
 | .bx t=>t.den
 | .half _ t _=>List t.den
 | .ro _ t _=>List t.den
 | .rw _ t=>List t.den×Int
@[reducible] def zai:List PK→Type
 | []=>Unit
 |k::ks=>k.den×zai ks
@[reducible] def zah:List RK→Type
 | []=>Unit
 |k::ks=>k.den×zah ks
@[reducible] def zag:List PK→Type
 | []=>Unit
 | .io t _::ks=>t.den×zag ks
 | .bx t::ks=>t.den×zag ks
 | .bo t::ks=>t.den×zag ks
 |_::ks=>zag ks
structure Sm where
 ps:List PK
 rs:List RK
 st:Bool
 F:Nat→zai ps→Option (zah rs×zag ps)
def VR(agg:Bool)(R:List Value→Prop)(v:Value):Prop:=match agg with
 |true=>∃ arr:Array Value,v = .agg arr∧R arr.toList
 |false=>v.oneCell'=true∧R [v]
def zd5(H:Nat→Path→Hd):Prop:=∀ j p,(H j p).hole=false
def zwy(H:Path→Hd):Prop:=∀ p,(H p).hole=false
def ydi(w:World)(v:Value)(F:List Nat)(R:List Value→Prop):Prop:=∃ g T cells,v = .pointer (some ⟨g,0,none⟩)∧F=[g]∧w.heap[g]? = some (.cells cells T (0,0))∧R cells.toList
def ygf(w:World)(v:Value)(F:List Nat)(t:Ty)(x:t.den):Prop:=∃ g T cells H F',v = .pointer (some ⟨g,0,none⟩)∧F=g::F'∧w.heap[g]? = some (.cells cells T (0,0))∧zd5 H∧Ow w t H 0 x cells.toList F'
def CpR(w:World)(Z:Nat→Prop)(t:Ty)(x:t.den)(v:Value):Prop:=∃ g b cells q fz,v = .pointer (some ⟨g,b,none⟩)∧Z g∧w.heap[g]? = some (.cells cells q fz)∧b+t.sz≤cells.size∧Cn w Z t x ((cells.toList.drop b).take t.sz)
theorem yp2{w:World}{Z:Nat→Prop}{t:Ty}{x:t.den}{g b cap:Nat}(h:CnR w Z t [x] (.slice (some ⟨g,b,none⟩) 1 cap)):CpR w Z t x (.pointer (some ⟨g,b,none⟩)):=by
 obtain⟨A,cap',he,_,_,h3,_⟩:=h;injection he with e1 e2 e3
 rcases h3 with h3|⟨g',b',cells,q,fz,hA,hz,hg,hs,hl⟩
 ·cases h3
 ·rw[← e1]at hA;injection hA with hA
  injection hA with e4 e5
  subst e4;subst e5;obtain⟨c1,c2,F1,F2,hc,hF,⟨hx,_⟩,hc2,_⟩:=hl;have hs':b+1*t.sz≤cells.size:=hs;have hc':(cells.toList.drop b).take (1*t.sz)=c1++c2:=hc;subst hc2;rw[Nat.one_mul]at hs' hc';rw[List.append_nil]at hc';exact⟨g,b,cells,q,fz,rfl,hz,hg,hs',by rw[hc'];exact hx⟩
theorem zym{w:World}{Z:Nat→Prop}{t:Ty}{x:t.den}{v:Value}(h:CpR w Z t x v):∃ g b,v = .pointer (some ⟨g,b,none⟩)∧CnR w Z t [x] (.slice (some ⟨g,b,none⟩) 1 1):=by
 obtain⟨g,b,cells,q,fz,rfl,hz,hg,hs,hx⟩:=h;refine⟨g,b,rfl,some ⟨g,b,none⟩,1,rfl,Nat.le_refl _,(by decide),.inr ⟨g,b,cells,q,fz,rfl,hz,hg,(by simpa using hs),?_⟩,(fun h=>by cases h)⟩;refine⟨(cells.toList.drop b).take t.sz,[],[],[],(by simp),rfl,⟨hx,rfl⟩,rfl,rfl⟩
def yfi(w:World)(Z:Nat→Prop):(ts:List Ty)→zrc ts→List Value→Prop
 | [],_,[]=>True
 |t::ts,x,v::vs=>CpR w Z t x.1 v∧yfi w Z ts x.2 vs
 |_,_,_=>False
def ArgR(w:World)(Z:Nat→Prop):(k:PK)→k.den→Value→List Nat→Prop
 | .val t agg,x,v,F=>F=[]∧VR agg (Cn w Z t x) v
 | .own t agg,x,v,F=>∃ H,zd5 H∧VR agg (fun cs=>Ow w t H 0 x cs F) v
 | .io t agg,x,v,F=>∃ H,zd5 H∧VR agg (fun cs=>Ow w t H 0 x cs F) v
 | .bx t,x,v,F=>ydi w v F (Cn w Z t x)
 | .bo t,x,v,F=>ygf w v F t x
 | .cp t,x,v,F=>F=[]∧CpR w Z t x v
 | .fn f ts,x,v,F=>F=[]∧∃ arr:Array Value,v = .func (.func f) #[] arr∧yfi w Z ts x arr.toList
def zid(w:World)(Z:Nat→Prop):(ks:List PK)→zai ks→List Value→List (List Nat)→Prop
 | [],_,[],[]=>True
 |k::ks,x,v::vs,F::Fs=>ArgR w Z k x.1 v F∧zid w Z ks x.2 vs Fs
 |_,_,_,_=>False
def ResR(w:World)(Z:Nat→Prop):(k:RK)→k.den→Value→List Nat→Prop
 | .own t agg,y,v,F=>∃ H,zd5 H∧VR agg (fun cs=>Ow w t H 0 y cs F) v
 | .val t agg,y,v,F=>F=[]∧VR agg (Cn w Z t y) v
 | .bx t,y,v,F=>ydi w v F (Cn w Z t y)
 | .half e t _,y,v,F=>∃ h:Hd,h.hole=false∧OwRow w e t.sz (fun _ x cs F=>Cn w Z t x cs∧F=[]) h y v F
 | .ro e t agg,y,v,F=>VR agg (fun cs=>∃ u,cs=[u]∧RoR w F e t y u) v
 | .rw e t,y,v,F=>∃ u,v = .agg #[u,.int .i64 y.2]∧RoR w F e t y.1 u
def zic(w:World)(Z:Nat→Prop):(ks:List RK)→zah ks→List Value→List (List Nat)→Prop
 | [],_,[],[]=>True
 |k::ks,x,v::vs,F::Fs=>ResR w Z k x.1 v F∧zic w Z ks x.2 vs Fs
 |_,_,_,_=>False
def ze3(w:World)(Z:Nat→Prop):(ks:List PK)→zag ks→List Value→List (List Nat)→Prop
 | [],_,[],[]=>True
 | .io t agg::ks,x,v::vs,F::Fs=>(∃ H,zd5 H∧VR agg (fun cs=>Ow w t H 0 x.1 cs F) v)∧ze3 w Z ks x.2 vs Fs
 | .bx t::ks,x,v::vs,F::Fs=>ydi w v F (Cn w Z t x.1)∧ze3 w Z ks x.2 vs Fs
 | .bo t::ks,x,v::vs,F::Fs=>ygf w v F t x.1∧ze3 w Z ks x.2 vs Fs
 | .val _ _::ks,x,v::vs,F::Fs=>F=[]∧ze3 w Z ks x vs Fs
 | .own _ _::ks,x,v::vs,F::Fs=>F=[]∧ze3 w Z ks x vs Fs
 | .cp _::ks,x,v::vs,F::Fs=>F=[]∧ze3 w Z ks x vs Fs
 | .fn _ _::ks,x,v::vs,F::Fs=>F=[]∧ze3 w Z ks x vs Fs
 |_,_,_,_=>False
def retV:List Value→Value
 | [v]=>v
 |vs=>.tuple vs.toArray
def zdo(P:Program)(f:FuncId)(s:Sm):Prop :=
 ∀ (n:Nat) (w:World) (Z:Nat→Prop) (vs:List Value) (x:zai s.ps) (Fs:List (List Nat)) (y:zah s.rs×zag s.ps),
  (∀ k,Z k→k<w.heap.size∧k∉Fs.flatten)→(∀ k∈Fs.flatten,k<w.heap.size)→Fs.flatten.Nodup→zid w Z s.ps x vs Fs→s.F n x=some y →
  Calls P f vs.toArray w fun e w'=>∃ us Gs Os,e = .returned (retV us)∧zic w' Z s.rs y.1 us Gs∧ze3 w' Z s.ps y.2 vs Os∧(Os.flatten++Gs.flatten).Nodup ∧
   (∀ k∈Os.flatten++Gs.flatten,(k∈Fs.flatten∨w.heap.size≤k)∧k<w'.heap.size)∧Kp w (fun k=>k∈Fs.flatten) w'
def zeh(C:List Nat→List Value→World→(Ending→World→Prop)→Prop)(s:Sm):Prop :=
 ∀ (n:Nat) (w:World) (Z:Nat→Prop) (vs:List Value) (x:zai s.ps) (Fs:List (List Nat)) (y:zah s.rs×zag s.ps),
  (∀ k,Z k→k<w.heap.size∧k∉Fs.flatten)→(∀ k∈Fs.flatten,k<w.heap.size)→Fs.flatten.Nodup→zid w Z s.ps x vs Fs→s.F n x=some y →
  C Fs.flatten vs w fun e w'=>∃ us Gs Os,e = .returned (retV us)∧zic w' Z s.rs y.1 us Gs∧ze3 w' Z s.ps y.2 vs Os∧(Os.flatten++Gs.flatten).Nodup ∧
   (∀ k∈Os.flatten++Gs.flatten,(k∈Fs.flatten∨w.heap.size≤k)∧k<w'.heap.size)∧Kp w (fun k=>k∈Fs.flatten) w'
def C0(P:Program)(f:FuncId):List Nat→List Value→World→(Ending→World→Prop)→Prop:=fun _ vs w Q=>Calls P f vs.toArray w Q
def CQ(P:Program)(f:FuncId):List Nat→List Value→World→(Ending→World→Prop)→Prop:=fun F vs w Q =>
 ∀ g b u vs',vs=u::vs'→w.cell? ⟨g,b,none⟩=some u→g∉F→g<w.heap.size→Calls P f (.pointer (some ⟨g,b,none⟩)::vs').toArray w Q
def CB(P:Program)(f:FuncId):List Nat→List Value→World→(Ending→World→Prop)→Prop:=fun _ vs w Q =>
 ∀ u vs',vs = .agg #[u]::vs'→Calls P f vs.toArray w fun e w'=>∃ r,e = .returned (.tuple #[.agg #[u],r])∧Q (.returned r) w'
theorem C0.mono{P:Program}{f:FuncId}{F:List Nat}{vs:List Value}{w:World}{Q Q':Ending→World→Prop}(h:∀ e w',Q e w'→Q' e w')(hc:C0 P f F vs w Q):C0 P f F vs w Q':=Calls.mono hc h
theorem CQ.mono{P:Program}{f:FuncId}{F:List Nat}{vs:List Value}{w:World}{Q Q':Ending→World→Prop}(h:∀ e w',Q e w'→Q' e w')(hc:CQ P f F vs w Q):CQ P f F vs w Q' :=
 fun g b u vs' h1 h2 h3 h4=>Calls.mono (hc g b u vs' h1 h2 h3 h4) h
theorem CB.mono{P:Program}{f:FuncId}{F:List Nat}{vs:List Value}{w:World}{Q Q':Ending→World→Prop}(h:∀ e w',Q e w'→Q' e w')(hc:CB P f F vs w Q):CB P f F vs w Q' :=
 fun u vs' h1=>Calls.mono (hc u vs' h1) (fun e w' ⟨r,h2,h3⟩=>⟨r,h2,h _ _ h3⟩)
def CS(P:Program)(f:FuncId):List Nat→List Value→World→(Ending→World→Prop)→Prop:=fun _ vs w Q =>
 ∀ v0 vs',vs=v0::vs'→Calls P f vs.toArray w fun e w'=>∃ r,e = .returned (.tuple #[v0,r])∧Q (.returned r) w'
theorem CS.mono{P:Program}{f:FuncId}{F:List Nat}{vs:List Value}{w:World}{Q Q':Ending→World→Prop}(h:∀ e w',Q e w'→Q' e w')(hc:CS P f F vs w Q):CS P f F vs w Q' :=
 fun u vs' h1=>Calls.mono (hc u vs' h1) (fun e w' ⟨r,h2,h3⟩=>⟨r,h2,h _ _ h3⟩)
def CP(P:Program)(f:FuncId):List Nat→List Value→World→(Ending→World→Prop)→Prop:=fun F vs w Q =>
 ∀ g b (us:List Value) vs',vs = .agg us.toArray::vs'→(∀ j u,us[j]? = some u→w.cell? ⟨g,b+j,none⟩=some u)→g∉F→g<w.heap.size→Calls P f (.pointer (some ⟨g,b,none⟩)::vs').toArray w Q
theorem CP.mono{P:Program}{f:FuncId}{F:List Nat}{vs:List Value}{w:World}{Q Q':Ending→World→Prop}(h:∀ e w',Q e w'→Q' e w')(hc:CP P f F vs w Q):CP P f F vs w Q' :=
 fun g b us vs' h1 h2 h3 h4=>Calls.mono (hc g b us vs' h1 h2 h3 h4) h
def ze6(P:Program)(f:FuncId)(s:Sm):Prop:=match f / 1000000 with
 |0=>zdo P (f % 1000000) s
 |1=>zeh (CQ P (f % 1000000)) s
 |2=>zeh (CB P (f % 1000000)) s
 |4=>zeh (CP P (f % 1000000)) s
 |_=>zeh (CS P (f % 1000000)) s
def RelCL(w:World)(Z:Nat→Prop):LS→Value→Prop
 | .int k n,v=>v = .int k n
 | .bool b,v=>v = .bool b
 | .str s,v=>v = .string s
 | .nil,v=>v = .slice none 0 0
 | .rw r,v=>CnR w Z r.t r.xs v
section
variable{w:World}{Z:Nat→Prop}
theorem Cn.cellU:∀ (t:Ty) {x x':t.den} {cs:List Value} {c:Nat} {f:(b:Sb)→Option b.s.den},Cn w Z t x cs→upd t x c f=some x' →
  ∃ ca u cb b y',cs=ca++(u::cb)∧ca.length=c∧f b=some y'∧∀ u',Cn w Z b.s y' [u']→Cn w Z t x' (ca++(u'::cb))
 | .int k,x,x',cs,c,f,h,hu=>by
  simp only[upd]at hu;split at hu
  ·rename_i hc;subst hc;exact⟨[],_,[],_,_,h,rfl,hu,fun u' h'=>h'⟩
  ·cases hu
 | .bool,x,x',cs,c,f,h,hu=>by
  simp only[upd]at hu;split at hu
  ·rename_i hc;subst hc;exact⟨[],_,[],_,_,h,rfl,hu,fun u' h'=>h'⟩
  ·cases hu
 | .str,x,x',cs,c,f,h,hu=>by
  simp only[upd]at hu;split at hu
  ·rename_i hc;subst hc;exact⟨[],_,[],_,_,h,rfl,hu,fun u' h'=>h'⟩
  ·cases hu
 | .row e t,x,x',cs,c,f,h,hu=>by
  simp only[upd]at hu;split at hu
  ·rename_i hc;subst hc;obtain⟨v,rfl,_⟩:=h;exact⟨[],v,[],_,_,rfl,rfl,hu,fun u' h'=>h'⟩
  ·cases hu
 | .pair a b,x,x',cs,c,f,h,hu=>by
  obtain⟨c1,c2,rfl,h1,h2⟩:=h;have l1:=Cn.len a h1;simp only[upd]at hu;split at hu
  ·rename_i hc;split at hu
   ·rename_i y hy;injection hu with hu;subst hu
    obtain⟨ca,u,cb,bb,y',rfl,hl,hf,hk⟩:=Cn.cellU a h1 hy;exact⟨ca,u,cb++c2,bb,y',by simp,hl,hf,fun u' h'=>⟨ca++u'::cb,c2,by simp,hk u' h',h2⟩⟩
   ·cases hu
  ·rename_i hc;split at hu
   ·rename_i y hy;injection hu with hu;subst hu
    obtain⟨ca,u,cb,bb,y',rfl,hl,hf,hk⟩:=Cn.cellU b h2 hy;exact⟨c1++ca,u,cb,bb,y',by simp,by rw[List.length_append,l1,hl];omega,hf,fun u' h'=>⟨c1,ca++u'::cb,by simp,h1,hk u' h'⟩⟩
   ·cases hu
theorem RelCL.leaf{l:LS}{v:Value}{b:Sb}{y':b.s.den}(h:RelCL w Z l v)(hs:zbr l b=some y'):Cn w Z b.s y' [v]:=by
 obtain⟨s,y⟩:=b
 cases s with
 |int k =>
  cases l <;> simp only[zbr]at hs <;> try cases hs
  rename_i k' n;split at hs
  ·rename_i hk;injection hs with hs;subst hs;subst hk;exact congrArg (fun x=>[x]) h
  ·cases hs
 |bool=>cases l <;> simp only[zbr]at hs <;> cases hs;exact congrArg (fun x=>[x]) h
 |str=>cases l <;> simp only[zbr]at hs <;> cases hs;exact congrArg (fun x=>[x]) h
 |pair a b=>simp only[zbr]at hs;cases hs
 |row e t =>
  cases l <;> simp only[zbr]at hs <;> try cases hs
  ·have hv:v=_:=h;subst hv;exact⟨_,rfl,CnR.nil⟩
  ·rename_i r;split at hs
   ·rename_i he;have hr:=zay hs;have h':CnR w Z r.t r.xs v:=h;rw[hr]at h';exact⟨v,rfl,h'⟩
   ·cases hs
theorem Cn.updL(t:Ty):∀ {ls:List LS} {vs:List Value} {x x':t.den} {cs:List Value} {c:Nat},Cn w Z t x cs→F2 (RelCL w Z) ls vs→zlj t x c ls=some x'→Cn w Z t x' (over cs c vs)
 | [],[],x,x',cs,c,h,_,hu=>by
  simp only[zlj]at hu;injection hu with hu;subst hu
  simpa [over] using h
 |l::ls,v::vs,x,x',cs,c,h,hr,hu=>by
  simp only[zlj]at hu;split at hu
  ·rename_i x1 hx1;obtain⟨ca,u,cb,b,y',rfl,hca,hf,hk⟩:=Cn.cellU t h hx1;have h1:=hk v (hr.1.leaf hf);have:=Cn.updL t h1 hr.2 hu
   have e:over (ca++u::cb) c (v::vs)=over (ca++v::cb) (c+1) vs:=by
    unfold over;rw[← hca,List.take_left]
    have e1:(ca++v::cb).take (ca.length+1)=ca++[v]:=by
     rw[show ca++v::cb=(ca++[v])++cb by simp];exact List.take_left' (by simp)
    have e2:(ca++u::cb).drop (ca.length+(v::vs).length)=cb.drop vs.length:=by
     rw[show ca++u::cb=(ca++[u])++cb by simp,List.drop_append];have:(ca++[u]).drop (ca.length+(v::vs).length)=[]:=by simp
     rw[this];simp;congr 1;omega
    have e3:(ca++v::cb).drop (ca.length+1+vs.length)=cb.drop vs.length:=by
     rw[show ca++v::cb=(ca++[v])++cb by simp,List.drop_append];have:(ca++[v]).drop (ca.length+1+vs.length)=[]:=by simp
     rw[this];simp
    rw[e1,e2,e3];simp
   rw[e];exact this
  ·cases hu
 | [],_::_,_,_,_,_,_,h,_=>h.elim
 |_::_,[],_,_,_,_,_,h,_=>h.elim
theorem ymc:∀ (t:Ty) {vs:List Value},vs.map zk=t.zks.map some→Cn w Z t t.dflt vs:=by
 intro t vs h;have h0:=zli (w:=w) t (c:=0) h;exact Ow.toCn t (fun _ _=>rfl) (fun k hk=>by cases hk) h0
theorem zbw{T:Ty}{ls:List LS}{vs:List Value}{x:T.den}(hr:F2 (RelCL w Z) ls vs)(hx:za0 T ls=some x):Cn w Z T x vs:=by
 unfold za0 at hx;split at hx
 ·rename_i hl;have hl':ls.length=T.sz:=by simpa using hl
  obtain⟨zs,hz,hzl⟩:=zie T;have:=Cn.updL T (ymc T hz) hr hx
  have e:over zs 0 vs=vs:=by
   unfold over;have:vs.length=zs.length:=by rw[hzl,← hl',hr.len]
   simp[this]
  rw[e]at this;exact this
 ·cases hx
end
def Rw.one(r:Rw)(t:Ty):Option t.den:=match zaq r t with
 |some [x]=>some x
 |_=>none
def zvz(st:Bool)(s:SV):M (LS×List Nat) :=
 match s with
 | .int k n=>M.pure (.int k n,[])
 | .bool b=>M.pure (.bool b,[])
 | .str s=>M.pure (.str s,[])
 | .nil=>M.pure (.nil,[])
 | .con r=>M.pure (.rw r,[])
 | .ref o v p vw=>(match st with
  |true=>M.fail
  |false=>M.bind (M.get o) fun
   | .row r cur none=>(match zln p v cur none,zbe p r with
    |true,some r'=>M.pure (.rw ⟨r'.e,r'.t,zfd r'.xs vw⟩,[o])
    |_,_=>M.fail)
   | .ro r=>(match p.isEmpty,vw with
    |true,none=>M.pure (.rw r,[o])
    |_,_=>M.fail)
   |_=>M.fail)
 |_=>M.fail
def resC(st:Bool):List SV→M (List LS×List Nat)
 | []=>M.pure ([],[])
 |s::ss=>M.bind (zvz st s) fun a=>M.bind (resC st ss) fun b=>M.pure (a.1::b.1,a.2++b.2)
def avC(agg:Bool):AV→Option (List SV)
 | .one s=>(match agg with|false=>some [s]|true=>none)
 | .agg cs=>(match agg with|true=>some cs|false=>none)
 |_=>none
def ioA:(t:Ty)→List SV→List (Nat×Ent)→M (t.den×List (Nat×Ent))
 | .row e t,cs,cons=>(match cs with
  | [.nil]=>M.pure ([],cons)
  | [.ref o v [] none]=>M.bind (res1 (.ref o v [] none) cons) fun lc=>(match lc.1 with
   | .rw r=>(match r.e == e,zaq r t with
    |true,some xs=>M.pure (xs,lc.2)
    |_,_=>M.fail)
   |_=>M.fail)
  |_=>M.fail)
 | .int k,cs,cons=>(match cs with
  | [.int k' n]=>(if k'=k then M.pure (n,cons) else M.fail)
  |_=>M.fail)
 | .bool,cs,cons=>(match cs with
  | [.bool b]=>M.pure (b,cons)
  |_=>M.fail)
 | .str,cs,cons=>(match cs with
  | [.str b]=>M.pure (b,cons)
  |_=>M.fail)
 | .pair a b,cs,cons=>M.bind (ioA a (cs.take a.sz) cons) fun x=>M.bind (ioA b (cs.drop a.sz) x.2) fun y=>M.pure ((x.1,y.1),y.2)
def cpM(st:Bool)(t:Ty)(s:SV):M (t.den×List Nat):=match s with
 | .bptr o 0=>(match st with
  |true=>M.fail
  |false=>M.bind (M.get o) fun
   | .box cs=>M.bind (resC false cs) fun lr=>(match za0 t lr.1 with
    |some x=>M.pure (x,o::lr.2)
    |none=>M.fail)
   |_=>M.fail)
 | .cptr r 0 0=>(match r.one t with
  |some x=>M.pure (x,[])
  |none=>M.fail)
 |_=>M.fail
def ye0(st:Bool):(ts:List Ty)→List SV→M (zrc ts×List Nat)
 | [],[]=>M.pure ((),[])
 |t::ts,s::ss=>M.bind (cpM st t s) fun x=>M.bind (ye0 st ts ss) fun y=>M.pure ((x.1,y.1),x.2++y.2)
 |_,_=>M.fail
structure AR(k:PK) where
 x:k.den
 cons:List (Nat×Ent)
 rds:List Nat
def argM(st:Bool):(k:PK)→AV→List (Nat×Ent)→M (k.den×List (Nat×Ent)×List Nat)
 | .val t agg,a,cons=>(match avC agg a with
  | some cs=>M.bind (resC st cs) fun lr=>(match za0 t lr.1 with
   |some x=>M.pure (x,cons,lr.2)
   |none=>M.fail)
  |none=>M.fail)
 | .own t agg,a,cons=>(match avC agg a with
  | some cs=>M.bind (resM cs cons) fun lc=>(match za0 t lc.1 with
   |some x=>M.pure (x,lc.2,[])
   |none=>M.fail)
  |none=>M.fail)
 | .io t agg,a,cons=>(match avC agg a with
  |some cs=>M.bind (ioA t cs cons) fun x=>M.pure (x.1,x.2,[])
  |none=>M.fail)
 | .cp t,a,cons=>(match a with
  | .one s=>M.bind (cpM st t s) fun x=>M.pure (x.1,cons,x.2)
  |_=>M.fail)
 | .fn f ts,a,cons=>(match a with
  | .fn g ss=>(match Nat.beq g f with
   |true=>M.bind (ye0 st ts ss) fun x=>M.pure (x.1,cons,x.2)
   |false=>M.fail)
  |_=>M.fail)
 | .bx t,a,cons=>(match a with
  | .one (.bptr o 0)=>(match cons.any (fun c=>c.1 == o) with
   |true=>M.fail
   |false=>M.bind (M.get o) fun
    | .box cs=>M.bind (resC true cs) fun lr=>(match za0 t lr.1 with
     |some x=>M.pure (x,cons++[(o,.dead 0)],lr.2)
     |none=>M.fail)
    |_=>M.fail)
  |_=>M.fail)
 | .bo t,a,cons=>(match a with
  | .one (.bptr o 0)=>(match cons.any (fun c=>c.1 == o) with
   |true=>M.fail
   |false=>M.bind (M.get o) fun
    | .box cs=>M.bind (resM cs (cons ++ [(o,.dead 0)])) fun lc=>(match za0 t lc.1 with
     |some x=>M.pure (x,lc.2,[])
     |none=>M.fail)
    |_=>M.fail)
  |_=>M.fail)
def zui(st:Bool):(ks:List PK)→List AV→List (Nat×Ent)→M (zai ks×List (Nat×Ent)×List Nat)
 | [],[],cons=>M.pure ((),cons,[])
 |k::ks,a::as,cons=>M.bind (argM st k a cons) fun r=>M.bind (zui st ks as r.2.1) fun rr=>M.pure ((r.1,rr.1),rr.2.1,r.2.2++rr.2.2)
 |_,_,_=>M.fail
def zb9:(t:Ty)→t.den→List SV
 | .int k,(n:Int)=>[.int k n]
 | .bool,(b:Bool)=>[.bool b]
 | .str,(s:ByteArray)=>[.str s]
 | .row e t,xs=>[.con ⟨e,t,xs⟩]
 | .pair a b,x=>zb9 a x.1++zb9 b x.2
def zbm:Ty→Nat
 | .row _ _=>1
 | .pair a b=>zbm a+zbm b
 |_=>0
def zbs(d:Nat):(t:Ty)→t.den→List SV
 | .int k,(n:Int)=>[.int k n]
 | .bool,(b:Bool)=>[.bool b]
 | .str,(s:ByteArray)=>[.str s]
 | .row _ _,_=>[.ref d 0 [] none]
 | .pair a b,x=>zbs d a x.1++zbs (d+zbm a) b x.2
def zar(d:Nat):(t:Ty)→t.den→List (Nat×Ent)
 | .row e t,xs=>[(d,.row ⟨e,t,xs⟩ 0 none)]
 | .pair a b,x=>zar d a x.1++zar (d+zbm a) b x.2
 |_,_=>[]
def zom(d:Nat):(ks:List RK)→zah ks→List (Bool×List SV)
 | [],_=>[]
 | .own t agg::ks,y=>(agg,zbs d t y.1)::zom (d+zbm t) ks y.2
 | .val t agg::ks,y=>(agg,zb9 t y.1)::zom d ks y.2
 | .bx t::ks,y=>(false,[.bptr d 0])::zom (d+1) ks y.2
 | .half _ _ _::ks,y=>(false,[.ref d 0 [] none])::zom (d+1) ks y.2
 | .ro _ _ agg::ks,y=>(agg,[.ref d 0 [] none])::zom (d+1) ks y.2
 | .rw _ _::ks,y=>(true,[.ref d 0 [] none,.int .i64 y.1.2])::zom (d+1) ks y.2
def zax(d:Nat):(ks:List RK)→zah ks→List (Nat×Ent)
 | [],_=>[]
 | .own t _::ks,y=>zar d t y.1++zax (d+zbm t) ks y.2
 | .val _ _::ks,y=>zax d ks y.2
 | .bx t::ks,y=>(d,.box (zb9 t y.1))::zax (d+1) ks y.2
 | .half e t c::ks,y=>(d,.half ⟨e,t,y.1⟩ 0 c)::zax (d+1) ks y.2
 | .ro e t _::ks,y=>(d,.ro ⟨e,t,y.1⟩)::zax (d+1) ks y.2
 | .rw e t::ks,y=>(d,.ro ⟨e,t,y.1.1⟩)::zax (d+1) ks y.2
def zc2:(t:Ty)→t.den→List SV→Ob→List (Nat×Ent)
 | .row e t,ys,cs,ob=>(match cs with
  | [.ref o _ _ _]=>(match ob o with
   |some (.row _ cur _)=>[(o,.row ⟨e,t,ys⟩ (cur+1) none)]
   |_=>[])
  |_=>[])
 | .pair a b,y,cs,ob=>zc2 a y.1 (cs.take a.sz) ob++zc2 b y.2 (cs.drop a.sz) ob
 |_,_,_,_=>[]
def za8:List SV→List Nat
 | []=>[]
 | .ref o _ _ _::cs=>o::za8 cs
 |_::cs=>za8 cs
def nBo:List PK→Nat
 | []=>0
 | .bo t::ks=>zbm t+nBo ks
 |_::ks=>nBo ks
def zas(d:Nat):(ks:List PK)→zag ks→List AV→Ob→List (Nat×Ent)
 | [],_,_,_=>[]
 | .io t agg :: ks,y,a :: as,ob=>(match avC agg a with
  |some cs=>zc2 t y.1 cs ob++zas d ks y.2 as ob
  |none=>zas d ks y.2 as ob)
 | .bx t :: ks,y,a :: as,ob=>(match a with
  | .one (.bptr o _)=>(o,.box (zb9 t y.1))::zas d ks y.2 as ob
  |_=>zas d ks y.2 as ob)
 | .bo t :: ks,y,a :: as,ob=>(match a with
  | .one (.bptr o _)=>zar d t y.1++(o,.box (zbs d t y.1))::zas (d+zbm t) ks y.2 as ob
  |_=>zas (d+zbm t) ks y.2 as ob)
 | .val _ _::ks,y,_::as,ob=>zas d ks y as ob
 | .own _ _::ks,y,_::as,ob=>zas d ks y as ob
 | .cp _::ks,y,_::as,ob=>zas d ks y as ob
 | .fn _ _::ks,y,_::as,ob=>zas d ks y as ob
 |_::_,_,[],_=>[]
def ym5:List (Bool×List SV)→AV
 | [(true,cs)]=>.agg cs
 | [(false,[s])]=>.one s
 |vs=>.tup vs
def zq7:List PK→Bool
 | []=>true
 | .bx t::ks=>t.flat&&zq7 ks
 |_::ks=>zq7 ks
def zls:List RK→Bool
 | []=>true
 | .val t _::ks=>t.flat&&zls ks
 | .bx t::ks=>t.flat&&zls ks
 | .half _ _ _::_=>false
 |_::ks=>zls ks
def okSm(s:Sm):Bool:=s.st || (zq7 s.ps&&zls s.rs)
def zdl:List PK→List AV→List Nat
 | .io _ agg::ks,a::as=>(match avC agg a with|some cs=>za8 cs++zdl ks as|none=>zdl ks as)
 |_::ks,_::as=>zdl ks as
 |_,_=>[]
def zuh(d:Nat)(ks:List PK):List Nat:=(List.range (nBo ks)).map fun i=>d+i
def zib(s:Sm)(n:Nat)(as:List AV)(d:Nat):M (AV×List (Nat×Ent)) :=
 M.bind (zui s.st s.ps as []) fun r=>(match r.2.2.any (fun o=>r.2.1.any (fun c=>c.1 == o)) || !okSm s with
  |true=>M.fail
  |false=>M.bind (M.call (s.F n r.1)) fun y=>fun ob =>
   M.bind (M.ofOpt (match (zax (d+nBo s.ps) s.rs y.1).all (fun u=>(ob u.1).isNone)&&(zuh d s.ps).all (fun o=>(ob o).isNone) with|true=>some ()|false=>none))
    (fun _=>fun _=>.ret ((ym5 (zom (d+nBo s.ps) s.rs y.1),r.2.1++zas d s.ps y.2 as ob++zax (d+nBo s.ps) s.rs y.1),(zax (d+nBo s.ps) s.rs y.1).map (·.1)++(zuh d s.ps++(r.2.1.map (·.1)++zdl s.ps as)))) ob)
end Go.Proofs.Ytbjgiioppmkpiaa.Rx

