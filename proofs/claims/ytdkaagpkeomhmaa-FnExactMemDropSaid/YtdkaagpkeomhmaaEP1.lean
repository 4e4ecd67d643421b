/- Plain laws of those functions, no program in sight: the law answers true on all data. No condition. -/
import Derived.Test.YtdkaagpkeomhmaaEP0
set_option linter.unusedVariables false
set_option linter.unusedSimpArgs false
namespace Go.Proofs.Ytdkaagpkeomhmaa.Rx.S
open Go Go.Proofs.Ytdkaagpkeomhmaa.Rx Go.Proofs.Ytdkaagpkeomhmaa.Rx.Pu
set_option maxRecDepth 100000
theorem wI{i:Nat}(h:i≤4000000):IntKind.i64.wrap ((i:Int)+1)=((i+1:Nat):Int):=by rw[wr (by omega) (by omega)];omega
abbrev z3:Sp:=(false,[],[])
theorem peta{α β:Type}(p:α×β):(p.1,p.2)=p:=rfl
structure SzM(M:Me):Prop where
 a1:M.1.1.length≤1048576
 a2:M.1.2.length≤1048576
 b1:M.2.1.1.length≤1048576
 b2:M.2.1.2.length≤1048576
 s:M.2.2.1.length≤1048576
 r:∀ s∈M.2.2.1,s.2.1.length≤1048576∧s.2.2.length≤1048576
theorem q138_eq(n:Nat)(l:List Int)(hl:l.length≤9223372036854775807)(b:Int)(hb:0≤b∧b≤1048576):∃ r:Int,q138 n (l,b,())=some ((r,()),())∧r≤b∧(0≤r→l.length≤1048576):=by
 have w:IntKind.i64.wrap (b - (l.length:Int))=b - l.length:=wr (by omega) (by omega)
 show ∃ r,zf9 n l b=_∧_
 simp only[zf9,w]
 by_cases z:b - (l.length:Int)<0
 ·simp only[z,decide_true,cond_true];exact⟨-1,rfl,by omega,fun h=>by omega⟩
 ·simp only[z,decide_false,cond_false];exact⟨_,rfl,by omega,fun h=>by omega⟩
theorem q161_eq(n:Nat)(l:List Ar)(hl:l.length≤9223372036854775807)(b:Int)(hb:0≤b∧b≤1048576):∃ r:Int,q161 n (l,b,())=some ((r,()),())∧r≤b∧(0≤r→l.length≤1048576):=by
 have w:IntKind.i64.wrap (b - (l.length:Int))=b - l.length:=wr (by omega) (by omega)
 show ∃ r,zfz n l b=_∧_
 simp only[zfz,w]
 by_cases z:b - (l.length:Int)<0
 ·simp only[z,decide_true,cond_true];exact⟨-1,rfl,by omega,fun h=>by omega⟩
 ·simp only[z,decide_false,cond_false];exact⟨_,rfl,by omega,fun h=>by omega⟩
theorem q165_eq(n:Nat)(l:List Ar)(hl:l.length≤9223372036854775807)(b:Int)(hb:0≤b∧b≤1048576):∃ r:Int,q165 n (l,b,())=some ((r,()),())∧r≤b∧(0≤r→l.length≤1048576):=by
 have w:IntKind.i64.wrap (b - (l.length:Int))=b - l.length:=wr (by omega) (by omega)
 show ∃ r,zfv n l b=_∧_
 simp only[zfv,w]
 by_cases z:b - (l.length:Int)<0
 ·simp only[z,decide_true,cond_true];exact⟨-1,rfl,by omega,fun h=>by omega⟩
 ·simp only[z,decide_false,cond_false];exact⟨_,rfl,by omega,fun h=>by omega⟩
theorem p137_L5_eq(n:Nat)(l:List ByteArray)(hl:l.length≤1048576)(hw:∀ x∈l,x.size≤9223372036854775807):∀ (d m k:Nat) (b:Int),k+d=l.length→d<m→(0≤b∧b≤1048576)→∃ r:Int,zfc n m l b (k:Int)=some ((r,()),())∧r≤b
 | _,0,_,_,_,h,_=>by omega
 | 0,m+1,k,b,hk,hm,hb=>by
  obtain rfl:k=l.length:=by omega
  show ∃ r,zd3 n (zfc n m) l b (l.length:Int)=_∧_
  simp only[zd3,lt_f,cond_false]
  exact⟨b,rfl,by omega⟩
 | d+1,m+1,k,b,hk,hm,hb=>by
  have hkl:k<l.length:=by omega
  have hs:=hw _ (zam (d:=ByteArray.empty) hkl)
  have w:IntKind.i64.wrap (b - ((ByteArray.size (l.getD k ByteArray.empty):Nat):Int))=b - ((ByteArray.size (l.getD k ByteArray.empty):Nat):Int):=wr (by omega) (by omega)
  show ∃ r,zd3 n (zfc n m) l b (k:Int)=_∧_
  simp only[zd3,lt_t hkl,ge_t,cond_true,zaa,w]
  by_cases z:b - ((ByteArray.size (l.getD k ByteArray.empty):Nat):Int)<0
  ·simp only[z,decide_true,cond_true];exact⟨-1,rfl,by omega⟩
  ·simp only[z,decide_false,cond_false,wI (show k≤4000000 by omega)]
   obtain⟨s,hs,h1⟩:=p137_L5_eq n l hl hw d m (k+1) (b - ((ByteArray.size (l.getD k ByteArray.empty):Nat):Int)) (by omega) (by omega) (by omega)
   exact⟨s,hs,by omega⟩
theorem q137_eq(n:Nat)(hn:2000000<n)(l:List ByteArray)(hl:l.length≤9223372036854775807)(hw:∀ x∈l,x.size≤9223372036854775807)(b:Int)(hb:0≤b∧b≤1048576):∃ r:Int,q137 n (l,b,())=some ((r,()),())∧r≤b∧(0≤r→l.length≤1048576):=by
 have w:IntKind.i64.wrap (b - (l.length:Int))=b - l.length:=wr (by omega) (by omega)
 show ∃ r,zf_ n (zfc n n) l b=_∧_
 simp only[zf_,w]
 by_cases z:b - (l.length:Int)<0
 ·simp only[z,decide_true,cond_true];exact⟨-1,rfl,by omega,fun h=>by omega⟩
 ·simp only[z,decide_false,cond_false]
  obtain⟨r,hr,h1⟩:=p137_L5_eq n l (by omega) hw l.length n 0 (b - l.length) (by omega) (by omega) (by omega)
  exact⟨r,hr,by omega,fun h=>by omega⟩
structure WfPg(P:Pg):Prop where
 l1:P.1.length≤9223372036854775807
 l2:P.2.length≤9223372036854775807
 w:∀ x∈P.1,x.size≤9223372036854775807
theorem q91_eq(n:Nat)(hn:2000000<n)(P:Pg)(h:WfPg P)(b:Int)(hb:0≤b∧b≤1048576):∃ r:Int,q91 n (P,b,())=some ((r,()),())∧r≤b∧(0≤r→P.1.length≤1048576∧P.2.length≤1048576):=by
 show ∃ r,ziu n P b=_∧_
 obtain⟨r,hr,h1,h2⟩:=q137_eq n hn P.1 h.l1 h.w b hb
 rw[ziu,hr]
 simp only[Option.bind_some]
 by_cases z:r<0
 ·simp only[z,decide_true,cond_true];exact⟨-1,rfl,by omega,fun h=>by omega⟩
 ·simp only[z,decide_false,cond_false]
  obtain⟨s,hs,h3,h4⟩:=q138_eq n P.2 h.l2 r (by omega)
  rw[hs]
  simp only[Option.bind_some]
  by_cases z:s<0
  ·simp only[z,decide_true,cond_true];exact⟨-1,rfl,by omega,fun h=>by omega⟩
  ·simp only[z,decide_false,cond_false];exact⟨s,rfl,by omega,fun _=>⟨h2 (by omega),h4 (by omega)⟩⟩
theorem q139_eq(n:Nat)(s:Sp)(h:s.2.1.length≤9223372036854775807∧s.2.2.length≤9223372036854775807)(b:Int)(hb:0≤b∧b≤1048576):∃ r:Int,q139 n (s,b,())=some ((r,()),())∧r≤b∧(0≤r→s.2.1.length≤1048576∧s.2.2.length≤1048576):=by
 show ∃ r,zf8 n s b=_∧_
 obtain⟨r,hr,h1,h2⟩:=q161_eq n s.2.1 h.1 b hb
 rw[zf8,hr]
 simp only[Option.bind_some]
 by_cases z:r<0
 ·simp only[z,decide_true,cond_true];exact⟨-1,rfl,by omega,fun h=>by omega⟩
 ·simp only[z,decide_false,cond_false]
  obtain⟨s,hs,h3,h4⟩:=q165_eq n s.2.2 h.2 r (by omega)
  rw[hs]
  simp only[Option.bind_some]
  by_cases z:s<0
  ·simp only[z,decide_true,cond_true];exact⟨-1,rfl,by omega,fun h=>by omega⟩
  ·simp only[z,decide_false,cond_false];exact⟨s,rfl,by omega,fun _=>⟨h2 (by omega),h4 (by omega)⟩⟩
theorem p92_L5_eq(n:Nat)(l:List Sp)(hl:l.length≤1048576)(hw:∀ s∈l,s.2.1.length≤9223372036854775807∧s.2.2.length≤9223372036854775807):∀ (d m k:Nat) (b:Int),k+d=l.length→d<m→(0≤b∧b≤1048576) →
  ∃ r:Int,zkn n m l b (k:Int)=some ((r,()),())∧r≤b∧(0≤r→∀ j,k≤j→j<l.length→(l.getD j z3).2.1.length≤1048576∧(l.getD j z3).2.2.length≤1048576)
 | _,0,_,_,_,h,_=>by omega
 | 0,m+1,k,b,hk,hm,hb=>by
  obtain rfl:k=l.length:=by omega
  show ∃ r,zhs n (zkn n m) l b (l.length:Int)=_∧_
  simp only[zhs,lt_f,cond_false]
  exact⟨b,rfl,by omega,fun _ j hj hj2=>by omega⟩
 | d+1,m+1,k,b,hk,hm,hb=>by
  have hkl:k<l.length:=by omega
  show ∃ r,zhs n (zkn n m) l b (k:Int)=_∧_
  obtain⟨r,hr,hr1,hr2⟩:=q139_eq n (l.getD k z3) (hw _ (zam hkl)) b hb
  simp only[zhs,lt_t hkl,ge_t,cond_true,zaa,peta,hr,Option.bind_some]
  by_cases z:r<0
  ·simp only[z,decide_true,cond_true];exact⟨-1,rfl,by omega,fun h=>by omega⟩
  ·simp only[z,decide_false,cond_false,wI (show k≤4000000 by omega)]
   obtain⟨s,hs,hs1,hs2⟩:=p92_L5_eq n l hl hw d m (k+1) r (by omega) (by omega) (by omega)
   refine⟨s,hs,by omega,fun h j hj hj2=>?_⟩
   rcases Nat.eq_or_lt_of_le hj with rfl | hlt
   ·exact hr2 (by omega)
   ·exact hs2 h j (by omega) hj2
structure WfM(M:Me):Prop where
 p1:WfPg M.1
 p2:WfPg M.2.1
 s:M.2.2.1.length≤9223372036854775807
 r:∀ s∈M.2.2.1,s.2.1.length≤9223372036854775807∧s.2.2.length≤9223372036854775807
theorem q92_eq(n:Nat)(hn:2000000<n)(l:List Sp)(hl:l.length≤9223372036854775807)(hw:∀ s∈l,s.2.1.length≤9223372036854775807∧s.2.2.length≤9223372036854775807)(b:Int)(hb:0≤b∧b≤1048576) :
  ∃ r:Int,q92 n (l,b,())=some ((r,()),())∧(0≤r→l.length≤1048576∧∀ s∈l,s.2.1.length≤1048576∧s.2.2.length≤1048576):=by
 have w:IntKind.i64.wrap (b - (l.length:Int))=b - l.length:=wr (by omega) (by omega)
 show ∃ r,zit n (zkn n n) l b=_∧_
 simp only[zit,w]
 by_cases z:b - (l.length:Int)<0
 ·simp only[z,decide_true,cond_true];exact⟨-1,rfl,fun h=>by omega⟩
 ·simp only[z,decide_false,cond_false]
  obtain⟨s,hs,hs1,hs2⟩:=p92_L5_eq n l (by omega) hw l.length n 0 (b - l.length) (by omega) (by omega) (by omega)
  refine⟨s,hs,fun h=>⟨by omega,fun f hf=>?_⟩⟩
  obtain⟨k,hk,hka⟩:=List.getElem_of_mem hf
  have:=hs2 h k (by omega) hk
  rw[List.getD_eq_getElem?_getD,List.getElem?_eq_getElem hk]at this
  rw[← hka];exact this
theorem q27_eq(n:Nat)(hn:2000000<n)(M:Me)(h:WfM M):∃ r:Int,q27 n (M,(1048576:Int),())=some ((r,()),())∧(0≤r→SzM M):=by
 show ∃ r,zjc n M 1048576=_∧_
 obtain⟨r,hr,h1,h2⟩:=q91_eq n hn M.1 h.p1 1048576 (by omega)
 rw[zjc,peta,hr]
 simp only[Option.bind_some]
 by_cases z:r<0
 ·simp only[z,decide_true,cond_true];exact⟨-1,rfl,fun h=>by omega⟩
 ·simp only[z,decide_false,cond_false]
  obtain⟨s,hs,h3,h4⟩:=q91_eq n hn M.2.1 h.p2 r (by omega)
  rw[peta,hs]
  simp only[Option.bind_some]
  by_cases z2:s<0
  ·simp only[z2,decide_true,cond_true];exact⟨-1,rfl,fun h=>by omega⟩
  ·simp only[z2,decide_false,cond_false]
   obtain⟨t,ht,h5⟩:=q92_eq n hn M.2.2.1 h.s h.r s (by omega)
   rw[ht]
   simp only[Option.bind_some]
   by_cases z3:t<0
   ·simp only[z3,decide_true,cond_true];exact⟨-1,rfl,fun h=>by omega⟩
   ·simp only[z3,decide_false,cond_false]
    have a:=h2 (by omega)
    have b:=h4 (by omega)
    have c:=h5 (by omega)
    exact⟨t,rfl,fun _=>⟨a.1,a.2,b.1,b.2,c.1,c.2⟩⟩
theorem q176_eq(n:Nat)(x:Ar):q176 n (x,())=some ((x,()),()):=rfl
theorem q178_eq(n:Nat)(x:Ar):q178 n (x,())=some ((x,()),()):=rfl
theorem q140_eq(n:Nat)(l:List ByteArray)(hl:l.length≤1048576)(hn:2000000<n):q140 n (l,())=some ((l,()),()):=by
 have h0:decide ((l.length:Int)*((16:Nat):Int)≤140737488355328)=true:=by simp;omega
 show zf7 n (zfb n n) l=_
 simp only[zf7,h0,cond_true]
 have:=zdf (F:=zfb n) (R:=fun acc=>some ((acc,()),())) (g:=id) (da:=ByteArray.empty) l (fun k i acc hi ha=>by
   show zd2 n (zfb n k) l i acc=_
   have hi2:i<acc.length:=by omega
   simp only[zd2,lt_t hi,lt_t hi2,ge_t,cond_true,zaa,wI (show i≤4000000 by omega)]
   rfl) (fun k acc=>by
   show zd2 n (zfb n k) l l.length acc=_
   simp only[zd2,lt_f,cond_false]) l.length n 0 (List.replicate (l.length:Int).toNat ByteArray.empty) (by simp) (by omega) (by omega) (fun j hj=>by omega)
 rw[List.map_id]at this
 exact this
theorem q141_eq(n:Nat)(l:List Int)(hl:l.length≤1048576)(hn:2000000<n):q141 n (l,())=some ((l,()),()):=by
 have h0:decide ((l.length:Int)*((8:Nat):Int)≤140737488355328)=true:=by simp;omega
 show zf6 n (zfa n n) l=_
 simp only[zf6,h0,cond_true]
 have:=zdf (F:=zfa n) (R:=fun acc=>some ((acc,()),())) (g:=id) (da:=(0:Int)) l (fun k i acc hi ha=>by
   show zd1 n (zfa n k) l i acc=_
   have hi2:i<acc.length:=by omega
   simp only[zd1,lt_t hi,lt_t hi2,ge_t,cond_true,zaa,wI (show i≤4000000 by omega)]
   rfl) (fun k acc=>by
   show zd1 n (zfa n k) l l.length acc=_
   simp only[zd1,lt_f,cond_false]) l.length n 0 (List.replicate (l.length:Int).toNat (0:Int)) (by simp) (by omega) (by omega) (fun j hj=>by omega)
 rw[List.map_id]at this
 exact this
theorem q162_eq(n:Nat)(l:List Ar)(hl:l.length≤1048576)(hn:2000000<n):q162 n (l,())=some ((l,()),()):=by
 have h0:decide ((l.length:Int)*((24:Nat):Int)≤140737488355328)=true:=by simp;omega
 show zfy n (ze6 n n) l=_
 simp only[zfy,h0,cond_true]
 have:=zdf (F:=ze6 n) (R:=fun acc=>some ((acc,()),())) (g:=id) (da:=((0:Int),(0:Int),false,false)) l (fun k i acc hi ha=>by
   show zdv n (ze6 n k) l i acc=_
   have hi2:i<acc.length:=by omega
   simp only[zdv,lt_t hi,lt_t hi2,ge_t,cond_true,zaa,wI (show i≤4000000 by omega),peta,q176_eq,Option.bind_some]
   rfl) (fun k acc=>by
   show zdv n (ze6 n k) l l.length acc=_
   simp only[zdv,lt_f,cond_false]) l.length n 0 (List.replicate (l.length:Int).toNat ((0:Int),(0:Int),false,false)) (by simp) (by omega) (by omega) (fun j hj=>by omega)
 rw[List.map_id]at this
 exact this
theorem q166_eq(n:Nat)(l:List Ar)(hl:l.length≤1048576)(hn:2000000<n):q166 n (l,())=some ((l,()),()):=by
 have h0:decide ((l.length:Int)*((24:Nat):Int)≤140737488355328)=true:=by simp;omega
 show zfu n (ze4 n n) l=_
 simp only[zfu,h0,cond_true]
 have:=zdf (F:=ze4 n) (R:=fun acc=>some ((acc,()),())) (g:=id) (da:=((0:Int),(0:Int),false,false)) l (fun k i acc hi ha=>by
   show zdt n (ze4 n k) l i acc=_
   have hi2:i<acc.length:=by omega
   simp only[zdt,lt_t hi,lt_t hi2,ge_t,cond_true,zaa,wI (show i≤4000000 by omega),peta,q178_eq,Option.bind_some]
   rfl) (fun k acc=>by
   show zdt n (ze4 n k) l l.length acc=_
   simp only[zdt,lt_f,cond_false]) l.length n 0 (List.replicate (l.length:Int).toNat ((0:Int),(0:Int),false,false)) (by simp) (by omega) (by omega) (fun j hj=>by omega)
 rw[List.map_id]at this
 exact this
theorem q142_eq(n:Nat)(s:Sp)(h:s.2.1.length≤1048576∧s.2.2.length≤1048576)(hn:2000000<n):q142 n (s,())=some ((s,()),()):=by
 show zf5 n s=_
 rw[zf5,q162_eq n _ h.1 hn]
 simp only[Option.bind_some]
 rw[q166_eq n _ h.2 hn]
 rfl
theorem q95_eq(n:Nat)(l:List Sp)(hl:l.length≤1048576)(hn:2000000<n)(hr:∀ s∈l,s.2.1.length≤1048576∧s.2.2.length≤1048576):q95 n (l,())=some ((l,()),()):=by
 have h0:decide ((l.length:Int)*((56:Nat):Int)≤140737488355328)=true:=by simp;omega
 show zir n (zkm n n) l=_
 simp only[zir,h0,cond_true]
 have:=zdf (F:=zkm n) (R:=fun acc=>some ((acc,()),())) (g:=id) (da:=((false,[],[]):Sp)) l (fun k i acc hi ha=>by
   show zhq n (zkm n k) l i acc=_
   have hi2:i<acc.length:=by omega
   have hc:=q142_eq n (l.getD i (false,[],[])) (hr _ (zam hi)) hn
   simp only[zhq,lt_t hi,lt_t hi2,ge_t,cond_true,zaa,wI (show i≤4000000 by omega),peta,hc,Option.bind_some]
   rfl) (fun k acc=>by
   show zhq n (zkm n k) l l.length acc=_
   simp only[zhq,lt_f,cond_false]) l.length n 0 (List.replicate (l.length:Int).toNat ((false,[],[]):Sp)) (by simp) (by omega) (by omega) (fun j hj=>by omega)
 rw[List.map_id]at this
 exact this
theorem q94_eq(n:Nat)(P:Pg)(h1:P.1.length≤1048576)(h2:P.2.length≤1048576)(hn:2000000<n):q94 n (P,())=some ((P,()),()):=by
 show zis n P=_
 rw[zis,q140_eq n _ h1 hn]
 simp only[Option.bind_some]
 rw[q141_eq n _ h2 hn]
 rfl
theorem q29_eq(n:Nat)(M:Me)(h:SzM M)(hn:2000000<n):q29 n (M,())=some ((M,()),()):=by
 show zja n M=_
 rw[zja,peta,q94_eq n _ h.a1 h.a2 hn]
 simp only[Option.bind_some]
 rw[peta,q94_eq n _ h.b1 h.b2 hn]
 simp only[Option.bind_some]
 rw[q95_eq n _ h.s hn h.r]
 rfl
theorem q177_refl(n:Nat)(x:Ar):q177 n (x,x,())=some ((true,()),()):=by
 show zfs n x x=_
 simp only[zfs,decide_true,BEq.rfl,Bool.not_true,cond_false]
theorem q179_refl(n:Nat)(x:Ar):q179 n (x,x,())=some ((true,()),()):=by
 show zfr n x x=_
 simp only[zfr,decide_true,BEq.rfl,Bool.not_true,cond_false]
theorem q145_refl(n:Nat)(l:List ByteArray)(hl:l.length≤1048576)(hn:2000000<n):q145 n (l,l,())=some ((true,()),()):=by
 show zf4 n (ze_ n n) l l=_
 simp only[zf4,decide_true,Bool.not_true,cond_false]
 exact zcn (F:=fun k i=>ze_ n k l l i) (r:=some ((true,()),())) l.length (fun k i hi=>by
  show zdz n (ze_ n k) l l i=_
  simp only[zdz,lt_t hi,ge_t,cond_true,zaa,decide_true,BEq.rfl,Bool.not_true,cond_false,wI (show i≤4000000 by omega)]) (fun k=>by
  show zdz n (ze_ n k) l l l.length=_
  simp only[zdz,lt_f,cond_false]) l.length n 0 (by omega) (by omega)
theorem q146_refl(n:Nat)(l:List Int)(hl:l.length≤1048576)(hn:2000000<n):q146 n (l,l,())=some ((true,()),()):=by
 show zf3 n (ze9 n n) l l=_
 simp only[zf3,decide_true,Bool.not_true,cond_false]
 exact zcn (F:=fun k i=>ze9 n k l l i) (r:=some ((true,()),())) l.length (fun k i hi=>by
  show zdy n (ze9 n k) l l i=_
  simp only[zdy,lt_t hi,ge_t,cond_true,zaa,decide_true,BEq.rfl,Bool.not_true,cond_false,wI (show i≤4000000 by omega)]) (fun k=>by
  show zdy n (ze9 n k) l l l.length=_
  simp only[zdy,lt_f,cond_false]) l.length n 0 (by omega) (by omega)
theorem q163_refl(n:Nat)(l:List Ar)(hl:l.length≤1048576)(hn:2000000<n):q163 n (l,l,())=some ((true,()),()):=by
 show zfx n (ze5 n n) l l=_
 simp only[zfx,decide_true,Bool.not_true,cond_false]
 exact zcn (F:=fun k i=>ze5 n k l l i) (r:=some ((true,()),())) l.length (fun k i hi=>by
  show zdu n (ze5 n k) l l i=_
  have hc:=q177_refl n (l.getD i ((0:Int),(0:Int),false,false))
  simp only[zdu,lt_t hi,ge_t,cond_true,zaa,decide_true,BEq.rfl,Bool.not_true,cond_false,wI (show i≤4000000 by omega),peta,hc,Option.bind_some]) (fun k=>by
  show zdu n (ze5 n k) l l l.length=_
  simp only[zdu,lt_f,cond_false]) l.length n 0 (by omega) (by omega)
theorem q167_refl(n:Nat)(l:List Ar)(hl:l.length≤1048576)(hn:2000000<n):q167 n (l,l,())=some ((true,()),()):=by
 show zft n (ze3 n n) l l=_
 simp only[zft,decide_true,Bool.not_true,cond_false]
 exact zcn (F:=fun k i=>ze3 n k l l i) (r:=some ((true,()),())) l.length (fun k i hi=>by
  show zds n (ze3 n k) l l i=_
  have hc:=q179_refl n (l.getD i ((0:Int),(0:Int),false,false))
  simp only[zds,lt_t hi,ge_t,cond_true,zaa,decide_true,BEq.rfl,Bool.not_true,cond_false,wI (show i≤4000000 by omega),peta,hc,Option.bind_some]) (fun k=>by
  show zds n (ze3 n k) l l l.length=_
  simp only[zds,lt_f,cond_false]) l.length n 0 (by omega) (by omega)
theorem q147_refl(n:Nat)(s:Sp)(h:s.2.1.length≤1048576∧s.2.2.length≤1048576)(hn:2000000<n):q147 n (s,s,())=some ((true,()),()):=by
 show zf2 n s s=_
 simp only[zf2,BEq.rfl,Bool.not_true,cond_false,q163_refl n _ h.1 hn,q167_refl n _ h.2 hn,Option.bind_some]
theorem q98_refl(n:Nat)(l:List Sp)(hl:l.length≤1048576)(hn:2000000<n)(hr:∀ s∈l,s.2.1.length≤1048576∧s.2.2.length≤1048576):q98 n (l,l,())=some ((true,()),()):=by
 show zio n (zkl n n) l l=_
 simp only[zio,decide_true,Bool.not_true,cond_false]
 exact zcn (F:=fun k i=>zkl n k l l i) (r:=some ((true,()),())) l.length (fun k i hi=>by
  show zhp n (zkl n k) l l i=_
  have hc:=q147_refl n (l.getD i (false,[],[])) (hr _ (zam hi)) hn
  simp only[zhp,lt_t hi,ge_t,cond_true,zaa,decide_true,BEq.rfl,Bool.not_true,cond_false,wI (show i≤4000000 by omega),peta,hc,Option.bind_some]) (fun k=>by
  show zhp n (zkl n k) l l l.length=_
  simp only[zhp,lt_f,cond_false]) l.length n 0 (by omega) (by omega)
theorem q97_refl(n:Nat)(P:Pg)(h1:P.1.length≤1048576)(h2:P.2.length≤1048576)(hn:2000000<n):q97 n (P,P,())=some ((true,()),()):=by
 show zip n P P=_
 simp only[zip,Bool.not_true,cond_false,q145_refl n _ h1 hn,q146_refl n _ h2 hn,Option.bind_some]
theorem zjg(n:Nat)(M:Me)(h:SzM M)(hn:2000000<n):q31 n (M,M,())=some ((true,()),()):=by
 show zi9 n M M=_
 simp only[zi9,peta,Bool.not_true,cond_false,q97_refl n _ h.a1 h.a2 hn,q97_refl n _ h.b1 h.b2 hn,q98_refl n _ h.s hn h.r,decide_true,Option.bind_some]
theorem zkz(n:Nat):∀ (d k:Nat) (m:Int) (s:ByteArray),0≤m→m<10 ^ d→m≤4611686018427387000→d<k→s.size+d≤1000→∃ r,zh1 n k m s=some ((r,()),())
 | _,0,_,_,_,_,_,h,_=>by omega
 | 0,k+1,m,s,h0,h1,h2,hk,hs=>by
  have hm:m=0:=by simp at h1;omega
  subst hm
  show ∃ r,zct n _ 0 s=_
  have e:decide ((ByteArray.mk #[(109:UInt8)]).size+s.size≤9223372036854775807)=true:=decide_eq_true (by have:(ByteArray.mk #[(109:UInt8)]).size=1:=rfl;omega)
  have e1:decide ((0:Int)<0)=false:=rfl
  rw[zct,e1,cond_false,e]
  exact⟨_,rfl⟩
 | d+1,k+1,m,s,h0,h1,h2,hk,hs=>by
  show ∃ r,zct n (zh1 n k) m s=_
  by_cases c:0<m
  ·have hsz:∀ y:Int,(List.foldl (fun r n=>r.push (UInt8.ofNat n.toNat)) ByteArray.empty [y]).size=1:=fun y=>rfl
   have e:∀ y:Int,decide ((List.foldl (fun r n=>r.push (UInt8.ofNat n.toNat)) ByteArray.empty [y]).size+s.size≤9223372036854775807)=true:=fun y=>decide_eq_true (by rw[hsz];omega)
   have ht:Int.tdiv m 10=m / 10:=Int.tdiv_eq_ediv_of_nonneg h0
   have hlt:m / 10<10 ^ d:=by
    rw[Int.pow_succ]at h1
    omega
   rw[zct,decide_eq_true c,cond_true,e,cond_true,ht,wr (x:=m / 10) (by omega) (by omega)]
   exact zkz n d k _ _ (by omega) hlt (by omega) (by omega) (by rw[ByteArray.size_append,hsz];omega)
  ·have e:decide ((ByteArray.mk #[(109:UInt8)]).size+s.size≤9223372036854775807)=true:=decide_eq_true (by have:(ByteArray.mk #[(109:UInt8)]).size=1:=rfl;omega)
   rw[zct,decide_eq_false c,cond_false,e]
   exact⟨_,rfl⟩
noncomputable def mkTx(n:Nat)(m:Int):ByteArray:=match q164 n (m,()) with
 | some r=>r.1.1
 | none=>ByteArray.empty
theorem q164_eq(n:Nat)(hn:2000≤n)(m:Int)(h:0≤m∧m≤1000000000000000000):q164 n (m,())=some ((mkTx n m,()),()):=by
 have:∃ r,q164 n (m,())=some ((r,()),()):=by
  show ∃ r,zfw n (zh1 n n) m=_
  rw[zfw]
  cases decide (m≤0) with
  | true=>exact⟨_,rfl⟩
  | false =>
   rw[cond_false]
   have e:(ByteArray.mk #[]).size=0:=rfl
   have e10:(10:Int) ^ 19=10000000000000000000:=by decide
   exact zkz n 19 n m _ h.1 (by omega) (by omega) (by omega) (by rw[e];omega)
 obtain⟨r,hr⟩:=this
 unfold mkTx
 rw[hr]
def mkAr(m:Int):Ar:=(m,m+1,decide ((m+2).tmod 3=0),decide ((m+3).tmod 3=0))
theorem q132_eq(n:Nat)(l:List Int)(m:Int)(hm:0≤m∧m≤100000000000000)(hl:l.length≤1048576)(hn:2000000<n):q132 n (l,m,())=some ((m+l.length,()),(marks id 1 m l.length,())):=by
 show zfh n n m 0 l=_
 have:=zhf (F:=zfh n) (R:=fun m xs=>some ((m,()),(xs,()))) (f:=id) (s:=1) (m0:=m) (n:=l.length) (fun k i xs hi hx=>by
   show zd8 n (zfh n k) (m+1*(i:Int)) i xs=_
   rw[← hx]at hi
   simp only[zd8,lt_t hi,ge_t,cond_true,zaa,wI (show i≤4000000 by omega)]
   rw[wr (x:=m+1*(i:Int)+1) (by omega) (by omega)]
   congr 1
   omega) (fun k xs hx=>by
   show zd8 n (zfh n k) (m+1*(l.length:Int)) l.length xs=_
   rw[← hx]
   simp only[zd8,lt_f,cond_false]) l.length n 0 l rfl (by omega) (by omega) (fun j hj=>by omega)
 simpa using this
theorem q133_eq(n:Nat)(l:List ByteArray)(m:Int)(hm:0≤m∧m≤100000000000000)(hl:l.length≤1048576)(hn:2000000<n):q133 n (l,m,())=some ((m+l.length,()),(marks (mkTx n) 1 m l.length,())):=by
 show zfg n n m 0 l=_
 have:=zhf (F:=zfg n) (R:=fun m xs=>some ((m,()),(xs,()))) (f:=mkTx n) (s:=1) (m0:=m) (n:=l.length) (fun k i xs hi hx=>by
   show zd7 n (zfg n k) (m+1*(i:Int)) i xs=_
   rw[← hx]at hi
   simp only[zd7,lt_t hi,ge_t,cond_true,zaa,wI (show i≤4000000 by omega),q164_eq n (by omega) (m+1*(i:Int)) (by omega),Option.bind_some]
   rw[wr (x:=m+1*(i:Int)+1) (by omega) (by omega)]
   congr 1
   omega) (fun k xs hx=>by
   show zd7 n (zfg n k) (m+1*(l.length:Int)) l.length xs=_
   rw[← hx]
   simp only[zd7,lt_f,cond_false]) l.length n 0 l rfl (by omega) (by omega) (fun j hj=>by omega)
 simpa using this
theorem q131_eq(n:Nat)(l:List Ar)(m:Int)(hm:0≤m∧m≤100000000000000)(hl:l.length≤1048576)(hn:2000000<n):q131 n (l,m,())=some ((m+4*l.length,()),(marks mkAr 4 m l.length,())):=by
 show zfi n n m 0 l=_
 have:=zhf (F:=zfi n) (R:=fun m xs=>some ((m,()),(xs,()))) (f:=mkAr) (s:=4) (m0:=m) (n:=l.length) (fun k i xs hi hx=>by
   show zd9 n (zfi n k) (m+4*(i:Int)) i xs=_
   rw[← hx]at hi
   have g1:∀ (xs:List Ar),xs.length=l.length→∀ x:Ar,(xs.set i x).getD i ((0:Int),(0:Int),false,false)=x:=fun xs h x=>zb8 (by omega)
   have w1:IntKind.i64.wrap (m+4*(i:Int)+1)=m+4*(i:Int)+1:=wr (by omega) (by omega)
   have w2:IntKind.i64.wrap (m+4*(i:Int)+1+1)=m+4*(i:Int)+2:=(wr (x:=m+4*(i:Int)+1+1) (by omega) (by omega)).trans (by omega)
   have w3:IntKind.i64.wrap (m+4*(i:Int)+2+1)=m+4*(i:Int)+3:=(wr (x:=m+4*(i:Int)+2+1) (by omega) (by omega)).trans (by omega)
   have w4:IntKind.i64.wrap (m+4*(i:Int)+3+1)=m+4*((i+1:Nat):Int):=(wr (x:=m+4*(i:Int)+3+1) (by omega) (by omega)).trans (by omega)
   simp only[zd9,List.length_set,lt_t hi,ge_t,cond_true,zaa,w1,w2,w3,w4,wI (show i≤4000000 by omega),List.set_set]
   simp only[g1 xs hx,mkAr]) (fun k xs hx=>by
   show zd9 n (zfi n k) (m+4*(l.length:Int)) l.length xs=_
   rw[← hx]
   simp only[zd9,lt_f,cond_false]) l.length n 0 l rfl (by omega) (by omega) (fun j hj=>by omega)
 simpa using this
theorem q148_eq(n:Nat)(l:List Ar)(m:Int)(hm:0≤m∧m≤100000000000000)(hl:l.length≤1048576)(hn:2000000<n):q148 n (l,m,())=some ((m+4*l.length,()),(marks mkAr 4 m l.length,())):=by
 show ze8 n n m 0 l=_
 have:=zhf (F:=ze8 n) (R:=fun m xs=>some ((m,()),(xs,()))) (f:=mkAr) (s:=4) (m0:=m) (n:=l.length) (fun k i xs hi hx=>by
   show zdx n (ze8 n k) (m+4*(i:Int)) i xs=_
   rw[← hx]at hi
   have g1:∀ (xs:List Ar),xs.length=l.length→∀ x:Ar,(xs.set i x).getD i ((0:Int),(0:Int),false,false)=x:=fun xs h x=>zb8 (by omega)
   have w1:IntKind.i64.wrap (m+4*(i:Int)+1)=m+4*(i:Int)+1:=wr (by omega) (by omega)
   have w2:IntKind.i64.wrap (m+4*(i:Int)+1+1)=m+4*(i:Int)+2:=(wr (x:=m+4*(i:Int)+1+1) (by omega) (by omega)).trans (by omega)
   have w3:IntKind.i64.wrap (m+4*(i:Int)+2+1)=m+4*(i:Int)+3:=(wr (x:=m+4*(i:Int)+2+1) (by omega) (by omega)).trans (by omega)
   have w4:IntKind.i64.wrap (m+4*(i:Int)+3+1)=m+4*((i+1:Nat):Int):=(wr (x:=m+4*(i:Int)+3+1) (by omega) (by omega)).trans (by omega)
   simp only[zdx,List.length_set,lt_t hi,ge_t,cond_true,zaa,w1,w2,w3,w4,wI (show i≤4000000 by omega),List.set_set]
   simp only[g1 xs hx,mkAr]) (fun k xs hx=>by
   show zdx n (ze8 n k) (m+4*(l.length:Int)) l.length xs=_
   rw[← hx]
   simp only[zdx,lt_f,cond_false]) l.length n 0 l rfl (by omega) (by omega) (fun j hj=>by omega)
 simpa using this
theorem q135_eq(n:Nat)(c:Nat)(m:Int)(hm:0≤m∧m≤100000000000000)(hl:c≤1048576)(hn:2000000<n):q135 n (marks id 1 m c,m,())=some ((m+c,()),()):=by
 show zfe n n (marks id 1 m c) m 0=_
 have:=zhj (F:=fun k m' i=>zfe n k (marks id 1 m c) m' i) (R:=fun m=>some ((m,()),())) (s:=1) (m0:=m) (n:=c) (fun k i hi=>by
   show zd5 n (zfe n k) (marks id 1 m c) (m+1*(i:Int)) i=_
   have hi':i<(marks (α:=Int) id 1 m c).length:=by rw[za2];exact hi
   simp only[zd5,lt_t hi',ge_t,cond_true,zaa,zen id 1 m c i hi 0,id,decide_true,Bool.not_true,cond_false,wI (show i≤4000000 by omega)]
   rw[wr (x:=m+1*(i:Int)+1) (by omega) (by omega)]
   congr 1
   omega) (fun k=>by
   show zd5 n (zfe n k) (marks id 1 m c) (m+1*(c:Int)) c=_
   have:decide ((c:Int)<((marks (α:=Int) id 1 m c).length:Int))=false:=by rw[za2];simp
   simp only[zd5,this,cond_false]) c n 0 (by omega) (by omega)
 simpa using this
theorem q136_eq(n:Nat)(c:Nat)(m:Int)(hm:0≤m∧m≤100000000000000)(hl:c≤1048576)(hn:2000000<n):q136 n (marks (mkTx n) 1 m c,m,())=some ((m+c,()),()):=by
 show zfd n n (marks (mkTx n) 1 m c) m 0=_
 have:=zhj (F:=fun k m' i=>zfd n k (marks (mkTx n) 1 m c) m' i) (R:=fun m=>some ((m,()),())) (s:=1) (m0:=m) (n:=c) (fun k i hi=>by
   show zd4 n (zfd n k) (marks (mkTx n) 1 m c) (m+1*(i:Int)) i=_
   have hi':i<(marks (mkTx n) 1 m c).length:=by rw[za2];exact hi
   simp only[zd4,lt_t hi',ge_t,cond_true,zaa,zen (mkTx n) 1 m c i hi ByteArray.empty,q164_eq n (by omega) (m+1*(i:Int)) (by omega),Option.bind_some,BEq.rfl,Bool.not_true,cond_false,wI (show i≤4000000 by omega)]
   rw[wr (x:=m+1*(i:Int)+1) (by omega) (by omega)]
   congr 1
   omega) (fun k=>by
   show zd4 n (zfd n k) (marks (mkTx n) 1 m c) (m+1*(c:Int)) c=_
   have:decide ((c:Int)<((marks (mkTx n) 1 m c).length:Int))=false:=by rw[za2];simp
   simp only[zd4,this,cond_false]) c n 0 (by omega) (by omega)
 simpa using this
theorem q134_eq(n:Nat)(c:Nat)(m:Int)(hm:0≤m∧m≤100000000000000)(hl:c≤1048576)(hn:2000000<n):q134 n (marks mkAr 4 m c,m,())=some ((m+4*c,()),()):=by
 show zff n n (marks mkAr 4 m c) m 0=_
 have:=zhj (F:=fun k m' i=>zff n k (marks mkAr 4 m c) m' i) (R:=fun m=>some ((m,()),())) (s:=4) (m0:=m) (n:=c) (fun k i hi=>by
   show zd6 n (zff n k) (marks mkAr 4 m c) (m+4*(i:Int)) i=_
   have hi':i<(marks mkAr 4 m c).length:=by rw[za2];exact hi
   have w1:IntKind.i64.wrap (m+4*(i:Int)+1)=m+4*(i:Int)+1:=wr (by omega) (by omega)
   have w2:IntKind.i64.wrap (m+4*(i:Int)+1+1)=m+4*(i:Int)+2:=(wr (x:=m+4*(i:Int)+1+1) (by omega) (by omega)).trans (by omega)
   have w3:IntKind.i64.wrap (m+4*(i:Int)+2+1)=m+4*(i:Int)+3:=(wr (x:=m+4*(i:Int)+2+1) (by omega) (by omega)).trans (by omega)
   have w4:IntKind.i64.wrap (m+4*(i:Int)+3+1)=m+4*((i+1:Nat):Int):=(wr (x:=m+4*(i:Int)+3+1) (by omega) (by omega)).trans (by omega)
   simp only[zd6,lt_t hi',ge_t,cond_true,zaa,zen mkAr 4 m c i hi ((0:Int),(0:Int),false,false),mkAr,w1,w2,w3,w4,wI (show i≤4000000 by omega),decide_true,Bool.not_true,cond_false,BEq.rfl]) (fun k=>by
   show zd6 n (zff n k) (marks mkAr 4 m c) (m+4*(c:Int)) c=_
   have:decide ((c:Int)<((marks mkAr 4 m c).length:Int))=false:=by rw[za2];simp
   simp only[zd6,this,cond_false]) c n 0 (by omega) (by omega)
 simpa using this
theorem q149_eq(n:Nat)(c:Nat)(m:Int)(hm:0≤m∧m≤100000000000000)(hl:c≤1048576)(hn:2000000<n):q149 n (marks mkAr 4 m c,m,())=some ((m+4*c,()),()):=by
 show ze7 n n (marks mkAr 4 m c) m 0=_
 have:=zhj (F:=fun k m' i=>ze7 n k (marks mkAr 4 m c) m' i) (R:=fun m=>some ((m,()),())) (s:=4) (m0:=m) (n:=c) (fun k i hi=>by
   show zdw n (ze7 n k) (marks mkAr 4 m c) (m+4*(i:Int)) i=_
   have hi':i<(marks mkAr 4 m c).length:=by rw[za2];exact hi
   have w1:IntKind.i64.wrap (m+4*(i:Int)+1)=m+4*(i:Int)+1:=wr (by omega) (by omega)
   have w2:IntKind.i64.wrap (m+4*(i:Int)+1+1)=m+4*(i:Int)+2:=(wr (x:=m+4*(i:Int)+1+1) (by omega) (by omega)).trans (by omega)
   have w3:IntKind.i64.wrap (m+4*(i:Int)+2+1)=m+4*(i:Int)+3:=(wr (x:=m+4*(i:Int)+2+1) (by omega) (by omega)).trans (by omega)
   have w4:IntKind.i64.wrap (m+4*(i:Int)+3+1)=m+4*((i+1:Nat):Int):=(wr (x:=m+4*(i:Int)+3+1) (by omega) (by omega)).trans (by omega)
   simp only[zdw,lt_t hi',ge_t,cond_true,zaa,zen mkAr 4 m c i hi ((0:Int),(0:Int),false,false),mkAr,w1,w2,w3,w4,wI (show i≤4000000 by omega),decide_true,Bool.not_true,cond_false,BEq.rfl]) (fun k=>by
   show zdw n (ze7 n k) (marks mkAr 4 m c) (m+4*(c:Int)) c=_
   have:decide ((c:Int)<((marks mkAr 4 m c).length:Int))=false:=by rw[za2];simp
   simp only[zdw,this,cond_false]) c n 0 (by omega) (by omega)
 simpa using this
def nxS(m:Int)(s:Sp):Int:=m+1+4*s.2.1.length+4*s.2.2.length
def mkSp(m:Int)(s:Sp):Sp:=(decide (m.tmod 3=0),marks mkAr 4 (m+1) s.2.1.length,marks mkAr 4 (m+1+4*s.2.1.length) s.2.2.length)
def mkSS:Int→List Sp→List Sp
 | _,[]=>[]
 | m,s::r=>mkSp m s::mkSS (nxS m s) r
def mkT:Int→List Sp→Int
 | m,[]=>m
 | m,s::r=>mkT (nxS m s) r
theorem nxS_le{m:Int}{s:Sp}(h:s.2.1.length≤1048576∧s.2.2.length≤1048576):m≤nxS m s∧nxS m s≤m+8388609:=by unfold nxS;omega
theorem mkT_le:∀ (l:List Sp) (m:Int),(∀ s∈l,s.2.1.length≤1048576∧s.2.2.length≤1048576)→m≤mkT m l
 | [],m,_=>Int.le_refl _
 | s::r,m,h=>by
  have h1:=nxS_le (m:=m) (h s List.mem_cons_self)
  have:=mkT_le r (nxS m s) (fun g hg=>h g (List.mem_cons_of_mem _ hg))
  simp only[mkT]
  omega
theorem p100_L2_eq(n:Nat)(hn:2000000<n):∀ (rest:List Sp) (k:Nat) (done:List Sp) (m:Int),rest.length<k→done.length+rest.length≤1048576→(∀ s∈rest,s.2.1.length≤1048576∧s.2.2.length≤1048576)→0≤m→m+8388609*rest.length≤90000000000000 →
  p100_L2 n k m (done.length:Int) (done++rest)=some ((mkT m rest,()),(done++mkSS m rest,()))
 | _,0,_,_,h,_,_,_,_=>by omega
 | [],k+1,done,m,hk,hd,hs,hm0,hm=>by
  show zee n _ m (done.length:Int) (done++[])=_
  rw[List.append_nil]
  simp only[zee,lt_f,cond_false,mkT,mkSS,List.append_nil]
 | s::rest,k+1,done,m,hk,hd,hs,hm0,hm=>by
  have h1:=hs s List.mem_cons_self
  have h2:=nxS_le (m:=m) h1
  simp only[List.length_cons]at hm hd hk
  have ih:=p100_L2_eq n hn rest k (done++[mkSp m s]) (nxS m s) (by omega) (by simp;omega) (fun g hg=>hs g (List.mem_cons_of_mem _ hg)) (by omega) (by omega)
  have w1:IntKind.i64.wrap (m+1)=m+1:=wr (by omega) (by omega)
  have hidx:IntKind.i64.wrap ((done.length:Int)+1)=((done++[mkSp m s]).length:Int):=by
   rw[wI (by omega)]
   simp
  have c1:=q131_eq n s.2.1 (m+1) (by omega) h1.1 hn
  have c2:=q148_eq n s.2.2 (m+1+4*s.2.1.length) (by omega) h1.2 hn
  show zee n _ m (done.length:Int) (done++s::rest)=_
  simp only[zee,zdb,ge_t,cond_true,zaa,zbj,set_pre,w1,c1,c2,Option.bind_some,hidx]
  have e10:∀ b:Sp,done++b::rest=(done++[b])++rest:=fun b=>by simp
  rw[e10]
  refine Eq.trans ih ?_
  simp only[mkT,mkSS,List.append_assoc,List.singleton_append]
theorem q100_eq(n:Nat)(hn:2000000<n)(l:List Sp)(m:Int)(hl:l.length≤1048576)(hr:∀ s∈l,s.2.1.length≤1048576∧s.2.2.length≤1048576)(hm:0≤m∧m≤10000000):q100 n (l,m,())=some ((mkT m l,()),(mkSS m l,())) :=
 p100_L2_eq n hn l n [] m (by omega) (by simpa using hl) hr hm.1 (by omega)
theorem p102_L2_eq(n:Nat)(hn:2000000<n):∀ (rest:List Sp) (k:Nat) (done:List Sp) (m:Int),rest.length<k→done.length+rest.length≤1048576→(∀ s∈rest,s.2.1.length≤1048576∧s.2.2.length≤1048576)→0≤m→m+8388609*rest.length≤90000000000000 →
  p102_L2 n k (done++mkSS m rest) m (done.length:Int)=some ((mkT m rest,()),())
 | _,0,_,_,h,_,_,_,_=>by omega
 | [],k+1,done,m,hk,hd,hs,hm0,hm=>by
  show zed n _ (done++[]) m (done.length:Int)=_
  rw[List.append_nil]
  simp only[zed,lt_f,cond_false,mkT]
 | s::rest,k+1,done,m,hk,hd,hs,hm0,hm=>by
  have h1:=hs s List.mem_cons_self
  have h2:=nxS_le (m:=m) h1
  simp only[List.length_cons]at hm hd hk
  have ih:=p102_L2_eq n hn rest k (done++[mkSp m s]) (nxS m s) (by omega) (by simp;omega) (fun g hg=>hs g (List.mem_cons_of_mem _ hg)) (by omega) (by omega)
  have w1:IntKind.i64.wrap (m+1)=m+1:=wr (by omega) (by omega)
  have hidx:IntKind.i64.wrap ((done.length:Int)+1)=((done++[mkSp m s]).length:Int):=by
   rw[wI (by omega)]
   simp
  have c1:q134 n ((mkSp m s).2.1,m+1,())=_:=q134_eq n s.2.1.length (m+1) (by omega) h1.1 hn
  have c2:q149 n ((mkSp m s).2.2,m+1+4*s.2.1.length,())=_:=q149_eq n s.2.2.length (m+1+4*s.2.1.length) (by omega) h1.2 hn
  have c0:(mkSp m s).1=decide (m.tmod 3=0):=rfl
  have z1:decide (m+1+4*(s.2.1.length:Int)<0)=false:=decide_eq_false (by omega)
  have z2:decide (m+1+4*(s.2.1.length:Int)+4*(s.2.2.length:Int)<0)=false:=decide_eq_false (by omega)
  show zed n _ (done++mkSp m s::mkSS (nxS m s) rest) m (done.length:Int)=_
  simp only[zed,zdb,ge_t,cond_true,zaa,zbj,c0,BEq.rfl,Bool.not_true,w1,c1,c2,z1,z2,Option.bind_some,cond_false,hidx]
  have e10:∀ (b:Sp) r,done++b::r=(done++[b])++r:=fun b r=>by simp
  rw[e10]
  exact ih
theorem q102_eq(n:Nat)(hn:2000000<n)(l:List Sp)(m:Int)(hl:l.length≤1048576)(hr:∀ s∈l,s.2.1.length≤1048576∧s.2.2.length≤1048576)(hm:0≤m∧m≤10000000):q102 n (mkSS m l,m,())=some ((mkT m l,()),()) :=
 p102_L2_eq n hn l n [] m (by omega) (by simpa using hl) hr hm.1 (by omega)
noncomputable def mkPg(n:Nat)(m:Int)(P:Pg):Pg:=(marks (mkTx n) 1 m P.1.length,marks id 1 (m+P.1.length) P.2.length)
theorem q99_eq(n:Nat)(hn:2000000<n)(P:Pg)(m:Int)(h1:P.1.length≤1048576)(h2:P.2.length≤1048576)(hm:0≤m∧m≤10000000):q99 n (P,m,())=some ((m+P.1.length+P.2.length,()),(mkPg n m P,())):=by
 show zin n P m=_
 rw[zin,q133_eq n P.1 m (by omega) h1 hn]
 simp only[Option.bind_some]
 rw[q132_eq n P.2 _ (by omega) h2 hn]
 rfl
theorem q101_eq(n:Nat)(hn:2000000<n)(P:Pg)(m:Int)(h1:P.1.length≤1048576)(h2:P.2.length≤1048576)(hm:0≤m∧m≤10000000):q101 n (mkPg n m P,m,())=some ((m+P.1.length+P.2.length,()),()):=by
 have z1:decide (m+(P.1.length:Int)<0)=false:=decide_eq_false (by omega)
 have z2:decide (m+(P.1.length:Int)+P.2.length<0)=false:=decide_eq_false (by omega)
 show zgf n (mkPg n m P) m=_
 rw[zgf,show (mkPg n m P).1=marks (mkTx n) 1 m P.1.length from rfl,q136_eq n _ m (by omega) h1 hn]
 simp only[Option.bind_some,z1,cond_false]
 rw[show (mkPg n m P).2=marks id 1 (m+P.1.length) P.2.length from rfl,q135_eq n _ _ (by omega) h2 hn]
 simp only[Option.bind_some,z2,cond_false]
def mk1(M:Me):Int:=1+M.1.1.length+M.1.2.length
def mk2(M:Me):Int:=mk1 M+M.2.1.1.length+M.2.1.2.length
def mk3(M:Me):Int:=mkT (mk2 M) M.2.2.1
noncomputable def Mk(n:Nat)(M:Me):Me:=(mkPg n 1 M.1,mkPg n (mk1 M) M.2.1,mkSS (mk2 M) M.2.2.1,M.2.2.2)
theorem q32_eq(n:Nat)(hn:2000000<n)(M:Me)(h:SzM M):q32 n (M,(1:Int),())=some ((mk3 M,()),(Mk n M,())):=by
 have h1:=h.a1
 have h2:=h.a2
 have h3:=h.b1
 have h4:=h.b2
 show zi8 n M 1=_
 rw[zi8,peta,q99_eq n hn M.1 1 h1 h2 (by omega)]
 simp only[Option.bind_some]
 rw[peta,q99_eq n hn M.2.1 _ h3 h4 (by omega)]
 simp only[Option.bind_some]
 rw[q100_eq n hn M.2.2.1 _ h.s h.r (by omega)]
 rfl
theorem q33_eq(n:Nat)(hn:2000000<n)(M:Me)(h:SzM M):q33 n (Mk n M,(1:Int),())=some ((mk3 M,()),()):=by
 have h1:=h.a1
 have h2:=h.a2
 have h3:=h.b1
 have h4:=h.b2
 have z1:decide (1+(M.1.1.length:Int)+M.1.2.length<0)=false:=decide_eq_false (by omega)
 have z2:decide (1+(M.1.1.length:Int)+M.1.2.length+M.2.1.1.length+M.2.1.2.length<0)=false:=decide_eq_false (by omega)
 have h5:=mkT_le M.2.2.1 (1+(M.1.1.length:Int)+M.1.2.length+M.2.1.1.length+M.2.1.2.length) h.r
 have z3:decide (mkT (1+(M.1.1.length:Int)+M.1.2.length+M.2.1.1.length+M.2.1.2.length) M.2.2.1<0)=false:=decide_eq_false (by omega)
 show zi7 n (Mk n M) 1=_
 rw[zi7,peta,show (Mk n M).1=mkPg n 1 M.1 from rfl,q101_eq n hn M.1 1 h1 h2 (by omega)]
 simp only[Option.bind_some,z1,cond_false]
 rw[peta,show (Mk n M).2.1=mkPg n (1+(M.1.1.length:Int)+M.1.2.length) M.2.1 from rfl,q101_eq n hn M.2.1 _ h3 h4 (by omega)]
 simp only[Option.bind_some,z2,cond_false]
 rw[show (Mk n M).2.2.1=mkSS (1+(M.1.1.length:Int)+M.1.2.length+M.2.1.1.length+M.2.1.2.length) M.2.2.1 from rfl,q102_eq n hn M.2.2.1 _ h.s h.r (by omega)]
 simp only[Option.bind_some,z3,cond_false]
 rfl
theorem mk3_pos{M:Me}(h:SzM M):¬ mk3 M<0:=by
 have h5:=mkT_le M.2.2.1 (mk2 M) h.r
 unfold mk3
 have:0≤mk2 M:=by unfold mk2 mk1;omega
 omega
theorem SzM.fill{M:Me}(h:SzM M)(t:Nat):SzM (fillM M t):=⟨h.a1,h.a2,h.b1,h.b2,by simp only[fillM,List.length_set];exact h.s,fun s hs=>by
 rcases List.mem_or_eq_of_mem_set hs with hs | rfl
 ·exact h.r s hs
 ·simp⟩
theorem SzM.z:SzM Mz:=⟨by decide,by decide,by decide,by decide,by decide,fun s hs=>by cases hs⟩
theorem SzM.ofMk{M:Me}(h:SzM M)(n:Nat):SzM (mkM n M).1:=by
 unfold mkM
 cases okM n M&&decide (0≤frf M.2.2.1) with
 | true=>exact h.fill _
 | false=>exact SzM.z
theorem giv_len(P:Pg)(k:Nat):(giv P k).1.length=P.1.length∧(giv P k).2.length=P.2.length:=by
 unfold giv
 constructor
 ·simp only
  split <;> simp
 ·simp
theorem setS_sz{S:List Sp}(hr:∀ s∈S,s.2.1.length≤1048576∧s.2.2.length≤1048576)(w p:Nat)(y:Ar):∀ s∈setS S w p y,s.2.1.length≤1048576∧s.2.2.length≤1048576:=fun s hs=>by
 rcases List.mem_or_eq_of_mem_set hs with hs | rfl
 ·exact hr s hs
 ·simp only[List.length_set]
  by_cases h:w<S.length
  ·exact hr _ (zam h)
  ·rw[List.getD_eq_getElem?_getD,List.getElem?_eq_none (by omega)]
   simp
theorem SzM.los1{M:Me}(h:SzM M)(w p:Nat):SzM (lose M w p):=by
 have g:=giv_len M.1 (sl M.2.2.1 w p).2.1.toNat
 have g2:=giv_len M.2.1 (sl M.2.2.1 w p).2.1.toNat
 have h1:=h.a1
 have h2:=h.a2
 have h3:=h.b1
 have h4:=h.b2
 have h5:(setS M.2.2.1 w p (0,0,false,false)).length≤1048576:=by rw[setS,List.length_set];exact h.s
 have h6:=setS_sz h.r w p (0,0,false,false)
 unfold lose
 split
 ·exact⟨by simp only;omega,by simp only;omega,h3,h4,h5,h6⟩
 ·split
  ·exact⟨h1,h2,by simp only;omega,by simp only;omega,h5,h6⟩
  ·exact⟨h1,h2,h3,h4,h5,h6⟩
theorem SzM.loseTo(w:Nat):∀ (l:List Nat) {M:Me},SzM M→SzM (loseTo w l M)
 | [],_,h=>h
 | p::r,_,h=>SzM.loseTo w r (h.los1 w p)
theorem SzM.dead{M:Me}(h:SzM M)(w:Nat):SzM (deadM M w):=⟨h.a1,h.a2,h.b1,h.b2,by simp only[deadM,List.length_set];exact h.s,fun s hs=>by
 rcases List.mem_or_eq_of_mem_set hs with hs | rfl
 ·exact h.r s hs
 ·simp⟩
theorem SzM.ofDr{M:Me}(h:SzM M)(n:Nat)(w:Int):SzM (drM n M w).1:=by
 unfold drM
 cases okM n M&&liv M w with
 | true=>exact(h.loseTo _ _).dead _
 | false=>exact SzM.z
theorem SzM.bg{M:Me}(h:SzM M):BgM 3000000 M:=⟨fun s hs=>by have:=h.r s hs;omega⟩
theorem law6(M:Me)(hw:WfM M):q6 3000000 (M,())=some ((true,()),()):=by
 obtain⟨r,hr,hr2⟩:=q27_eq 3000000 (by omega) M hw
 show st6_top 3000000 M=_
 simp only[st6_top,peta,hr,Option.bind_some]
 by_cases z:r<0
 ·simp only[z,decide_true,cond_true]
 ·have hf:=hr2 (by omega)
  have hR:SzM (mkM 3000000 M).1:=hf.ofMk 3000000
  have t1:=q29_eq 3000000 M hf (by omega)
  have t3:=q28_eq 3000000 (by omega) M hf.bg
  have t4:=q30_eq 3000000 (by omega) M hf.bg
  have t5:=zjg 3000000 _ hR (by omega)
  have t6:=zjg 3000000 M hf (by omega)
  have t8:=q32_eq 3000000 (by omega) M hf
  have t10:=q32_eq 3000000 (by omega) _ hR
  have t11:q33 3000000 (((Mk 3000000 (mkM 3000000 M).1).1,(Mk 3000000 (mkM 3000000 M).1).2.1,(Mk 3000000 (mkM 3000000 M).1).2.2.1,(mkM 3000000 M).1.2.2.2),(1:Int),())=_:=q33_eq 3000000 (by omega) _ hR
  have z5:=mk3_pos hf
  have z6:=mk3_pos hR
  simp only[z,decide_false,cond_false,peta,t1,t3,t4,t5,t6,t8,t10,t11,z5,z6,Option.bind_some,Bool.not_true,decide_true,BEq.rfl]
theorem law8(M:Me)(w:Int)(hw:WfM M):q8 3000000 (M,w,())=some ((true,()),()):=by
 obtain⟨r,hr,hr2⟩:=q27_eq 3000000 (by omega) M hw
 show st8_top 3000000 M w=_
 simp only[st8_top,peta,hr,Option.bind_some]
 by_cases z:r<0
 ·simp only[z,decide_true,cond_true]
 ·have hf:=hr2 (by omega)
  have hR:SzM (drM 3000000 M w).1:=hf.ofDr 3000000 w
  have t1:=q29_eq 3000000 M hf (by omega)
  have t3:=q36_eq 3000000 (by omega) M w hf.bg
  have t4:=q35_eq 3000000 (by omega) M w hf.bg
  have t5:=zjg 3000000 _ hR (by omega)
  have t6:=zjg 3000000 M hf (by omega)
  have t8:=q32_eq 3000000 (by omega) M hf
  have t10:=q32_eq 3000000 (by omega) _ hR
  have t11:q33 3000000 (((Mk 3000000 (drM 3000000 M w).1).1,(Mk 3000000 (drM 3000000 M w).1).2.1,(Mk 3000000 (drM 3000000 M w).1).2.2.1,(drM 3000000 M w).1.2.2.2),(1:Int),())=_:=q33_eq 3000000 (by omega) _ hR
  have z5:=mk3_pos hf
  have z6:=mk3_pos hR
  simp only[z,decide_false,cond_false,peta,t1,t3,t4,t5,t6,t8,t10,t11,z5,z6,Option.bind_some,Bool.not_true,decide_true,BEq.rfl]
theorem wfPg{P:Pg}(h:WfT tPg P):WfPg P:=⟨h.1.1,h.2.1,h.1.2⟩
theorem wfM{M:Me}(h:WfT tLm M):WfM M:=⟨wfPg h.1,wfPg h.2.1,h.2.2.1.1,fun s hs=>⟨(h.2.2.1.2 s hs).2.1.1,(h.2.2.1.2 s hs).2.2.1⟩⟩
theorem pure6(M:Me)(h:WfT tLm M):∃ n o,q6 n (M,())=some ((true,()),o):=⟨3000000,(),law6 M (wfM h)⟩
theorem pure8(M:Me)(w:Int)(h:WfT tLm M)(h1:(Lit.int .i64 w).wf=true):∃ n o,q8 n (M,w,())=some ((true,()),o):=⟨3000000,(),law8 M w (wfM h)⟩
end Go.Proofs.Ytdkaagpkeomhmaa.Rx.S
