/- What the functions of this seat compute, each as a plain function on lists and numbers, with the proof that a call answers so. No condition. -/
import Derived.WalkKit
import Derived.Deep.LoopGhost
import Derived.Lib.Walk
import Derived.Laws.Rows
import Derived.Deep.DeepMust
import Derived.Test.YtbjgiioppmkpiaaMF1
set_option linter.unusedVariables false
set_option linter.unusedSimpArgs false
namespace Go.Proofs.Ytbjgiioppmkpiaa.Rx.S
open Go Go.Proofs.Ytbjgiioppmkpiaa.Rx Go.RowKit Go.Lib Go.Proofs
set_option maxHeartbeats 4000000 in
set_option maxRecDepth 1000000 in
theorem ymf{n:Nat}{w:World}{Z:Nat→Prop}{g0:Nat}{rd rd1 rd2 rd3 rd4:RdT}{A B BE:FsL}{fE:List FsL}{mE:Int}{res:(List FsL×Int)×RdT}(hZ:∀ k,Z k→k<w.heap.size∧k≠g0)(hg:g0<w.heap.size)(hr:Rdr w Z g0 rd)
  (hq1:q56 n (rd,())=some ((A,()),(rd1,()))) (hq2:q56 n (rd1,())=some ((B,()),(rd2,()))) (hq3:lpA n n 0 rd2 B=some (rd3,BE)) (hq4:lpB n n 1 rd3 [A,BE] (-1)=some (rd4,fE,mE))
  (hq5:((q102 n (rd4,20,())).bind fun r=>if r.1.1=0 then (q102 n (r.2.1,5,())).bind fun t=>(if 0≤t.1.1∧t.1.1<5 then some ((fE,[-1,0,1,2,10].getD t.1.1.toNat 0),t.2.1) else none) else some ((fE,mE),r.2.1))=some res) :
  Calls Try.prog 78 #[.pointer (some ⟨g0,0,none⟩)] w fun e w'=>∃ u F,e = .returned (.agg #[u,.int .i64 res.1.2])∧RoR w' F 25 tFs res.1.1 u∧F.Nodup∧(∀ k∈F,w.heap.size≤k∧k<w'.heap.size)∧Rdr w' Z g0 res.2∧Kp w (fun k=>k=g0) w':=by
 have zau:Try.prog.follows .mixedOrders=true:=by kernel_rfl
 have HQ1:Hid (q56 n (rd,())=some ((A,()),(rd1,()))):=hq1;have HQ2:Hid (q56 n (rd1,())=some ((B,()),(rd2,()))):=hq2;have HQ3:Hid (lpA n n 0 rd2 B=some (rd3,BE)):=hq3;have HQ4:Hid (lpB n n 1 rd3 [A,BE] (-1)=some (rd4,fE,mE)):=hq4;have HQ5:Hid (((q102 n (rd4,20,())).bind fun r=>if r.1.1=0 then (q102 n (r.2.1,5,())).bind fun t=>(if 0≤t.1.1∧t.1.1<5 then some ((fE,[-1,0,1,2,10].getD t.1.1.toNat 0),t.2.1) else none) else some ((fE,mE),r.2.1))=some res):=hq5;clear hq1 hq2 hq3 hq4 hq5
 go_enter Try.func78,Try.ntmps78
 go_wp2_with fail
 have hZ1:∀ k,Z k→k<(w.alloc (.cells #[.slice none 0 0,.int .i64 0] 46)).heap.size∧k≠g0:=zb2 hZ (za1 w _ (fun _=>False));have hr1:Rdr (w.alloc (.cells #[.slice none 0 0,.int .i64 0] 46)) Z g0 rd:=hr.frame ((za1 w _ (fun _=>False)).block g0 hg (fun h=>h)) (fun k hk=>(za1 w _ (fun _=>False)).block k (hZ k hk).1 (fun h=>h));refine(ypk hZ1 (Nat.lt_of_lt_of_le hg (za1 w _ (fun _=>False)).size) hr1 HQ1.out).mono ?_;rintro e w1 ⟨va,FA,rfl,hra,hna,hla,hr2,hk1⟩
 go_wp2_with fail
 have hZ2:∀ k,Z k→k<w1.heap.size∧k≠g0:=zb2 hZ1 hk1;refine(ypk hZ2 (Nat.lt_of_lt_of_le (Nat.lt_of_lt_of_le hg (za1 w _ (fun _=>False)).size) hk1.size) hr2 HQ2.out).mono ?_;rintro e w2 ⟨vb,FB,rfl,hrb,hnb,hlb,hr3,hk2⟩
 go_wp2_with fail
 have hI:=I1.init hZ hg hk1 hra hna hla hk2 hrb hnb hlb hr3
 go_loopg [4] n (fun k t wr=>∃ (i:Nat) (rdi:RdT) (Bi:FsL),t = .int .i64 i∧Hid (lpA n k i rdi Bi=some (rd3,BE))∧I1 w Z g0 w.heap.size (w2.heap.size+1) w2.heap.size FA FB va vb A wr rdi Bi)
 case atStart=>exact⟨0,rd2,B,rfl,HQ3,hI⟩
 case round =>
  obtain⟨i,rdi,Bi,rfl,hL,hI⟩:=hrel;have HK:Hid (lpA n gk i rdi Bi=some (rd3,BE)):=hL;clear hL
  cases gk with
  |zero=>exact absurd HK.out (by simp[lpA])
  |succ m =>
  have hlen:=hI.len
  by_cases hi:i<Bi.length
  ·obtain⟨gb,bb,c,_,_,hvb,nv,n3,_⟩:=hI.at hg hZ hi;have HVB:Hid (vb = .slice (some ⟨gb,bb,none⟩) Bi.length c):=hvb;have h30:=hI.cells.1;have hv1:wr.cell? ⟨w2.heap.size,1,none⟩=some (.slice (some ⟨gb,bb,none⟩) Bi.length c):=by rw[hI.cells.2,hvb]
   clear hvb;have hL:=HK.out;simp only[lpA,if_pos hi]at hL;obtain⟨⟨⟨r1,⟨⟩⟩,⟨rd',⟨⟩⟩⟩,hq,hL⟩:=Option.bind_eq_some_iff.1 hL;simp only at hL;have HQ:Hid (q102 n (rdi,6,())=some ((r1,()),(rd',()))):=hq;clear hq
   by_cases hpos:0<r1
   ·rw[if_pos hpos]at hL;have HL:Hid (lpA n m (i+1) rd' (Bi.set i (zNd (opsA (Bi.getD i NdZ) 0) i))=some (rd3,BE)):=hL;clear hL
    go_wp2_with (go_at_call 102;go_must (refine(zcs (zb2 hZ hI.kp) (Nat.lt_of_lt_of_le hg hI.kp.size) hI.rd HQ.out).mono ?_);rintro e w' ⟨rfl,hr',hk'⟩;have hI':=hI.pick hg hr' hk';obtain⟨u,⟨hc0,hc1,hc2,hc3,hc4,hc5,hc6,hc7,hc8,hfr⟩,hS5,_⟩:=hI'.at2 hg hZ hi HVB.out;have hf0:=hfr 0 (by decide);have hf1:=hfr 1 (by decide);have hf2:=hfr 2 (by decide);have hf3:=hfr 3 (by decide);have hf4:=hfr 4 (by decide);have hf5:=hfr 5 (by decide);have hf6:=hfr 6 (by decide);have hf7:=hfr 7 (by decide);have hf8:=hfr 8 (by decide);clear hfr;simp only[Nat.add_zero]at hf0;have h30':=hI'.cells.1;have hv1':w'.cell? ⟨w2.heap.size,1,none⟩=some (.slice (some ⟨gb,bb,none⟩) Bi.length c):=(by rw[hI'.cells.2];exact congrArg some HVB.out))
    ·have hz:(Bi[i]'hi).2.2.2.2.1=0:=by assumption
     have hp:0<i:=by assumption
     have hS6:=(hS5.at2 hg hZ (i:=i) (by simpa using hi) HVB.out).choose_spec.2.2;rw[List.set_set]at hS6
     have hzn:zNd (opsA (Bi.getD i NdZ) 0) i=NdZ:=by
      unfold zNd;rw[if_pos ⟨by rw[List.getD_eq_getElem?_getD,List.getElem?_eq_getElem hi];exact hz,hp⟩]
     go_roundg m
     case measure=>exact Nat.lt_succ_self m
     case rel=>exact⟨i+1,rd',_,by go_num,HL,by rw[hzn];exact hS6⟩
    ·have hp:¬ 0<i:=by assumption
     have hzn:zNd (opsA (Bi.getD i NdZ) 0) i=opsA (Bi.getD i NdZ) 0:=by
      unfold zNd;rw[if_neg (fun hh=>hp hh.2)]
     go_roundg m
     case measure=>exact Nat.lt_succ_self m
     case rel=>exact⟨i+1,rd',_,by go_num,HL,by rw[hzn];exact hS5⟩
    ·have hz:¬ (Bi[i]'hi).2.2.2.2.1=0:=by assumption
     have hzn:zNd (opsA (Bi.getD i NdZ) 0) i=opsA (Bi.getD i NdZ) 0:=by
      unfold zNd;rw[if_neg (fun hh=>hz (by have:=hh.1;rw[List.getD_eq_getElem?_getD,List.getElem?_eq_getElem hi]at this;exact this))]
     go_roundg m
     case measure=>exact Nat.lt_succ_self m
     case rel=>exact⟨i+1,rd',_,by go_num,HL,by rw[hzn];exact hS5⟩
   ·rw[if_neg hpos]at hL;injection hL with hL
    injection hL with e1 e2
    subst e1;subst e2
    go_wp2_with (go_at_call 102;go_must (refine(zcs (zb2 hZ hI.kp) (Nat.lt_of_lt_of_le hg hI.kp.size) hI.rd HQ.out).mono ?_);rintro e w' ⟨rfl,hr',hk'⟩;have hI':=hI.pick hg hr' hk')
    have hIF:=hI';clear hI h30 hv1;have hI2:=hIF.to2
    go_loopg [5] n (fun k t wr=>∃ (i:Nat) (rdi:RdT) (f:List FsL) (mt:Int) (u:Value) (F:List Nat),t = .int .i64 i∧Hid (lpB n k i rdi f mt=some (rd4,fE,mE))∧I2 w Z g0 w.heap.size (w2.heap.size+1) wr rdi f mt u F)
    case atStart=>exact⟨1,_,_,_,_,_,rfl,HQ4,hI2⟩
    case round =>
     clear hIF hI2;obtain⟨i,rdi,f,mt,u,F,rfl,hL,hI⟩:=hrel;have HK:Hid (lpB n gk i rdi f mt=some (rd4,fE,mE)):=hL;clear hL
     cases gk with
     |zero=>exact absurd HK.out (by simp[lpB])
     |succ m =>
     by_cases hfl:f.length=0
     ·have:=HK.out;simp[lpB,hfl]at this
     ·obtain⟨gf,bf,cf,Ab,cn,hu,hf0,hlen,hnd⟩:=hI.first hfl;obtain⟨h30,h31,h30f,h31f,h20,h21,h20f,h21f,h23⟩:=hI.cells;subst hu;have hfp:0<f.length:=Nat.pos_of_ne_zero hfl;have hL:=HK.out;simp only[lpB,if_neg hfl]at hL
      by_cases hi:i<(f.getD 0 []).length
      ·simp only[if_pos hi]at hL;obtain⟨gn,bn,rfl,hkind⟩:=hnd i hi;clear hnd;generalize hkd:((f.getD 0 []).getD i NdZ).1=kd at hkind hL;generalize hgl:(f.getD 0 []).length=ln at hi hf0 hlen ⊢;clear hkd hgl HK
       by_cases hmk:mt<0∧kd=2
       ·simp only[if_pos hmk]at hL;obtain⟨⟨⟨r1,⟨⟩⟩,⟨rd',⟨⟩⟩⟩,hq,hL⟩:=Option.bind_eq_some_iff.1 hL;simp only at hL;have HQ:Hid (q102 n (rdi,3,())=some ((r1,()),(rd',()))):=hq;clear hq;obtain⟨hmt,rfl⟩:=hmk
        by_cases hpos:0<r1
        ·simp only[if_pos hpos]at hL;obtain⟨⟨⟨⟨f1,mt1⟩,⟨⟩⟩,⟨⟩⟩,hq1,hL⟩:=Option.bind_eq_some_iff.1 hL;obtain⟨⟨⟨⟨f2,mt2⟩,⟨code,⟨⟩⟩⟩,⟨⟩⟩,hq2,hL⟩:=Option.bind_eq_some_iff.1 hL;simp only at hL;have HC1:Hid (q85 n ((f,mt),())=some (((f1,mt1),()),())):=hq1;have HC2:Hid (q101 n ((f1,mt1),(0,0,[]),(i:Int),())=some (((f2,mt2),code,()),())):=hq2;have HL:Hid ((if code=0 then lpB n m (i+1) rd' f2 mt2 else lpB n m (i+1) rd' f mt)=some (rd4,fE,mE)):=hL;clear hq1 hq2 hL
         go_wp2_with (first|(go_at_call 102;go_must (refine(zcs (zb2 hZ hI.kp) (Nat.lt_of_lt_of_le hg hI.kp.size) hI.rd HQ.out).mono ?_);rintro e w' ⟨rfl,hr',hk'⟩;have hI':=hI.pick hg hr' hk';clear h30 h31 h30f h31f h20 h21 h20f h21f;obtain⟨h30,h31,h30f,h31f,h20,h21,h20f,h21f,_⟩:=hI'.cells)|(go_at_call 85;go_must (refine(zyp (fun k hk=>(hI'.lt k (by simp[hk])).2) hI'.rf HC1.out).mono ?_);rintro e w2' ⟨vx,F1,rfl,hv1,hn1,hl1,hk2'⟩)|(go_at_call 101;go_must (refine(zsh hv1 hn1 (fun k hk=>(hl1 k hk).2) HC2.out).mono ?_);rintro e w3' ⟨ux,F2,rfl,hrx,hnx,hlx,hk3'⟩;obtain⟨Ax,lx,cx,rfl,_⟩:=id hrx.2.1;have hI3:=hI'.more hg hZ ((hk2'.step hk3' (fun k hk=>.inr (hl1 k hk).1)).trans (za1 w3' (.cells #[.slice Ax lx cx,.int .i64 mt2] 46) _));clear h30 h31 h30f h31f h20 h21 h20f h21f;obtain⟨h30,h31,h30f,h31f,h20,h21,h20f,h21f,_⟩:=hI3.cells))
         ·have hcode:(code == 0)=true:=by assumption
          have hc0:code=0:=by simpa using hcode
          have HL1:=HL.out;rw[if_pos hc0]at HL1;have HL2:Hid (lpB n m (i+1) rd' f2 mt2=some (rd4,fE,mE)):=HL1
          have hsw:=hI3.swap hg hZ (b0:=w'.heap.size) (mt':=mt2) ⟨hI'.kp.size,(hI'.lt _ (by simp)).2,(hI'.lt _ (by simp)).2⟩ (hrx.frame (fun k hk=>(za1 w3' (.cells #[.slice Ax lx cx,.int .i64 mt2] 46) (fun _=>False)).block k (hlx k hk).2 (fun h=>h))) hnx
           (fun k hk=>⟨(hlx k hk).1.elim (fun h=>(hl1 k h).1) (fun h=>Nat.le_trans hk2'.size h),Nat.lt_of_lt_of_le (hlx k hk).2 (za1 w3' (.cells #[.slice Ax lx cx,.int .i64 mt2] 46) (fun _=>False)).size⟩)
          go_roundg m
          case measure=>exact Nat.lt_succ_self m
          case rel=>exact⟨i+1,rd',f2,mt2,_,F2,by go_num,HL2,hsw⟩
         ·have hcode:(code == 0)=false:=by assumption
          have hc0:¬ code=0:=by simpa using hcode
          have HL1:=HL.out;rw[if_neg hc0]at HL1;have HL2:Hid (lpB n m (i+1) rd' f mt=some (rd4,fE,mE)):=HL1
          go_roundg m
          case measure=>exact Nat.lt_succ_self m
          case rel=>exact⟨i+1,rd',f,mt,_,F,by go_num,HL2,hI3⟩
        ·simp only[if_neg hpos]at hL;have HL:Hid (lpB n m (i+1) rd' f mt=some (rd4,fE,mE)):=hL;clear hL
         go_wp2_with (go_at_call 102;go_must (refine(zcs (zb2 hZ hI.kp) (Nat.lt_of_lt_of_le hg hI.kp.size) hI.rd HQ.out).mono ?_);rintro e w' ⟨rfl,hr',hk'⟩;have hI':=hI.pick hg hr' hk')
         go_roundg m
         case measure=>exact Nat.lt_succ_self m
         case rel=>exact⟨i+1,rd',f,mt,_,F,by go_num,HL,hI'⟩
       ·simp only[if_neg hmk]at hL;have HL:Hid (lpB n m (i+1) rdi f mt=some (rd4,fE,mE)):=hL;clear hL
        by_cases hmt:mt<0
        ·have hk2:(kd == 2)=false:=by simp;exact fun h=>hmk ⟨hmt,h⟩
         clear hmk
         go_wp2_with fail
         go_roundg m
         case measure=>exact Nat.lt_succ_self m
         case rel=>exact⟨i+1,rdi,f,mt,_,F,by go_num,HL,hI⟩
        ·clear hmk
         go_wp2_with fail
         go_roundg m
         case measure=>exact Nat.lt_succ_self m
         case rel=>exact⟨i+1,rdi,f,mt,_,F,by go_num,HL,hI⟩
      ·simp only[if_neg hi]at hL;injection hL with hL
       injection hL with e1 e2
       injection e2 with e2 e3
       subst e1;subst e2;subst e3;clear hnd;generalize hgl:(List.getD f 0 []).length=ln at hi hf0 hlen ⊢;clear hgl
       go_wp2_with fail
       have h5:=HQ5.out;obtain⟨⟨⟨r1,⟨⟩⟩,⟨rd5,⟨⟩⟩⟩,hq,h5⟩:=Option.bind_eq_some_iff.1 h5;simp only at h5;have HR:Hid (q102 n (rdi,20,())=some ((r1,()),(rd5,()))):=hq;clear hq HK HQ5;refine(zcs (zb2 hZ hI.kp) (Nat.lt_of_lt_of_le hg hI.kp.size) hI.rd HR.out).mono ?_;rintro e w5 ⟨rfl,hr5,hk5⟩;have hI5:=hI.pick hg hr5 hk5;clear hI h30 h31 h30f h31f h20 h21 h20f h21f hf0;obtain⟨h30,h31,h30f,h31f,h20,h21,h20f,h21f,h23⟩:=hI5.cells
       by_cases hz:r1=0
       ·simp only[if_pos hz]at h5;obtain⟨⟨⟨r2,⟨⟩⟩,⟨rd6,⟨⟩⟩⟩,hq,h5⟩:=Option.bind_eq_some_iff.1 h5;have HR2:Hid (q102 n (rd5,5,())=some ((r2,()),(rd6,()))):=hq;simp only at h5
        by_cases hr2:0≤r2∧r2<5
        ·rw[if_pos hr2]at h5;injection h5 with h5
         have HR5:Hid (((f,[-1,0,1,2,10].getD r2.toNat 0),rd6)=res):=h5;clear hq h5;obtain⟨j,rfl⟩:=Int.eq_ofNat_of_zero_le hr2.1;have hj5:j<5:=Int.ofNat_lt.1 hr2.2;clear hr2
         go_wp2_with fail
         have hI6:=hI5.more hg hZ (za1 w5 (.cells #[.int .i64 (-1),.int .i64 0,.int .i64 1,.int .i64 2,.int .i64 10] 3) _);refine(zcs (zb2 hZ hI6.kp) (Nat.lt_of_lt_of_le hg hI6.kp.size) hI6.rd HR2.out).mono ?_;rintro e w7 ⟨rfl,hr7,hk7⟩;have hI7:=hI6.pick hg hr7 hk7
         have hcj:w7.cell? ⟨w5.heap.size,j,none⟩=some (.int .i64 (([-1,0,1,2,10]:Li).getD j 0)):=by
          have e1:w7.heap[w5.heap.size]? = some (.cells #[.int .i64 (-1),.int .i64 0,.int .i64 1,.int .i64 2,.int .i64 10] 3 (0,0)):=by
           rw[hk7.block _ (by show _<(w5.heap.push _).size;simp) (by have:=hI5.kp.size;omega)];exact zgz w5 _
          rw[show w7.cell? ⟨w5.heap.size,j,none⟩=_ from (HC.old e1).cell j]
          match j,hj5 with
          |0,_=>rfl
          |1,_=>rfl
          |2,_=>rfl
          |3,_=>rfl
          |4,_=>rfl
         clear hI6 h30 h31 h30f h31f h20 h21 h20f h21f;obtain⟨h30,h31,h30f,h31f,h20,h21,h20f,h21f,_⟩:=hI7.cells;generalize hmj:([-1,0,1,2,10]:Li).getD j 0=mj at hcj;have HMJ:Hid (([-1,0,1,2,10]:Li).getD j 0=mj):=hmj;clear hmj
         go_wp2_with fail
         obtain⟨F',hf1,hf2,hf3,hf4,hf5,hf6⟩:=(hI7.num hg hZ mj).fin hg hZ (.slice (some ⟨gf,bf,none⟩) f.length cf) (.int .i64 mj)
         (try simp only[Exit.inBlock,Exit.then])
         refine bodyPost_ret (v:=.agg #[.slice (some ⟨gf,bf,none⟩) f.length cf,.int .i64 mj]) ?_ ?_ ?_
         ·exact results_cell_row rfl _ _ w.heap.size 46 _ (0,0) _ rfl hf6 Try.underlying46 rfl (by kernel_rfl)
         ·rfl
         have e5:=HR5.out;have e6:=HMJ.out;subst e5;rw[show (((j:Nat):Int)).toNat=j from rfl,e6];exact⟨_,F',rfl,hf1,hf2,hf3,hf4,hf5⟩
        ·rw[if_neg hr2]at h5;cases h5
       ·simp only[if_neg hz]at h5;injection h5 with h5
        have HR5:Hid (((f,mt),rd5)=res):=h5;have hz':(r1 == 0)=false:=by simpa using hz
        clear h5
        go_wp2_with fail
        obtain⟨F',hf1,hf2,hf3,hf4,hf5,hf6⟩:=hI5.fin hg hZ (.slice (some ⟨gf,bf,none⟩) f.length cf) (.int .i64 mt)
        (try simp only[Exit.inBlock,Exit.then])
        refine bodyPost_ret (v:=.agg #[.slice (some ⟨gf,bf,none⟩) f.length cf,.int .i64 mt]) ?_ ?_ ?_
        ·exact results_cell_row rfl _ _ w.heap.size 46 _ (0,0) _ rfl hf6 Try.underlying46 rfl (by kernel_rfl)
        ·rfl
        have e5:=HR5.out;subst e5;exact⟨_,F',rfl,hf1,hf2,hf3,hf4,hf5⟩
  ·have hL:=HK.out;simp only[lpA,if_neg hi]at hL;injection hL with hL
   injection hL with e1 e2
   subst e1;subst e2;obtain⟨Ab,c,hvb⟩:=hI.vbl;have h30:=hI.cells.1;have hv1:wr.cell? ⟨w2.heap.size,1,none⟩=some (.slice Ab Bi.length c):=by rw[hI.cells.2,hvb]
   clear hvb
   go_wp2_with fail
   have hIF:=hI;clear hI h30 hv1;have hI2:=hIF.to2
   go_loopg [5] n (fun k t wr=>∃ (i:Nat) (rdi:RdT) (f:List FsL) (mt:Int) (u:Value) (F:List Nat),t = .int .i64 i∧Hid (lpB n k i rdi f mt=some (rd4,fE,mE))∧I2 w Z g0 w.heap.size (w2.heap.size+1) wr rdi f mt u F)
   case atStart=>exact⟨1,_,_,_,_,_,rfl,HQ4,hI2⟩
   case round =>
    clear hIF hI2;obtain⟨i,rdi,f,mt,u,F,rfl,hL,hI⟩:=hrel;have HK:Hid (lpB n gk i rdi f mt=some (rd4,fE,mE)):=hL;clear hL
    cases gk with
    |zero=>exact absurd HK.out (by simp[lpB])
    |succ m =>
    by_cases hfl:f.length=0
    ·have:=HK.out;simp[lpB,hfl]at this
    ·obtain⟨gf,bf,cf,Ab,cn,hu,hf0,hlen,hnd⟩:=hI.first hfl;obtain⟨h30,h31,h30f,h31f,h20,h21,h20f,h21f,h23⟩:=hI.cells;subst hu;have hfp:0<f.length:=Nat.pos_of_ne_zero hfl;have hL:=HK.out;simp only[lpB,if_neg hfl]at hL
     by_cases hi:i<(f.getD 0 []).length
     ·simp only[if_pos hi]at hL;obtain⟨gn,bn,rfl,hkind⟩:=hnd i hi;clear hnd;generalize hkd:((f.getD 0 []).getD i NdZ).1=kd at hkind hL;generalize hgl:(f.getD 0 []).length=ln at hi hf0 hlen ⊢;clear hkd hgl HK
      by_cases hmk:mt<0∧kd=2
      ·simp only[if_pos hmk]at hL;obtain⟨⟨⟨r1,⟨⟩⟩,⟨rd',⟨⟩⟩⟩,hq,hL⟩:=Option.bind_eq_some_iff.1 hL;simp only at hL;have HQ:Hid (q102 n (rdi,3,())=some ((r1,()),(rd',()))):=hq;clear hq;obtain⟨hmt,rfl⟩:=hmk
       by_cases hpos:0<r1
       ·simp only[if_pos hpos]at hL;obtain⟨⟨⟨⟨f1,mt1⟩,⟨⟩⟩,⟨⟩⟩,hq1,hL⟩:=Option.bind_eq_some_iff.1 hL;obtain⟨⟨⟨⟨f2,mt2⟩,⟨code,⟨⟩⟩⟩,⟨⟩⟩,hq2,hL⟩:=Option.bind_eq_some_iff.1 hL;simp only at hL;have HC1:Hid (q85 n ((f,mt),())=some (((f1,mt1),()),())):=hq1;have HC2:Hid (q101 n ((f1,mt1),(0,0,[]),(i:Int),())=some (((f2,mt2),code,()),())):=hq2;have HL:Hid ((if code=0 then lpB n m (i+1) rd' f2 mt2 else lpB n m (i+1) rd' f mt)=some (rd4,fE,mE)):=hL;clear hq1 hq2 hL
        go_wp2_with (first|(go_at_call 102;go_must (refine(zcs (zb2 hZ hI.kp) (Nat.lt_of_lt_of_le hg hI.kp.size) hI.rd HQ.out).mono ?_);rintro e w' ⟨rfl,hr',hk'⟩;have hI':=hI.pick hg hr' hk';clear h30 h31 h30f h31f h20 h21 h20f h21f;obtain⟨h30,h31,h30f,h31f,h20,h21,h20f,h21f,_⟩:=hI'.cells)|(go_at_call 85;go_must (refine(zyp (fun k hk=>(hI'.lt k (by simp[hk])).2) hI'.rf HC1.out).mono ?_);rintro e w2' ⟨vx,F1,rfl,hv1,hn1,hl1,hk2'⟩)|(go_at_call 101;go_must (refine(zsh hv1 hn1 (fun k hk=>(hl1 k hk).2) HC2.out).mono ?_);rintro e w3' ⟨ux,F2,rfl,hrx,hnx,hlx,hk3'⟩;obtain⟨Ax,lx,cx,rfl,_⟩:=id hrx.2.1;have hI3:=hI'.more hg hZ ((hk2'.step hk3' (fun k hk=>.inr (hl1 k hk).1)).trans (za1 w3' (.cells #[.slice Ax lx cx,.int .i64 mt2] 46) _));clear h30 h31 h30f h31f h20 h21 h20f h21f;obtain⟨h30,h31,h30f,h31f,h20,h21,h20f,h21f,_⟩:=hI3.cells))
        ·have hcode:(code == 0)=true:=by assumption
         have hc0:code=0:=by simpa using hcode
         have HL1:=HL.out;rw[if_pos hc0]at HL1;have HL2:Hid (lpB n m (i+1) rd' f2 mt2=some (rd4,fE,mE)):=HL1
         have hsw:=hI3.swap hg hZ (b0:=w'.heap.size) (mt':=mt2) ⟨hI'.kp.size,(hI'.lt _ (by simp)).2,(hI'.lt _ (by simp)).2⟩ (hrx.frame (fun k hk=>(za1 w3' (.cells #[.slice Ax lx cx,.int .i64 mt2] 46) (fun _=>False)).block k (hlx k hk).2 (fun h=>h))) hnx
          (fun k hk=>⟨(hlx k hk).1.elim (fun h=>(hl1 k h).1) (fun h=>Nat.le_trans hk2'.size h),Nat.lt_of_lt_of_le (hlx k hk).2 (za1 w3' (.cells #[.slice Ax lx cx,.int .i64 mt2] 46) (fun _=>False)).size⟩)
         go_roundg m
         case measure=>exact Nat.lt_succ_self m
         case rel=>exact⟨i+1,rd',f2,mt2,_,F2,by go_num,HL2,hsw⟩
        ·have hcode:(code == 0)=false:=by assumption
         have hc0:¬ code=0:=by simpa using hcode
         have HL1:=HL.out;rw[if_neg hc0]at HL1;have HL2:Hid (lpB n m (i+1) rd' f mt=some (rd4,fE,mE)):=HL1
         go_roundg m
         case measure=>exact Nat.lt_succ_self m
         case rel=>exact⟨i+1,rd',f,mt,_,F,by go_num,HL2,hI3⟩
       ·simp only[if_neg hpos]at hL;have HL:Hid (lpB n m (i+1) rd' f mt=some (rd4,fE,mE)):=hL;clear hL
        go_wp2_with (go_at_call 102;go_must (refine(zcs (zb2 hZ hI.kp) (Nat.lt_of_lt_of_le hg hI.kp.size) hI.rd HQ.out).mono ?_);rintro e w' ⟨rfl,hr',hk'⟩;have hI':=hI.pick hg hr' hk')
        go_roundg m
        case measure=>exact Nat.lt_succ_self m
        case rel=>exact⟨i+1,rd',f,mt,_,F,by go_num,HL,hI'⟩
      ·simp only[if_neg hmk]at hL;have HL:Hid (lpB n m (i+1) rdi f mt=some (rd4,fE,mE)):=hL;clear hL
       by_cases hmt:mt<0
       ·have hk2:(kd == 2)=false:=by simp;exact fun h=>hmk ⟨hmt,h⟩
        clear hmk
        go_wp2_with fail
        go_roundg m
        case measure=>exact Nat.lt_succ_self m
        case rel=>exact⟨i+1,rdi,f,mt,_,F,by go_num,HL,hI⟩
       ·clear hmk
        go_wp2_with fail
        go_roundg m
        case measure=>exact Nat.lt_succ_self m
        case rel=>exact⟨i+1,rdi,f,mt,_,F,by go_num,HL,hI⟩
     ·simp only[if_neg hi]at hL;injection hL with hL
      injection hL with e1 e2
      injection e2 with e2 e3
      subst e1;subst e2;subst e3;clear hnd;generalize hgl:(List.getD f 0 []).length=ln at hi hf0 hlen ⊢;clear hgl
      go_wp2_with fail
      have h5:=HQ5.out;obtain⟨⟨⟨r1,⟨⟩⟩,⟨rd5,⟨⟩⟩⟩,hq,h5⟩:=Option.bind_eq_some_iff.1 h5;simp only at h5;have HR:Hid (q102 n (rdi,20,())=some ((r1,()),(rd5,()))):=hq;clear hq HK HQ5;refine(zcs (zb2 hZ hI.kp) (Nat.lt_of_lt_of_le hg hI.kp.size) hI.rd HR.out).mono ?_;rintro e w5 ⟨rfl,hr5,hk5⟩;have hI5:=hI.pick hg hr5 hk5;clear hI h30 h31 h30f h31f h20 h21 h20f h21f hf0;obtain⟨h30,h31,h30f,h31f,h20,h21,h20f,h21f,h23⟩:=hI5.cells
      by_cases hz:r1=0
      ·simp only[if_pos hz]at h5;obtain⟨⟨⟨r2,⟨⟩⟩,⟨rd6,⟨⟩⟩⟩,hq,h5⟩:=Option.bind_eq_some_iff.1 h5;have HR2:Hid (q102 n (rd5,5,())=some ((r2,()),(rd6,()))):=hq;simp only at h5
       by_cases hr2:0≤r2∧r2<5
       ·rw[if_pos hr2]at h5;injection h5 with h5
        have HR5:Hid (((f,[-1,0,1,2,10].getD r2.toNat 0),rd6)=res):=h5;clear hq h5;obtain⟨j,rfl⟩:=Int.eq_ofNat_of_zero_le hr2.1;have hj5:j<5:=Int.ofNat_lt.1 hr2.2;clear hr2
        go_wp2_with fail
        have hI6:=hI5.more hg hZ (za1 w5 (.cells #[.int .i64 (-1),.int .i64 0,.int .i64 1,.int .i64 2,.int .i64 10] 3) _);refine(zcs (zb2 hZ hI6.kp) (Nat.lt_of_lt_of_le hg hI6.kp.size) hI6.rd HR2.out).mono ?_;rintro e w7 ⟨rfl,hr7,hk7⟩;have hI7:=hI6.pick hg hr7 hk7
        have hcj:w7.cell? ⟨w5.heap.size,j,none⟩=some (.int .i64 (([-1,0,1,2,10]:Li).getD j 0)):=by
         have e1:w7.heap[w5.heap.size]? = some (.cells #[.int .i64 (-1),.int .i64 0,.int .i64 1,.int .i64 2,.int .i64 10] 3 (0,0)):=by
          rw[hk7.block _ (by show _<(w5.heap.push _).size;simp) (by have:=hI5.kp.size;omega)];exact zgz w5 _
         rw[show w7.cell? ⟨w5.heap.size,j,none⟩=_ from (HC.old e1).cell j]
         match j,hj5 with
         |0,_=>rfl
         |1,_=>rfl
         |2,_=>rfl
         |3,_=>rfl
         |4,_=>rfl
        clear hI6 h30 h31 h30f h31f h20 h21 h20f h21f;obtain⟨h30,h31,h30f,h31f,h20,h21,h20f,h21f,_⟩:=hI7.cells;generalize hmj:([-1,0,1,2,10]:Li).getD j 0=mj at hcj;have HMJ:Hid (([-1,0,1,2,10]:Li).getD j 0=mj):=hmj;clear hmj
        go_wp2_with fail
        obtain⟨F',hf1,hf2,hf3,hf4,hf5,hf6⟩:=(hI7.num hg hZ mj).fin hg hZ (.slice (some ⟨gf,bf,none⟩) f.length cf) (.int .i64 mj)
        (try simp only[Exit.inBlock,Exit.then])
        refine bodyPost_ret (v:=.agg #[.slice (some ⟨gf,bf,none⟩) f.length cf,.int .i64 mj]) ?_ ?_ ?_
        ·exact results_cell_row rfl _ _ w.heap.size 46 _ (0,0) _ rfl hf6 Try.underlying46 rfl (by kernel_rfl)
        ·rfl
        have e5:=HR5.out;have e6:=HMJ.out;subst e5;rw[show (((j:Nat):Int)).toNat=j from rfl,e6];exact⟨_,F',rfl,hf1,hf2,hf3,hf4,hf5⟩
       ·rw[if_neg hr2]at h5;cases h5
      ·simp only[if_neg hz]at h5;injection h5 with h5
       have HR5:Hid (((f,mt),rd5)=res):=h5;have hz':(r1 == 0)=false:=by simpa using hz
       clear h5
       go_wp2_with fail
       obtain⟨F',hf1,hf2,hf3,hf4,hf5,hf6⟩:=hI5.fin hg hZ (.slice (some ⟨gf,bf,none⟩) f.length cf) (.int .i64 mt)
       (try simp only[Exit.inBlock,Exit.then])
       refine bodyPost_ret (v:=.agg #[.slice (some ⟨gf,bf,none⟩) f.length cf,.int .i64 mt]) ?_ ?_ ?_
       ·exact results_cell_row rfl _ _ w.heap.size 46 _ (0,0) _ rfl hf6 Try.underlying46 rfl (by kernel_rfl)
       ·rfl
       have e5:=HR5.out;subst e5;exact⟨_,F',rfl,hf1,hf2,hf3,hf4,hf5⟩
end Go.Proofs.Ytbjgiioppmkpiaa.Rx.S
namespace Go.Proofs.Ytbjgiioppmkpiaa.Rx.S
open Go Go.Proofs.Ytbjgiioppmkpiaa.Rx Go.RowKit Go.Proofs
noncomputable def c78:Code:=(Try.f78.body.getD .skip)
abbrev ps78:List PK:=[.bx tRd]
abbrev rs78:List RK:=[.rw 25 tFs]
abbrev R78:=zah rs78×zag ps78
noncomputable def q78(n:Nat)(x:zai ps78):Option R78:=(p78 n x.1).map fun r=>((r.1,()),(r.2,()))
noncomputable def Sm78:Sm:=⟨ps78,rs78,true,q78⟩
theorem hh78:zdo Try.prog 78 Sm78:=by
 rintro n w Z vs ⟨rd,⟨⟩⟩ Fs y hZ hlt hnd ha hF;rcases vs with _|⟨v0,_|⟨v1,vs⟩⟩ <;> rcases Fs with _|⟨F0,_|⟨F1,Fs⟩⟩ <;> simp only[zid,Sm78,and_false]at ha
 obtain⟨hbox,_⟩:=ha;obtain⟨g0,T,cells,rfl,rfl,hg,hcn⟩:=hbox;have hZ':∀ k,Z k→k<w.heap.size∧k≠g0:=fun k hk=>⟨(hZ k hk).1,by simpa using (hZ k hk).2⟩;have hg0:g0<w.heap.size:=hlt g0 (by simp);have hF:(p78 n rd).map (fun r=>(((r.1,()),(r.2,())):R78))=some y:=hF;obtain⟨res,hr,rfl⟩:=Option.map_eq_some_iff.1 hF;unfold p78 at hr;obtain⟨⟨⟨A,⟨⟩⟩,⟨rd1,⟨⟩⟩⟩,h1,hr⟩:=Option.bind_eq_some_iff.1 hr;obtain⟨⟨⟨B,⟨⟩⟩,⟨rd2,⟨⟩⟩⟩,h2,hr⟩:=Option.bind_eq_some_iff.1 hr;obtain⟨⟨rd3,BE⟩,h3,hr⟩:=Option.bind_eq_some_iff.1 hr;obtain⟨⟨rd4,fE,mE⟩,h4,hr⟩:=Option.bind_eq_some_iff.1 hr;refine(ymf hZ' hg0 ⟨g0,T,cells,rfl,rfl,hg,hcn⟩ h1 h2 h3 h4 hr).mono ?_;rintro e w' ⟨u,F,rfl,hro,hn,hl,hrd,hk⟩;have hgF:g0∉F:=fun h=>by have:=(hl g0 h).1;omega
 refine⟨[.agg #[u,.int .i64 res.1.2]],[F],[[g0]],rfl,⟨⟨u,rfl,hro⟩,trivial⟩,⟨hrd,trivial⟩,?_,?_,hk.os,hk.tape,hk.output,hk.size,fun k h1 h2=>hk.block k h1 (fun e=>h2 (by simp[e]))⟩
 ·simpa using ⟨hgF,hn⟩
 ·intro k hk';have hk':k=g0∨k∈F:=by simpa using hk'
  rcases hk' with rfl|hk'
  ·exact⟨.inl (by simp),Nat.lt_of_lt_of_le hg0 hk.size⟩
  ·exact⟨.inr (hl k hk').1,(hl k hk').2⟩
theorem y78:Gk 78 Sm78:=⟨⟨Try.f78,c78,Try.func78,by kernel_rfl,by decide +kernel⟩,hh78⟩
end Go.Proofs.Ytbjgiioppmkpiaa.Rx.S
namespace Go.Proofs.Ytbjgiioppmkpiaa.Rx.S
open Go Go.RowKit Go.Proofs
set_option maxRecDepth 100000
noncomputable def c24:Code:=(Try.f24.body.getD .skip)
def an24:An:=⟨fun _=>⟨[],[]⟩,fun _ _=>none⟩
abbrev ps24:List PK:=[.val (.row 5 (.int .u8)) false]
abbrev rs24:List RK:=[.rw 25 tFs,.own tCr true]
abbrev R24:=zah rs24×zag ps24
noncomputable def G24:Gam:=fun f=>match f with|55=>some Sm55|57=>some Sm57|78=>some Sm78|_=>none
noncomputable def zi1(n:Nat)(a:Li):Option R24 :=
 (q55 n (a,())).bind fun r0=>(q78 n ((r0.1.1.1,r0.1.1.2),())).bind fun r1=>(q57 n ((r1.2.1.1,r1.2.1.2),())).bind fun r2=>some (((r1.1.1.1,r1.1.1.2),((r2.1.1.1,(r2.1.1.2.1,r2.1.1.2.2)),())),())
theorem ykl(n:Nat)(a:Li):runF TT G24 an24 Try.f24 c24 ps24 rs24 n (a,())=zi1 n a:=by kernel_rfl
noncomputable def p24(n:Nat)(a:Li):Option R24:=zi1 n a
noncomputable def q24(n:Nat)(x:zai ps24):Option R24:=p24 n x.1
noncomputable def Sm24:Sm:=⟨ps24,rs24,true,q24⟩
theorem gam24:GamOK Try.prog G24:=by intro f s h;unfold G24 at h;split at h;exact gj h y55;exact gj h y57;exact gj h y78;cases h
theorem hh24:Hp 24 Sm24:=hOf (zaf (an:=an24) (c:=c24) zaw gam24 zau Try.func24 (by kernel_rfl) rfl (by decide +kernel)) fun n x=>(ykl n x.1).trans rfl
theorem y24:Gk 24 Sm24:=⟨⟨Try.f24,c24,Try.func24,by kernel_rfl,by decide +kernel⟩,hh24⟩
noncomputable def c27:Code:=(Try.f27.body.getD .skip)
def an27:An:=⟨fun r=>match r with|4=>⟨[2,3,5],[]⟩|_=>⟨[],[]⟩,fun _ _=>none⟩
abbrev ps27:List PK:=[.val (.pair (.row 25 tFs) i64) true,.val (.pair (.row 25 tFs) i64) true]
abbrev rs27:List RK:=[.val .bool false]
abbrev R27:=zah rs27×zag ps27
noncomputable def G27:Gam:=fun f=>match f with|18=>some Sm18|_=>none
noncomputable def at27:Nat→Pt→List Nat→St→Option R27:=atF TT G27 an27 Try.f27 c27 _ _
def zj6(x0:Int)(x1:List (List NT))(x2:Int)(x3:List (List NT))(x4:Int):St:=(St.mk ([Uu,Uu,AV.one (SV.bptr 1000000 0),AV.one (SV.bptr 1000001 0),Uu,Ai x0]++Ur 33) [(1000000,(Ent.box [SV.con (⟨25,Ty.row (nat_lit 37) ((Ty.int .i64).pair ((Ty.int .i64).pair ((Ty.int .i64).pair ((Ty.int .i64).pair ((Ty.int .i64).pair ((Ty.int .i64).pair (Ty.bool.pair (Ty.str.pair (Ty.row (nat_lit 100) (Ty.str.pair (Ty.int .i64))))))))))),x1⟩:Rw),Si x2])),(1000001,(Ent.box [SV.con (⟨25,Ty.row (nat_lit 37) ((Ty.int .i64).pair ((Ty.int .i64).pair ((Ty.int .i64).pair ((Ty.int .i64).pair ((Ty.int .i64).pair ((Ty.int .i64).pair (Ty.bool.pair (Ty.str.pair (Ty.row (nat_lit 100) (Ty.str.pair (Ty.int .i64))))))))))),x3⟩:Rw),Si x4]))])
noncomputable def ziy(n:Nat)(lL4:Int→(List (List NT))→Int→(List (List NT))→Int→Option R27)(a:List (List NT)×Int)(b:List (List NT)×Int):Option R27 :=
 cond (!decide (a.2=b.2)) (some ((false,()),())) (cond (!decide ((↑(List.length a.1):Int)=(↑(List.length b.1):Int))) (some ((false,()),())) (lL4 (0:Int) a.1 a.2 b.1 b.2))
noncomputable def zhe(n:Nat)(lL4:Int→(List (List NT))→Int→(List (List NT))→Int→Option R27)(x0:Int)(x1:List (List NT))(x2:Int)(x3:List (List NT))(x4:Int):Option R27 :=
 cond (decide (x0<(↑x1.length:Int))) (cond (decide (0≤x0)) (cond (decide (x0<(↑x1.length:Int))) (cond (decide (0≤x0)) (cond (decide (x0<(↑x3.length:Int))) ((q18 n (x1.getD x0.toNat [],x3.getD x0.toNat [],())).bind fun r1=>cond (!r1.1.1) (some ((false,()),())) (lL4 (IntKind.i64.wrap (x0+1)) x1 x2 x3 x4)) none) none) none) none) (some ((true,()),()))
theorem yki(n:Nat)(a:List (List NT)×Int)(b:List (List NT)×Int):runF TT G27 an27 Try.f27 c27 ps27 rs27 n (a,b,())=ziy n (fun x0 x1 x2 x3 x4=>at27 n (.head 4) [n] (zj6 x0 x1 x2 x3 x4)) a b:=by kernel_rfl
theorem ydz(n:Nat)(x0:Int)(x1:List (List NT))(x2:Int)(x3:List (List NT))(x4:Int):at27 n (.head 4) [0] (zj6 x0 x1 x2 x3 x4)=none:=by kernel_rfl
theorem ypx(n m4:Nat)(x0:Int)(x1:List (List NT))(x2:Int)(x3:List (List NT))(x4:Int):at27 n (.head 4) [m4+1] (zj6 x0 x1 x2 x3 x4)=zhe n (fun x0 x1 x2 x3 x4=>at27 n (.head 4) [m4] (zj6 x0 x1 x2 x3 x4)) x0 x1 x2 x3 x4:=by kernel_rfl
noncomputable def zkp(n:Nat):Nat→Int→(List (List NT))→Int→(List (List NT))→Int→Option R27
 |0,_,_,_,_,_=>none
 |m+1,x0,x1,x2,x3,x4=>zhe n (zkp n m) x0 x1 x2 x3 x4
noncomputable def p27(n:Nat)(a:List (List NT)×Int)(b:List (List NT)×Int):Option R27:=ziy n (zkp n n) a b
theorem ymu(n:Nat):∀ (m4:Nat) (x0:Int) (x1:List (List NT)) (x2:Int) (x3:List (List NT)) (x4:Int),at27 n (.head 4) [m4] (zj6 x0 x1 x2 x3 x4)=zkp n m4 x0 x1 x2 x3 x4:=by
 intro m
 induction m with
 |zero=>intros;rw[ydz];rfl
 |succ m ih =>
  intros;rw[ypx]
  try simp only[ih]
  rfl
noncomputable def q27(n:Nat)(x:zai ps27):Option R27:=p27 n x.1 x.2.1
noncomputable def Sm27:Sm:=⟨ps27,rs27,false,q27⟩
theorem gam27:GamOK Try.prog G27:=by intro f s h;unfold G27 at h;split at h;exact gj h y18;cases h
theorem hh27:Hp 27 Sm27:=hOf (zaf (an:=an27) (c:=c27) zaw gam27 zau Try.func27 (by kernel_rfl) rfl (by decide +kernel)) fun n x=>(yki n x.1 x.2.1).trans (by simp only[ymu];try rfl)
theorem y27:Gk 27 Sm27:=⟨⟨Try.f27,c27,Try.func27,by kernel_rfl,by decide +kernel⟩,hh27⟩
noncomputable def c5:Code:=(Try.f5.body.getD .skip)
def an5:An:=⟨fun _=>⟨[],[]⟩,fun _ _=>none⟩
abbrev ps5:List PK:=[.val (.row 5 (.int .u8)) false]
abbrev rs5:List RK:=[.val .bool false]
abbrev R5:=zah rs5×zag ps5
noncomputable def G5:Gam:=fun f=>match f with|24=>some Sm24|25=>some Sm25|26=>some Sm26|27=>some Sm27|28=>some Sm28|29=>some Sm29|_=>none
noncomputable def zjr(n:Nat)(a:Li):Option R5 :=
 cond (decide ((1048576:Int)<(↑a.length:Int))) (some ((true,()),())) ((q24 n (a,())).bind fun r0=>(q25 n ((r0.1.1.1,r0.1.1.2),(r0.1.2.1.1,r0.1.2.1.2.1,r0.1.2.1.2.2),())).bind fun r1=>(q26 n ((r0.1.1.1,r0.1.1.2),(r0.1.2.1.1,r0.1.2.1.2.1,r0.1.2.1.2.2),())).bind fun r2=>(q27 n ((r1.1.1.1,r1.1.1.2),(r2.1.1.1,r2.1.1.2),())).bind fun r3=>cond r3.1.1 (cond (!decide (r1.1.2.1=r2.1.2.1)) (some ((decide (r1.1.2.1=r2.1.2.1),()),())) (cond (!decide (r1.1.2.1=(0:Int))) (some ((decide (r1.1.2.1=r2.1.2.1),()),())) ((q28 n ((r1.1.1.1,r1.1.1.2),(r0.1.2.1.1,r0.1.2.1.2.1,r0.1.2.1.2.2),r0.1.1.2,())).bind fun r4=>(q29 n ((r1.1.1.1,r1.1.1.2),())).bind fun r5=>cond r5.1.1 (cond (decide (r1.1.1.2=(-1:Int))) (cond (decide (r4.1.2.1=(0:Int))) ((q27 n ((r4.1.1.1,r4.1.1.2),(r0.1.1.1,r0.1.1.2),())).bind fun r6=>cond r6.1.1 (some ((decide (r0.1.2.1.1=(0:Int)),()),())) (some ((false,()),()))) (some ((false,()),()))) (some ((false,()),()))) (some ((false,()),()))))) (some ((false,()),())))
theorem ypu(n:Nat)(a:Li):runF TT G5 an5 Try.f5 c5 ps5 rs5 n (a,())=zjr n a:=by kernel_rfl
noncomputable def p5(n:Nat)(a:Li):Option R5:=zjr n a
noncomputable def q5(n:Nat)(x:zai ps5):Option R5:=p5 n x.1
noncomputable def Sm5:Sm:=⟨ps5,rs5,false,q5⟩
theorem gam5:GamOK Try.prog G5:=by intro f s h;unfold G5 at h;split at h;exact gj h y24;exact gj h y25;exact gj h y26;exact gj h y27;exact gj h y28;exact gj h y29;cases h
theorem hh5:Hp 5 Sm5:=hOf (zaf (an:=an5) (c:=c5) zaw gam5 zau Try.func5 (by kernel_rfl) rfl (by decide +kernel)) fun n x=>(ypu n x.1).trans rfl
end Go.Proofs.Ytbjgiioppmkpiaa.Rx.S
