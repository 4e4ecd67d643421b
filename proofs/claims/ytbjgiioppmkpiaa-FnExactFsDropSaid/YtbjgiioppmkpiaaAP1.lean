/- Plain laws of those functions, no program in sight: the law answers true on all data. No condition. -/
import Derived.Test.YtbjgiioppmkpiaaAP0
set_option linter.unusedVariables false
set_option linter.unusedSimpArgs false
namespace Go.Proofs.Ytbjgiioppmkpiaa.Rx.S
open Go Go.Proofs.Ytbjgiioppmkpiaa.Rx.Pu Go.Proofs.Ytbjgiioppmkpiaa.Rx.Fs
set_option linter.unusedVariables false
set_option linter.unusedSimpArgs false
def digI (d b:Int):Int:=IntKind.i64.wrap (↑(BitVec.ofInt IntKind.i64.bits (d.fdiv ((2:Int) ^ min (IntKind.i64.wrap ((3:Int) * IntKind.i64.wrap ((2:Int) - b))).toNat IntKind.i64.bits)) &&& BitVec.ofInt IntKind.i64.bits (7:Int)).toNat:Int)
theorem p107_0 (n:Nat) (d:Int):p107 n d 0=some ((digI d 0,()),()):=rfl
theorem p107_1 (n:Nat) (d:Int):p107 n d 1=some ((digI d 1,()),()):=rfl
theorem p107_2 (n:Nat) (d:Int):p107 n d 2=some ((digI d 2,()),()):=rfl
def digs (d:Int):Bool:=decide (digI d 0=IntKind.i64.wrap (d.tdiv 64))&&(decide (digI d 1=(IntKind.i64.wrap (d.tdiv 8)).tmod 8)&&(decide (digI d 2=d.tmod 8) &&
 (decide (IntKind.i64.wrap (↑(BitVec.ofInt IntKind.i64.bits (IntKind.i64.wrap (↑(BitVec.ofInt IntKind.i64.bits (IntKind.i64.wrap (↑(BitVec.ofInt IntKind.i64.bits (digI d 0)|||BitVec.ofInt IntKind.i64.bits (digI d 1)).toNat:Int))|||BitVec.ofInt IntKind.i64.bits (digI d 2)).toNat:Int)) &&& BitVec.ofInt IntKind.i64.bits (1:Int)).toNat:Int)=1) ==
  decide ((0:Int) < IntKind.i64.wrap (IntKind.i64.wrap (d.tmod 2 + (IntKind.i64.wrap (d.tdiv 8)).tmod 2) + (IntKind.i64.wrap (d.tdiv 64)).tmod 2)))))
theorem digs_all:∀ d:Fin 512,digs ((d.1:Nat):Int)=true:=by decide +kernel
def rts (e:Int):Bool:=mayV 7 e&&(mayV 6 e == decide (IntKind.i64.wrap (↑(BitVec.ofInt IntKind.i64.bits e &&& BitVec.ofInt IntKind.i64.bits (1:Int)).toNat:Int)=0))
theorem rts_all:∀ e:Fin 8,e.1 ≠ 0→rts ((e.1:Nat):Int)=true:=by decide +kernel
theorem p141_L2_eq (n:Nat) (l:List Int) (g:Int) (hl:l.length≤2000000):∀ (d m k:Nat),k + d=l.length→d < m→∃ r:Int,p141_L2 n m l g (l.length:Int) (k:Int)=some ((r,()),())∧decide (0≤r)=inB (l.drop k) g
 | _,0,_,_,h=>by omega
 | 0,m + 1,k,hk,_=>by
  have hg:decide ((k:Int) < (l.length:Int))=false:=decide_eq_false (by omega)
  refine ⟨-1,?_,?_⟩
  ·show st141_L2 n (p141_L2 n m) l g (l.length:Int) (k:Int)=_
   simp only [st141_L2,hg,cond_false]
  ·rw [List.drop_of_length_le (by omega)]; rfl
 | d + 1,m + 1,k,hk,hm=>by
  have hlt:k < l.length:=by omega
  obtain ⟨r,h1,h2⟩:=p141_L2_eq n l g hl d m (k + 1) (by omega) (by omega)
  have hd:l.drop k=l.getD k 0 :: l.drop (k + 1):=by rw [getD_get hlt]; exact List.drop_eq_getElem_cons hlt
  by_cases he:g=l.getD k 0
  ·refine ⟨(k:Int),?_,?_⟩
   ·show st141_L2 n (p141_L2 n m) l g (l.length:Int) (k:Int)=_
    simp only [st141_L2,lt_t hlt,ge_t,cond_true,toNat_cast,decide_eq_true he]
   ·rw [hd]
    unfold inB
    rw [List.any_cons,decide_eq_true he.symm,Bool.true_or]
    exact decide_eq_true (by omega)
  ·refine ⟨r,?_,?_⟩
   ·show st141_L2 n (p141_L2 n m) l g (l.length:Int) (k:Int)=_
    simp only [st141_L2,lt_t hlt,ge_t,cond_true,cond_false,toNat_cast,decide_eq_false he]
    rw [wr_succ (by omega)]
    exact h1
   ·rw [hd,h2]
    have:¬ l.getD k 0=g:=fun h=>he h.symm
    unfold inB
    rw [List.any_cons,decide_eq_false this,Bool.false_or]
theorem p108_eq (n:Nat) (l:List Int) (g:Int) (hl:l.length≤2000000) (hn:2000000 < n):p108 n l g=some ((inB l g,()),()):=by
 obtain ⟨r,h1,h2⟩:=p141_L2_eq n l g hl l.length n 0 (by omega) (by omega)
 show st108_top n l g=_
 have h1':q141 n (l,g,())=some ((r,()),()):=h1
 simp only [st108_top,h1',Option.bind_some,h2,List.drop_zero]
theorem p48_eq (n:Nat) (c:Cr) (o g d e:Int) (hc:credOk c=true) (ho:0≤o∧o≤9) (hg:0≤g∧g≤9) (hd:0≤d∧d≤511) (he:1≤e∧e≤7) (hl:c.2.2.length≤2000000) (hn:2000000 < n) :
  p48 n c o g d e=some ((mayS c o g d e,()),()):=by
 have ec:(c.1,c.2.1,c.2.2)=c:=rfl
 have h90:=p79_eq n c hl hn
 have h119:=p108_eq n c.2.2 g hl hn
 obtain ⟨d',rfl⟩:=Int.eq_ofNat_of_zero_le hd.1
 obtain ⟨e',rfl⟩:=Int.eq_ofNat_of_zero_le (show 0≤e by omega)
 have hD:=digs_all ⟨d',by omega⟩
 have hE:=rts_all ⟨e',by omega⟩ (by show e' ≠ 0; omega)
 simp only [digs,Bool.and_eq_true,decide_eq_true_eq,beq_iff_eq] at hD
 obtain ⟨hD0,hD1,hD2,hD3⟩:=hD
 simp only [rts,Bool.and_eq_true,beq_iff_eq] at hE
 obtain ⟨hE0,hE1⟩:=hE
 show st48_top n c o g (d':Int) (e':Int)=_
 unfold mayS
 simp only [st48_top,q79,ec,h90,hc,q61,p61_eq,decide_eq_true ho,decide_eq_true hg,decide_eq_true hd,decide_eq_true he,Option.bind_some,Bool.not_true,cond_false,q107,p107_0,p107_1,p107_2,q108,h119]
 by_cases hu:c.1=0
 ·rw [decide_eq_true hu]
  simp only [cond_true]
  rw [← hE1,hD3,hE0]
  cases decide ((0:Int) < IntKind.i64.wrap (IntKind.i64.wrap ((d':Int).tmod 2 + (IntKind.i64.wrap ((d':Int).tdiv 8)).tmod 2) + (IntKind.i64.wrap ((d':Int).tdiv 64)).tmod 2)) with
  | true=>simp only [cond_true]; cases mayV 6 (e':Int) <;> rfl
  | false=>simp only [cond_false]; cases mayV 6 (e':Int) <;> rfl
 ·rw [decide_eq_false hu]
  simp only [cond_false]
  by_cases hw:c.1=o
  ·rw [decide_eq_true hw]
   simp only [cond_true,hD0]
   rfl
  ·rw [decide_eq_false hw]
   simp only [cond_false,hD1,hD2]
   cases inB c.2.2 g <;> rfl
theorem p72_eq (n:Nat) (a:Nd) (c:Cr) (e:Int) (hc:credOk c=true) (ho:ownW a) (hb:baseW a) (he:1≤e∧e≤7) (hl:c.2.2.length≤2000000) (hn:2000000 < n):p72 n a c e=some ((mayN c a e,()),()):=by
 have h:=p48_eq n c (ow a) (gr a) (md a) e hc ho.1 ho.2 hb.2.1 he hl hn
 have ec:(c.1,c.2.1,c.2.2)=c:=rfl
 show st72_top n a c e=_
 have h':q48 n (c,a.2.2.1,a.2.2.2.1,a.2.1,e,())=some ((mayS c (ow a) (gr a) (md a) e,()),()):=h
 simp only [st72_top,ec,h',Option.bind_some]
 rfl
noncomputable def incL (f:List Nd) (y:Nat) (v:Int):List Nd:=f.set y (setLk (f.getD y d0) (lk (f.getD y d0) + v))
theorem p75_eq (n:Nat) (f:List Nd) (i:Nat) (s:ByteArray) (hi:i < f.length) (hp:(nm (f.getD i d0)).Pairwise ltE) (hl:(nm (f.getD i d0)).length≤1000) (hh:hasE s (nm (f.getD i d0))=true)
  (y:Nat) (hy:((nm (f.getD i d0)).getD (posE s (nm (f.getD i d0))) e0).2=(y:Int)) (hyl:y < f.length) (hiy:i ≠ y) (hk:0≤lk (f.getD y d0)∧lk (f.getD y d0)≤1000) (hn:2000000 < n) :
  p75 n f (i:Int) s=some (((y:Int),()),(incL (takeE f i (posE s (nm (f.getD i d0)))) y (-1),())):=by
 have h59:=p73_eq n (f.getD i d0) s hp (by omega) hn
 have ee:∀ x:Nd,(x.1,x.2.1,x.2.2.1,x.2.2.2.1,x.2.2.2.2.1,x.2.2.2.2.2.1,x.2.2.2.2.2.2.1,x.2.2.2.2.2.2.2.1,x.2.2.2.2.2.2.2.2)=x:=fun _=>rfl
 have hlt:posE s (nm (f.getD i d0)) < (nm (f.getD i d0)).length:=by
  simp only [hasE,Bool.and_eq_true,decide_eq_true_eq] at hh; exact hh.1
 have h105:p124 n (nm (f.getD i d0)) (posE s (nm (f.getD i d0)):Int) ((posE s (nm (f.getD i d0)) + 1:Nat):Int)=some (((nm (f.getD i d0)).eraseIdx (posE s (nm (f.getD i d0))),()),()):=by
  unfold p124
  rw [decide_eq_true (show (0:Int)≤(posE s (nm (f.getD i d0)):Int) by omega),decide_eq_true (show (posE s (nm (f.getD i d0)):Int) < ((nm (f.getD i d0)).length:Int) by omega),decide_eq_true (show ((posE s (nm (f.getD i d0)) + 1:Nat):Int)=(posE s (nm (f.getD i d0)):Int) + 1 by omega)]
  simp only [cond_true,toNat_cast]
  rw [List.eraseIdx_eq_take_drop_succ]
 have hws:IntKind.i64.wrap ((posE s (nm (f.getD i d0)):Int) + 1)=((posE s (nm (f.getD i d0)) + 1:Nat):Int):=wr_succ (by omega)
 have hw:IntKind.i64.wrap (lk (f.getD y d0) - 1)=lk (f.getD y d0) + (-1):=(wr (by omega) (by omega)).trans (by omega)
 have hg:(takeE f i (posE s (nm (f.getD i d0)))).getD y d0=f.getD y d0:=by unfold takeE; rw [getD_set_i,if_neg (fun h=>hiy h.1)]
 have hset:f.set i ((f.getD i d0).1,(f.getD i d0).2.1,(f.getD i d0).2.2.1,(f.getD i d0).2.2.2.1,(f.getD i d0).2.2.2.2.1,(f.getD i d0).2.2.2.2.2.1,(f.getD i d0).2.2.2.2.2.2.1,(f.getD i d0).2.2.2.2.2.2.2.1,(nm (f.getD i d0)).eraseIdx (posE s (nm (f.getD i d0))))=takeE f i (posE s (nm (f.getD i d0))):=rfl
 show st75_top n f (i:Int) s=_
 have h105':q124 n ((f.getD i d0).2.2.2.2.2.2.2.2,(posE s (nm (f.getD i d0)):Int),((posE s (nm (f.getD i d0)) + 1:Nat):Int),())=some (((nm (f.getD i d0)).eraseIdx (posE s (nm (f.getD i d0))),()),()):=h105
 have hy':((f.getD i d0).2.2.2.2.2.2.2.2.getD (posE s (nm (f.getD i d0))) ((ByteArray.empty:ByteArray),(0:Int))).2=(y:Int):=hy
 have hlt':decide ((posE s (nm (f.getD i d0)):Int) < (((f.getD i d0).2.2.2.2.2.2.2.2).length:Int))=true:=decide_eq_true (by have:=hlt; simp only [nm] at this ⊢; omega)
 have hg':=hg
 have hw':=hw
 simp only [d0] at h59 h105' hset hg' hw' hws hy' hlt'
 simp only [st75_top,lt_t hi,ge_t,cond_true,toNat_cast,ee,q73,h59,hlt',hws,h105',Option.bind_some,decide_true,hset,hy',hg',lk]
 rw [show (takeE f i (posE s (nm (f.getD i ZN)))).length=f.length by unfold takeE; rw [List.length_set]]
 simp only [lt_t hyl,cond_true,lk] at hw' ⊢
 simp only [hw']
 rw [incL,hg]
 rfl
end Go.Proofs.Ytbjgiioppmkpiaa.Rx.S

namespace Go.Proofs.Ytbjgiioppmkpiaa.Rx.S
open Go Go.Proofs.Ytbjgiioppmkpiaa.Rx.Pu Go.Proofs.Ytbjgiioppmkpiaa.Rx.Fs
set_option linter.unusedVariables false
set_option linter.unusedSimpArgs false
noncomputable def dropR (f:List Nd) (c:Cr) (i:Int) (name:ByteArray):List Nd × Int :=
 bif okS f&&(credOk c&&(hasB f i&&nmOk name)) then dropD f c i.toNat name else ([],1)
theorem OkW.pw {f:List Nd} (h:OkW f) {i:Nat} (hi:i < 10):(nm (f.getD i d0)).Pairwise ltE:=(sorted_pw _).1 (fun k hk=>(h.ents i k hi hk).2.2.2)
theorem OkW.lkB {f:List Nd} (h:OkW f) {i:Nat} (hi:i < 10):0≤lk (f.getD i d0)∧lk (f.getD i d0)≤60:=by
 by_cases hk:kd (f.getD i d0)=0
 ·have:=(h.zero i hi hk).2.2.2.2.1; omega
 ·have:=h.links i hi hk; have:=many_le (f:=f) (fun j hj=>h.nlen j hj) i; omega
end Go.Proofs.Ytbjgiioppmkpiaa.Rx.S

namespace Go.Proofs.Ytbjgiioppmkpiaa.Rx.S
open Go Go.Proofs.Ytbjgiioppmkpiaa.Rx.Pu Go.Proofs.Ytbjgiioppmkpiaa.Rx.Fs
set_option linter.unusedVariables false
set_option linter.unusedSimpArgs false
theorem p21_eq (n:Nat) (f:List Nd) (c:Cr) (id:Int) (name:ByteArray) (h:SzF 2000000 f) (hl:c.2.2.length≤2000000) (hn:2000000 < n) :
  p21 n f c id name=some (((dropR f c id name).1,((dropR f c id name).2,())),()):=by
 have h1:=p60_eq n f c [id] hl (by simp) hn
 have e:(c.1,c.2.1,c.2.2)=c:=rfl
 have h3:=p62_eq n f h hn
 show st21_top n f c id name=_
 unfold dropR
 simp only [st21_top,q60,e,h1,Option.bind_some,q70,p70_eq n (by omega) name,q62,h3,List.all_cons,List.all_nil,Bool.and_true]
 cases hok:okS f; · rfl
 cases hcr:credOk c; · rfl
 cases hh:hasB f id; · rfl
 obtain ⟨i,rfl,hi10,hk⟩:=hasB_kd hh
 have hF:=(okS_iff f).1 hok
 have hW:=hF.toW
 have hi:i < f.length:=by rw [hW.len]; exact hi10
 cases hnm:nmOk name; · rfl
 have ee:∀ x:Nd,(x.1,x.2.1,x.2.2.1,x.2.2.2.1,x.2.2.2.2.1,x.2.2.2.2.2.1,x.2.2.2.2.2.2.1,x.2.2.2.2.2.2.2.1,x.2.2.2.2.2.2.2.2)=x:=fun _=>rfl
 have hpw:=OkW.pw hW hi10
 have hnl:=hW.nlen i hi10
 have h59:=p73_eq n (f.getD i d0) name hpw (by omega) hn
 have h60:=p72_eq n (f.getD i d0) c 3 hcr (((okW_iff f).1 hF).2 i hi10 hk) (hW.base i hi10 hk) (by omega) hl hn
 have hat:=atI_pos name hpw
 unfold dropD inF
 simp only [Bool.not_true,Bool.true_and,cond_false,cond_true,toNat_cast]
 simp only [hat]
 have h59':=h59
 have h60':=h60
 simp only [d0] at h59' h60'
 simp only [lt_t hi,ge_t,cond_true,Option.bind_some,ee,q73,h59',q72,h60']
 by_cases hk2:kd (f.getD i d0)=2
 ·have hk2':(f.getD i ZN).1=2:=hk2
  simp only [hk2,hk2',decide_true,Bool.not_true,cond_false]
  cases hm:mayN c (f.getD i d0) 3 with
  | false =>
   have hm':=hm
   simp only [d0] at hm'
   simp only [hm',Bool.not_false,cond_true]
   rfl
  | true =>
   have hm':=hm
   simp only [d0] at hm'
   simp only [hm',Bool.not_true,cond_false,decide_true]
   cases hhs:hasE name (nm (f.getD i d0)) with
   | false =>
    have hhs':=hhs
    simp only [d0] at hhs'
    simp only [hhs',Bool.not_false,cond_true,Bool.false_eq_true,if_false]
    rfl
   | true =>
    have hhs':=hhs
    simp only [d0] at hhs'
    have hlt:posE name (nm (f.getD i d0)) < (nm (f.getD i d0)).length:=by
     simp only [hasE,Bool.and_eq_true,decide_eq_true_eq] at hhs; exact hhs.1
    obtain ⟨k,hkk⟩:∃ k,posE name (nm (f.getD i d0))=k:=⟨_,rfl⟩
    rw [hkk] at hlt
    obtain ⟨_,hy9,hky⟩:=(hW.entsOk hi10).all _ (mem_getD hlt e0)
    obtain ⟨y,hy⟩:∃ y:Nat,((nm (f.getD i d0)).getD k e0).2=(y:Int):=⟨((nm (f.getD i d0)).getD k e0).2.toNat,by omega⟩
    rw [hy,toNat_cast] at hky
    have hy10:y < 10:=by omega
    have hyl:y < f.length:=by rw [hW.len]; exact hy10
    have hlb:=OkW.lkB hW hy10
    have ht:tgt f i (k:Int)=y:=by unfold tgt; rw [toNat_cast,hy,toNat_cast]
    have hneg:decide (((k:Nat):Int) < 0)=false:=decide_eq_false (by omega)
    have hkk':=hkk
    have hy':((f.getD i d0).2.2.2.2.2.2.2.2.getD k ((ByteArray.empty:ByteArray),(0:Int))).2=(y:Int):=hy
    have hlt':decide (((k:Nat):Int) < (((f.getD i d0).2.2.2.2.2.2.2.2).length:Int))=true:=decide_eq_true (by have:=hlt; simp only [nm] at this ⊢; omega)
    simp only [d0] at hkk' hy' hlt'
    simp only [hhs',if_true,Bool.not_true,cond_false,hkk,hkk',hneg,ge_t,hlt',cond_true,toNat_cast,hy',lt_t hyl,ht]
    have fin:nm (f.getD y d0)=[]→(q75 n (f,(i:Int),name,())).bind (fun r5=>(q74 n (r5.2.1,r5.1.1,())).bind fun r6=>some ((r6.2.1,((0:Int),())),())) =
      some ((freeF (takeE (f.set y (setLk (f.getD y d0) (lk (f.getD y d0) - 1))) i k) y,((0:Int),())),()):=fun hny=>by
     have hiy:i ≠ y:=fun e=>by rw [← e] at hny; rw [hny] at hlt; simp at hlt
     have h71:=p75_eq n f i name hi hpw (by omega) hhs y (by rw [hkk]; exact hy) hyl hiy (by omega) hn
     rw [hkk] at h71
     have hx:incL (takeE f i k) y (-1)=takeE (f.set y (setLk (f.getD y d0) (lk (f.getD y d0) - 1))) i k:=by
      unfold incL takeE
      rw [getD_set_i,getD_set_i,if_neg (fun h=>hiy h.1),if_neg (fun h=>hiy h.1.symm),List.set_comm _ _ hiy]
      rfl
     rw [hx] at h71
     have h70:=p74_eq n (takeE (f.set y (setLk (f.getD y d0) (lk (f.getD y d0) - 1))) i k) y (by unfold takeE; rw [List.length_set,List.length_set]; exact hyl)
     have h71':q75 n (f,(i:Int),name,())=some (((y:Int),()),(takeE (f.set y (setLk (f.getD y d0) (lk (f.getD y d0) - 1))) i k,())):=h71
     have h70':q74 n (takeE (f.set y (setLk (f.getD y d0) (lk (f.getD y d0) - 1))) i k,(y:Int),())=some ((),(freeN (takeE (f.set y (setLk (f.getD y d0) (lk (f.getD y d0) - 1))) i k) y,())):=h70
     simp only [h71',Option.bind_some,h70']
     rfl
    by_cases hyk:kd (f.getD y d0)=2
    ·have hyk':(f.getD y ZN).1=2:=hyk
     simp only [hyk,hyk',decide_true,cond_true,Bool.true_and]
     by_cases hn0:0 < ((nm (f.getD y d0)).length:Int)
     ·have hn0':decide ((0:Int) < (((f.getD y ZN).2.2.2.2.2.2.2.2).length:Int))=true:=decide_eq_true hn0
      rw [decide_eq_true hn0]
      simp only [hn0',Bool.true_or,cond_true]
     ·have hn0':decide ((0:Int) < (((f.getD y ZN).2.2.2.2.2.2.2.2).length:Int))=false:=decide_eq_false hn0
      rw [decide_eq_false hn0]
      simp only [hn0',Bool.false_or,cond_false]
      by_cases hop:0 < op (f.getD y d0)
      ·have hop':decide ((0:Int) < (f.getD y ZN).2.2.2.2.2.1)=true:=decide_eq_true hop
       rw [decide_eq_true hop]
       simp only [hop',cond_true]
      ·have hop':decide ((0:Int) < (f.getD y ZN).2.2.2.2.2.1)=false:=decide_eq_false hop
       rw [decide_eq_false hop]
       simp only [hop',cond_false]
       exact fin (List.eq_nil_of_length_eq_zero (by omega))
    ·have hyk':¬ (f.getD y ZN).1=2:=hyk
     simp only [hyk,hyk',decide_false,cond_false,Bool.false_and]
     exact fin (hW.nm_file hy10 hyk)
 ·have hk2':¬ (f.getD i ZN).1=2:=hk2
  simp only [hk2,hk2',decide_false,Bool.not_false,cond_true]
  rfl
end Go.Proofs.Ytbjgiioppmkpiaa.Rx.S

namespace Go.Proofs.Ytbjgiioppmkpiaa.Rx.S
open Go Go.Proofs.Ytbjgiioppmkpiaa.Rx.Pu Go.Proofs.Ytbjgiioppmkpiaa.Rx.Fs
set_option linter.unusedVariables false
set_option linter.unusedSimpArgs false
theorem bb (b:Bool):(!(b == b))=false:=by cases b <;> rfl
end Go.Proofs.Ytbjgiioppmkpiaa.Rx.S

namespace Go.Proofs.Ytbjgiioppmkpiaa.Rx.S
open Go Go.Proofs.Ytbjgiioppmkpiaa.Rx.Pu Go.Proofs.Ytbjgiioppmkpiaa.Rx.Fs Go.Proofs.Ytbjgiioppmkpiaa.Rx.Gr
set_option linter.unusedVariables false
set_option linter.unusedSimpArgs false
theorem dropR_W {f:List Nd} {c:Cr} {i:Int} {name:ByteArray}:(OkW (dropR f c i name).1∧OkF f)∨dropR f c i name=([],1):=by
 unfold dropR
 cases hc:okS f&&(credOk c&&(hasB f i&&nmOk name)) with
 | false=>exact .inr rfl
 | true =>
  simp only [Bool.and_eq_true] at hc
  obtain ⟨i,rfl,hi,_⟩:=hasB_kd hc.2.2.1
  have hF:=(okS_iff f).1 hc.1
  exact .inl ⟨dropD_ok hF.toW hi name,hF⟩
theorem dropR_sz {f:List Nd} {c:Cr} {i:Int} {name:ByteArray}:SzF 2000000 (dropR f c i name).1:=by
 rcases dropR_W (f:=f) (c:=c) (i:=i) (name:=name) with h | h
 ·exact OkW.szF h.1
 ·rw [h]; exact SzF.nil _
end Go.Proofs.Ytbjgiioppmkpiaa.Rx.S

namespace Go.Proofs.Ytbjgiioppmkpiaa.Rx.S
open Go Go.Proofs.Ytbjgiioppmkpiaa.Rx.Pu Go.Proofs.Ytbjgiioppmkpiaa.Rx.Fs
set_option linter.unusedVariables false
theorem wfF {f:List Nd} (h:WfT tLf f):WfF f :=
 ⟨h.1,fun a ha=>by
  have:=h.2 a ha
  exact ⟨this.2.2.2.2.2.2.2.1,this.2.2.2.2.2.2.2.2.1,fun e he=>(this.2.2.2.2.2.2.2.2.2 e he).1⟩⟩
end Go.Proofs.Ytbjgiioppmkpiaa.Rx.S

namespace Go.Proofs.Ytbjgiioppmkpiaa.Rx.S
open Go Go.Proofs.Ytbjgiioppmkpiaa.Rx.Pu Go.Proofs.Ytbjgiioppmkpiaa.Rx.Fs
set_option linter.unusedVariables false
set_option linter.unusedSimpArgs false
theorem p22_eq (n:Nat) (f:List Nd) (c:Cr) (id:Int) (name:ByteArray) (h:SzF 2000000 f) (hl:c.2.2.length≤2000000) (hs:name.size≤2000000) (hn:2000000 < n) (hn2:n < 4611686018427387904) :
  p22 n f c id name=some (((dropR f c id name).1,((dropR f c id name).2,())),()):=by
 have h1:=p63_eq n f (h.sm hn (by omega) hn2)
 have h2:=p64_eq n c hl hn
 have e:(c.1,c.2.1,c.2.2)=c:=rfl
 have h3:=p67_eq n f h hn
 have h5:=p76_eq n name (by omega) (by omega)
 show st22_top n f c id name=_
 unfold dropR
 simp only [st22_top,q63,h1,Option.bind_some,q64,e,h2,q76,h5,q67,h3]
 cases hok:okS f; · rfl
 cases credOk c; · rfl
 simp only [Bool.not_true,cond_false,q65,p65_eq n f (okS_len hok),Option.bind_some,Bool.true_and]
 cases hh:hasB f id; · rfl
 obtain ⟨i,rfl,hi,hi10⟩:=hasB_ge hh (okS_len hok)
 cases nmOk name; · rfl
 have h77:=p77_eq n f c i name ((okS_iff f).1 hok).toW hi10 hl hn
 simp only [Bool.not_true,cond_false,q77,h77,Option.bind_some,Bool.true_and,cond_true,toNat_cast]
theorem law7 (f:List Nd) (c:Cr) (id:Int) (name:ByteArray) (hw:WfF f) (hc:c.2.2.length≤9223372036854775807):p7 3000000 f c id name=some ((true,()),()):=by
 obtain ⟨r,hr,hr1,hr2⟩:=p39_eq 3000000 (by omega) f hw 1048576 (by omega)
 have e:(c.1,c.2.1,c.2.2)=c:=rfl
 show st7_top 3000000 f c id name=_
 by_cases hsz:(1048576:Int) < (name.size:Int)
 ·simp only [st7_top,hsz,decide_true,cond_true]
 simp only [st7_top,hsz,decide_false,cond_false,q39,hr,Option.bind_some,e]
 by_cases z:r < 0
 ·simp only [z,decide_true,cond_true]
 ·obtain ⟨s,hs,hs1,hs2⟩:=p31_eq 3000000 c hc r (by omega)
  simp only [z,decide_false,cond_false,q31,hs,Option.bind_some]
  by_cases z2:s < 0
  ·simp only [z2,decide_true,cond_true]
  ·have hf0:=hr2 (by omega)
   have hc0:=hs2 (by omega)
   have hf:SzF 2000000 f:=⟨by have:=hf0.len; omega,fun a ha=>⟨by have:=(hf0.nd a ha).tx; omega,by have:=(hf0.nd a ha).nm; omega,fun x hx=>by have:=(hf0.nd a ha).en x hx; omega⟩⟩
   have hR:SzF 2000000 (dropR f c id name).1:=dropR_sz
   have t1:=p40_eq 3000000 f hf (by omega)
   have t2:=p33_eq 3000000 c (by omega) (by omega)
   have t3:=p22_eq 3000000 f c id name hf (by omega) (by omega) (by omega) (by omega)
   have t4:=p21_eq 3000000 f c id name hf (by omega) (by omega)
   have t5:=p41_refl 3000000 _ hR (by omega)
   have t6:=p41_refl 3000000 f hf (by omega)
   have t7:=p35_refl 3000000 c (by omega) (by omega)
   have t8:=p42_eq 3000000 (by omega) f 1 hf (by omega)
   have m1:=mkS_le f 1 (fun a ha=>(hf.nd a ha).nm)
   have hlen:=hf.len
   obtain ⟨o,t9⟩:=p37_eq 3000000 (by omega) c (mkS 1 f) (by omega) (by omega)
   have t10:=p42_eq 3000000 (by omega) _ 1 hR (by omega)
   have t11:=p43_eq 3000000 (by omega) _ 1 hR (by omega)
   have m2:=mkS_le (dropR f c id name).1 1 (fun a ha=>(hR.nd a ha).nm)
   have z3:¬ (mkS 1 f + c.2.2.length < 0):=by omega
   have z4:¬ (mkS 1 (dropR f c id name).1 < 0):=by omega
   simp only [z2,decide_false,cond_false,q40,t1,q33,t2,e,q22,t3,q21,t4,q41,t5,t6,q35,t7,q42,t8,q37,t9,t10,q43,t11,Option.bind_some,Bool.not_true,decide_true,z3,z4]
theorem pure7 (f:List Nd) (c:Cr) (id:Int) (name:ByteArray) (h:WfT tLf f) (hc:WfT tCr c) (h1:(Lit.int .i64 id).wf=true) (h2:name.size≤9223372036854775807):∃ n o,q7 n (f,c,id,name,())=some ((true,()),o):=⟨3000000,(),law7 f c id name (wfF h) hc.2.2.1⟩
end Go.Proofs.Ytbjgiioppmkpiaa.Rx.S

