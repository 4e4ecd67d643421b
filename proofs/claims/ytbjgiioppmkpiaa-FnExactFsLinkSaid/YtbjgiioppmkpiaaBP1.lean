/- Plain laws of those functions, no program in sight: the law answers true on all data. No condition. -/
import Derived.Test.YtbjgiioppmkpiaaBP0
set_option linter.unusedVariables false
set_option linter.unusedSimpArgs false
namespace Go.Proofs.Ytbjgiioppmkpiaa.Rx.S
open Go Go.Proofs.Ytbjgiioppmkpiaa.Rx.Pu Go.Proofs.Ytbjgiioppmkpiaa.Rx.Fs
set_option linter.unusedVariables false
set_option linter.unusedSimpArgs false
def digI (d b:Int):Int:=IntKind.i64.wrap (↑(BitVec.ofInt IntKind.i64.bits (d.fdiv ((2:Int) ^ min (IntKind.i64.wrap ((3:Int) * IntKind.i64.wrap ((2:Int) - b))).toNat IntKind.i64.bits)) &&& BitVec.ofInt IntKind.i64.bits (7:Int)).toNat:Int)
theorem p107_0 (n:Nat) (d:Int):p107 n d 0=some ((digI d 0,()),()):=rfl
theorem p107_1 (n:Nat) (d:Int):p107 n d 1=some ((digI d 1,()),()):=rfl
theorem p107_2 (n:Nat) (d:Int):p107 n d 2=some ((digI d 2,()),()):=rfl
def digs (d:Int):Bool:=decide (digI d 0=IntKind.i64.wrap (d.tdiv 64))&&(decide (digI d 1=(IntKind.i64.wrap (d.tdiv 8)).tmod 8)&&(decide (digI d 2=d.tmod 8) &&
 (decide (IntKind.i64.wrap (↑(BitVec.ofInt IntKind.i64.bits (IntKind.i64.wrap (↑(BitVec.ofInt IntKind.i64.bits (IntKind.i64.wrap (↑(BitVec.ofInt IntKind.i64.bits (digI d 0)|||BitVec.ofInt IntKind.i64.bits (digI d 1)).toNat:Int))|||BitVec.ofInt IntKind.i64.bits (digI d 2)).toNat:Int)) &&& BitVec.ofInt IntKind.i64.bits (1:Int)).toNat:Int)=1) ==
  decide ((0:Int) < IntKind.i64.wrap (IntKind.i64.wrap (d.tmod 2 + (IntKind.i64.wrap (d.tdiv 8)).tmod 2) + (IntKind.i64.wrap (d.tdiv 64)).tmod 2)))))
theorem digs_all:∀ d:Fin 512,digs ((d.1:Nat):Int)=true:=by decide +kernel
def rts (e:Int):Bool:=mayV 7 e&&(mayV 6 e == decide (IntKind.i64.wrap (↑(BitVec.ofInt IntKind.i64.bits e &&& BitVec.ofInt IntKind.i64.bits (1:Int)).toNat:Int)=0))
theorem rts_all:∀ e:Fin 8,e.1 ≠ 0→rts ((e.1:Nat):Int)=true:=by decide +kernel
theorem p141_L2_eq (n:Nat) (l:List Int) (g:Int) (hl:l.length≤2000000):∀ (d m k:Nat),k + d=l.length→d < m→∃ r:Int,p141_L2 n m l g (l.length:Int) (k:Int)=some ((r,()),())∧decide (0≤r)=inB (l.drop k) g
 | _,0,_,_,h=>by omega
 | 0,m + 1,k,hk,_=>by
  have hg:decide ((k:Int) < (l.length:Int))=false:=decide_eq_false (by omega)
  refine ⟨-1,?_,?_⟩
  ·show st141_L2 n (p141_L2 n m) l g (l.length:Int) (k:Int)=_
   simp only [st141_L2,hg,cond_false]
  ·rw [List.drop_of_length_le (by omega)]; rfl
 | d + 1,m + 1,k,hk,hm=>by
  have hlt:k < l.length:=by omega
  obtain ⟨r,h1,h2⟩:=p141_L2_eq n l g hl d m (k + 1) (by omega) (by omega)
  have hd:l.drop k=l.getD k 0 :: l.drop (k + 1):=by rw [getD_get hlt]; exact List.drop_eq_getElem_cons hlt
  by_cases he:g=l.getD k 0
  ·refine ⟨(k:Int),?_,?_⟩
   ·show st141_L2 n (p141_L2 n m) l g (l.length:Int) (k:Int)=_
    simp only [st141_L2,lt_t hlt,ge_t,cond_true,toNat_cast,decide_eq_true he]
   ·rw [hd]
    unfold inB
    rw [List.any_cons,decide_eq_true he.symm,Bool.true_or]
    exact decide_eq_true (by omega)
  ·refine ⟨r,?_,?_⟩
   ·show st141_L2 n (p141_L2 n m) l g (l.length:Int) (k:Int)=_
    simp only [st141_L2,lt_t hlt,ge_t,cond_true,cond_false,toNat_cast,decide_eq_false he]
    rw [wr_succ (by omega)]
    exact h1
   ·rw [hd,h2]
    have:¬ l.getD k 0=g:=fun h=>he h.symm
    unfold inB
    rw [List.any_cons,decide_eq_false this,Bool.false_or]
theorem p108_eq (n:Nat) (l:List Int) (g:Int) (hl:l.length≤2000000) (hn:2000000 < n):p108 n l g=some ((inB l g,()),()):=by
 obtain ⟨r,h1,h2⟩:=p141_L2_eq n l g hl l.length n 0 (by omega) (by omega)
 show st108_top n l g=_
 have h1':q141 n (l,g,())=some ((r,()),()):=h1
 simp only [st108_top,h1',Option.bind_some,h2,List.drop_zero]
theorem p48_eq (n:Nat) (c:Cr) (o g d e:Int) (hc:credOk c=true) (ho:0≤o∧o≤9) (hg:0≤g∧g≤9) (hd:0≤d∧d≤511) (he:1≤e∧e≤7) (hl:c.2.2.length≤2000000) (hn:2000000 < n) :
  p48 n c o g d e=some ((mayS c o g d e,()),()):=by
 have ec:(c.1,c.2.1,c.2.2)=c:=rfl
 have h90:=p79_eq n c hl hn
 have h119:=p108_eq n c.2.2 g hl hn
 obtain ⟨d',rfl⟩:=Int.eq_ofNat_of_zero_le hd.1
 obtain ⟨e',rfl⟩:=Int.eq_ofNat_of_zero_le (show 0≤e by omega)
 have hD:=digs_all ⟨d',by omega⟩
 have hE:=rts_all ⟨e',by omega⟩ (by show e' ≠ 0; omega)
 simp only [digs,Bool.and_eq_true,decide_eq_true_eq,beq_iff_eq] at hD
 obtain ⟨hD0,hD1,hD2,hD3⟩:=hD
 simp only [rts,Bool.and_eq_true,beq_iff_eq] at hE
 obtain ⟨hE0,hE1⟩:=hE
 show st48_top n c o g (d':Int) (e':Int)=_
 unfold mayS
 simp only [st48_top,q79,ec,h90,hc,q61,p61_eq,decide_eq_true ho,decide_eq_true hg,decide_eq_true hd,decide_eq_true he,Option.bind_some,Bool.not_true,cond_false,q107,p107_0,p107_1,p107_2,q108,h119]
 by_cases hu:c.1=0
 ·rw [decide_eq_true hu]
  simp only [cond_true]
  rw [← hE1,hD3,hE0]
  cases decide ((0:Int) < IntKind.i64.wrap (IntKind.i64.wrap ((d':Int).tmod 2 + (IntKind.i64.wrap ((d':Int).tdiv 8)).tmod 2) + (IntKind.i64.wrap ((d':Int).tdiv 64)).tmod 2)) with
  | true=>simp only [cond_true]; cases mayV 6 (e':Int) <;> rfl
  | false=>simp only [cond_false]; cases mayV 6 (e':Int) <;> rfl
 ·rw [decide_eq_false hu]
  simp only [cond_false]
  by_cases hw:c.1=o
  ·rw [decide_eq_true hw]
   simp only [cond_true,hD0]
   rfl
  ·rw [decide_eq_false hw]
   simp only [cond_false,hD1,hD2]
   cases inB c.2.2 g <;> rfl
theorem p72_eq (n:Nat) (a:Nd) (c:Cr) (e:Int) (hc:credOk c=true) (ho:ownW a) (hb:baseW a) (he:1≤e∧e≤7) (hl:c.2.2.length≤2000000) (hn:2000000 < n):p72 n a c e=some ((mayN c a e,()),()):=by
 have h:=p48_eq n c (ow a) (gr a) (md a) e hc ho.1 ho.2 hb.2.1 he hl hn
 have ec:(c.1,c.2.1,c.2.2)=c:=rfl
 show st72_top n a c e=_
 have h':q48 n (c,a.2.2.1,a.2.2.2.1,a.2.1,e,())=some ((mayS c (ow a) (gr a) (md a) e,()),()):=h
 simp only [st72_top,ec,h',Option.bind_some]
 rfl
noncomputable def incL (f:List Nd) (y:Nat) (v:Int):List Nd:=f.set y (setLk (f.getD y d0) (lk (f.getD y d0) + v))
theorem p105_eq (n:Nat) (f:List Nd) (i y:Nat) (s:ByteArray) (hi:i < f.length) (hy:y < f.length) (hiy:i ≠ y) (hp:(nm (f.getD i d0)).Pairwise ltE) (hl:(nm (f.getD i d0)).length≤1000) (hnew:∀ e ∈ nm (f.getD i d0),e.1 ≠ s)
  (hk:0≤lk (f.getD y d0)∧lk (f.getD y d0)≤1000) (hn:2000000 < n):p105 n f (i:Int) s (y:Int)=some ((),(incL (putE f i (s,(y:Int))) y 1,())):=by
 have h59:=p73_eq n (f.getD i d0) s hp (by omega) hn
 have ee:∀ x:Nd,(x.1,x.2.1,x.2.2.1,x.2.2.2.1,x.2.2.2.2.1,x.2.2.2.2.2.1,x.2.2.2.2.2.2.1,x.2.2.2.2.2.2.2.1,x.2.2.2.2.2.2.2.2)=x:=fun _=>rfl
 have hpl:=posE_le s (nm (f.getD i d0))
 have hx:=insE_pos (s,(y:Int)) (nm (f.getD i d0)) hnew
 have h99:p139 n (nm (f.getD i d0)) (posE s (nm (f.getD i d0)):Int) [(s,(y:Int))]=some ((insE (s,(y:Int)) (nm (f.getD i d0)),()),()):=by
  unfold p139
  rw [decide_eq_true (show (0:Int)≤(posE s (nm (f.getD i d0)):Int) by omega),decide_eq_true (show (posE s (nm (f.getD i d0)):Int)≤((nm (f.getD i d0)).length:Int) by omega),decide_eq_true (show 1≤([(s,(y:Int))]:List En).length by simp),
   decide_eq_true (show ((nm (f.getD i d0)).length + ([(s,(y:Int))]:List En).length) * 24≤140737488355328 by show (_ + 1) * 24≤_; omega)]
  simp only [cond_true,toNat_cast]
  rw [hx]
 have hw:IntKind.i64.wrap (lk (f.getD y d0) + 1)=lk (f.getD y d0) + 1:=wr (by omega) (by omega)
 have hg:(putE f i (s,(y:Int))).getD y d0=f.getD y d0:=by unfold putE; rw [getD_set_i,if_neg (fun h=>hiy h.1)]
 have hset:f.set i ((f.getD i d0).1,(f.getD i d0).2.1,(f.getD i d0).2.2.1,(f.getD i d0).2.2.2.1,(f.getD i d0).2.2.2.2.1,(f.getD i d0).2.2.2.2.2.1,(f.getD i d0).2.2.2.2.2.2.1,(f.getD i d0).2.2.2.2.2.2.2.1,insE (s,(y:Int)) (nm (f.getD i d0)))=putE f i (s,(y:Int)):=rfl
 show st105_top n f (i:Int) s (y:Int)=_
 have h99':q139 n ((f.getD i d0).2.2.2.2.2.2.2.2,(posE s (nm (f.getD i d0)):Int),[(s,(y:Int))],())=some ((insE (s,(y:Int)) (nm (f.getD i d0)),()),()):=h99
 have hg':=hg
 have hw':=hw
 simp only [d0] at h59 h99' hset hg' hw'
 simp only [st105_top,lt_t hi,ge_t,cond_true,toNat_cast,ee,q73,h59,h99',Option.bind_some,decide_true,hset,hg',lk]
 rw [show (putE f i (s,(y:Int))).length=f.length by unfold putE; rw [List.length_set]]
 simp only [lt_t hy,cond_true,lk] at hw' ⊢
 simp only [hw']
 rw [incL,hg]
 rfl
end Go.Proofs.Ytbjgiioppmkpiaa.Rx.S

namespace Go.Proofs.Ytbjgiioppmkpiaa.Rx.S
open Go Go.Proofs.Ytbjgiioppmkpiaa.Rx.Pu Go.Proofs.Ytbjgiioppmkpiaa.Rx.Fs
set_option linter.unusedVariables false
set_option linter.unusedSimpArgs false
noncomputable def linkR (f:List Nd) (c:Cr) (y i:Int) (name:ByteArray):List Nd × Int :=
 bif okS f&&(credOk c&&(hasB f y&&(hasB f i&&nmOk name))) then linkD f c y.toNat i.toNat name else ([],1)
theorem OkW.pw {f:List Nd} (h:OkW f) {i:Nat} (hi:i < 10):(nm (f.getD i d0)).Pairwise ltE:=(sorted_pw _).1 (fun k hk=>(h.ents i k hi hk).2.2.2)
theorem OkW.lkB {f:List Nd} (h:OkW f) {i:Nat} (hi:i < 10):0≤lk (f.getD i d0)∧lk (f.getD i d0)≤60:=by
 by_cases hk:kd (f.getD i d0)=0
 ·have:=(h.zero i hi hk).2.2.2.2.1; omega
 ·have:=h.links i hi hk; have:=many_le (f:=f) (fun j hj=>h.nlen j hj) i; omega
theorem has_no {s:ByteArray} {es:List En} (hp:es.Pairwise ltE) (h:hasE s es=false):∀ e ∈ es,e.1 ≠ s:=by
 have h1:=atI_pos s hp
 rw [h] at h1
 rcases atI_spec s es 0 with ⟨_,h2⟩ | ⟨j,h1',h2,h3⟩
 ·exact h2
 ·rw [h2] at h1
  have h1:((0 + j:Nat):Int) = -1:=h1
  omega
end Go.Proofs.Ytbjgiioppmkpiaa.Rx.S

namespace Go.Proofs.Ytbjgiioppmkpiaa.Rx.S
open Go Go.Proofs.Ytbjgiioppmkpiaa.Rx.Pu Go.Proofs.Ytbjgiioppmkpiaa.Rx.Fs
set_option linter.unusedVariables false
set_option linter.unusedSimpArgs false
theorem p53_eq (n:Nat) (f:List Nd) (c:Cr) (id to:Int) (name:ByteArray) (h:SzF 2000000 f) (hl:c.2.2.length≤2000000) (hn:2000000 < n) :
  p53 n f c id to name=some (((linkR f c id to name).1,((linkR f c id to name).2,())),()):=by
 have h1:=p60_eq n f c [id,to] hl (by simp) hn
 have e:(c.1,c.2.1,c.2.2)=c:=rfl
 have h3:=p62_eq n f h hn
 show st53_top n f c id to name=_
 unfold linkR
 simp only [st53_top,q60,e,h1,Option.bind_some,q70,p70_eq n (by omega) name,q62,h3,List.all_cons,List.all_nil,Bool.and_true]
 cases hok:okS f; · rfl
 cases hcr:credOk c; · rfl
 cases hh:hasB f id; · rfl
 cases hh2:hasB f to; · rfl
 obtain ⟨y,rfl,hy10,hky⟩:=hasB_kd hh
 obtain ⟨i,rfl,hi10,hk⟩:=hasB_kd hh2
 have hF:=(okS_iff f).1 hok
 have hW:=hF.toW
 have hi:i < f.length:=by rw [hW.len]; exact hi10
 have hy:y < f.length:=by rw [hW.len]; exact hy10
 cases hnm:nmOk name; · rfl
 have ee:∀ x:Nd,(x.1,x.2.1,x.2.2.1,x.2.2.2.1,x.2.2.2.2.1,x.2.2.2.2.2.1,x.2.2.2.2.2.2.1,x.2.2.2.2.2.2.2.1,x.2.2.2.2.2.2.2.2)=x:=fun _=>rfl
 have hpw:=OkW.pw hW hi10
 have hnl:=hW.nlen i hi10
 have hlb:=OkW.lkB hW hy10
 have h59:=p73_eq n (f.getD i d0) name hpw (by omega) hn
 have h60:=p72_eq n (f.getD i d0) c 3 hcr (((okW_iff f).1 hF).2 i hi10 hk) (hW.base i hi10 hk) (by omega) hl hn
 have hat:=atI_pos name hpw
 unfold linkD inF
 simp only [Bool.not_true,Bool.true_and,cond_false,cond_true,toNat_cast]
 simp only [hat]
 have h59':=h59
 have h60':=h60
 simp only [d0] at h59' h60'
 simp only [lt_t hi,lt_t hy,ge_t,cond_true,Option.bind_some,ee,q73,h59',q72,h60']
 by_cases hk1:kd (f.getD y d0)=1
 ·have hk1':(f.getD y ZN).1=1:=hk1
  simp only [hk1,hk1',decide_true,Bool.not_true,cond_false]
  by_cases hk2:kd (f.getD i d0)=2
  ·have hk2':(f.getD i ZN).1=2:=hk2
   simp only [hk2,hk2',decide_true,Bool.not_true,cond_false]
   cases hm:mayN c (f.getD i d0) 3 with
   | false =>
    have hm':=hm
    simp only [d0] at hm'
    simp only [hm',Bool.not_false,cond_true]
    rfl
   | true =>
    have hm':=hm
    simp only [d0] at hm'
    simp only [hm',Bool.not_true,cond_false,decide_true]
    cases hhs:hasE name (nm (f.getD i d0)) with
    | true =>
     have hhs':=hhs
     simp only [d0] at hhs'
     simp only [hhs',cond_true,if_true]
     rw [decide_eq_true (show (0:Int)≤(posE name (nm (f.getD i d0)):Int) by omega)]
     rfl
    | false =>
     have hhs':=hhs
     simp only [d0] at hhs'
     have hno:=has_no hpw hhs
     simp only [hhs',cond_false,Bool.false_eq_true,if_false,show decide ((0:Int)≤-1)=false from rfl]
     have hiy:i ≠ y:=fun e=>by subst e; omega
     by_cases h6:(nm (f.getD i d0)).length=6
     ·have h6':decide ((((f.getD i ZN).2.2.2.2.2.2.2.2).length:Int)=6)=true:=decide_eq_true (show ((nm (f.getD i d0)).length:Int)=6 by omega)
      rw [decide_eq_true (show (6:Int)≤((nm (f.getD i d0)).length:Int) by omega)]
      simp only [h6',cond_true]
     ·have h6':decide ((((f.getD i ZN).2.2.2.2.2.2.2.2).length:Int)=6)=false:=decide_eq_false (show ¬ ((nm (f.getD i d0)).length:Int)=6 by omega)
      have h9':decide ((f.getD y ZN).2.2.2.2.1=99)=false:=decide_eq_false (show ¬ lk (f.getD y d0)=99 by omega)
      rw [decide_eq_false (show ¬ (6:Int)≤((nm (f.getD i d0)).length:Int) by omega),decide_eq_false (show ¬ (99:Int)≤lk (f.getD y d0) by omega)]
      have h61:=p105_eq n f i y name hi hy hiy hpw (by omega) hno (by omega) hn
      have hx:incL (putE f i (name,(y:Int))) y 1=putE (f.set y (setLk (f.getD y d0) (lk (f.getD y d0) + 1))) i (name,(y:Int)):=by
       unfold incL putE
       rw [getD_set_i,getD_set_i,if_neg (fun h=>hiy h.1),if_neg (fun h=>hiy h.1.symm),List.set_comm _ _ hiy]
      rw [hx] at h61
      have h61':q105 n (f,(i:Int),name,(y:Int),())=some ((),(putE (f.set y (setLk (f.getD y d0) (lk (f.getD y d0) + 1))) i (name,(y:Int)),())):=h61
      simp only [h6',h9',cond_false,h61',Option.bind_some]
  ·have hk2':¬ (f.getD i ZN).1=2:=hk2
   simp only [hk2,hk2',decide_false,Bool.not_false,cond_true]
   rfl
 ·have hk1':¬ (f.getD y ZN).1=1:=hk1
  simp only [hk1,hk1',decide_false,Bool.not_false,cond_true]
end Go.Proofs.Ytbjgiioppmkpiaa.Rx.S

namespace Go.Proofs.Ytbjgiioppmkpiaa.Rx.S
open Go Go.Proofs.Ytbjgiioppmkpiaa.Rx.Pu Go.Proofs.Ytbjgiioppmkpiaa.Rx.Fs
set_option linter.unusedVariables false
set_option linter.unusedSimpArgs false
theorem bb (b:Bool):(!(b == b))=false:=by cases b <;> rfl
end Go.Proofs.Ytbjgiioppmkpiaa.Rx.S

namespace Go.Proofs.Ytbjgiioppmkpiaa.Rx.S
open Go Go.Proofs.Ytbjgiioppmkpiaa.Rx.Pu Go.Proofs.Ytbjgiioppmkpiaa.Rx.Fs Go.Proofs.Ytbjgiioppmkpiaa.Rx.Gr
set_option linter.unusedVariables false
set_option linter.unusedSimpArgs false
theorem linkR_W {f:List Nd} {c:Cr} {y i:Int} {name:ByteArray}:(OkW (linkR f c y i name).1∧OkF f)∨linkR f c y i name=([],1):=by
 unfold linkR
 cases hc:okS f&&(credOk c&&(hasB f y&&(hasB f i&&nmOk name))) with
 | false=>exact .inr rfl
 | true =>
  simp only [Bool.and_eq_true] at hc
  obtain ⟨y,rfl,hy,_⟩:=hasB_kd hc.2.2.1
  obtain ⟨i,rfl,hi,_⟩:=hasB_kd hc.2.2.2.1
  have hF:=(okS_iff f).1 hc.1
  exact .inl ⟨linkD_ok hF.toW hi hy hc.2.2.2.2,hF⟩
theorem linkR_sz {f:List Nd} {c:Cr} {y i:Int} {name:ByteArray}:SzF 2000000 (linkR f c y i name).1:=by
 rcases linkR_W (f:=f) (c:=c) (y:=y) (i:=i) (name:=name) with h | h
 ·exact OkW.szF h.1
 ·rw [h]; exact SzF.nil _
end Go.Proofs.Ytbjgiioppmkpiaa.Rx.S

namespace Go.Proofs.Ytbjgiioppmkpiaa.Rx.S
open Go Go.Proofs.Ytbjgiioppmkpiaa.Rx.Pu Go.Proofs.Ytbjgiioppmkpiaa.Rx.Fs
set_option linter.unusedVariables false
theorem wfF {f:List Nd} (h:WfT tLf f):WfF f :=
 ⟨h.1,fun a ha=>by
  have:=h.2 a ha
  exact ⟨this.2.2.2.2.2.2.2.1,this.2.2.2.2.2.2.2.2.1,fun e he=>(this.2.2.2.2.2.2.2.2.2 e he).1⟩⟩
end Go.Proofs.Ytbjgiioppmkpiaa.Rx.S

namespace Go.Proofs.Ytbjgiioppmkpiaa.Rx.S
open Go Go.Proofs.Ytbjgiioppmkpiaa.Rx.Pu Go.Proofs.Ytbjgiioppmkpiaa.Rx.Fs
set_option linter.unusedVariables false
set_option linter.unusedSimpArgs false
theorem p54_eq (n:Nat) (f:List Nd) (c:Cr) (id to:Int) (name:ByteArray) (h:SzF 2000000 f) (hl:c.2.2.length≤2000000) (hs:name.size≤2000000) (hn:2000000 < n) (hn2:n < 4611686018427387904) :
  p54 n f c id to name=some (((linkR f c id to name).1,((linkR f c id to name).2,())),()):=by
 have h1:=p63_eq n f (h.sm hn (by omega) hn2)
 have h2:=p64_eq n c hl hn
 have e:(c.1,c.2.1,c.2.2)=c:=rfl
 have h3:=p67_eq n f h hn
 have h5:=p76_eq n name (by omega) (by omega)
 show st54_top n f c id to name=_
 unfold linkR
 simp only [st54_top,q63,h1,Option.bind_some,q64,e,h2,q76,h5,q67,h3]
 cases hok:okS f; · rfl
 cases credOk c; · rfl
 simp only [Bool.not_true,cond_false,q65,p65_eq n f (okS_len hok),Option.bind_some,Bool.true_and]
 cases hh:hasB f id; · rfl
 cases hh2:hasB f to; · rfl
 obtain ⟨y,rfl,hy,hy10⟩:=hasB_ge hh (okS_len hok)
 obtain ⟨i,rfl,hi,hi10⟩:=hasB_ge hh2 (okS_len hok)
 cases nmOk name; · rfl
 have hW:=((okS_iff f).1 hok).toW
 have hb:=OkW.lkB hW hy10
 have h111:=p111_eq n f c y i name hi hy (OkW.szB hW) hl (by omega) hn
 simp only [Bool.not_true,cond_false,q111,h111,Option.bind_some,Bool.true_and,cond_true,toNat_cast]
theorem law14 (f:List Nd) (c:Cr) (id to:Int) (name:ByteArray) (hw:WfF f) (hc:c.2.2.length≤9223372036854775807):p14 3000000 f c id to name=some ((true,()),()):=by
 obtain ⟨r,hr,hr1,hr2⟩:=p39_eq 3000000 (by omega) f hw 1048576 (by omega)
 have e:(c.1,c.2.1,c.2.2)=c:=rfl
 show st14_top 3000000 f c id to name=_
 by_cases hsz:(1048576:Int) < (name.size:Int)
 ·simp only [st14_top,hsz,decide_true,cond_true]
 simp only [st14_top,hsz,decide_false,cond_false,q39,hr,Option.bind_some,e]
 by_cases z:r < 0
 ·simp only [z,decide_true,cond_true]
 ·obtain ⟨s,hs,hs1,hs2⟩:=p31_eq 3000000 c hc r (by omega)
  simp only [z,decide_false,cond_false,q31,hs,Option.bind_some]
  by_cases z2:s < 0
  ·simp only [z2,decide_true,cond_true]
  ·have hf0:=hr2 (by omega)
   have hc0:=hs2 (by omega)
   have hf:SzF 2000000 f:=⟨by have:=hf0.len; omega,fun a ha=>⟨by have:=(hf0.nd a ha).tx; omega,by have:=(hf0.nd a ha).nm; omega,fun x hx=>by have:=(hf0.nd a ha).en x hx; omega⟩⟩
   have hR:SzF 2000000 (linkR f c id to name).1:=linkR_sz
   have t1:=p40_eq 3000000 f hf (by omega)
   have t2:=p33_eq 3000000 c (by omega) (by omega)
   have t3:=p54_eq 3000000 f c id to name hf (by omega) (by omega) (by omega) (by omega)
   have t4:=p53_eq 3000000 f c id to name hf (by omega) (by omega)
   have t5:=p41_refl 3000000 _ hR (by omega)
   have t6:=p41_refl 3000000 f hf (by omega)
   have t7:=p35_refl 3000000 c (by omega) (by omega)
   have t8:=p42_eq 3000000 (by omega) f 1 hf (by omega)
   have m1:=mkS_le f 1 (fun a ha=>(hf.nd a ha).nm)
   have hlen:=hf.len
   obtain ⟨o,t9⟩:=p37_eq 3000000 (by omega) c (mkS 1 f) (by omega) (by omega)
   have t10:=p42_eq 3000000 (by omega) _ 1 hR (by omega)
   have t11:=p43_eq 3000000 (by omega) _ 1 hR (by omega)
   have m2:=mkS_le (linkR f c id to name).1 1 (fun a ha=>(hR.nd a ha).nm)
   have z3:¬ (mkS 1 f + c.2.2.length < 0):=by omega
   have z4:¬ (mkS 1 (linkR f c id to name).1 < 0):=by omega
   simp only [z2,decide_false,cond_false,q40,t1,q33,t2,e,q54,t3,q53,t4,q41,t5,t6,q35,t7,q42,t8,q37,t9,t10,q43,t11,Option.bind_some,Bool.not_true,decide_true,z3,z4]
theorem pure14 (f:List Nd) (c:Cr) (id to:Int) (name:ByteArray) (h:WfT tLf f) (hc:WfT tCr c) (h1:(Lit.int .i64 id).wf=true) (h3:(Lit.int .i64 to).wf=true) (h2:name.size≤9223372036854775807):∃ n o,q14 n (f,c,id,to,name,())=some ((true,()),o):=⟨3000000,(),law14 f c id to name (wfF h) hc.2.2.1⟩
end Go.Proofs.Ytbjgiioppmkpiaa.Rx.S

