/- Plain laws of those functions, no program in sight: the law answers true on all data. No condition. -/
import Derived.Test.YtdkaagpkeomhmaaCP0
set_option linter.unusedVariables false
set_option linter.unusedSimpArgs false
namespace Go.Proofs.Ytdkaagpkeomhmaa.Rx.S
open Go Go.Proofs.Ytdkaagpkeomhmaa.Rx Go.Proofs.Ytdkaagpkeomhmaa.Rx.Pu
set_option linter.unusedVariables false
set_option linter.unusedSimpArgs false
set_option maxRecDepth 100000
def oL (t k:Nat):Int:=1 + 16 * (t:Int) + (k:Int)
def LBv (V:List Bo):Prop:=∀ i k,i < V.length→(rb V i).2.2.1.getD k 0=0∨∃ i0 k0:Nat,i0 < V.length∧(rb V i0).1=true∧k0 < 16∧(rb V i).2.2.1.getD k 0=oL i0 k0
theorem VOk.lb {V:List Bo} (h:VOk V):LBv V:=by
 rcases h with rfl | ⟨M,hM,h⟩
 ·intro i k hi; simp at hi
 ·have h5:=h.len
  intro i k hi
  cases hl:(rw' M.2.2.1 i).1 with
  | false=>rw [rb,h.dd i (by omega) hl]; exact .inl rfl
  | true =>
   have hR:=h.lv i (by omega) hl
   by_cases hk:k < 16
   ·rcases hR.pg k hk with ⟨_,e,_⟩ | ⟨_,_,e | ⟨_,e⟩⟩
    ·exact .inl e
    ·exact .inl e
    ·obtain ⟨i0,k0,a1,a2,a3,a4,_⟩:=e
     have hlen:=hM.sp.lens i0
     have h5':=hM.sp.len
     refine .inr ⟨i0,k0,by omega,?_,by omega,a4⟩
     cases hl0:(rw' M.2.2.1 i0).1 with
     | false =>
      have:=(hM.sp.rw _ (mem_getD (d:=(false,[],[])) a1)).dd hl0
      rw [rw'] at a2
      rw [this] at a2; simp at a2
     | true=>exact (h.lv i0 (by omega) hl0).lv
   ·left
    have hgl:(rb V i).2.2.1.length=16:=hR.gl
    rw [List.getD_eq_getElem?_getD,List.getElem?_eq_none (by omega)]; rfl
def labV (f:Int→Int) (V:List Bo):List Bo:=V.map fun b=>(b.1,b.2.1,b.2.2.1.map f,b.2.2.2)
theorem labV_len (f:Int→Int) (V:List Bo):(labV f V).length=V.length:=by simp [labV]
theorem labV_comp (g f:Int→Int) (V:List Bo):labV g (labV f V)=labV (fun x=>g (f x)) V:=by
 simp [labV,Function.comp_def]
theorem labV_id (V:List Bo):labV (fun x=>x) V=V:=by simp [labV]
theorem labV_rb (f:Int→Int) {V:List Bo} {i:Nat} (hi:i < V.length):rb (labV f V) i=((rb V i).1,(rb V i).2.1,(rb V i).2.2.1.map f,(rb V i).2.2.2):=by
 simp [rb,labV,List.getD_eq_getElem?_getD,List.getElem?_eq_getElem hi]
theorem mapG (f:Int→Int) {G:List Int} {k:Nat} (hk:k < G.length):(G.map f).getD k 0=f (G.getD k 0):=by
 simp [List.getD_eq_getElem?_getD,List.getElem?_eq_getElem hk]
def tn (g o:Int) (x:Int):Int:=if x=g then o else x
theorem p83_L5_eq (n:Nat) (g2:Int→Int→Int→List Bo→Option R83) (g o:Int) (pre post:List Bo) (hpre:pre.length≤1000) (lv:Bool) (ar:List Ar) (T:List ByteArray) :
  ∀ (rest done:List Int) (m:Nat),rest.length < m→done.length + rest.length≤1000→p83_L5 g2 n m g o (pre.length:Int) (done.length:Int) (pre ++ (lv,ar,done ++ rest,T) :: post)=g2 g o ((pre.length + 1:Nat):Int) (pre ++ (lv,ar,done ++ rest.map (tn g o),T) :: post)
 | [],done,0,h,_=>by simp at h
 | [],done,m + 1,h,hl=>by
  show st83_L5 n _ _ _ _ _ _ _=_
  simp only [st83_L5,ge_t,lt_pre,toNat_cast,getD_pre,List.append_nil,lt_f,cond_true,cond_false,List.map_nil,wS (show pre.length≤1000000 by omega)]
 | x :: rest,done,0,h,_=>by simp at h
 | x :: rest,done,m + 1,h,hl=>by
  have ih:=p83_L5_eq n g2 g o pre post hpre lv ar T rest (done ++ [tn g o x]) m (by simp at h; omega) (by simp at hl ⊢; omega)
  simp only [List.length_append,List.length_cons,List.length_nil,List.append_assoc,List.cons_append,List.nil_append,Nat.zero_add] at ih
  show st83_L5 n _ _ _ _ _ _ _=_
  simp only [st83_L5,ge_t,lt_pre,toNat_cast,getD_pre,cond_true,set_pre,wS (show done.length≤1000000 by simp at hl; omega)]
  rw [List.map_cons,← ih]
  by_cases h1:x=g
  ·simp only [h1,decide_true,cond_true,tn,if_true]
  ·simp only [h1,decide_false,cond_false,tn,if_false]
theorem p83_L2_eq (n:Nat) (hn:2000≤n) (g o:Int):∀ (post pre:List Bo) (m:Nat),post.length < m→pre.length + post.length≤1000→(∀ b ∈ post,b.2.2.1.length≤1000)→p83_L2 n m g o (pre.length:Int) (pre ++ post)=some ((pre ++ labV (tn g o) post,()),())
 | [],pre,0,h,_,_=>by simp at h
 | [],pre,m + 1,h,hl,_=>by
  show st83_L2 n _ _ _ _ _=_
  simp only [st83_L2,List.append_nil,lt_f,cond_false,labV,List.map_nil]
 | b :: post,pre,0,h,_,_=>by simp at h
 | b :: post,pre,m + 1,h,hl,hs=>by
  have hb:=hs b List.mem_cons_self
  simp only [List.length_cons] at hl h
  have ih:=p83_L2_eq n hn g o post (pre ++ [(b.1,b.2.1,b.2.2.1.map (tn g o),b.2.2.2)]) m (by omega) (by simp; omega) (fun t ht=>hs t (List.mem_cons_of_mem _ ht))
  simp only [List.length_append,List.length_cons,List.length_nil,List.append_assoc,List.cons_append,List.nil_append,Nat.zero_add] at ih
  have h5:=p83_L5_eq n (p83_L2 n m) g o pre post (by omega) b.1 b.2.1 b.2.2.2 b.2.2.1 [] n (by omega) (by simp; omega)
  simp only [List.nil_append,List.length_nil] at h5
  show st83_L2 n _ _ _ _ _=_
  simp only [st83_L2,lt_pre,cond_true]
  exact h5.trans ih
theorem q83_eq (n:Nat) (hn:2000≤n) (V:List Bo) (h5:V.length≤5) (hG:∀ b ∈ V,b.2.2.1.length≤1000) (g o:Int):q83 n (V,g,o,())=some ((labV (tn g o) V,()),()):=by
 have:=p83_L2_eq n hn g o V [] n (by omega) (by simp; omega) hG
 simp only [List.nil_append,List.length_nil] at this
 exact this
theorem p90_L5_eq (n:Nat) (g2:Int→Int→Int→Int→List Bo→Option R90) (g o x2:Int) (x8:Bool) (pre post:List Bo) (hpre:pre.length≤1000) (lv:Bool) (ar:List Ar) (T:List ByteArray) (L:Nat) (x9 x11:Nat) :
  ∀ (rest done:List Int) (m:Nat),rest.length < m→done.length + rest.length=L→L≤1000→p90_L5 g2 n m g o x2 (pre.length:Int) pre.length (L:Int) (done.length:Int) (pre ++ (lv,ar,done ++ rest,T) :: post) x8 x9 pre.length x11=g2 g o x2 ((pre.length + 1:Nat):Int) (pre ++ (lv,ar,done ++ rest.map (tn g o),T) :: post)
 | [],done,0,h,_,_=>by simp at h
 | [],done,m + 1,h,hl,hL=>by
  have hl':done.length=L:=by simpa using hl
  show st90_L5 n _ _ _ _ _ _ _ _ _ _ _ _ _ _=_
  simp only [st90_L5,hl',lt_f,cond_false,List.map_nil,List.append_nil,wS (show pre.length≤1000000 by omega)]
 | x :: rest,done,0,h,_,_=>by simp at h
 | x :: rest,done,m + 1,h,hl,hL=>by
  have hl':done.length + (rest.length + 1)=L:=by simpa using hl
  have ih:=p90_L5_eq n g2 g o x2 x8 pre post hpre lv ar T L x9 x11 rest (done ++ [tn g o x]) m (by simp at h; omega) (by simp; omega) hL
  simp only [List.length_append,List.length_cons,List.length_nil,List.append_assoc,List.cons_append,List.nil_append,Nat.zero_add] at ih
  show st90_L5 n _ _ _ _ _ _ _ _ _ _ _ _ _ _=_
  simp only [st90_L5,lt_t (show done.length < L by omega),ge_t,lt_pre,toNat_cast,getD_pre,cond_true,set_pre,wS (show done.length≤1000000 by omega)]
  rw [List.map_cons,← ih]
  by_cases h1:x=g
  ·simp only [h1,decide_true,cond_true,tn,if_true]
  ·simp only [h1,decide_false,cond_false,tn,if_false]
theorem p90_L2_eq (n:Nat) (hn:2000≤n) (g o:Int) (L:Nat):∀ (post pre:List Bo) (m:Nat),post.length < m→pre.length + post.length=L→L≤1000→(∀ b ∈ post,b.2.2.1.length≤1000)→p90_L2 n m g o (L:Int) (pre.length:Int) (pre ++ post)=some ((),(pre ++ labV (tn g o) post,()))
 | [],pre,0,h,_,_,_=>by simp at h
 | [],pre,m + 1,h,hl,_,_=>by
  have hl':pre.length=L:=by simpa using hl
  show st90_L2 n _ _ _ _ _ _=_
  simp only [st90_L2,List.append_nil,hl',lt_f,cond_false,labV,List.map_nil]
 | b :: post,pre,0,h,_,_,_=>by simp at h
 | b :: post,pre,m + 1,h,hl,hL,hs=>by
  have hb:=hs b List.mem_cons_self
  simp only [List.length_cons] at hl h
  have ih:=p90_L2_eq n hn g o L post (pre ++ [(b.1,b.2.1,b.2.2.1.map (tn g o),b.2.2.2)]) m (by omega) (by simp; omega) hL (fun t ht=>hs t (List.mem_cons_of_mem _ ht))
  simp only [List.length_append,List.length_cons,List.length_nil,List.append_assoc,List.cons_append,List.nil_append,Nat.zero_add] at ih
  have h5:=p90_L5_eq n (p90_L2 n m) g o (L:Int) b.1 pre post (by omega) b.1 b.2.1 b.2.2.2 b.2.2.1.length pre.length pre.length b.2.2.1 [] n (by omega) (by simp) (by omega)
  simp only [List.nil_append,List.length_nil] at h5
  show st90_L2 n _ _ _ _ _ _=_
  simp only [st90_L2,lt_t (show pre.length < L by omega),ge_t,lt_pre,cond_true,toNat_cast,getD_pre]
  exact h5.trans ih
theorem q90_eq (n:Nat) (hn:2000≤n) (V:List Bo) (h5:V.length≤5) (hG:∀ b ∈ V,b.2.2.1.length≤1000) (g o:Int):q90 n (V,g,o,())=some ((),(labV (tn g o) V,())):=by
 have:=p90_L2_eq n hn g o V.length V [] n (by omega) (by simp) (by omega) hG
 simp only [List.nil_append,List.length_nil] at this
 exact this
theorem q86_eq (n i k:Nat) (hi:i≤1000) (hk:k≤1000):q86 n (((i:Int),(k:Int)),())=some ((oL i k,()),()):=by
 show st86_top n ((i:Int),(k:Int))=_
 rw [st86_top,wr (x:=16 * (i:Int)) (by omega) (by omega),wr (x:=1 + 16 * (i:Int)) (by omega) (by omega),wr (by simp only; omega) (by simp only; omega)]
 rfl
def Occ (V:List Bo) (g:Int):Prop:=∃ i k,i < V.length∧k < (rb V i).2.2.1.length∧(rb V i).2.2.1.getD k 0=g
def hT (V:List Bo) (t k:Nat):Int:=(rb V t).2.2.1.getD k 0
def JJ (V:List Bo) (t:Nat) (f:Int→Int):Prop:=∀ g,Occ V g→f g=g∨∃ k,k < 16∧hT V t k=g∧oL t k < g∧f g=oL t k
def UU (V:List Bo) (t:Nat):Prop:=∀ k,k < 16→Occ V (oL t k)→hT V t k=oL t k
def DD (V:List Bo) (t N:Nat) (f:Int→Int):Prop:=∀ k,k < N→f (hT V t k)≤oL t k
theorem oL_inj {t k k':Nat} (h:oL t k=oL t k'):k=k':=by unfold oL at h; omega
theorem JJ.inj {V:List Bo} {t:Nat} {f:Int→Int} (hJ:JJ V t f) (hU:UU V t) {g g':Int} (h:Occ V g) (h':Occ V g') (e:f g=f g'):g=g':=by
 rcases hJ g h with a | ⟨k,k1,k2,k3,k4⟩
 ·rcases hJ g' h' with a' | ⟨k',k1',k2',k3',k4'⟩
  ·rw [← a,← a',e]
  ·rw [a,k4'] at e
   have:=hU k' k1' (e ▸ h)
   omega
 ·rcases hJ g' h' with a' | ⟨k',k1',k2',k3',k4'⟩
  ·rw [a',k4] at e
   have:=hU k k1 (e ▸ h')
   omega
  ·rw [k4,k4'] at e
   have:=oL_inj e
   subst this
   omega
def stp (t k:Nat) (c:Int) (f:Int→Int) (x:Int):Int:=tn c (oL t k) (f x)
theorem JJ.step {V:List Bo} {t k:Nat} {f:Int→Int} (hJ:JJ V t f) (hU:UU V t) (hk:k < 16) (ho:Occ V (hT V t k)) (hc:oL t k < f (hT V t k)) :
  JJ V t (stp t k (f (hT V t k)) f)∧(∀ g,Occ V g→stp t k (f (hT V t k)) f g≤f g)∧stp t k (f (hT V t k)) f (hT V t k)=oL t k:=by
 have hle:f (hT V t k)≤hT V t k:=by
  rcases hJ _ ho with a | ⟨k',_,k2,k3,k4⟩
  ·omega
  ·omega
 refine ⟨fun g hg=>?_,fun g hg=>?_,?_⟩
 ·by_cases e:f g=f (hT V t k)
  ·have eg:=hJ.inj hU hg ho e
   right
   refine ⟨k,hk,eg.symm,by omega,?_⟩
   unfold stp tn; rw [if_pos e]
  ·have:stp t k (f (hT V t k)) f g=f g:=by unfold stp tn; rw [if_neg e]
   rw [this]; exact hJ g hg
 ·unfold stp tn
  split
  ·rename_i e; omega
  ·exact Int.le_refl _
 ·unfold stp tn; rw [if_pos rfl]
theorem DD.mono {V:List Bo} {t N:Nat} {f f':Int→Int} (h:DD V t N f) (hN:N≤16) (hoc:∀ k,k < 16→Occ V (hT V t k)) (hle:∀ g,Occ V g→f' g≤f g):DD V t N f':=fun k hk=>by
 have:=hle _ (hoc k (by omega))
 have:=h k hk
 omega
theorem labels_uniq {V:List Bo} {t:Nat} {f1 f2:Int→Int} (h1:JJ V t f1) (d1:DD V t 16 f1) (h2:JJ V t f2) (d2:DD V t 16 f2):labV f1 V=labV f2 V:=by
 have key:∀ g,Occ V g→f1 g=f2 g:=fun g hg=>by
  rcases h1 g hg with a | ⟨k,k1,k2,k3,k4⟩
  ·rcases h2 g hg with a' | ⟨k',k1',k2',k3',k4'⟩
   ·rw [a,a']
   ·have:=d1 k' k1'; rw [k2',a] at this; omega
  ·rcases h2 g hg with a' | ⟨k',k1',k2',k3',k4'⟩
   ·have:=d2 k k1; rw [k2,a'] at this; omega
   ·have e1:=d1 k' k1'
    have e2:=d2 k k1
    rw [k2',k4] at e1
    rw [k2,k4'] at e2
    omega
 unfold labV
 apply List.map_congr_left
 intro b hb
 obtain ⟨i,hi,rfl⟩:=List.getElem_of_mem hb
 have eg:V[i]=rb V i:=by rw [rb,List.getD_eq_getElem?_getD,List.getElem?_eq_getElem hi]; rfl
 have:V[i].2.2.1.map f1=V[i].2.2.1.map f2:=by
  apply List.map_congr_left
  intro g hg
  obtain ⟨k,hk,rfl⟩:=List.getElem_of_mem hg
  apply key
  refine ⟨i,k,hi,by rw [← eg]; exact hk,?_⟩
  rw [← eg,List.getD_eq_getElem?_getD,List.getElem?_eq_getElem hk]; rfl
 rw [this]
structure TV (V:List Bo) (t:Nat):Prop where
 h5:V.length≤5
 gl:∀ i,i < V.length→(rb V i).2.2.1.length=16∨(rb V i).2.2.1.length=0
 ht:t < V.length
 gt:(rb V t).2.2.1.length=16
 uu:UU V t
theorem TV.oc {V:List Bo} {t:Nat} (h:TV V t) (k:Nat) (hk:k < 16):Occ V (hT V t k):=⟨t,k,h.ht,by rw [h.gt]; exact hk,rfl⟩
theorem TV.small {V:List Bo} {t:Nat} (h:TV V t) (f:Int→Int):∀ b ∈ labV f V,b.2.2.1.length≤1000:=fun b hb=>by
 obtain ⟨i,hi,rfl⟩:=List.getElem_of_mem hb
 rw [labV_len] at hi
 have eg:(labV f V)[i]'(by rw [labV_len]; exact hi)=rb (labV f V) i:=by rw [rb,List.getD_eq_getElem?_getD,List.getElem?_eq_getElem (by rw [labV_len]; exact hi)]; rfl
 rw [eg,labV_rb f hi]
 simp only [List.length_map]
 rcases h.gl i hi with e | e <;> omega
theorem p26_L15_eq (n:Nat) (hn:2000≤n) (V:List Bo) (t:Nat) (hV:TV V t):∀ (d k m:Nat) (f:Int→Int),k + d=16→d < m→JJ V t f→DD V t k f→∃ f',p26_L15 n m (t:Int) (k:Int) (labV f V)=some ((labV f' V,(true,())),())∧JJ V t f'∧DD V t 16 f'
 | _,k,0,f,_,h,_,_=>by omega
 | 0,k,m + 1,f,hk,h,hJ,hD=>by
  obtain rfl:k=16:=by omega
  show ∃ f',st26_L15 n _ _ _ _=_∧_
  simp only [st26_L15]
  exact ⟨f,rfl,hJ,hD⟩
 | d + 1,k,m + 1,f,hk,h,hJ,hD=>by
  have h5:=hV.h5
  have hk16:k < 16:=by omega
  have hg:(List.getD (labV f V) t (false,[],[],[])).2.2.1=(rb V t).2.2.1.map f:=by
   have:=labV_rb f hV.ht
   rw [rb] at this; rw [this]
  have hgl:((rb V t).2.2.1.map f).length=16:=by rw [List.length_map]; exact hV.gt
  have hgd:((rb V t).2.2.1.map f).getD k 0=f (hT V t k):=mapG f (by rw [hV.gt]; exact hk16)
  show ∃ f',st26_L15 n _ _ _ _=_∧_
  simp only [st26_L15,show decide ((k:Int) < 16)=true from decide_eq_true (by omega),cond_true,ge_t,toNat_cast,labV_len,lt_t hV.ht,hg,hgd,lt_t (show k < ((rb V t).2.2.1.map f).length by omega)]
  rw [q86_eq n t k (by have:=hV.ht; omega) (by omega)]
  simp only [Option.bind_some,wS (show k≤1000000 by omega)]
  by_cases hc:oL t k < f (hT V t k)
  ·obtain ⟨s1,s2,s3⟩:=hJ.step hV.uu hk16 (hV.oc k hk16) hc
   simp only [hc,decide_true,cond_true]
   rw [q90_eq n hn (labV f V) (by rw [labV_len]; exact h5) (hV.small f)]
   simp only [Option.bind_some,labV_comp]
   refine p26_L15_eq n hn V t hV d (k + 1) m (stp t k (f (hT V t k)) f) (by omega) (by omega) s1 fun k' hk'=>?_
   by_cases e:k'=k
   ·subst e; omega
   ·exact (hD.mono (by omega) hV.oc s2) k' (by omega)
  ·simp only [hc,decide_false,cond_false]
   refine p26_L15_eq n hn V t hV d (k + 1) m f (by omega) (by omega) hJ fun k' hk'=>?_
   by_cases e:k'=k
   ·subst e; omega
   ·exact hD k' (by omega)
theorem p25_L22_eq (n:Nat) (hn:2000≤n) (g19:Int→Int→List Bo→Option R25) (V:List Bo) (t:Nat) (hV:TV V t) (i:Nat) (hi:i < V.length):∀ (d k m:Nat) (f:Int→Int),k + d=(rb V i).2.2.1.length→d < m→JJ V t f→(i=t→DD V t k f)→∃ f',p25_L22 g19 n m (t:Int) (i:Int) (k:Int) (labV f V)=g19 (t:Int) ((i + 1:Nat):Int) (labV f' V)∧JJ V t f'∧(∀ g,Occ V g→f' g≤f g)∧(i=t→DD V t 16 f')
 | _,k,0,f,_,h,_,_=>by omega
 | 0,k,m + 1,f,hk,h,hJ,hD=>by
  have h5:=hV.h5
  have hg:(List.getD (labV f V) i (false,[],[],[])).2.2.1=(rb V i).2.2.1.map f:=by
   have:=labV_rb f hi
   rw [rb] at this; rw [this]
  have hl:¬ ((k:Int) < (((rb V i).2.2.1.map f).length:Int)):=by rw [List.length_map]; omega
  refine ⟨f,?_,hJ,fun _ _=>Int.le_refl _,fun e=>?_⟩
  ·show st25_L22 n _ _ _ _ _ _=_
   simp only [st25_L22,ge_t,labV_len,lt_t hi,cond_true,toNat_cast,hg,decide_eq_false hl,cond_false,wS (show i≤1000000 by omega)]
  ·have:=hD e
   subst e
   have hgt:=hV.gt
   have:k=16:=by omega
   subst this
   assumption
 | d + 1,k,m + 1,f,hk,h,hJ,hD=>by
  have h5:=hV.h5
  have hkl:k < (rb V i).2.2.1.length:=by omega
  have hk16:k < 16:=by rcases hV.gl i hi with e | e <;> omega
  have hg:∀ j,j < V.length→(List.getD (labV f V) j (false,[],[],[])).2.2.1=(rb V j).2.2.1.map f:=fun j hj=>by
   have:=labV_rb f hj
   rw [rb] at this; rw [this]
  have hkt:k < ((rb V t).2.2.1.map f).length:=by rw [List.length_map,hV.gt]; exact hk16
  have hki:k < ((rb V i).2.2.1.map f).length:=by rw [List.length_map]; exact hkl
  have hgd:((rb V t).2.2.1.map f).getD k 0=f (hT V t k):=mapG f (by rw [hV.gt]; exact hk16)
  have hgi:((rb V i).2.2.1.map f).getD k 0=f ((rb V i).2.2.1.getD k 0):=mapG f hkl
  have ih:=fun f' hJ' hD'=>p25_L22_eq n hn g19 V t hV i hi d (k + 1) m f' (by omega) (by omega) hJ' hD'
  have ho:∀ a b:Nat,q82 n ((t:Int),(k:Int),())=some ((oL t k,()),()):=fun _ _=>q82_eq n t k (by have:=hV.ht; omega) (by omega)
  have keep:(i=t→f (hT V t k)≤oL t k)→∃ f',p25_L22 g19 n m (t:Int) (i:Int) ((k + 1:Nat):Int) (labV f V)=g19 (t:Int) ((i + 1:Nat):Int) (labV f' V)∧JJ V t f'∧(∀ g,Occ V g→f' g≤f g)∧(i=t→DD V t 16 f'):=fun hkp =>
   ih f hJ fun e k' hk'=>by
    by_cases e2:k'=k
    ·subst e2; exact hkp e
    ·exact hD e k' (by omega)
  show ∃ f',st25_L22 n _ _ _ _ _ _=_∧_
  simp only [st25_L22,ge_t,labV_len,lt_t hi,lt_t hV.ht,cond_true,toNat_cast,hg i hi,hg t hV.ht,lt_t hki,lt_t hkt,hgi,hgd,wS (show k≤1000000 by omega)]
  rw [ho 0 0]
  simp only [Option.bind_some]
  by_cases c0:f ((rb V i).2.2.1.getD k 0)=0
  ·simp only [c0,decide_true,Bool.not_true,cond_false]
   refine keep fun e=>?_
   subst e
   have:f (hT V i k)=0:=c0
   rw [this]; unfold oL; omega
  ·simp only [c0,decide_false,Bool.not_false,cond_true]
   by_cases c1:oL t k < f ((rb V i).2.2.1.getD k 0)
   ·simp only [c1,decide_true,cond_true]
    by_cases c2:f (hT V t k)=f ((rb V i).2.2.1.getD k 0)
    ·simp only [c2,decide_true,cond_true]
     rw [q83_eq n hn (labV f V) (by rw [labV_len]; exact h5) (hV.small f)]
     simp only [Option.bind_some,labV_comp]
     obtain ⟨s1,s2,s3⟩:=hJ.step hV.uu hk16 (hV.oc k hk16) (by omega)
     rw [c2] at s1 s2 s3
     obtain ⟨f',r1,r2,r3,r4⟩:=ih _ s1 fun e k' hk'=>by
      by_cases e2:k'=k
      ·subst e2; omega
      ·exact ((hD e).mono (by omega) hV.oc s2) k' (by omega)
     exact ⟨f',r1,r2,fun g hg=>Int.le_trans (r3 g hg) (s2 g hg),r4⟩
    ·simp only [c2,decide_false,cond_false]
     exact keep fun e=>by subst e; exact absurd rfl c2
   ·simp only [c1,decide_false,cond_false]
    refine keep fun e=>?_
    subst e
    have:f (hT V i k)=f ((rb V i).2.2.1.getD k 0):=rfl
    omega
theorem p25_L19_eq (n:Nat) (hn:2000≤n) (V:List Bo) (t:Nat) (hV:TV V t):∀ (d i m:Nat) (f:Int→Int),i + d=V.length→d < m→JJ V t f→(t < i→DD V t 16 f)→∃ f',p25_L19 n m (t:Int) (i:Int) (labV f V)=some ((labV f' V,(true,())),())∧JJ V t f'∧DD V t 16 f'
 | _,i,0,f,_,h,_,_=>by omega
 | 0,i,m + 1,f,hk,h,hJ,hD=>by
  obtain rfl:i=V.length:=by omega
  show ∃ f',st25_L19 n _ _ _ _=_∧_
  simp only [st25_L19,labV_len,lt_f,cond_false]
  exact ⟨f,rfl,hJ,hD hV.ht⟩
 | d + 1,i,m + 1,f,hk,h,hJ,hD=>by
  have hi:i < V.length:=by omega
  have hl:(rb V i).2.2.1.length < n:=by rcases hV.gl i hi with e | e <;> omega
  obtain ⟨f1,r1,r2,r3,r4⟩:=p25_L22_eq n hn (p25_L19 n m) V t hV i hi (rb V i).2.2.1.length 0 n f (by omega) hl hJ (fun _ k hk=>by omega)
  obtain ⟨f2,s1,s2,s3⟩:=p25_L19_eq n hn V t hV d (i + 1) m f1 (by omega) (by omega) r2 fun ht=>by
   by_cases e:i=t
   ·exact r4 e
   ·exact (hD (by omega)).mono (by omega) hV.oc r3
  show ∃ f',st25_L19 n _ _ _ _=_∧_
  simp only [st25_L19,labV_len,lt_t hi,cond_true]
  exact ⟨f2,r1.trans s1,s2,s3⟩
theorem JJ.id (V:List Bo) (t:Nat):JJ V t (fun x=>x):=fun g _=>.inl rfl
theorem turn_same (n:Nat) (hn:2000≤n) (V:List Bo) (t:Nat) (hV:TV V t):∃ f,p26_L15 n n (t:Int) 0 V=some ((labV f V,(true,())),())∧p25_L19 n n (t:Int) 0 V=some ((labV f V,(true,())),()):=by
 have h5:=hV.h5
 obtain ⟨f1,a1,a2,a3⟩:=p26_L15_eq n hn V t hV 16 0 n (fun x=>x) (by omega) (by omega) (JJ.id V t) (fun k hk=>by omega)
 obtain ⟨f2,b1,b2,b3⟩:=p25_L19_eq n hn V t hV V.length 0 n (fun x=>x) (by omega) (by omega) (JJ.id V t) (fun h=>by omega)
 rw [labV_id] at a1 b1
 refine ⟨f1,a1,?_⟩
 rw [labels_uniq a2 a3 b2 b3]
 exact b1
end Go.Proofs.Ytdkaagpkeomhmaa.Rx.S

namespace Go.Proofs.Ytdkaagpkeomhmaa.Rx.S
open Go Go.Proofs.Ytdkaagpkeomhmaa.Rx Go.Proofs.Ytdkaagpkeomhmaa.Rx.Pu
set_option linter.unusedVariables false
set_option linter.unusedSimpArgs false
set_option maxRecDepth 100000
def fdI:List Bo→Nat→Int
 | [],_=>-1
 | b :: l,i=>if b.1=false then (i:Int) else fdI l (i + 1)
theorem fdI_cases:∀ (l:List Bo) (i:Nat),(fdI l i = -1)∨∃ t:Nat,fdI l i=((i + t:Nat):Int)∧t < l.length∧(rb l t).1=false
 | [],i=>.inl rfl
 | b :: l,i=>by
  by_cases h:b.1=false
  ·exact .inr ⟨0,by unfold fdI; rw [if_pos h]; rfl,by simp,h⟩
  ·rcases fdI_cases l (i + 1) with e | ⟨t,e1,e2,e3⟩
   ·exact .inl (by unfold fdI; rw [if_neg h]; exact e)
   ·refine .inr ⟨t + 1,by unfold fdI; rw [if_neg h,e1]; congr 1; omega,by simp; omega,?_⟩
    exact e3
theorem fdI_drop {V:List Bo} {i:Nat} (h:i < V.length):fdI (V.drop i) i=if (rb V i).1=false then (i:Int) else fdI (V.drop (i + 1)) (i + 1):=by
 rw [getD_drop (d:=(false,[],[],[])) h]
 rfl
theorem q84_eq (n:Nat) (hn:2000≤n) (V:List Bo) (h5:V.length≤5):q84 n (V,(),())=some ((fdI V 0,()),()):=by
 have go:∀ (d i m:Nat),i + d=V.length→d < m→p84_L2 n m V (V.length:Int) (i:Int)=some ((fdI (V.drop i) i,()),()):=by
  intro d
  induction d with
  | zero =>
   intro i m hi h
   cases m with
   | zero=>omega
   | succ m =>
    obtain rfl:i=V.length:=by omega
    show st84_L2 n _ _ _ _=_
    simp only [st84_L2,lt_f,cond_false,List.drop_length,fdI]
  | succ d ih =>
   intro i m hi h
   cases m with
   | zero=>omega
   | succ m =>
    have hl:i < V.length:=by omega
    have e85:q85 n (((V.getD i (false,[],[],[])).1,(V.getD i (false,[],[],[])).2.1,(V.getD i (false,[],[],[])).2.2.1,(V.getD i (false,[],[],[])).2.2.2),())=some ((!(V.getD i (false,[],[],[])).1,()),()):=rfl
    show st84_L2 n _ _ _ _=_
    simp only [st84_L2,lt_t hl,ge_t,cond_true,toNat_cast]
    rw [e85,fdI_drop hl]
    simp only [Option.bind_some,wS (show i≤1000000 by omega),rb]
    cases (V.getD i (false,[],[],[])).1 with
    | false=>rfl
    | true =>
     simp only [Bool.not_true,cond_false]
     rw [ih (i + 1) m (by omega) (by omega)]
     simp
 exact go V.length 0 n (by omega) (by omega)
def mn (w t:Nat):Nat:=if t < w then t else w
theorem mn_cast (w t:Nat):(if (t:Int) < (w:Int) then (t:Int) else (w:Int))=((mn w t:Nat):Int):=by
 unfold mn
 by_cases h:t < w
 ·rw [if_pos h,if_pos (by omega)]
 ·rw [if_neg h,if_neg (by omega)]
def fg (ar:List Ar) (w t k:Nat) (x:Int):Int:=if 0≤at2 ar k∧(ar.getD (at2 ar k).toNat (0,0,false,false)).2.2.2=true∧x=0 then oL (mn w t) k else x
theorem p26_L7_eq (n:Nat) (hn:2000≤n) (t:Nat) (pre post:List Bo) (lv:Bool) (ar:List Ar) (T:List ByteArray) (har:ar.length≤6) (hok:aok n ar=true) (hT:T.length≤16) (ht:t < pre.length + 1 + post.length) (hp:pre.length + 1 + post.length≤5) :
  ∀ (rest done:List Int) (m:Nat),rest.length < m→done.length + rest.length=16→p26_L7 n m (pre.length:Int) (t:Int) pre.length (done.length:Int) (pre ++ (lv,ar,done ++ rest,T) :: post)=p26_L15 n n (t:Int) 0 ((pre ++ (lv,ar,done ++ mapI (fg ar pre.length t) done.length rest,T) :: post).set t (true,ar,done ++ mapI (fg ar pre.length t) done.length rest,T))
 | [],done,0,h,_=>by simp at h
 | [],done,m + 1,h,hl=>by
  have hl':done.length=16:=by simpa using hl
  have c1:q87 n (ar,())=some ((ar,()),()):=by
   show p87 n ar=_
   rw [p87,show decide ((0 + ar.length) * 24≤140737488355328)=true from decide_eq_true (by omega)]; rfl
  have c2:q88 n (done,())=some ((done,()),()):=by
   show p88 n done=_
   rw [p88,show decide ((0 + done.length) * 8≤140737488355328)=true from decide_eq_true (by omega)]; rfl
  have c3:q89 n (T,())=some ((T,()),()):=by
   show p89 n T=_
   rw [p89,show decide ((0 + T.length) * 16≤140737488355328)=true from decide_eq_true (by omega)]; rfl
  have hlen:t < (pre ++ (lv,ar,done,T) :: post).length:=by simp; omega
  show st26_L7 n _ _ _ _ _ _ _=_
  simp only [st26_L7,hl',show decide (((16:Nat):Int) < 16)=false from rfl,cond_false,getD_pre,List.append_nil,mapI]
  rw [c1]
  simp only [Option.bind_some]
  rw [c2]
  simp only [Option.bind_some]
  rw [c3]
  simp only [Option.bind_some,ge_t,lt_t hlen,cond_true,toNat_cast]
 | x :: rest,done,0,h,_=>by simp at h
 | x :: rest,done,m + 1,h,hl=>by
  have hl':done.length + (rest.length + 1)=16:=by simpa using hl
  have ih:=p26_L7_eq n hn t pre post lv ar T har hok hT ht hp rest (done ++ [fg ar pre.length t done.length x]) m (by simp at h; omega) (by simp; omega)
  simp only [List.length_append,List.length_cons,List.length_nil,List.append_assoc,List.cons_append,List.nil_append,Nat.zero_add] at ih
  have hrg:=at2_rng ar done.length
  show st26_L7 n _ _ _ _ _ _ _=_
  simp only [st26_L7,show decide ((done.length:Int) < 16)=true from decide_eq_true (by omega),cond_true,getD_pre]
  rw [q60_eq n hn ar done.length (by omega) (by rw [q127_eq n hn ar (by omega),hok])]
  simp only [Option.bind_some,wS (show done.length≤1000000 by omega),mapI]
  by_cases ha:0≤at2 ar done.length
  ·simp only [ha,decide_true,cond_true,decide_eq_true hrg.2]
   cases hsh:(ar.getD (at2 ar done.length).toNat (0,0,false,false)).2.2.2 with
   | false =>
    have e:fg ar pre.length t done.length x=x:=by unfold fg; rw [if_neg]; rintro ⟨_,h,_⟩; rw [hsh] at h; cases h
    simp only [cond_false]
    rw [e] at ih ⊢
    exact ih
   | true =>
    simp only [cond_true,ge_t,lt_pre,toNat_cast,getD_pre,set_pre,mn_cast]
    rw [q86_eq n (mn pre.length t) done.length (by unfold mn; split <;> omega) (by omega)]
    simp only [Option.bind_some]
    by_cases hx:x=0
    ·have e:fg ar pre.length t done.length x=oL (mn pre.length t) done.length:=by unfold fg; rw [if_pos ⟨ha,hsh,hx⟩]
     simp only [show decide (x=0)=true from decide_eq_true hx,cond_true]
     rw [e] at ih ⊢
     exact ih
    ·have e:fg ar pre.length t done.length x=x:=by unfold fg; rw [if_neg (fun h=>hx h.2.2)]
     simp only [show decide (x=0)=false from decide_eq_false hx,cond_false]
     rw [e] at ih ⊢
     exact ih
  ·have e:fg ar pre.length t done.length x=x:=by unfold fg; rw [if_neg (fun h=>ha h.1)]
   simp only [ha,decide_false,cond_false]
   rw [e] at ih ⊢
   exact ih
theorem p25_L11_eq (n:Nat) (hn:2000≤n) (t:Nat) (Vo pre post:List Bo) (lv:Bool) (ar:List Ar) (T:List ByteArray) (hw:pre.length < Vo.length) (hVo:(rb Vo pre.length).2.1=ar) (har:ar.length≤6) (hT:T.length≤16) (ht:t < pre.length + 1 + post.length) (hp:pre.length + 1 + post.length≤5) :
  ∀ (rest done:List Int) (m:Nat),rest.length < m→done.length + rest.length=16→p25_L11 n m (pre.length:Int) (t:Int) (done.length:Int) Vo (pre ++ (lv,ar,done ++ rest,T) :: post)=p25_L19 n n (t:Int) 0 ((pre ++ (lv,ar,done ++ mapI (fg ar pre.length t) done.length rest,T) :: post).set t (true,ar,done ++ mapI (fg ar pre.length t) done.length rest,T))
 | [],done,0,h,_=>by simp at h
 | [],done,m + 1,h,hl=>by
  have hl':done.length=16:=by simpa using hl
  have hlen:t < (pre ++ (lv,ar,done,T) :: post).length:=by simp; omega
  show st25_L11 n _ _ _ _ _ _ _=_
  simp only [st25_L11,hl',show decide (((16:Nat):Int) < 16)=false from rfl,cond_false,List.append_nil,mapI,ge_t,lt_pre,cond_true,toNat_cast,getD_pre,show decide ((0 + ar.length) * 24≤140737488355328)=true from decide_eq_true (by omega),show decide ((0 + 16) * 8≤140737488355328)=true from rfl,show decide ((0 + T.length) * 16≤140737488355328)=true from decide_eq_true (by omega),lt_t hlen]
 | x :: rest,done,0,h,_=>by simp at h
 | x :: rest,done,m + 1,h,hl=>by
  have hl':done.length + (rest.length + 1)=16:=by simpa using hl
  have ih:=p25_L11_eq n hn t Vo pre post lv ar T hw hVo har hT ht hp rest (done ++ [fg ar pre.length t done.length x]) m (by simp at h; omega) (by simp; omega)
  simp only [List.length_append,List.length_cons,List.length_nil,List.append_assoc,List.cons_append,List.nil_append,Nat.zero_add] at ih
  have hrg:=at2_rng ar done.length
  have hVo':(Vo.getD pre.length (false,[],[],[])).2.1=ar:=hVo
  show st25_L11 n _ _ _ _ _ _ _=_
  simp only [st25_L11,show decide ((done.length:Int) < 16)=true from decide_eq_true (by omega),cond_true,getD_pre,ge_t,lt_t hw,toNat_cast,hVo']
  rw [q71_eq n hn ar done.length (by omega)]
  simp only [Option.bind_some,wS (show done.length≤1000000 by omega),mapI]
  by_cases ha:0≤at2 ar done.length
  ·simp only [ha,decide_true,cond_true,decide_eq_true hrg.2]
   cases hsh:(ar.getD (at2 ar done.length).toNat (0,0,false,false)).2.2.2 with
   | false =>
    have e:fg ar pre.length t done.length x=x:=by unfold fg; rw [if_neg]; rintro ⟨_,h,_⟩; rw [hsh] at h; cases h
    simp only [cond_false]
    rw [e] at ih ⊢
    exact ih
   | true =>
    simp only [cond_true,ge_t,lt_pre,toNat_cast,getD_pre,set_pre,mn_cast]
    have e82:q82 n (((mn pre.length t:Nat):Int),(done.length:Int),())=some ((oL (mn pre.length t) done.length,()),()):=q82_eq n (mn pre.length t) done.length (by unfold mn; split <;> omega) (by omega)
    rw [e82]
    simp only [Option.bind_some]
    by_cases hx:x=0
    ·have e:fg ar pre.length t done.length x=oL (mn pre.length t) done.length:=by unfold fg; rw [if_pos ⟨ha,hsh,hx⟩]
     simp only [show decide (x=0)=true from decide_eq_true hx,cond_true]
     rw [e] at ih ⊢
     exact ih
    ·have e:fg ar pre.length t done.length x=x:=by unfold fg; rw [if_neg (fun h=>hx h.2.2)]
     simp only [show decide (x=0)=false from decide_eq_false hx,cond_false]
     rw [e] at ih ⊢
     exact ih
  ·have e:fg ar pre.length t done.length x=x:=by unfold fg; rw [if_neg (fun h=>ha h.1)]
   simp only [ha,decide_false,cond_false]
   rw [e] at ih ⊢
   exact ih
theorem p25_L3_eq (n:Nat) (V:List Bo) (h5:V.length≤5) (w:Int):∀ (c m:Nat),c≤V.length→c < m→p25_L3 n m w (fdI (V.drop c) c) ((c:Int) - 1) V=p25_L3 n (m - c) w (fdI V 0) (-1) V
 | _,0,_,h=>by omega
 | 0,m + 1,hc,h=>by simp
 | c + 1,m + 1,hc,h=>by
  have hl:c < V.length:=by omega
  have e1:(((c + 1:Nat):Int) - 1)=(c:Int):=by omega
  have e2:IntKind.i64.wrap ((c:Int) - 1)=(c:Int) - 1:=wr (by omega) (by omega)
  have ih:=p25_L3_eq n V h5 w c m (by omega) (by omega)
  rw [e1,show m + 1 - (c + 1)=m - c by omega,← ih,fdI_drop hl]
  show st25_L3 n _ _ _ _ _ _=_
  simp only [st25_L3,ge_t,lt_t hl,cond_true,toNat_cast,e2,rb]
  cases (V.getD c (false,[],[],[])).1 <;> simp
end Go.Proofs.Ytdkaagpkeomhmaa.Rx.S

namespace Go.Proofs.Ytdkaagpkeomhmaa.Rx.S
open Go Go.Proofs.Ytdkaagpkeomhmaa.Rx Go.Proofs.Ytdkaagpkeomhmaa.Rx.Pu
set_option linter.unusedVariables false
set_option linter.unusedSimpArgs false
set_option maxRecDepth 100000
def G1f (V:List Bo) (w t:Nat):List Int:=mapI (fg (rb V w).2.1 w t) 0 (rb V w).2.2.1
def V0f (V:List Bo) (w t:Nat):List Bo:=(V.set w ((rb V w).1,(rb V w).2.1,G1f V w t,(rb V w).2.2.2)).set t (true,(rb V w).2.1,G1f V w t,(rb V w).2.2.2)
theorem V0f_rb {V:List Bo} {w t:Nat} (hw:w < V.length) (ht:t < V.length) (i:Nat) (hi:i < V.length):rb (V0f V w t) i=if i=t then (true,(rb V w).2.1,G1f V w t,(rb V w).2.2.2) else if i=w then ((rb V w).1,(rb V w).2.1,G1f V w t,(rb V w).2.2.2) else rb V i:=by
 unfold V0f rb
 rw [getD_set _ _ _ _ _ (by simpa using ht)]
 split
 ·rfl
 ·rw [getD_set _ _ _ _ _ hw]
theorem V0f_TV {V:List Bo} (hV:VB V) (hG:GI V) (hL:LBv V) {w t:Nat} (hw:w < V.length) (ht:t < V.length) (hlw:(rb V w).1=true) (hdt:(rb V t).1=false):TV (V0f V w t) t:=by
 have h5:=hV.len
 have hgl:(rb V w).2.2.1.length=16:=(hG.ll w hw hlw).1
 have hG1:(G1f V w t).length=16:=by unfold G1f; rw [mapI_len]; exact hgl
 have hlen:(V0f V w t).length=V.length:=by simp [V0f]
 refine ⟨by omega,fun i hi=>?_,by omega,?_,fun k hk hocc=>?_⟩
 ·rw [V0f_rb hw ht i (by omega)]
  split
  ·exact .inl hG1
  ·split
   ·exact .inl hG1
   ·cases hv:(rb V i).1 with
    | true=>exact .inl (hG.ll i (by omega) hv).1
    | false=>rw [hG.dd i (by omega) hv]; exact .inr rfl
 ·rw [V0f_rb hw ht t ht,if_pos rfl]; exact hG1
 ·have hold:∀ i k',i < V.length→(rb V i).2.2.1.getD k' 0=oL t k→False:=fun i k' hi e=>by
   rcases hL i k' hi with h | ⟨i0,k0,h1,h2,h3,h4⟩
   ·rw [h] at e; unfold oL at e; omega
   ·rw [h4] at e
    unfold oL at e
    have:i0=t:=by omega
    rw [this,hdt] at h2; cases h2
  have hnew:∀ k',k' < 16→(G1f V w t).getD k' 0=oL t k→(G1f V w t).getD k 0=oL t k:=fun k' hk' e=>by
   have e1:(G1f V w t).getD k' 0=fg (rb V w).2.1 w t k' ((rb V w).2.2.1.getD k' 0):=by
    unfold G1f; rw [mapI_getD _ (0:Int) _ _ _ _ (by omega),Nat.zero_add]
   have e':=e
   rw [e1] at e'
   unfold fg at e'
   split at e'
   ·have:k'=k:=by
     unfold oL mn at e'
     split at e' <;> omega
    rw [← this]; rw [e,this]
   ·exact absurd e' (fun h=>hold w k' hw h)
  obtain ⟨i,k',hi,hk',e⟩:=hocc
  rw [hlen] at hi
  unfold hT
  rw [V0f_rb hw ht t ht,if_pos rfl]
  rw [V0f_rb hw ht i hi] at hk' e
  split at e
  ·rename_i h; rw [if_pos h] at hk'; exact hnew k' (by simp only at hk'; omega) e
  ·rename_i h
   rw [if_neg h] at hk'
   split at e
   ·rename_i h2; rw [if_pos h2] at hk'; exact hnew k' (by simp only at hk'; omega) e
   ·exact absurd e (fun h=>hold i k' hi h)
theorem split_at {V:List Bo} {w:Nat} (hw:w < V.length):∃ pre post,V=pre ++ rb V w :: post∧pre.length=w:=by
 refine ⟨V.take w,V.drop (w + 1),?_,by rw [List.length_take]; omega⟩
 have:=getD_drop (d:=(false,[],[],[])) hw
 rw [rb,← this,List.take_append_drop]
theorem fork_eq (n:Nat) (hn:2000≤n) (V:List Bo) (hO:VOk V) (w:Int):∃ V' ok,q26 n (V,w,())=some ((V',(ok,())),())∧q25 n (V,w,())=some ((V',(ok,())),())∧VB V' ∧
  (ok=true→∃ (i t:Nat) (f:Int→Int),w=(i:Int)∧i < V.length∧t < V.length∧(rb V i).1=true∧(rb V t).1=false∧V'=labV f (V0f V i t)):=by
 have hV:=hO.vb
 have hG:=hO.gi
 have h5:=hV.len
 have e1:q26 n (V,w,())=st26_top n (p26_L7 n n) V w:=rfl
 have e2:q25 n (V,w,())=st25_top n (p25_L3 n n) V w:=rfl
 have ew:IntKind.i64.wrap ((V.length:Int) - 1)=(V.length:Int) - 1:=wr (by omega) (by omega)
 have h3:=p25_L3_eq n V h5 w V.length n (Nat.le_refl _) (by omega)
 rw [List.drop_length] at h3
 have h3':p25_L3 n n w (-1) ((V.length:Int) - 1) V=p25_L3 n (n - V.length) w (fdI V 0) (-1) V:=h3
 obtain ⟨m,hm⟩:∃ m,n - V.length=m + 1:=⟨n - V.length - 1,by omega⟩
 have e3:p25_L3 n (m + 1) w (fdI V 0) (-1) V=st25_L3 n (p25_L3 n m) (p25_L11 n n) w (fdI V 0) (-1) V:=rfl
 rw [e1,e2,st26_top,st25_top,ew,h3',hm,e3,st25_L3,q84_eq n hn V h5]
 simp only [Option.bind_some,show decide ((0:Int)≤-1)=false from rfl,cond_false]
 rw [q74_eq n hn V hV,q67_eq n hn V hV]
 simp only [Option.bind_some]
 cases ha:al n V w with
 | false=>exact ⟨[],false,rfl,rfl,.nil,fun h=>by cases h⟩
 | true =>
  obtain ⟨i,rfl,hi,a1,a2,a3,a4⟩:=al_nat ha
  simp only [Bool.not_true,cond_false]
  rcases fdI_cases V 0 with h | ⟨t,h,ht,hd⟩
  ·rw [h]
   exact ⟨[],false,rfl,rfl,.nil,fun h=>by cases h⟩
  ·rw [Nat.zero_add] at h
   rw [h]
   simp only [show decide ((t:Int) < 0)=false from decide_eq_false (by omega),cond_false]
   rw [q75_eq n hn V hV,q70_eq n hn V hV]
   simp only [Option.bind_some,ge_t,lt_t hi,cond_true,toNat_cast]
   obtain ⟨pre,post,hs,hp⟩:=split_at hi
   have hb:=hV.row hi
   have har:=hb.ar
   have hlen:pre.length + 1 + post.length=V.length:=by rw [hs]; simp; omega
   have s1:=p26_L7_eq n hn t pre post (rb V i).1 (rb V i).2.1 (rb V i).2.2.2 har a4 (by omega) (by omega) (by omega) (rb V i).2.2.1 [] n (by omega) (by simpa using a2)
   have s2:=p25_L11_eq n hn t V pre post (rb V i).1 (rb V i).2.1 (rb V i).2.2.2 (by omega) (by rw [hp]) har (by omega) (by omega) (by omega) (rb V i).2.2.1 [] n (by omega) (by simpa using a2)
   simp only [List.nil_append,List.length_nil] at s1 s2
   have hrow:pre ++ ((rb V i).1,(rb V i).2.1,(rb V i).2.2.1,(rb V i).2.2.2) :: post=V:=hs.symm
   rw [hrow] at s1 s2
   have hset:pre ++ ((rb V i).1,(rb V i).2.1,mapI (fg (rb V i).2.1 pre.length t) 0 (rb V i).2.2.1,(rb V i).2.2.2) :: post=V.set i ((rb V i).1,(rb V i).2.1,G1f V i t,(rb V i).2.2.2):=by
    have e:=set_pre pre (rb V i) ((rb V i).1,(rb V i).2.1,G1f V i t,(rb V i).2.2.2) post
    rw [← hs,hp] at e
    rw [e,hp]; rfl
   rw [hset] at s1 s2
   rw [hp] at s1 s2
   obtain ⟨f,t1,t2⟩:=turn_same n hn (V0f V i t) t (V0f_TV hV hG hO.lb hi ht a1 hd)
   have hlen0:(V0f V i t).length=V.length:=by simp [V0f]
   refine ⟨labV f (V0f V i t),true,s1.trans t1,s2.trans t2,⟨by rw [labV_len]; omega,fun b hb'=>?_⟩,fun _=>⟨i,t,f,rfl,hi,ht,a1,hd,rfl⟩⟩
   obtain ⟨q,hq,rfl⟩:=List.getElem_of_mem hb'
   have hq':q < V.length:=by rw [labV_len] at hq; omega
   have eg:(labV f (V0f V i t))[q]=rb (labV f (V0f V i t)) q:=by rw [rb,List.getD_eq_getElem?_getD,List.getElem?_eq_getElem hq]; rfl
   rw [eg,labV_rb f (by omega),V0f_rb hi ht q hq']
   have hG1:(G1f V i t).length=16:=by unfold G1f; rw [mapI_len]; exact a2
   split
   ·exact ⟨har,by simp only [List.length_map]; omega,by simp only [List.length_map]; omega⟩
   ·split
    ·exact ⟨har,by simp only [List.length_map]; omega,by simp only [List.length_map]; omega⟩
    ·have:=hV.row hq'
     exact ⟨this.ar,by simp only [List.length_map]; exact this.gl,by simp only [List.length_map]; exact this.tl⟩
theorem p9_L18_eq (n:Nat) (hn:2000≤n) (V V':List Bo) (hV:VB V) (w t:Nat) (hw:w < V.length) (ht:t < V.length) (hl:V'.length=V.length) (hT:∀ i,i < V.length→i ≠ t→(rb V' i).2.2.2=(rb V i).2.2.2) (hTt:(rb V' t).2.2.2=(rb V w).2.2.2) (hAt:(rb V' t).2.1=(rb V w).2.1):∀ (d i m:Nat),i + d=V.length→d < m→p9_L18 n m (w:Int) (t:Int) (i:Int) V V'=some ((true,()),())
 | _,i,0,_,h=>by omega
 | 0,i,m + 1,hi,h=>by
  obtain rfl:i=V.length:=by omega
  have hb:=hV.row hw
  have h1:=hb.ar
  have h2:=hb.gl
  have h3:=hb.tl
  have hTt':(V'.getD t (false,[],[],[])).2.2.2=(rb V w).2.2.2:=hTt
  have hAt':(V'.getD t (false,[],[],[])).2.1=(rb V w).2.1:=hAt
  show st9_L18 n _ _ _ _ _ _=_
  simp only [st9_L18,lt_f,cond_false,ge_t,lt_t (show t < V'.length by omega),lt_t hw,cond_true,toNat_cast,hTt',hAt']
  rw [q39_refl n hn _ (by omega)]
  simp only [Option.bind_some,cond_true]
  rw [q40_refl n hn _ (by omega)]
  rfl
 | d + 1,i,m + 1,hi,h=>by
  have h5:=hV.len
  have hil:i < V.length:=by omega
  have hb:=hV.row hil
  have h2:=hb.gl
  have h3:=hb.tl
  have ih:=p9_L18_eq n hn V V' hV w t hw ht hl hT hTt hAt d (i + 1) m (by omega) (by omega)
  show st9_L18 n _ _ _ _ _ _=_
  simp only [st9_L18,lt_t hil,cond_true,wS (show i≤1000000 by omega),ih]
  by_cases e:(i:Int)=(t:Int)
  ·simp only [e,decide_true,Bool.not_true,cond_false]
  ·have e':(V'.getD i (false,[],[],[])).2.2.2=(rb V i).2.2.2:=hT i hil (by omega)
   simp only [e,decide_false,Bool.not_false,cond_true,ge_t,lt_t (show i < V'.length by omega),toNat_cast,e']
   rw [q39_refl n hn _ (show (rb V i).2.2.2.length≤1000 by omega)]
   rfl
theorem p9_L11_eq (n:Nat) (hn:2000≤n) (V V':List Bo) (h5:V.length≤5) (w:Int) (t:Nat) (ht:t < V.length) (hl:V'.length=V.length) (hd:(rb V t).1=false) (hdt:(rb V' t).1=true) (hsm:∀ i,i < V.length→i ≠ t→(rb V' i).1=(rb V i).1) (hfin:p9_L18 n n w (t:Int) 0 V V'=some ((true,()),())):∀ (d i m:Nat),i + d=V.length→d < m→p9_L11 n m w (if t < i then (t:Int) else -1) (i:Int) V V'=some ((true,()),())
 | _,i,0,_,h=>by omega
 | 0,i,m + 1,hi,h=>by
  obtain rfl:i=V.length:=by omega
  rw [if_pos ht]
  show st9_L11 n _ _ _ _ _ _ _=_
  simp only [st9_L11,lt_f,cond_false,show decide ((t:Int) < 0)=false from decide_eq_false (by omega)]
  exact hfin
 | d + 1,i,m + 1,hi,h=>by
  have hil:i < V.length:=by omega
  have ih:=p9_L11_eq n hn V V' h5 w t ht hl hd hdt hsm hfin d (i + 1) m (by omega) (by omega)
  have e0:∀ x,p9_L11 n (m + 1) w x (i:Int) V V'=st9_L11 n (p9_L11 n m) (p9_L18 n n) w x (i:Int) V V':=fun _=>rfl
  rw [e0,st9_L11]
  simp only [lt_t hil,cond_true,ge_t,toNat_cast,lt_t (show i < V'.length by omega),wS (show i≤1000000 by omega)]
  by_cases e:i=t
  ·subst e
   have hd':(V.getD i (false,[],[],[])).1=false:=hd
   have hdt':(V'.getD i (false,[],[],[])).1=true:=hdt
   simp only [hd',hdt',Bool.not_false,cond_true]
   rw [if_pos (by omega)] at ih
   exact ih
  ·have hs:(V'.getD i (false,[],[],[])).1=(V.getD i (false,[],[],[])).1:=hsm i hil e
   have hx:(if t < i + 1 then (t:Int) else -1)=(if t < i then (t:Int) else -1):=by
    by_cases h1:t < i
    ·rw [if_pos h1,if_pos (by omega)]
    ·rw [if_neg h1,if_neg (by omega)]
   rw [hx] at ih
   simp only [hs]
   cases (V.getD i (false,[],[],[])).1 with
   | true=>exact ih
   | false=>exact ih
theorem q37_eq {l:List Int} (hl:∀ x ∈ l,0≤x∧x < 256):∃ V w,q37 2000 (l,())=some ((V,(w,())),())∧VOk V:=by
 have e0:q37 2000 (l,())=st37_top 2000 l:=rfl
 rw [e0,st37_top]
 obtain ⟨l',e1,h1⟩:=q45_eq 2000 hl
 rw [e1]
 simp only [Option.bind_some]
 obtain ⟨M,r,e2,h2,h3⟩:=q46_tot (l',0) h1
 rw [e2]
 simp only [Option.bind_some]
 obtain ⟨V,ok,e3,h4⟩:=q104_eq 2000 (by omega) M h2
 rw [e3]
 simp only [Option.bind_some]
 obtain ⟨v,p1,a1,b1,hr1⟩:=h3.pick (by omega) 2000 7 (by decide)
 rw [p1]
 simp only [Option.bind_some,decide_eq_true a1,cond_true,show decide (v < (([0,0,0,1,2,-1,5]:List Int).length:Int))=true from decide_eq_true b1]
 exact ⟨_,_,rfl,h4⟩
theorem law9 (l:List Int) (hl:∀ x ∈ l,0≤x∧x < 256):q9 2000 (l,())=some ((true,()),()):=by
 have e0:q9 2000 (l,())=st9_top 2000 (p9_L11 2000 2000) l:=rfl
 rw [e0,st9_top]
 cases decide ((1048576:Int) < (l.length:Int)) with
 | true=>rfl
 | false =>
  simp only [cond_false]
  obtain ⟨V,w,e1,h1⟩:=q37_eq hl
  rw [e1]
  simp only [Option.bind_some]
  obtain ⟨V',ok,s1,s2,s3,s4⟩:=fork_eq 2000 (by omega) V h1 w
  rw [s1,s2]
  simp only [Option.bind_some]
  rw [q38_refl 2000 (by omega) V' s3]
  simp only [Option.bind_some,cond_true]
  cases ok with
  | false=>rfl
  | true =>
   obtain ⟨i,t,f,rfl,hi,ht,a1,a2,rfl⟩:=s4 rfl
   have hV:=h1.vb
   have h5:=hV.len
   have hlen0:(V0f V i t).length=V.length:=by simp [V0f]
   have hit:i ≠ t:=fun e=>by rw [e,a2] at a1; cases a1
   have hr:∀ q,q < V.length→rb (labV f (V0f V i t)) q=((rb (V0f V i t) q).1,(rb (V0f V i t) q).2.1,(rb (V0f V i t) q).2.2.1.map f,(rb (V0f V i t) q).2.2.2):=fun q hq=>labV_rb f (by omega)
   have hfin:=p9_L18_eq 2000 (by omega) V (labV f (V0f V i t)) hV i t hi ht (by rw [labV_len,hlen0]) (fun q hq hne=>by
    rw [hr q hq,V0f_rb hi ht q hq,if_neg hne]
    split
    ·rename_i e; subst e; rfl
    ·rfl) (by rw [hr t ht,V0f_rb hi ht t ht,if_pos rfl]) (by rw [hr t ht,V0f_rb hi ht t ht,if_pos rfl]) V.length 0 2000 (by omega) (by omega)
   have:=p9_L11_eq 2000 (by omega) V (labV f (V0f V i t)) h5 (i:Int) t ht (by rw [labV_len,hlen0]) a2 (by rw [hr t ht,V0f_rb hi ht t ht,if_pos rfl]) (fun q hq hne=>by
    rw [hr q hq,V0f_rb hi ht q hq,if_neg hne]
    split
    ·rename_i e; subst e; rfl
    ·rfl) hfin V.length 0 2000 (by omega) (by omega)
   exact this
theorem u8_wf9 {x:Int} (h:(Lit.int .u8 x).wf=true):0≤x∧x < 256:=by
 simp only [Lit.wf,Bool.and_eq_true,decide_eq_true_eq,IntKind.min,IntKind.max,IntKind.signed,IntKind.bits,Bool.false_eq_true,if_false] at h
 omega
theorem pure9 (l:List Int) (h:WfT (.row 5 (.int .u8)) l):∃ n o,q9 n (l,())=some ((true,()),o):=⟨2000,(),law9 l fun x hx=>u8_wf9 (h.2 x hx)⟩
end Go.Proofs.Ytdkaagpkeomhmaa.Rx.S

