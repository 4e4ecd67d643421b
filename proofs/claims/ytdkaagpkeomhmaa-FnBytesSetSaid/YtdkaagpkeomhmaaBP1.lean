/- Plain laws of those functions, no program in sight: the law answers true on all data. No condition. -/
import Derived.Test.YtdkaagpkeomhmaaBP0
set_option linter.unusedVariables false
set_option linter.unusedSimpArgs false
namespace Go.Proofs.Ytdkaagpkeomhmaa.Rx.S
open Go Go.Proofs.Ytdkaagpkeomhmaa.Rx Go.Proofs.Ytdkaagpkeomhmaa.Rx.Pu
set_option linter.unusedVariables false
set_option linter.unusedSimpArgs false
set_option maxRecDepth 100000
def mapI {α β:Type} (f:Nat→α→β):Nat→List α→List β
 | _,[]=>[]
 | k,x :: l=>f k x :: mapI f (k + 1) l
theorem mapI_len {α β:Type} (f:Nat→α→β):∀ (l:List α) (k:Nat),(mapI f k l).length=l.length
 | [],_=>rfl
 | x :: l,k=>by simp [mapI,mapI_len f l (k + 1)]
theorem mapI_getD {α β:Type} (f:Nat→α→β) (d:α) (d':β):∀ (l:List α) (k i:Nat),i < l.length→(mapI f k l).getD i d'=f (k + i) (l.getD i d)
 | [],k,i,h=>by simp at h
 | x :: l,k,0,h=>by simp [mapI]
 | x :: l,k,i + 1,h=>by
  have:=mapI_getD f d d' l (k + 1) i (by simp at h; omega)
  simp only [mapI,List.getD_cons_succ,this]
  congr 1; omega
theorem mapI_mem {α β:Type} (f:Nat→α→β):∀ (l:List α) (k:Nat) (y:β),y ∈ mapI f k l→∃ i x,x ∈ l∧y=f i x
 | [],k,y,h=>by simp [mapI] at h
 | x :: l,k,y,h=>by
  rcases List.mem_cons.1 (show y ∈ f k x :: mapI f (k + 1) l from h) with rfl | h
  ·exact ⟨k,x,List.mem_cons_self,rfl⟩
  ·obtain ⟨i,z,h1,h2⟩:=mapI_mem f l (k + 1) y h
   exact ⟨i,z,List.mem_cons_of_mem _ h1,h2⟩
theorem list_ext_getD {α:Type} {l r:List α} (d:α) (hl:l.length=r.length) (h:∀ i,i < l.length→l.getD i d=r.getD i d):l=r:=by
 apply List.ext_getElem hl
 intro i h1 h2
 have:=h i h1
 rw [List.getD_eq_getElem?_getD,List.getD_eq_getElem?_getD,List.getElem?_eq_getElem h1,List.getElem?_eq_getElem h2] at this
 exact this
def setT (F:Nat→Bo→Nat→ByteArray→ByteArray) (i:Nat) (b:Bo):Bo:=(b.1,b.2.1,b.2.2.1,mapI (F i b) 0 b.2.2.2)
theorem setT_VB {F:Nat→Bo→Nat→ByteArray→ByteArray} {V:List Bo} (h:VB V) (k:Nat):VB (mapI (setT F) k V):=by
 refine ⟨by rw [mapI_len]; exact h.len,fun b hb=>?_⟩
 obtain ⟨i,x,hx,rfl⟩:=mapI_mem _ _ _ _ hb
 have:=h.ok x hx
 exact ⟨this.ar,this.gl,by simp only [setT,mapI_len]; exact this.tl⟩
def fS (g:Int) (text:ByteArray) (i:Nat) (b:Bo) (k:Nat) (t:ByteArray):ByteArray:=if g ≠ 0∧b.2.2.1.getD k 0=g then text else t
theorem p19_L17_eq (n:Nat) (g14:Int→ByteArray→Int→Bool→List Ar→List Int→List ByteArray→List Bo→Option R19) (p:Nat) (text:ByteArray) (x4:Bool) (x5:List Ar) (Gw:List Int) (x7:List ByteArray) (hp:p < Gw.length) (g:Int) (hg:Gw.getD p 0=g) (pre post:List Bo) (hpre:pre.length≤1000) (lv:Bool) (ar:List Ar) (G:List Int) :
  ∀ (rest done:List ByteArray) (m:Nat),rest.length < m→G.length=done.length + rest.length→G.length≤1000→p19_L17 g14 n m (p:Int) text (pre.length:Int) (done.length:Int) x4 x5 Gw x7 (pre ++ (lv,ar,G,done ++ rest) :: post)=g14 (p:Int) text ((pre.length + 1:Nat):Int) x4 x5 Gw x7 (pre ++ (lv,ar,G,done ++ mapI (fS g text pre.length (lv,ar,G,[])) done.length rest) :: post)
 | [],done,0,h,_,_=>by simp at h
 | [],done,m + 1,h,hl,hs=>by
  have hl':G.length=done.length:=by simpa using hl
  show st19_L17 n _ _ _ _ _ _ _ _ _ _ _=_
  simp only [st19_L17,ge_t,lt_pre,toNat_cast,getD_pre,cond_true,hl',lt_f,cond_false,wS (show pre.length≤1000000 by omega),mapI]
 | t :: rest,done,0,h,_,_=>by simp at h
 | t :: rest,done,m + 1,h,hl,hs=>by
  have hl':G.length=done.length + (rest.length + 1):=by simpa using hl
  have ih:=fun t'=>p19_L17_eq n g14 p text x4 x5 Gw x7 hp g hg pre post hpre lv ar G rest (done ++ [t']) m (by simp at h; omega) (by simp; omega) hs
  simp only [List.length_append,List.length_cons,List.length_nil,List.append_assoc,List.cons_append,List.nil_append,Nat.zero_add] at ih
  show st19_L17 n _ _ _ _ _ _ _ _ _ _ _=_
  simp only [st19_L17,ge_t,lt_pre,toNat_cast,getD_pre,cond_true,set_pre,lt_t (show done.length < G.length by omega),lt_t hp,hg,wS (show done.length≤1000000 by omega),mapI]
  by_cases h0:g=0
  ·simp only [show decide (g=0)=true from decide_eq_true h0,Bool.not_true,cond_false]
   have e:fS g text pre.length (lv,ar,G,[]) done.length t=t:=by unfold fS; rw [if_neg (fun hh=>hh.1 h0)]
   rw [e]
   exact ih t
  ·simp only [h0,decide_false,Bool.not_false,cond_true]
   by_cases h1:G.getD done.length 0=g
   ·simp only [h1,decide_true,cond_true]
    have e:fS g text pre.length (lv,ar,G,[]) done.length t=text:=by unfold fS; rw [if_pos ⟨h0,h1⟩]
    rw [e]
    exact ih text
   ·simp only [h1,decide_false,cond_false]
    have e:fS g text pre.length (lv,ar,G,[]) done.length t=t:=by unfold fS; rw [if_neg (fun hh=>h1 hh.2)]
    rw [e]
    exact ih t
theorem p19_L14_eq (n:Nat) (hn:2000≤n) (p:Nat) (text:ByteArray) (x3:Bool) (x4:List Ar) (Gw:List Int) (x6:List ByteArray) (hp:p < Gw.length) (g:Int) (hg:Gw.getD p 0=g) :
  ∀ (post pre:List Bo) (m:Nat),post.length < m→pre.length + post.length≤1000→(∀ b ∈ post,BOk b)→p19_L14 n m (p:Int) text (pre.length:Int) x3 x4 Gw x6 (pre ++ post)=some ((pre ++ mapI (setT (fS g text)) pre.length post,(0,())),())
 | [],pre,0,h,_,_=>by simp at h
 | [],pre,m + 1,h,hl,_=>by
  show st19_L14 n _ _ _ _ _ _ _ _ _=_
  simp only [st19_L14,List.append_nil,lt_f,cond_false,mapI]
 | b :: post,pre,0,h,_,_=>by simp at h
 | b :: post,pre,m + 1,h,hl,hs=>by
  have hb:=hs b List.mem_cons_self
  have h2:=hb.gl
  have h3:=hb.tl
  simp only [List.length_cons] at hl h
  have ih:=p19_L14_eq n hn p text x3 x4 Gw x6 hp g hg post (pre ++ [setT (fS g text) pre.length b]) m (by omega) (by simp; omega) (fun t ht=>hs t (List.mem_cons_of_mem _ ht))
  simp only [List.length_append,List.length_cons,List.length_nil,List.append_assoc,List.cons_append,List.nil_append,Nat.zero_add] at ih
  have h5:=p19_L17_eq n (p19_L14 n m) p text x3 x4 Gw x6 hp g hg pre post (by omega) b.1 b.2.1 b.2.2.1 b.2.2.2 [] n (by omega) (by simp; omega) (by omega)
  simp only [List.nil_append,List.length_nil] at h5
  show st19_L14 n _ _ _ _ _ _ _ _ _=_
  simp only [st19_L14,lt_pre,cond_true]
  refine h5.trans ?_
  exact ih
def fI (w p:Nat) (g:Int) (j:Nat) (d:Int) (i:Nat) (b:Bo) (k:Nat) (t:ByteArray):ByteArray:=if ((i=w∧k=p)∨(g ≠ 0∧b.1=true∧b.2.2.1.getD k 0=g))∧t.size=4 then w72 t j d else t
theorem p21_L16_eq (n:Nat) (g12:Int→Int→Int→Int→Int→Int→Int→List Bo→Option R21) (w p c:Nat) (g d x7:Int) (hc:c < 64) (h0:0≤d) (h1:d≤255) (pre post:List Bo) (hpre:pre.length≤1000) (lv:Bool) (ar:List Ar) (G:List Int) :
  ∀ (rest done:List ByteArray) (m:Nat),rest.length < m→G.length=done.length + rest.length→G.length≤1000→p21_L16 g12 n m (w:Int) (c:Int) d (p:Int) g (pre.length:Int) pre.length x7 (pre.length:Int) (G.length:Int) (done.length:Int) (pre ++ (lv,ar,G,done ++ rest) :: post)=g12 (w:Int) (c:Int) d (p:Int) g x7 ((pre.length + 1:Nat):Int) (pre ++ (lv,ar,G,done ++ mapI (fI w p g (c % 4) d pre.length (lv,ar,G,[])) done.length rest) :: post)
 | [],done,0,h,_,_=>by simp at h
 | [],done,m + 1,h,hl,hs=>by
  have hl':G.length=done.length:=by simpa using hl
  show st21_L16 n _ _ _ _ _ _ _ _ _ _ _ _ _ _=_
  simp only [st21_L16,hl',lt_f,cond_false,wS (show pre.length≤1000000 by omega),mapI]
 | t :: rest,done,0,h,_,_=>by simp at h
 | t :: rest,done,m + 1,h,hl,hs=>by
  have hl':G.length=done.length + (rest.length + 1):=by simpa using hl
  have ih:=fun t'=>p21_L16_eq n g12 w p c g d x7 hc h0 h1 pre post hpre lv ar G rest (done ++ [t']) m (by simp at h; omega) (by simp; omega) hs
  simp only [List.length_append,List.length_cons,List.length_nil,List.append_assoc,List.cons_append,List.nil_append,Nat.zero_add] at ih
  have hT:(done ++ t :: rest).getD done.length ByteArray.empty=t:=getD_pre _ _ _ _
  have h77:=q77_eq n (lv,ar,G,done ++ t :: rest) (by simp only; omega) done.length (by simp only; omega)
  have h78:t.size=4→q78 n (t,((c % 4:Nat):Int),d,())=some ((w72 t (c % 4) d,()),()):=fun hs=>q78_eq n t (c % 4) d h0 h1 (by omega)
  show st21_L16 n _ _ _ _ _ _ _ _ _ _ _ _ _ _=_
  simp only [st21_L16,lt_t (show done.length < G.length by omega),cond_true,ge_t,lt_pre,toNat_cast,getD_pre,set_pre,tm4,wS (show done.length≤1000000 by omega),mapI]
  rw [h77]
  have hset:(t.size=4→fI w p g (c % 4) d pre.length (lv,ar,G,[]) done.length t=w72 t (c % 4) d)→(¬ t.size=4→fI w p g (c % 4) d pre.length (lv,ar,G,[]) done.length t=t) →
    (cond (decide ((t.size:Int)=4)) ((q78 n (t,((c % 4:Nat):Int),d,())).bind fun r8=>p21_L16 g12 n m (w:Int) (c:Int) d (p:Int) g (pre.length:Int) pre.length x7 (pre.length:Int) (G.length:Int) ((done.length + 1:Nat):Int) (pre ++ (lv,ar,G,done ++ r8.1.1 :: rest) :: post)) (p21_L16 g12 n m (w:Int) (c:Int) d (p:Int) g (pre.length:Int) pre.length x7 (pre.length:Int) (G.length:Int) ((done.length + 1:Nat):Int) (pre ++ (lv,ar,G,done ++ t :: rest) :: post)))=g12 (w:Int) (c:Int) d (p:Int) g x7 ((pre.length + 1:Nat):Int) (pre ++ (lv,ar,G,done ++ fI w p g (c % 4) d pre.length (lv,ar,G,[]) done.length t :: mapI (fI w p g (c % 4) d pre.length (lv,ar,G,[])) (done.length + 1) rest) :: post):=fun ha hb=>by
   by_cases hz:t.size=4
   ·rw [ha hz,h78 hz]
    simp only [show decide ((t.size:Int)=4)=true from decide_eq_true (by omega),cond_true,Option.bind_some]
    exact ih _
   ·rw [hb hz]
    simp only [show decide ((t.size:Int)=4)=false from decide_eq_false (by omega),cond_false]
    exact ih _
  have hkeep:fI w p g (c % 4) d pre.length (lv,ar,G,[]) done.length t=t→p21_L16 g12 n m (w:Int) (c:Int) d (p:Int) g (pre.length:Int) pre.length x7 (pre.length:Int) (G.length:Int) ((done.length + 1:Nat):Int) (pre ++ (lv,ar,G,done ++ t :: rest) :: post)=g12 (w:Int) (c:Int) d (p:Int) g x7 ((pre.length + 1:Nat):Int) (pre ++ (lv,ar,G,done ++ fI w p g (c % 4) d pre.length (lv,ar,G,[]) done.length t :: mapI (fI w p g (c % 4) d pre.length (lv,ar,G,[])) (done.length + 1) rest) :: post):=fun e=>by rw [e]; exact ih t
  have hgrp:¬((pre.length=w)∧done.length=p)→(cond (!decide (g=0)) (cond lv (cond (decide (G.getD done.length 0=g)) (cond (decide ((t.size:Int)=4)) ((q78 n (t,((c % 4:Nat):Int),d,())).bind fun r8=>p21_L16 g12 n m (w:Int) (c:Int) d (p:Int) g (pre.length:Int) pre.length x7 (pre.length:Int) (G.length:Int) ((done.length + 1:Nat):Int) (pre ++ (lv,ar,G,done ++ r8.1.1 :: rest) :: post)) (p21_L16 g12 n m (w:Int) (c:Int) d (p:Int) g (pre.length:Int) pre.length x7 (pre.length:Int) (G.length:Int) ((done.length + 1:Nat):Int) (pre ++ (lv,ar,G,done ++ t :: rest) :: post))) (p21_L16 g12 n m (w:Int) (c:Int) d (p:Int) g (pre.length:Int) pre.length x7 (pre.length:Int) (G.length:Int) ((done.length + 1:Nat):Int) (pre ++ (lv,ar,G,done ++ t :: rest) :: post))) (p21_L16 g12 n m (w:Int) (c:Int) d (p:Int) g (pre.length:Int) pre.length x7 (pre.length:Int) (G.length:Int) ((done.length + 1:Nat):Int) (pre ++ (lv,ar,G,done ++ t :: rest) :: post))) (p21_L16 g12 n m (w:Int) (c:Int) d (p:Int) g (pre.length:Int) pre.length x7 (pre.length:Int) (G.length:Int) ((done.length + 1:Nat):Int) (pre ++ (lv,ar,G,done ++ t :: rest) :: post)))=g12 (w:Int) (c:Int) d (p:Int) g x7 ((pre.length + 1:Nat):Int) (pre ++ (lv,ar,G,done ++ fI w p g (c % 4) d pre.length (lv,ar,G,[]) done.length t :: mapI (fI w p g (c % 4) d pre.length (lv,ar,G,[])) (done.length + 1) rest) :: post):=fun hno=>by
   by_cases hg0:g=0
   ·rw [show decide (g=0)=true from decide_eq_true hg0]
    exact hkeep (by unfold fI; rw [if_neg]; rintro ⟨h | h,_⟩; exact hno h; exact h.1 hg0)
   ·rw [show decide (g=0)=false from decide_eq_false hg0]
    cases lv with
    | false=>exact hkeep (by unfold fI; rw [if_neg]; rintro ⟨h | h,_⟩; exact hno h; cases h.2.1)
    | true =>
     by_cases hg1:G.getD done.length 0=g
     ·rw [show decide (G.getD done.length 0=g)=true from decide_eq_true hg1]
      exact hset (fun hz=>by unfold fI; rw [if_pos ⟨.inr ⟨hg0,rfl,hg1⟩,hz⟩]) (fun hz=>by unfold fI; rw [if_neg (fun hh=>hz hh.2)])
     ·rw [show decide (G.getD done.length 0=g)=false from decide_eq_false hg1]
      exact hkeep (by unfold fI; rw [if_neg]; rintro ⟨h | h,_⟩; exact hno h; exact hg1 h.2.2)
  by_cases hw:((pre.length:Int)=(w:Int))
  ·have hw':pre.length=w:=by omega
   rw [show decide ((pre.length:Int)=(w:Int))=true from decide_eq_true hw]
   by_cases hk:((done.length:Int)=(p:Int))
   ·have hk':done.length=p:=by omega
    rw [show decide ((done.length:Int)=(p:Int))=true from decide_eq_true hk]
    simp only [cond_true,Option.bind_some,hT,List.length_append,List.length_cons,lt_t (show done.length < done.length + (rest.length + 1) by omega),List.set_append_right done.length _ (Nat.le_refl _),Nat.sub_self,List.set_cons_zero]
    exact hset (fun hz=>by unfold fI; rw [if_pos ⟨.inl ⟨hw',hk'⟩,hz⟩]) (fun hz=>by unfold fI; rw [if_neg (fun hh=>hz hh.2)])
   ·rw [show decide ((done.length:Int)=(p:Int))=false from decide_eq_false hk]
    simp only [cond_true,cond_false,Option.bind_some,hT,List.length_append,List.length_cons,lt_t (show done.length < done.length + (rest.length + 1) by omega),List.set_append_right done.length _ (Nat.le_refl _),Nat.sub_self,List.set_cons_zero]
    exact hgrp (fun hh=>hk (by omega))
  ·rw [show decide ((pre.length:Int)=(w:Int))=false from decide_eq_false hw]
   simp only [cond_true,cond_false,Option.bind_some,hT,List.length_append,List.length_cons,lt_t (show done.length < done.length + (rest.length + 1) by omega),List.set_append_right done.length _ (Nat.le_refl _),Nat.sub_self,List.set_cons_zero]
   exact hgrp (fun hh=>hw (by omega))
theorem p21_L12_eq (n:Nat) (hn:2000≤n) (w p c:Nat) (g d:Int) (hc:c < 64) (h0:0≤d) (h1:d≤255) (L:Nat) :
  ∀ (post pre:List Bo) (m:Nat),post.length < m→pre.length + post.length=L→L≤1000→(∀ b ∈ post,BOk b)→p21_L12 n m (w:Int) (c:Int) d (p:Int) g (L:Int) (pre.length:Int) (pre ++ post)=some ((pre ++ mapI (setT (fI w p g (c % 4) d)) pre.length post,(0,())),())
 | [],pre,0,h,_,_,_=>by simp at h
 | [],pre,m + 1,h,hl,_,_=>by
  have hl':pre.length=L:=by simpa using hl
  show st21_L12 n _ _ _ _ _ _ _ _ _=_
  simp only [st21_L12,List.append_nil,hl',lt_f,cond_false,mapI]
 | b :: post,pre,0,h,_,_,_=>by simp at h
 | b :: post,pre,m + 1,h,hl,hL,hs=>by
  have hb:=hs b List.mem_cons_self
  have h2:=hb.gl
  have h3:=hb.tl
  simp only [List.length_cons] at hl h
  have ih:=p21_L12_eq n hn w p c g d hc h0 h1 L post (pre ++ [setT (fI w p g (c % 4) d) pre.length b]) m (by omega) (by simp; omega) hL (fun t ht=>hs t (List.mem_cons_of_mem _ ht))
  simp only [List.length_append,List.length_cons,List.length_nil,List.append_assoc,List.cons_append,List.nil_append,Nat.zero_add] at ih
  have h5:=p21_L16_eq n (p21_L12 n m) w p c g d (L:Int) hc h0 h1 pre post (by omega) b.1 b.2.1 b.2.2.1 b.2.2.2 [] n (by omega) (by simp; omega) (by omega)
  simp only [List.nil_append,List.length_nil] at h5
  show st21_L12 n _ _ _ _ _ _ _ _ _=_
  simp only [st21_L12,lt_t (show pre.length < L by omega),ge_t,lt_pre,cond_true,toNat_cast,getD_pre,h3]
  refine h5.trans ?_
  exact ih
end Go.Proofs.Ytdkaagpkeomhmaa.Rx.S

namespace Go.Proofs.Ytdkaagpkeomhmaa.Rx.S
open Go Go.Proofs.Ytdkaagpkeomhmaa.Rx Go.Proofs.Ytdkaagpkeomhmaa.Rx.Pu
set_option linter.unusedVariables false
set_option linter.unusedSimpArgs false
set_option maxRecDepth 100000
structure GI (V:List Bo):Prop where
 dd:∀ i,i < V.length→(rb V i).1=false→rb V i=(false,[],[],[])
 ll:∀ i,i < V.length→(rb V i).1=true→(rb V i).2.2.1.length=16∧(rb V i).2.2.2.length=16
 gg:∀ i i' k k',i < V.length→i' < V.length→k < 16→k' < 16→(rb V i).1=true→(rb V i').1=true→(rb V i).2.2.1.getD k 0 ≠ 0→(rb V i').2.2.1.getD k' 0=(rb V i).2.2.1.getD k 0→(rb V i').2.2.2.getD k' ByteArray.empty=(rb V i).2.2.2.getD k ByteArray.empty∧((rb V i).2.2.2.getD k ByteArray.empty).size=4
theorem Fst.one {S:List Sp} (hS:SpI S) {kd a kd' a' g:Int} (h:Fst S kd a g) (h':Fst S kd' a' g):kd=kd'∧a=a':=by
 obtain ⟨i,k,h1,h2,h3,h4,_⟩:=h
 obtain ⟨i',k',h1',h2',h3',h4',_⟩:=h'
 have hk:=hS.lens i
 have hk':=hS.lens i'
 have e1:i=i':=by omega
 have e2:k=k':=by omega
 subst e1; subst e2
 have:=isT_iff.1 h3
 have:=isT_iff.1 h3'
 omega
theorem VOk.gi {V:List Bo} (h:VOk V):GI V:=by
 rcases h with rfl | ⟨M,hM,h⟩
 ·exact ⟨fun i hi=>by simp at hi,fun i hi=>by simp at hi,fun i _ _ _ hi=>by simp at hi⟩
 ·have h5:=h.len
  have lv:∀ i,i < V.length→(rb V i).1=true→RowV M i (rb V i):=fun i hi hv=>by
   cases hl:(rw' M.2.2.1 i).1 with
   | false=>rw [rb,h.dd i (by omega) hl] at hv; cases hv
   | true=>exact h.lv i (by omega) hl
  refine ⟨fun i hi hv=>?_,fun i hi hv=>⟨(lv i hi hv).gl,(lv i hi hv).tl⟩,fun i i' k k' hi hi' hk hk' hv hv' hg hg'=>?_⟩
  ·cases hl:(rw' M.2.2.1 i).1 with
   | false=>exact h.dd i (by omega) hl
   | true=>rw [rb,(h.lv i (by omega) hl).lv] at hv; cases hv
  ·have hp:=(lv i hi hv).pg k hk
   have hp':=(lv i' hi' hv').pg k' hk'
   rcases hp with ⟨_,e,_⟩ | ⟨_,e1,e2⟩
   ·exact absurd e hg
   ·rcases e2 with e | ⟨_,e2⟩
    ·exact absurd e hg
    ·rcases hp' with ⟨_,e,_⟩ | ⟨_,e1',e2'⟩
     ·rw [hg'] at e; exact absurd e hg
     ·rcases e2' with e | ⟨_,e2'⟩
      ·rw [hg'] at e; exact absurd e hg
      ·rw [hg'] at e2'
       have:=Fst.one hM.sp e2 e2'
       rw [e1,e1']
       exact ⟨tx_same ⟨this.1.symm,this.2.symm⟩,tx_size _ _⟩
theorem set_same {V:List Bo} (hV:VB V) (hG:GI V) {i p j:Nat} {d:Int} (hi:i < V.length) (hp:p < 16) (hlv:(rb V i).1=true) (hsz:((rb V i).2.2.2.getD p ByteArray.empty).size=4) :
  mapI (setT (fS ((rb V i).2.2.1.getD p 0) (w72 ((rb V i).2.2.2.getD p ByteArray.empty) j d))) 0 (V.set i ((rb V i).1,(rb V i).2.1,(rb V i).2.2.1,(rb V i).2.2.2.set p (w72 ((rb V i).2.2.2.getD p ByteArray.empty) j d)))=mapI (setT (fI i p ((rb V i).2.2.1.getD p 0) j d)) 0 V:=by
 apply list_ext_getD (false,[],[],[])
 ·rw [mapI_len,mapI_len,List.length_set]
 ·intro q hq
  rw [mapI_len,List.length_set] at hq
  rw [mapI_getD _ (false,[],[],[]) _ _ _ _ (by simpa using hq),mapI_getD _ (false,[],[],[]) _ _ _ _ hq,Nat.zero_add]
  have hlen:(rb V i).2.2.2.length=16:=(hG.ll i hi hlv).2
  have hgrp:∀ k,k < (rb V q).2.2.2.length→(rb V i).2.2.1.getD p 0 ≠ 0→(rb V q).2.2.1.getD k 0=(rb V i).2.2.1.getD p 0→(rb V q).1=true∧(rb V q).2.2.2.getD k ByteArray.empty=(rb V i).2.2.2.getD p ByteArray.empty:=fun k hk h1 h2=>by
   cases hvq:(rb V q).1 with
   | false=>rw [hG.dd q hq hvq] at hk; simp at hk
   | true=>exact ⟨rfl,(hG.gg i q p k hi hq hp (by have:=(hG.ll q hq hvq).2; omega) hlv hvq h1 h2).1⟩
  by_cases e:q=i
  ·subst e
   rw [getD_set_eq hq]
   simp only [setT]
   congr 3
   apply list_ext_getD ByteArray.empty
   ·rw [mapI_len,mapI_len,List.length_set]
   ·intro k hk
    rw [mapI_len,List.length_set] at hk
    rw [mapI_getD _ ByteArray.empty _ _ _ _ (by simpa using hk),mapI_getD _ ByteArray.empty _ _ _ _ hk,Nat.zero_add]
    by_cases ek:k=p
    ·subst ek
     rw [getD_set_eq (by omega)]
     have e1:fI q k ((rb V q).2.2.1.getD k 0) j d q (rb V q) k ((rb V q).2.2.2.getD k ByteArray.empty)=w72 ((rb V q).2.2.2.getD k ByteArray.empty) j d:=by
      unfold fI; rw [if_pos ⟨.inl ⟨rfl,rfl⟩,hsz⟩]
     rw [e1]
     unfold fS; split <;> rfl
    ·rw [getD_set_ne (by omega) ek]
     unfold fS fI
     simp only
     by_cases h:(rb V q).2.2.1.getD p 0 ≠ 0∧(rb V q).2.2.1.getD k 0=(rb V q).2.2.1.getD p 0
     ·have hx:=hgrp k hk h.1 h.2
      rw [if_pos h,if_pos ⟨.inr ⟨h.1,hx.1,h.2⟩,by rw [hx.2]; exact hsz⟩,hx.2]
     ·rw [if_neg h,if_neg]
      rintro ⟨h1 | h1,_⟩
      ·exact ek h1.2
      ·exact h ⟨h1.1,h1.2.2⟩
  ·rw [getD_set_ne hi e]
   simp only [setT]
   congr 3
   apply list_ext_getD ByteArray.empty
   ·rw [mapI_len,mapI_len]
   ·intro k hk
    rw [mapI_len] at hk
    rw [mapI_getD _ ByteArray.empty _ _ _ _ hk,mapI_getD _ ByteArray.empty _ _ _ _ hk,Nat.zero_add]
    unfold fS fI
    by_cases h:(rb V i).2.2.1.getD p 0 ≠ 0∧(rb V q).2.2.1.getD k 0=(rb V i).2.2.1.getD p 0
    ·have hx:=hgrp k hk h.1 h.2
     rw [if_pos h,if_pos ⟨.inr ⟨h.1,hx.1,h.2⟩,by rw [hx.2]; exact hsz⟩,hx.2]
    ·rw [if_neg h,if_neg]
     rintro ⟨h1 | h1,_⟩
     ·exact e h1.1
     ·exact h ⟨h1.1,h1.2.2⟩
theorem VB.nil:VB []:=⟨by simp,fun b hb=>by simp at hb⟩
theorem set_eq (n:Nat) (hn:2000≤n) (V:List Bo) (hO:VOk V) (w c d:Int):∃ V' st,q21 n (V,w,c,d,())=some ((V',(st,())),())∧q19 n (V,w,c,d,())=some ((V',(st,())),())∧VB V' ∧
  (st=0→∃ i k:Nat,w=(i:Int)∧c=(k:Int)∧k < 64∧0≤d∧d≤255∧al n V w=true∧i < V.length∧((rb V i).2.2.2.getD (k / 4) ByteArray.empty).size=4∧V'=mapI (setT (fI i (k / 4) ((rb V i).2.2.1.getD (k / 4) 0) (k % 4) d)) 0 V):=by
 have hV:=hO.vb
 have hG:=hO.gi
 have h5:=hV.len
 have e1:q21 n (V,w,c,d,())=st21_top n (p21_L12 n n) V w c d:=rfl
 have e2:q19 n (V,w,c,d,())=st19_top n (p19_L14 n n) V w c d:=rfl
 have e68:q68 n (c,())=some ((decide (0≤c)&&decide (c≤63),()),()):=by
  show st68_top n c=_
  rw [st68_top,q69_eq]; rfl
 rw [e1,e2,st21_top,st19_top,q74_eq n hn V hV,q67_eq n hn V hV]
 simp only [Option.bind_some]
 cases ha:al n V w with
 | false=>exact ⟨[],1,rfl,rfl,.nil,fun h=>by cases h⟩
 | true =>
  obtain ⟨i,rfl,hi,a1,a2,a3,a4⟩:=al_nat ha
  simp only [Bool.not_true,cond_false]
  rw [q59_eq,e68]
  simp only [Option.bind_some]
  cases hc:(decide (0≤c)&&decide (c≤63)) with
  | false=>exact ⟨[],1,rfl,rfl,.nil,fun h=>by cases h⟩
  | true =>
   have hc2:=b_and_t.1 hc
   have hc3:=of_decide_eq_true hc2.1
   have hc4:=of_decide_eq_true hc2.2
   obtain ⟨k,rfl⟩:=Int.eq_ofNat_of_zero_le hc3
   have hk:k < 64:=by omega
   simp only [Bool.not_true,cond_false]
   rw [q59_eq,q69_eq]
   simp only [Option.bind_some]
   cases hd:(decide (0≤d)&&decide (d≤255)) with
   | false=>exact ⟨[],1,rfl,rfl,.nil,fun h=>by cases h⟩
   | true =>
    have hd2:=b_and_t.1 hd
    have hd3:=of_decide_eq_true hd2.1
    have hd4:=of_decide_eq_true hd2.2
    have hb:=hV.row hi
    have har:=hb.ar
    have hrg:=at2_rng (rb V i).2.1 ((k / 4:Nat):Int)
    simp only [Bool.not_true,cond_false]
    rw [q75_eq n hn V hV,q70_eq n hn V hV]
    have h76:q76 n (((rb V i).1,(rb V i).2.1,(rb V i).2.2.1,(rb V i).2.2.2),((k / 4:Nat):Int),())=_:=q76_eq n hn (rb V i) hb a3 a4 (k / 4) (by omega)
    have h77:q77 n (((rb V i).1,(rb V i).2.1,(rb V i).2.2.1,(rb V i).2.2.2),((k / 4:Nat):Int),())=_:=q77_eq n (rb V i) (by omega) (k / 4) (by omega)
    simp only [Option.bind_some,ge_t,lt_t hi,cond_true,toNat_cast,td4 hk,tm4]
    rw [h76,q71_eq n hn (rb V i).2.1 _ (by omega)]
    simp only [Option.bind_some]
    by_cases hat:at2 (rb V i).2.1 ((k / 4:Nat):Int) < 0
    ·have hneg:(if ((rb V i).2.2.2.getD (k / 4) ByteArray.empty).size=4 then at2 (rb V i).2.1 ((k / 4:Nat):Int) else -1) < 0:=by split <;> omega
     simp only [hat,hneg,decide_true,cond_true]
     exact ⟨V,2,rfl,rfl,hV,fun h=>by cases h⟩
    ·by_cases hsz:((rb V i).2.2.2.getD (k / 4) ByteArray.empty).size=4
     ·have hj:decide (0≤at2 (rb V i).2.1 ((k / 4:Nat):Int))=true:=decide_eq_true (by omega)
      simp only [hsz,if_true,hat,decide_false,cond_false,hj,cond_true,decide_eq_true hrg.2,lt_t (show k / 4 < (rb V i).2.2.2.length by omega),show decide (((4:Nat):Int)=4)=true from rfl,Bool.not_true]
      cases ((rb V i).2.1.getD (at2 (rb V i).2.1 ((k / 4:Nat):Int)).toNat (0,0,false,false)).2.2.1 with
      | false=>exact ⟨V,3,rfl,rfl,hV,fun h=>by cases h⟩
      | true =>
       simp only [Bool.not_true,cond_false]
       rw [h77,q72_eq n ((rb V i).2.2.2.getD (k / 4) ByteArray.empty) (k % 4) d (by omega) (by omega)]
       simp only [Option.bind_some,ge_t,lt_t hi,cond_true,toNat_cast,lt_t (show k / 4 < (rb V i).2.2.2.length by omega)]
       have s1:=p21_L12_eq n hn i (k / 4) k ((rb V i).2.2.1.getD (k / 4) 0) d hk hd3 hd4 V.length V [] n (by omega) (by simp) (by omega) hV.ok
       have s2:=p19_L14_eq n hn (k / 4) (w72 ((rb V i).2.2.2.getD (k / 4) ByteArray.empty) (k % 4) d) (rb V i).1 (rb V i).2.1 (rb V i).2.2.1 (rb V i).2.2.2 (by omega) _ rfl (V.set i ((rb V i).1,(rb V i).2.1,(rb V i).2.2.1,(rb V i).2.2.2.set (k / 4) (w72 ((rb V i).2.2.2.getD (k / 4) ByteArray.empty) (k % 4) d))) [] n (by simp; omega) (by simp; omega) (fun b hb'=>by
        rcases List.mem_or_eq_of_mem_set hb' with h | rfl
        ·exact hV.ok b h
        ·exact ⟨hb.ar,hb.gl,by simp only [List.length_set]; exact hb.tl⟩)
       simp only [List.nil_append,List.length_nil] at s1 s2
       rw [set_same hV hG hi (by omega) a1 hsz] at s2
       exact ⟨_,0,s1,s2,setT_VB hV 0,fun _=>⟨i,k,rfl,rfl,hk,hd3,hd4,by first | trivial | rfl,hi,hsz,rfl⟩⟩
     ·have hsz':¬((((rb V i).2.2.2.getD (k / 4) ByteArray.empty).size:Nat):Int)=4:=by omega
      simp only [hsz,if_false,hat,decide_false,cond_false,show decide ((-1:Int) < 0)=true from rfl,cond_true,lt_t (show k / 4 < (rb V i).2.2.2.length by omega),hsz',Bool.not_false]
      exact ⟨V,2,rfl,rfl,hV,fun h=>by cases h⟩
end Go.Proofs.Ytdkaagpkeomhmaa.Rx.S

namespace Go.Proofs.Ytdkaagpkeomhmaa.Rx.S
open Go Go.Proofs.Ytdkaagpkeomhmaa.Rx Go.Proofs.Ytdkaagpkeomhmaa.Rx.Pu
set_option linter.unusedVariables false
set_option linter.unusedSimpArgs false
set_option maxRecDepth 100000
structure Chk (n:Nat) (V V':List Bo) (w p j:Nat) (g d:Int):Prop where
 st:∀ i k,i < 5→k < 64→(getB n V' i k).2=(getB n V i k).2
 kp:∀ i k,i < 5→k < 64→(¬((i=w∧k / 4=p)∨(g ≠ 0∧(rb V i).2.2.1.getD (k / 4) 0=g))∨k % 4 ≠ j∨(getB n V i k).2 ≠ 0)→(getB n V i k).1=(getB n V' i k).1
 nw:∀ i k,i < 5→k < 64→((i=w∧k / 4=p)∨(g ≠ 0∧(rb V i).2.2.1.getD (k / 4) 0=g))→k % 4=j→(getB n V i k).2=0→(getB n V' i k).1=d
 ln:∀ i k,i < 5→k < 64→(getB n V i k).2=0→i < V.length∧k / 4 < (rb V i).2.2.1.length
theorem byte_w {d:Int} (h0:0≤d) (h1:d≤255):IntKind.i64.wrap ((UInt8.ofNat d.toNat).toNat:Int)=d:=by
 have:(UInt8.ofNat d.toNat).toNat=d.toNat:=by
  rw [UInt8.toNat_ofNat']
  omega
 rw [this,wr (by omega) (by omega)]; omega
theorem fI_size {w p j:Nat} {g d:Int} {i:Nat} {b:Bo} {k:Nat} {t:ByteArray} (hj:j < 4):(fI w p g j d i b k t).size=t.size:=by
 unfold fI
 split
 ·rename_i h; exact w72_size d (by omega)
 ·rfl
theorem chk_set {n:Nat} {V:List Bo} (hV:VB V) {w p j:Nat} {g d:Int} (hj:j < 4) (h0:0≤d) (h1:d≤255):Chk n V (mapI (setT (fI w p g j d)) 0 V) w p j g d:=by
 have hrow:∀ i,i < V.length→rb (mapI (setT (fI w p g j d)) 0 V) i=setT (fI w p g j d) i (rb V i):=fun i hi=>by
  rw [rb,mapI_getD _ (false,[],[],[]) _ _ _ _ hi,Nat.zero_add]
 have hal:∀ i:Nat,al n (mapI (setT (fI w p g j d)) 0 V) i=al n V i:=fun i=>by
  unfold al
  rw [mapI_len]
  rcases rng_cases V i with ⟨i',e,hi,h⟩ | h
  ·obtain rfl:i=i':=by omega
   rw [h,toNat_cast,hrow i hi]
   unfold alB setT
   simp only [mapI_len]
  ·rw [h]; rfl
 have key:∀ i k:Nat,k < 64→al n V i=true→∃ hi:i < V.length,(rb V i).2.2.1.length=16∧(rb V i).1=true∧(rb (mapI (setT (fI w p g j d)) 0 V) i).2.1=(rb V i).2.1∧(rb (mapI (setT (fI w p g j d)) 0 V) i).2.2.2.getD (k / 4) ByteArray.empty=fI w p g j d i (rb V i) (k / 4) ((rb V i).2.2.2.getD (k / 4) ByteArray.empty):=fun i k hk ha=>by
  obtain ⟨i',e,hi,b1,b2,b3,_⟩:=al_nat ha
  obtain rfl:i=i':=by omega
  refine ⟨hi,b2,b1,by rw [hrow i hi]; rfl,?_⟩
  rw [hrow i hi]
  simp only [setT]
  rw [mapI_getD _ ByteArray.empty _ _ _ _ (by omega),Nat.zero_add]
 refine ⟨fun i k hi hk=>?_,fun i k hi hk hc=>?_,fun i k hi hk hs hkj hz=>?_,fun i k hi hk hz=>?_⟩
 ·unfold getB
  rw [hal]
  by_cases ha:al n V i=true
  ·obtain ⟨hi,k1,k2,k3,k4⟩:=key i k hk ha
   rw [if_pos ha,if_pos ha,k3,k4,fI_size hj]
   split <;> rfl
  ·rw [if_neg ha,if_neg ha]
 ·unfold getB at hc ⊢
  rw [hal]
  by_cases ha:al n V i=true
  ·obtain ⟨hi,k1,k2,k3,k4⟩:=key i k hk ha
   rw [if_pos ha] at hc
   rw [if_pos ha,if_pos ha,k3,k4,fI_size hj]
   by_cases hz:((rb V i).2.2.2.getD (k / 4) ByteArray.empty).size=4∧0≤at2 (rb V i).2.1 ((k / 4:Nat):Int)
   ·rw [if_pos hz] at hc
    rw [if_pos hz,if_pos hz]
    simp only
    unfold fI
    split
    ·rename_i hs
     rw [w72_getD h0 h1 (by omega)]
     rw [if_neg]
     rcases hc with hc | hc | hc
     ·exact absurd (hs.1.imp id fun h=>⟨h.1,h.2.2⟩) hc
     ·exact hc
     ·exact absurd rfl hc
    ·rfl
   ·rw [if_neg hz,if_neg hz]
  ·rw [if_neg ha,if_neg ha]
 ·unfold getB at hz ⊢
  rw [hal]
  by_cases ha:al n V i=true
  ·obtain ⟨hi,k1,k2,k3,k4⟩:=key i k hk ha
   rw [if_pos ha] at hz
   rw [if_pos ha,k3,k4,fI_size hj]
   by_cases h2:((rb V i).2.2.2.getD (k / 4) ByteArray.empty).size=4∧0≤at2 (rb V i).2.1 ((k / 4:Nat):Int)
   ·rw [if_pos h2]
    simp only
    unfold fI
    rw [if_pos ⟨hs.imp id fun h=>⟨h.1,k2,h.2⟩,h2.1⟩,w72_getD h0 h1 (by omega),if_pos hkj]
    exact byte_w h0 h1
   ·rw [if_neg h2] at hz; exact absurd hz (by decide)
  ·rw [if_neg ha] at hz; exact absurd hz (by decide)
 ·unfold getB at hz
  by_cases ha:al n V i=true
  ·obtain ⟨hi,k1,k2,k3,k4⟩:=key i k hk ha
   exact ⟨hi,by omega⟩
  ·rw [if_neg ha] at hz; exact absurd hz (by decide)
theorem p11_L15_eq (n:Nat) (hn:2000≤n) (g12:Int→Int→Int→Int→Int→Int→List Bo→List Bo→Option R11) (V V':List Bo) (hV:VB V) (hV':VB V') (w c:Nat) (hc:c < 64) (g d:Int) (C:Chk n V V' w (c / 4) (c % 4) g d) (i:Nat) (hi:i < 5):∀ (e k m:Nat),k + e=64→e < m→p11_L15 g12 n m (w:Int) (c:Int) d ((c / 4:Nat):Int) g (i:Int) (k:Int) V V'=g12 (w:Int) (c:Int) d ((c / 4:Nat):Int) g ((i + 1:Nat):Int) V V'
 | _,k,0,_,h=>by omega
 | 0,k,m + 1,hk,h=>by
  obtain rfl:k=64:=by omega
  show st11_L15 n _ _ _ _ _ _ _ _ _ _ _=_
  simp only [st11_L15,show decide (((64:Nat):Int) < 64)=false from rfl,cond_false,wS (show i≤1000000 by omega)]
 | e + 1,k,m + 1,hk,h=>by
  have hk64:k < 64:=by omega
  have ih:=p11_L15_eq n hn g12 V V' hV hV' w c hc g d C i hi e (k + 1) m (by omega) (by omega)
  have c1:=C.st i k hi hk64
  have c2:=C.kp i k hi hk64
  have c3:=C.nw i k hi hk64
  have c4:=C.ln i k hi hk64
  show st11_L15 n _ _ _ _ _ _ _ _ _ _ _=_
  simp only [st11_L15,show decide ((k:Int) < 64)=true from decide_eq_true (by omega),cond_true]
  rw [q44_eq n hn V hV i k hk64,q44_eq n hn V' hV' i k hk64]
  simp only [Option.bind_some,td4 hk64,tm4,c1,decide_true,Bool.not_true,cond_false,wS (show k≤1000000 by omega),ih]
  by_cases a1:((i:Int)=(w:Int))
  ·have a1':i=w:=by omega
   subst a1'
   by_cases a2:(((k / 4:Nat):Int)=((c / 4:Nat):Int))
   ·have a2':k / 4=c / 4:=by omega
    by_cases a3:(((k % 4:Nat):Int)=((c % 4:Nat):Int))
    ·by_cases a4:(getB n V i k).2=0
     ·have:=c3 (.inl ⟨rfl,a2'⟩) (by omega) a4
      simp only [eq_self,a2,a3,a4,this,decide_true,cond_true,Bool.not_true,cond_false]
     ·simp only [eq_self,a2,a3,a4,decide_true,decide_false,cond_true,Bool.not_true,cond_false]
    ·have:=c2 (.inr (.inl (by omega)))
     simp only [eq_self,a2,a3,this,decide_true,decide_false,cond_true,Bool.not_true,Bool.not_false,cond_false]
   ·by_cases a4:(getB n V i k).2=0
    ·obtain ⟨b1,b2⟩:=c4 a4
     have b2':k / 4 < (List.getD V i (false,[],[],[])).2.2.1.length:=b2
     by_cases a5:g=0
     ·have:=c2 (.inl (by rintro (h | h); exact a2 (by omega); exact h.1 a5))
      simp only [eq_self,a2,a4,a5,this,decide_true,decide_false,cond_true,Bool.not_true,cond_false]
     ·simp only [eq_self,a2,a4,a5,decide_true,decide_false,cond_true,Bool.not_true,Bool.not_false,cond_false,ge_t,lt_t b1,lt_t b2',toNat_cast]
      by_cases a6:(V.getD i (false,[],[],[])).2.2.1.getD (k / 4) 0=g
      ·by_cases a3:(((k % 4:Nat):Int)=((c % 4:Nat):Int))
       ·have:=c3 (.inr ⟨a5,a6⟩) (by omega) a4
        simp only [a3,a6,this,decide_true,cond_true,Bool.not_true,cond_false]
       ·have:=c2 (.inr (.inl (by omega)))
        simp only [a3,a6,this,decide_true,decide_false,cond_true,Bool.not_true,Bool.not_false,cond_false]
      ·have:=c2 (.inl (by rintro (h | h); exact a2 (by omega); exact a6 h.2))
       simp only [a6,this,decide_true,decide_false,cond_true,Bool.not_true,cond_false]
    ·have:=c2 (.inr (.inr a4))
     simp only [eq_self,a2,a4,this,decide_true,decide_false,cond_true,Bool.not_true,cond_false]
  ·by_cases a4:(getB n V i k).2=0
   ·obtain ⟨b1,b2⟩:=c4 a4
    have b2':k / 4 < (List.getD V i (false,[],[],[])).2.2.1.length:=b2
    by_cases a5:g=0
    ·have:=c2 (.inl (by rintro (h | h); exact a1 (by omega); exact h.1 a5))
     simp only [a1,a4,a5,this,decide_true,decide_false,cond_true,Bool.not_true,cond_false]
    ·simp only [a1,a4,a5,decide_true,decide_false,cond_true,Bool.not_true,Bool.not_false,cond_false,ge_t,lt_t b1,lt_t b2',toNat_cast]
     by_cases a6:(V.getD i (false,[],[],[])).2.2.1.getD (k / 4) 0=g
     ·by_cases a3:(((k % 4:Nat):Int)=((c % 4:Nat):Int))
      ·have:=c3 (.inr ⟨a5,a6⟩) (by omega) a4
       simp only [a3,a6,this,decide_true,cond_true,Bool.not_true,cond_false]
      ·have:=c2 (.inr (.inl (by omega)))
       simp only [a3,a6,this,decide_true,decide_false,cond_true,Bool.not_true,Bool.not_false,cond_false]
     ·have:=c2 (.inl (by rintro (h | h); exact a1 (by omega); exact a6 h.2))
      simp only [a6,this,decide_true,decide_false,cond_true,Bool.not_true,cond_false]
   ·have:=c2 (.inr (.inr a4))
    simp only [a1,a4,this,decide_true,decide_false,cond_true,Bool.not_true,cond_false]
theorem p11_L12_eq (n:Nat) (hn:2000≤n) (V V':List Bo) (hV:VB V) (hV':VB V') (w c:Nat) (hc:c < 64) (g d:Int) (C:Chk n V V' w (c / 4) (c % 4) g d):∀ (e i m:Nat),i + e=V.length→e < m→p11_L12 n m (w:Int) (c:Int) d ((c / 4:Nat):Int) g (i:Int) V V'=some ((true,()),())
 | _,i,0,_,h=>by omega
 | 0,i,m + 1,hk,h=>by
  obtain rfl:i=V.length:=by omega
  show st11_L12 n _ _ _ _ _ _ _ _ _=_
  simp only [st11_L12,lt_f,cond_false]
 | e + 1,i,m + 1,hk,h=>by
  have h5:=hV.len
  have ih:=p11_L12_eq n hn V V' hV hV' w c hc g d C e (i + 1) m (by omega) (by omega)
  show st11_L12 n _ _ _ _ _ _ _ _ _=_
  simp only [st11_L12,lt_t (show i < V.length by omega),cond_true]
  exact (p11_L15_eq n hn (p11_L12 n m) V V' hV hV' w c hc g d C i (by omega) 64 0 n (by omega) (by omega)).trans ih
theorem q45_eq (n:Nat) {l:List Int} (hl:∀ x ∈ l,0≤x∧x < 256):∃ l',q45 n (l,())=some (((l',0),()),())∧Rd (l',0) 0:=by
 obtain ⟨l',e,h⟩:=p45_eq n hl
 exact ⟨l',e,h,Int.le_refl _,Int.le_refl _⟩
theorem q43_eq {l:List Int} (hl:∀ x ∈ l,0≤x∧x < 256):∃ V w c d,q43 2000 (l,())=some ((V,(w,(c,(d,())))),())∧VOk V:=by
 have e0:q43 2000 (l,())=st43_top 2000 l:=rfl
 rw [e0,st43_top]
 obtain ⟨l',e1,h1⟩:=q45_eq 2000 hl
 rw [e1]
 simp only [Option.bind_some]
 obtain ⟨M,r,e2,h2,h3⟩:=q46_tot (l',0) h1
 rw [e2]
 simp only [Option.bind_some]
 obtain ⟨V,ok,e3,h4⟩:=q104_eq 2000 (by omega) M h2
 rw [e3]
 simp only [Option.bind_some]
 obtain ⟨v,p1,a1,b1,hr1⟩:=h3.pick (by omega) 2000 7 (by decide)
 rw [p1]
 simp only [Option.bind_some,decide_eq_true a1,cond_true,show decide (v < (([0,0,0,1,2,-1,5]:List Int).length:Int))=true from decide_eq_true b1]
 obtain ⟨x,r2,e5,h6⟩:∃ x r',q106 2000 ((r.1,r.2 + 1),())=some ((x,()),(r',()))∧Rd r' 6010:=by
  have e0:q106 2000 ((r.1,r.2 + 1),())=st106_top 2000 (r.1,r.2 + 1):=rfl
  rw [e0,st106_top]
  obtain ⟨v2,p2,a2,b2,hr2⟩:=hr1.pick (by omega) 2000 20 (by decide)
  rw [p2]
  simp only [Option.bind_some]
  cases decide (v2=0) with
  | true =>
   simp only [cond_true]
   obtain ⟨v3,p3,a3,b3,hr3⟩:=hr2.pick (by omega) 2000 3 (by decide)
   rw [p3]
   simp only [Option.bind_some,decide_eq_true a3,cond_true,show decide (v3 < (([-1,63,64]:List Int).length:Int))=true from decide_eq_true b3]
   exact ⟨_,_,rfl,hr3.up (by omega)⟩
  | false =>
   simp only [cond_false]
   obtain ⟨v3,p3,a3,b3,hr3⟩:=hr2.pick (by omega) 2000 64 (by decide)
   rw [p3]
   exact ⟨_,_,rfl,hr3.up (by omega)⟩
 rw [e5]
 simp only [Option.bind_some]
 obtain ⟨v4,p4,a4,b4,hr4⟩:=h6.pick (by omega) 2000 258 (by decide)
 rw [p4]
 exact ⟨_,_,_,_,rfl,h4⟩
theorem law11 (l:List Int) (hl:∀ x ∈ l,0≤x∧x < 256):q11 2000 (l,())=some ((true,()),()):=by
 have e0:q11 2000 (l,())=st11_top 2000 (p11_L12 2000 2000) l:=rfl
 rw [e0,st11_top]
 cases decide ((1048576:Int) < (l.length:Int)) with
 | true=>rfl
 | false =>
  simp only [cond_false]
  obtain ⟨V,w,c,d,e1,h1⟩:=q43_eq hl
  rw [e1]
  simp only [Option.bind_some]
  obtain ⟨V',st,s1,s2,s3,s4⟩:=set_eq 2000 (by omega) V h1 w c d
  rw [s1,s2]
  simp only [Option.bind_some]
  rw [q38_refl 2000 (by omega) V' s3]
  simp only [Option.bind_some,cond_true,decide_true,Bool.not_true,cond_false]
  by_cases hst:st=0
  ·obtain ⟨i,k,rfl,rfl,hk,hd0,hd1,ha,hi,hsz,hV'⟩:=s4 hst
   obtain ⟨i',e,_,b1,b2,b3,_⟩:=al_nat ha
   obtain rfl:i=i':=by omega
   have hV:=h1.vb
   have b2':k / 4 < (List.getD V i (false,[],[],[])).2.2.1.length:=by
    have:(List.getD V i (false,[],[],[])).2.2.1.length=16:=b2
    omega
   simp only [hst,decide_true,Bool.not_true,cond_false,ge_t,lt_t hi,cond_true,toNat_cast,td4 hk,lt_t b2']
   have C:=chk_set (n:=2000) hV (w:=i) (p:=k / 4) (j:=k % 4) (g:=(rb V i).2.2.1.getD (k / 4) 0) (d:=d) (by omega) hd0 hd1
   rw [← hV'] at C
   exact p11_L12_eq 2000 (by omega) V V' hV s3 i k hk _ d C V.length 0 2000 (by omega) (by have:=hV.len; omega)
  ·simp only [hst,decide_false,Bool.not_false,cond_true]
end Go.Proofs.Ytdkaagpkeomhmaa.Rx.S

namespace Go.Proofs.Ytdkaagpkeomhmaa.Rx.S
open Go Go.Proofs.Ytdkaagpkeomhmaa.Rx Go.Proofs.Ytdkaagpkeomhmaa.Rx.Pu
set_option maxRecDepth 100000
theorem u8_wf {x:Int} (h:(Lit.int .u8 x).wf=true):0≤x∧x < 256:=by
 simp only [Lit.wf,Bool.and_eq_true,decide_eq_true_eq,IntKind.min,IntKind.max,IntKind.signed,IntKind.bits,Bool.false_eq_true,if_false] at h
 omega
theorem bytes_wf {xs:List Int} (h:WfT (.row 5 (.int .u8)) xs):∀ x ∈ xs,0≤x∧x < 256:=fun x hx=>u8_wf (h.2 x hx)
theorem pure11 (l:List Int) (h:WfT (.row 5 (.int .u8)) l):∃ n o,q11 n (l,())=some ((true,()),o):=⟨2000,(),law11 l (bytes_wf h)⟩
end Go.Proofs.Ytdkaagpkeomhmaa.Rx.S

