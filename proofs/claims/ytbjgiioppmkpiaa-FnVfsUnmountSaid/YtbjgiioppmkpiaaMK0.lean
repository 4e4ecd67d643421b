/- An evaluator over the program text, proved sound once: what a function computes on data, out of its code. No condition. -/
import Derived.Below
import Derived.Laws.AppendOwn
import Derived.Orders
import Derived.WalkKit
set_option linter.unusedVariables false
set_option linter.unusedSimpArgs false
namespace Go.Proofs.Ytbjgiioppmkpiaa.Rx
open Go Go.RowKit
inductive Ty where
 |int (k:IntKind)|bool|str
 |row (e:TypeId) (t:Ty)
 |pair (a b:Ty)
 deriving DecidableEq
@[reducible] def Ty.den:Ty→Type
 | .int _=>Int
 | .bool=>Bool
 | .str=>ByteArray
 | .row _ t=>List t.den
 | .pair a b=>a.den×b.den
def Ty.sz:Ty→Nat
 | .pair a b=>a.sz+b.sz
 |_=>1
def Ty.dflt:(t:Ty)→t.den
 | .int _=>(0:Int)
 | .bool=>false
 | .str=>ByteArray.empty
 | .row _ t=>([]:List t.den)
 | .pair a b=>(a.dflt,b.dflt)
theorem Ty.sz_pos:∀ t:Ty,0<t.sz
 | .int _=>Nat.one_pos
 | .bool=>Nat.one_pos
 | .str=>Nat.one_pos
 | .row _ _=>Nat.one_pos
 | .pair a b=>by simp only[Ty.sz];have:=a.sz_pos;omega
structure Hd where
 A:Option Addr
 cap:Nat
 len:Nat
 sz:Nat
 hole:Bool
abbrev Path:=List (Nat×Nat)
def RL{α:Type}(R:Nat→α→List Value→List Nat→Prop):Nat→List α→List Value→List Nat→Prop
 |_,[],cs,F=>cs=[]∧F=[]
 |i,x::xs,cs,F=>∃ c1 c2 F1 F2,cs=c1++c2∧F=F1++F2∧R i x c1 F1∧RL R (i+1) xs c2 F2
def HC(w:World)(g:Nat)(cells:Array Value)(e:TypeId):Prop:=∃ q:Nat×Nat,(q.2≤q.1∨(cells.size≤q.1∧e=5))∧w.heap[g]? = some (.cells cells e q)
theorem HC.old{w:World}{g:Nat}{cells:Array Value}{e:TypeId}(h:w.heap[g]? = some (.cells cells e (0,0))):HC w g cells e:=⟨_,.inl (Nat.le_refl _),h⟩
theorem HC.frame{w w':World}{g:Nat}{cells:Array Value}{e:TypeId}(hw:w'.heap[g]? = w.heap[g]?):HC w g cells e→HC w' g cells e:=fun ⟨q,hq,h⟩=>⟨q,hq,hw.trans h⟩
theorem HC.cell{w:World}{g:Nat}{cells:Array Value}{e:TypeId}(i:Nat):HC w g cells e→w.cell? ⟨g,i,none⟩=cells[i]?:=fun ⟨q,_,h⟩=>by simp[World.cell?,h]
theorem HC.unfrozen{w:World}{g:Nat}{cells:Array Value}{e:TypeId}{i:Nat}(hi:i<cells.size):HC w g cells e→w.frozen? ⟨g,i,none⟩=false:=fun ⟨q,hq,h⟩=>by
 obtain⟨lo,hi'⟩:=q;simp only[World.frozen?,h,Bool.and_eq_false_iff,decide_eq_false_iff_not];simp only at hq;omega
theorem HC.clear{w:World}{g:Nat}{cells:Array Value}{e:TypeId}{i:Nat}(he:e≠5):HC w g cells e→w.frozen? ⟨g,i,none⟩=false:=fun ⟨q,hq,h⟩=>by
 obtain⟨lo,hi'⟩:=q;simp only[World.frozen?,h,Bool.and_eq_false_iff,decide_eq_false_iff_not];rcases hq with hq|hq
 ·simp only at hq;omega
 ·exact absurd hq.2 he
theorem HC.set{w:World}{g:Nat}{cells cells':Array Value}{e:TypeId}(hs:cells'.size=cells.size):HC w g cells e→HC (w.setRow g cells') g cells' e:=fun ⟨q,hq,h⟩=>⟨q,by rw[hs];exact hq,setRow_heap w g cells cells' e q h⟩
theorem HC.store{P:Program}{w:World}{g o:Nat}{cells:Array Value}{e:TypeId}{vs:List Value}(h:HC w g cells e)(hs:o+vs.length≤cells.size)(h1:∀ v∈vs,v.oneCell'=true) :
  (storeCells ⟨g,o,none⟩ vs).run P w = .ok () (w.setRow g (cells.toList.take o++vs++cells.toList.drop (o+vs.length)).toArray):=by
 have key:∀ (vs:List Value) (i:Nat) (cur:Array Value) (w:World),HC w g cur e→o+i+vs.length≤cur.size→(∀ v∈vs,v.oneCell'=true) →
   (storeCells ⟨g,o,none⟩ vs i).run P w = .ok () (w.setRow g (cur.toList.take (o+i)++vs++cur.toList.drop (o+i+vs.length)).toArray):=by
  intro vs
  induction vs with
  |nil =>
   intro i cur w hg _ _;obtain⟨q,hq,hg⟩:=hg;simp only[storeCells,List.append_nil,List.length_nil,Nat.add_zero,List.take_append_drop,Array.toArray_toList];rw[setRow_self w g cur e q hg];rfl
  |cons v rest ih =>
   intro i cur w hg hl h1;have hi:o+i<cur.size:=by simp at hl;omega
   have hadd:(⟨g,o,none⟩:Addr).add i=⟨g,o+i,none⟩:=by unfold Addr.add;split <;> simp_all
   have hcell:w.cell? ⟨g,o+i,none⟩=some cur[o+i]:=by rw[hg.cell];simp[hi]
   have hfro:w.frozen? ⟨g,o+i,none⟩=false:=hg.unfrozen hi;obtain⟨q,hq,hg0⟩:=hg
   have hst:(Go.store ((⟨g,o,none⟩:Addr).add i) v).run P w = .ok () (w.setRow g (cur.setIfInBounds (o+i) v)):=by
    rw[hadd,run_store P w _ v _ (h1 v (by simp)),hcell];simp[hfro,setCell_eq_setRow w g (o+i) cur e q v hg0]
   have ih:=ih (i+1) (cur.setIfInBounds (o+i) v) (w.setRow g (cur.setIfInBounds (o+i) v)) (HC.set (by simp) ⟨q,hq,hg0⟩) (by simp at hl ⊢;omega) (fun x hx=>h1 x (by simp[hx]));simp only[storeCells,Sem.run_bind,hst,Result.andThen_ok,ih,setRow_setRow];congr 3;have e:=list_seg_step cur.toList (o+i) v rest (by simp at hl ⊢;omega);simpa [Array.toList_setIfInBounds,Nat.add_assoc] using e
 simpa using key vs 0 cells w h (by simpa using hs) h1
def OwRow{α:Type}(w:World)(e:TypeId)(sz:Nat)(R:Nat→α→List Value→List Nat→Prop)(h:Hd)(xs:List α)(v:Value)(F:List Nat):Prop :=
 if h.hole=true then F=[]∧v = .slice h.A h.len h.cap else
 v = .slice h.A h.len h.cap∧xs.length=h.len∧h.len≤h.cap∧h.cap≤maxLen ∧
 if h.cap=0 then F=[] else
 h.sz=sz ∧
 ∃ g b cells F',h.A=some ⟨g,b,none⟩∧F=g::F'∧HC w g cells e∧b+h.cap*sz≤cells.size ∧
  RL R 0 xs ((cells.toList.drop b).take (h.len*sz)) F'
def Ow(w:World):(t:Ty)→(Nat→Path→Hd)→Nat→t.den→List Value→List Nat→Prop
 | .int k,_,_,(n:Int),cs,F=>cs=[.int k n]∧F=[]
 | .bool,_,_,(b:Bool),cs,F=>cs=[.bool b]∧F=[]
 | .str,_,_,(s:ByteArray),cs,F=>cs=[.string s]∧F=[]
 | .pair a b,H,c,x,cs,F=>∃ c1 c2 F1 F2,cs=c1++c2∧F=F1++F2∧Ow w a H c x.1 c1 F1∧Ow w b H (c+a.sz) x.2 c2 F2
 | .row e t,H,c,xs,cs,F=>∃ v,cs=[v]∧OwRow w e t.sz (fun i x cs F=>Ow w t (fun c' p=>H c ((i,c')::p)) 0 x cs F) (H c []) xs v F
def OwR(w:World)(e:TypeId)(t:Ty)(H:Path→Hd)(xs:List t.den)(v:Value)(F:List Nat):Prop :=
 OwRow w e t.sz (fun i x cs F=>Ow w t (fun c' p=>H ((i,c')::p)) 0 x cs F) (H []) xs v F
section
variable{α:Type}{R R':Nat→α→List Value→List Nat→Prop}
theorem RL.imp{i:Nat}{xs:List α}{cs:List Value}{F:List Nat}(h:RL R i xs cs F)
  (hr:∀ k x c f,(∀ q∈f,q∈F)→R k x c f→R' k x c f):RL R' i xs cs F:=by
 induction xs generalizing i cs F with
 |nil=>exact h
 |cons x xs ih =>
  obtain⟨c1,c2,F1,F2,rfl,rfl,h1,h2⟩:=h
  exact ⟨c1,c2,F1,F2,rfl,rfl,hr _ _ _ _ (fun q hq=>List.mem_append_left _ hq) h1,
   ih h2 (fun k x c f hf=>hr k x c f (fun q hq=>List.mem_append_right _ (hf q hq)))⟩
theorem RL.imp_idx{i:Nat}{xs:List α}{cs:List Value}{F:List Nat}(h:RL R i xs cs F)
  (hr:∀ k x c f,i≤k→k<i+xs.length→(∀ q∈f,q∈F)→R k x c f→R' k x c f):RL R' i xs cs F:=by
 induction xs generalizing i cs F with
 |nil=>exact h
 |cons x xs ih =>
  obtain⟨c1,c2,F1,F2,rfl,rfl,h1,h2⟩:=h
  exact ⟨c1,c2,F1,F2,rfl,rfl,hr _ _ _ _ (Nat.le_refl _) (by simp) (fun q hq=>List.mem_append_left _ hq) h1,
   ih h2 (fun k x c f hk hk' hf=>hr k x c f (by omega) (by simp;omega) (fun q hq=>List.mem_append_right _ (hf q hq)))⟩
theorem RL.shift{d i:Nat}{xs:List α}{cs:List Value}{F:List Nat}(h:RL R (i+d) xs cs F):RL (fun k=>R (k+d)) i xs cs F:=by
 induction xs generalizing i cs F with
 |nil=>exact h
 |cons x xs ih =>
  obtain⟨c1,c2,F1,F2,rfl,rfl,h1,h2⟩:=h;refine⟨c1,c2,F1,F2,rfl,rfl,h1,ih ?_⟩;rw[show i+1+d=i+d+1 by omega];exact h2
theorem RL.unshift{d i:Nat}{xs:List α}{cs:List Value}{F:List Nat}(h:RL (fun k=>R (k+d)) i xs cs F):RL R (i+d) xs cs F:=by
 induction xs generalizing i cs F with
 |nil=>exact h
 |cons x xs ih =>
  obtain⟨c1,c2,F1,F2,rfl,rfl,h1,h2⟩:=h;refine⟨c1,c2,F1,F2,rfl,rfl,h1,?_⟩;rw[show i+d+1=i+1+d by omega];exact ih h2
theorem RL.append{i:Nat}{xs ys:List α}{cs ds:List Value}{F G:List Nat}(h:RL R i xs cs F)(h':RL R (i+xs.length) ys ds G) :
  RL R i (xs++ys) (cs++ds) (F++G):=by
 induction xs generalizing i cs F with
 |nil =>
  obtain⟨rfl,rfl⟩:=h;exact h'
 |cons x xs ih =>
  obtain⟨c1,c2,F1,F2,rfl,rfl,h1,h2⟩:=h;refine⟨c1,c2++ds,F1,F2++G,by rw[List.append_assoc],by rw[List.append_assoc],h1,ih h2 ?_⟩;rw[show i+1+xs.length=i+(x::xs).length by simp;omega];exact h'
theorem RL.split{i:Nat}{xs ys:List α}{cs:List Value}{F:List Nat}(h:RL R i (xs++ys) cs F) :
  ∃ c1 c2 F1 F2,cs=c1++c2∧F=F1++F2∧RL R i xs c1 F1∧RL R (i+xs.length) ys c2 F2:=by
 induction xs generalizing i cs F with
 |nil=>exact⟨[],cs,[],F,rfl,rfl,⟨rfl,rfl⟩,h⟩
 |cons x xs ih =>
  obtain⟨c1,c2,F1,F2,rfl,rfl,h1,h2⟩:=h;obtain⟨d1,d2,G1,G2,rfl,rfl,h3,h4⟩:=ih h2;refine⟨c1++d1,d2,F1++G1,G2,by rw[List.append_assoc],by rw[List.append_assoc],⟨c1,d1,F1,G1,rfl,rfl,h1,h3⟩,?_⟩;rw[show i+(x::xs).length=i+1+xs.length by simp;omega];exact h4
theorem RL.length{sz i:Nat}{xs:List α}{cs:List Value}{F:List Nat}(h:RL R i xs cs F)(hs:∀ k x c f,R k x c f→c.length=sz):cs.length=xs.length*sz:=by
 induction xs generalizing i cs F with
 |nil=>obtain⟨rfl,_⟩:=h;simp
 |cons x xs ih =>
  obtain⟨c1,c2,F1,F2,rfl,rfl,h1,h2⟩:=h;rw[List.length_append,hs _ _ _ _ h1,ih h2,List.length_cons,Nat.add_mul,Nat.one_mul,Nat.add_comm]
theorem RL.all{p:Value→Prop}{i:Nat}{xs:List α}{cs:List Value}{F:List Nat}(h:RL R i xs cs F)(hs:∀ k x c f,R k x c f→∀ u∈c,p u):∀ u∈cs,p u:=by
 induction xs generalizing i cs F with
 |nil=>obtain⟨rfl,_⟩:=h;intro u hu;cases hu
 |cons x xs ih =>
  obtain⟨c1,c2,F1,F2,rfl,rfl,h1,h2⟩:=h;intro u hu;rcases List.mem_append.1 hu with hu|hu
  ·exact hs _ _ _ _ h1 u hu
  ·exact ih h2 u hu
theorem RL.at{i:Nat}{xs:List α}{cs:List Value}{F:List Nat}(h:RL R 0 xs cs F)(hi:i<xs.length)(d:α) :
  ∃ ca ci cb Fa Fi Fb,cs=ca++(ci++cb)∧F=Fa++(Fi++Fb)∧RL R 0 (xs.take i) ca Fa∧R i (xs.getD i d) ci Fi∧RL R (i+1) (xs.drop (i+1)) cb Fb:=by
 have e:xs=xs.take i++(xs.getD i d::xs.drop (i+1)):=by
  rw[List.getD_eq_getElem?_getD,List.getElem?_eq_getElem hi,Option.getD_some,← List.drop_eq_getElem_cons hi,List.take_append_drop]
 rw[e]at h;obtain⟨c1,c2,F1,F2,rfl,rfl,h1,h2⟩:=h.split;obtain⟨ci,cb,Fi,Fb,rfl,rfl,h3,h4⟩:=h2;have hl:(xs.take i).length=i:=by rw[List.length_take];omega
 rw[hl,Nat.zero_add]at h3 h4;exact⟨c1,ci,cb,F1,Fi,Fb,rfl,rfl,h1,h3,h4⟩
theorem RL.put{i:Nat}{xs:List α}{ca ci cb:List Value}{Fa Fi Fb:List Nat}{x:α}(hi:i<xs.length)
  (ha:RL R 0 (xs.take i) ca Fa) (hx:R i x ci Fi) (hb:RL R (i+1) (xs.drop (i+1)) cb Fb):RL R 0 (xs.set i x) (ca++(ci++cb)) (Fa++(Fi++Fb)):=by
 have e:xs.set i x=xs.take i++(x::xs.drop (i+1)):=by
  rw[List.set_eq_take_append_cons_drop,if_pos hi]
 rw[e];have hl:(xs.take i).length=i:=by rw[List.length_take];omega
 refine ha.append ?_;rw[hl,Nat.zero_add];exact⟨ci,cb,Fi,Fb,rfl,rfl,hx,hb⟩
end
theorem OwRow.imp{α:Type}{w w':World}{e:TypeId}{sz:Nat}{R R':Nat→α→List Value→List Nat→Prop}{h:Hd}{xs:List α}{v:Value}{F:List Nat}
  (ho:OwRow w e sz R h xs v F) (hF:∀ k∈F,w'.heap[k]? = w.heap[k]?) (hr:∀ i x c f,(∀ q∈f,q∈F)→R i x c f→R' i x c f):OwRow w' e sz R' h xs v F:=by
 unfold OwRow at *;split
 ·rename_i hh;rw[if_pos hh]at ho;exact ho
 ·rename_i hh;rw[if_neg hh]at ho;obtain⟨h1,h2,h3,h4,h5⟩:=ho;refine⟨h1,h2,h3,h4,?_⟩;split
  ·rename_i hc;rw[if_pos hc]at h5;exact h5
  ·rename_i hc;rw[if_neg hc]at h5;obtain⟨h6,g,b,cells,F',hA,rfl,hg,hs,hl⟩:=h5;exact⟨h6,g,b,cells,F',hA,rfl,hg.frame (hF g List.mem_cons_self),hs,hl.imp (fun k x c f hf=>hr k x c f (fun q hq=>List.mem_cons_of_mem _ (hf q hq)))⟩
theorem Ow.frame{w w':World}:∀ (t:Ty) {H:Nat→Path→Hd} {c:Nat} {x:t.den} {cs:List Value} {F:List Nat},(∀ k∈F,w'.heap[k]? = w.heap[k]?)→Ow w t H c x cs F→Ow w' t H c x cs F
 | .int _,_,_,_,_,_,_,h=>h
 | .bool,_,_,_,_,_,_,h=>h
 | .str,_,_,_,_,_,_,h=>h
 | .pair a b,H,c,x,cs,F,hF,h=>by
  obtain⟨c1,c2,F1,F2,rfl,rfl,h1,h2⟩:=h;exact⟨c1,c2,F1,F2,rfl,rfl,Ow.frame a (fun k hk=>hF k (List.mem_append_left _ hk)) h1,Ow.frame b (fun k hk=>hF k (List.mem_append_right _ hk)) h2⟩
 | .row e t,H,c,xs,cs,F,hF,h=>by
  obtain⟨v,rfl,ho⟩:=h;exact⟨v,rfl,ho.imp hF (fun i x c f hf=>Ow.frame t (fun k hk=>hF k (hf k hk)))⟩
theorem OwR.frame{w w':World}{e:TypeId}{t:Ty}{H:Path→Hd}{xs:List t.den}{v:Value}{F:List Nat}(hF:∀ k∈F,w'.heap[k]? = w.heap[k]?)(h:OwR w e t H xs v F):OwR w' e t H xs v F :=
 OwRow.imp h hF (fun i x c f hf=>Ow.frame t (fun k hk=>hF k (hf k hk)))
theorem Ow.len{w:World}:∀ (t:Ty) {H:Nat→Path→Hd} {c:Nat} {x:t.den} {cs:List Value} {F:List Nat},Ow w t H c x cs F→cs.length=t.sz
 | .int _,_,_,_,_,_,h=>by rw[h.1];rfl
 | .bool,_,_,_,_,_,h=>by rw[h.1];rfl
 | .str,_,_,_,_,_,h=>by rw[h.1];rfl
 | .pair a b,H,c,x,cs,F,h=>by
  obtain⟨c1,c2,F1,F2,rfl,rfl,h1,h2⟩:=h;rw[List.length_append,Ow.len a h1,Ow.len b h2];rfl
 | .row e t,H,c,xs,cs,F,h=>by
  obtain⟨v,rfl,ho⟩:=h;rfl
theorem OwRow.one{α:Type}{w:World}{e:TypeId}{sz:Nat}{R:Nat→α→List Value→List Nat→Prop}{h:Hd}{xs:List α}{v:Value}{F:List Nat}
  (ho:OwRow w e sz R h xs v F):v.oneCell'=true:=by
 unfold OwRow at ho;split at ho
 ·rw[ho.2];rfl
 ·rw[ho.1];rfl
theorem Ow.one{w:World}:∀ (t:Ty) {H:Nat→Path→Hd} {c:Nat} {x:t.den} {cs:List Value} {F:List Nat},Ow w t H c x cs F→∀ u∈cs,u.oneCell'=true
 | .int _,_,_,_,_,_,h=>by rw[h.1];intro u hu;rw[List.mem_singleton.1 hu];rfl
 | .bool,_,_,_,_,_,h=>by rw[h.1];intro u hu;rw[List.mem_singleton.1 hu];rfl
 | .str,_,_,_,_,_,h=>by rw[h.1];intro u hu;rw[List.mem_singleton.1 hu];rfl
 | .pair a b,H,c,x,cs,F,h=>by
  obtain⟨c1,c2,F1,F2,rfl,rfl,h1,h2⟩:=h;intro u hu;rcases List.mem_append.1 hu with hu|hu
  ·exact Ow.one a h1 u hu
  ·exact Ow.one b h2 u hu
 | .row e t,H,c,xs,cs,F,h=>by
  obtain⟨v,rfl,ho⟩:=h;intro u hu;rw[List.mem_singleton.1 hu];exact ho.one
theorem OwRow.hd{α:Type}{w:World}{e:TypeId}{sz:Nat}{R:Nat→α→List Value→List Nat→Prop}{h h':Hd}{xs:List α}{v:Value}{F:List Nat}
  (ho:OwRow w e sz R h xs v F) (e':h'=h):OwRow w e sz R h' xs v F:=e' ▸ ho
theorem Ow.hd{w:World}:∀ (t:Ty) {H H':Nat→Path→Hd} {c:Nat} {x:t.den} {cs:List Value} {F:List Nat},
  (∀ j,c≤j→j<c+t.sz→∀ p,H' j p=H j p)→Ow w t H c x cs F→Ow w t H' c x cs F
 | .int _,_,_,_,_,_,_,_,h=>h
 | .bool,_,_,_,_,_,_,_,h=>h
 | .str,_,_,_,_,_,_,_,h=>h
 | .pair a b,H,H',c,x,cs,F,hh,h=>by
  obtain⟨c1,c2,F1,F2,rfl,rfl,h1,h2⟩:=h;have ha:=a.sz_pos;have hb:=b.sz_pos;exact⟨c1,c2,F1,F2,rfl,rfl,Ow.hd a (fun j h1 h2 p=>hh j h1 (by simp only[Ty.sz];omega) p) h1,Ow.hd b (fun j h1 h2 p=>hh j (by omega) (by simp only[Ty.sz];omega) p) h2⟩
 | .row e t,H,H',c,xs,cs,F,hh,h=>by
  obtain⟨v,rfl,ho⟩:=h;have e:H' c=H c:=funext fun p=>hh c (Nat.le_refl _) (by simp[Ty.sz]) p;refine⟨v,rfl,?_⟩;show OwR w _ t (H' c) xs v F;rw[e];exact ho
theorem OwR.hd{w:World}{e:TypeId}{t:Ty}{H H':Path→Hd}{xs:List t.den}{v:Value}{F:List Nat}(hh:∀ p,H' p=H p)(h:OwR w e t H xs v F):OwR w e t H' xs v F:=by
 have:H'=H:=funext hh;rw[this];exact h
end Go.Proofs.Ytbjgiioppmkpiaa.Rx

namespace Go.Proofs.Ytbjgiioppmkpiaa.Rx
open Go Go.RowKit
structure Sb where
 s:Ty
 y:s.den
def sub:(t:Ty)→t.den→Nat→Option Sb
 | .pair a b,x,c=>if c<a.sz then sub a x.1 c else sub b x.2 (c - a.sz)
 | .int k,x,c=>if c=0 then some ⟨.int k,x⟩ else none
 | .bool,x,c=>if c=0 then some ⟨.bool,x⟩ else none
 | .str,x,c=>if c=0 then some ⟨.str,x⟩ else none
 | .row e t,x,c=>if c=0 then some ⟨.row e t,x⟩ else none
def upd:(t:Ty)→t.den→Nat→((b:Sb)→Option b.s.den)→Option t.den
 | .pair a b,x,c,f =>
  if c<a.sz then (match upd a x.1 c f with|some y=>some (y,x.2)|none=>none)
  else (match upd b x.2 (c - a.sz) f with|some y=>some (x.1,y)|none=>none)
 | .int k,x,c,f=>if c=0 then f ⟨.int k,x⟩ else none
 | .bool,x,c,f=>if c=0 then f ⟨.bool,x⟩ else none
 | .str,x,c,f=>if c=0 then f ⟨.str,x⟩ else none
 | .row e t,x,c,f=>if c=0 then f ⟨.row e t,x⟩ else none
section
variable{w:World}
theorem Ow.cell:∀ (t:Ty) {H:Nat→Path→Hd} {c0:Nat} {x:t.den} {cs:List Value} {F:List Nat} {c:Nat} {b:Sb},Ow w t H c0 x cs F→sub t x c=some b →
  ∃ ca u cb Fa Fs Fb,cs=ca++(u::cb)∧ca.length=c∧F=Fa++(Fs++Fb)∧Ow w b.s H (c0+c) b.y [u] Fs ∧
   ∀ (w':World) (H':Nat→Path→Hd) (y':b.s.den) (u':Value) (Fs':List Nat) (x':t.den) (f:(b:Sb)→Option b.s.den),
    f b=some y'→upd t x c f=some x'→(∀ k∈Fa++Fb,w'.heap[k]? = w.heap[k]?)→(∀ j,j≠c0+c→∀ p,H' j p=H j p) →
    Ow w' b.s H' (c0+c) y' [u'] Fs'→Ow w' t H' c0 x' (ca++(u'::cb)) (Fa++(Fs'++Fb))
 | .int k,H,c0,x,cs,F,c,b,h,hs=>by
  simp only[sub]at hs;split at hs
  ·rename_i hc;subst hc;injection hs with hs;subst hs
   obtain⟨rfl,rfl⟩:=h;refine⟨[],_,[],[],[],[],rfl,rfl,rfl,⟨rfl,rfl⟩,?_⟩;intro w' H' y' u' Fs' x' f hf hu _ _ ho;simp only[upd,if_true]at hu;rw[hf]at hu;injection hu with hu;subst hu
   simpa using ho
  ·cases hs
 | .bool,H,c0,x,cs,F,c,b,h,hs=>by
  simp only[sub]at hs;split at hs
  ·rename_i hc;subst hc;injection hs with hs;subst hs
   obtain⟨rfl,rfl⟩:=h;refine⟨[],_,[],[],[],[],rfl,rfl,rfl,⟨rfl,rfl⟩,?_⟩;intro w' H' y' u' Fs' x' f hf hu _ _ ho;simp only[upd,if_true]at hu;rw[hf]at hu;injection hu with hu;subst hu
   simpa using ho
  ·cases hs
 | .str,H,c0,x,cs,F,c,b,h,hs=>by
  simp only[sub]at hs;split at hs
  ·rename_i hc;subst hc;injection hs with hs;subst hs
   obtain⟨rfl,rfl⟩:=h;refine⟨[],_,[],[],[],[],rfl,rfl,rfl,⟨rfl,rfl⟩,?_⟩;intro w' H' y' u' Fs' x' f hf hu _ _ ho;simp only[upd,if_true]at hu;rw[hf]at hu;injection hu with hu;subst hu
   simpa using ho
  ·cases hs
 | .row e t,H,c0,x,cs,F,c,b,h,hs=>by
  simp only[sub]at hs;split at hs
  ·rename_i hc;subst hc;injection hs with hs;subst hs
   have h':=h;obtain⟨v,rfl,_⟩:=h;refine⟨[],v,[],[],F,[],rfl,rfl,by simp,h',?_⟩;intro w' H' y' u' Fs' x' f hf hu _ _ ho;simp only[upd,if_true]at hu;rw[hf]at hu;injection hu with hu;subst hu
   simpa using ho
  ·cases hs
 | .pair a b',H,c0,x,cs,F,c,b,h,hs=>by
  obtain⟨c1,c2,F1,F2,rfl,rfl,h1,h2⟩:=h;simp only[sub]at hs;have la:=Ow.len a h1;split at hs
  ·rename_i hc;obtain⟨ca,u,cb,Fa,Fs,Fb,rfl,hl,rfl,ho,hk⟩:=Ow.cell a h1 hs;refine⟨ca,u,cb++c2,Fa,Fs,Fb++F2,by simp,hl,by simp,ho,?_⟩;intro w' H' y' u' Fs' x' f hf hu hF hH ho';simp only[upd,if_pos hc]at hu;split at hu
   ·rename_i z hz;injection hu with hu
    subst hu;refine⟨ca++(u'::cb),c2,Fa++(Fs'++Fb),F2,by simp,by simp,hk w' H' y' u' Fs' z f hf hz (fun k hk=>hF k (by grind)) hH ho',?_⟩;refine Ow.frame b' (fun k hk=>hF k (by grind)) ?_;exact Ow.hd b' (fun j hj _ p=>hH j (by omega) p) h2
   ·cases hu
  ·rename_i hc;obtain⟨ca,u,cb,Fa,Fs,Fb,rfl,hl,rfl,ho,hk⟩:=Ow.cell b' h2 hs;have e0:c0+a.sz+(c - a.sz)=c0+c:=by omega
   rw[e0]at ho hk;refine⟨c1++ca,u,cb,F1++Fa,Fs,Fb,by simp,by rw[List.length_append,la,hl];omega,by simp,ho,?_⟩;intro w' H' y' u' Fs' x' f hf hu hF hH ho';simp only[upd,if_neg hc]at hu;split at hu
   ·rename_i z hz;injection hu with hu
    subst hu;refine⟨c1,ca++(u'::cb),F1,Fa++(Fs'++Fb),by simp,by simp,?_,hk w' H' y' u' Fs' z f hf hz (fun k hk=>hF k (by grind)) hH ho'⟩;refine Ow.frame a (fun k hk=>hF k (by grind)) ?_;exact Ow.hd a (fun j _ hj p=>hH j (by omega) p) h1
   ·cases hu
theorem zby(w:World)(g o:Nat)(u:Value)(cells:Array Value)(e:TypeId)(fz:Nat×Nat)(hg:w.heap[g]? = some (.cells cells e fz)) :
  (w.setCell ⟨g,o,none⟩ u).heap[g]? = some (.cells (cells.setIfInBounds o u) e fz):=by
 simp only[World.setCell,Array.getElem?_modify];simp[hg]
theorem zn0{cells:List Value}{b m:Nat}{ca cb:List Value}{u u':Value}(h:(cells.drop b).take m=ca++(u::cb))(hb:b+m≤cells.length) :
  ((cells.set (b+ca.length) u').drop b).take m=ca++(u'::cb):=by
 have hl:((cells.drop b).take m).length=m:=by simp;omega
 have hm:m=ca.length+(cb.length+1):=by rw[← hl,h];simp
 apply List.ext_getElem?;intro j
 have hj:=congrArg (·[j]?) h
 simp only[List.getElem?_take,List.getElem?_drop,List.getElem?_set]at hj ⊢
 by_cases hjm:j<m
 ·rw[if_pos hjm]at hj ⊢
  by_cases hc:ca.length=j
  ·subst hc;have hb':b+ca.length<cells.length:=by omega
   simp[hb']
  ·have hne:¬ b+ca.length=b+j:=by omega
   rw[if_neg hne,hj];rcases Nat.lt_or_ge j ca.length with hlt|hge
   ·rw[List.getElem?_append_left hlt,List.getElem?_append_left hlt]
   ·rw[List.getElem?_append_right hge,List.getElem?_append_right hge];obtain⟨n,hn⟩:∃ n,j - ca.length=n+1:=⟨j - ca.length - 1,by omega⟩;rw[hn,List.getElem?_cons_succ,List.getElem?_cons_succ]
 ·rw[if_neg hjm]at hj ⊢;rw[hj];rw[List.getElem?_append_right (by omega),List.getElem?_append_right (by omega)];obtain⟨n,hn⟩:∃ n,j - ca.length=n+1:=⟨j - ca.length - 1,by omega⟩;rw[hn,List.getElem?_cons_succ,List.getElem?_cons_succ]
theorem OwR.cell{e:TypeId}{t:Ty}{H:Path→Hd}{xs:List t.den}{v:Value}{F:List Nat}{i c:Nat}{b:Sb}
  (h:OwR w e t H xs v F) (hh:(H []).hole=false) (hi:i<(H []).len) (hs:sub t (xs.getD i t.dflt) c=some b) :
  ∃ g bs u Fa Fs Fb cells,(H []).A=some ⟨g,bs,none⟩∧(H []).sz=t.sz∧F=Fa++(Fs++Fb)∧g∈Fa∧HC w g cells e∧cells[bs+i*t.sz+c]? = some u ∧
   Ow w b.s (fun c' p=>H ((i,c')::p)) c b.y [u] Fs ∧
   ∀ (w':World) (H':Path→Hd) (y':b.s.den) (u':Value) (Fs':List Nat) (x':t.den) (f:(b:Sb)→Option b.s.den),
    f b=some y'→upd t (xs.getD i t.dflt) c f=some x'→(∀ k∈Fa++Fb,k≠g→w'.heap[k]? = w.heap[k]?) →
    HC w' g (cells.setIfInBounds (bs+i*t.sz+c) u') e→g∉Fa.tail→g∉Fb→H' []=H [] →
    (∀ i' c' p,¬ (i'=i∧c'=c)→H' ((i',c')::p)=H ((i',c')::p)) →
    Ow w' b.s (fun c' p=>H' ((i,c')::p)) c y' [u'] Fs'→OwR w' e t H' (xs.set i x') v (Fa++(Fs'++Fb)):=by
 unfold OwR OwRow at h;rw[if_neg (by simp[hh])]at h;obtain⟨hv,hl,hle,hmx,h5⟩:=h;rw[if_neg (by omega)]at h5;obtain⟨hsz0,g,bs,cells,F',hA,rfl,hg,hsz,hrl⟩:=h5;obtain⟨ca,ci,cb,Fa,Fi,Fb,hcs,rfl,hra,hri,hrb⟩:=hrl.at (i:=i) (by omega) t.dflt;obtain⟨ca',u,cb',Fa',Fs,Fb',rfl,hcl,rfl,ho,hk⟩:=Ow.cell t hri hs;rw[Nat.zero_add]at ho hk
 have hca:ca.length=i*t.sz:=by
  rw[hra.length (sz:=t.sz) (fun k x c f h=>Ow.len t h),List.length_take];congr 1;omega
 have hsz':bs+(H []).len*t.sz≤cells.toList.length:=by
  have:=Nat.mul_le_mul_right t.sz hle;simp;omega
 have hcs':(cells.toList.drop bs).take ((H []).len*t.sz)=(ca++ca')++(u::(cb'++cb)):=by rw[hcs];simp
 have hpos:bs+(ca++ca').length=bs+i*t.sz+c:=by rw[List.length_append,hca,hcl];omega
 have hu:cells[bs+i*t.sz+c]? = some u:=by
  have:=congrArg (·[(ca++ca').length]?) hcs'
  simp only[List.getElem?_take,List.getElem?_drop]at this;rw[← hpos]
  have hlt:(ca++ca').length<(H []).len*t.sz:=by
   have hx:((cells.toList.drop bs).take ((H []).len*t.sz)).length=(H []).len*t.sz:=by simp at hsz' ⊢;omega
   rw[← hx,hcs'];simp
  rw[if_pos hlt]at this;simpa using this
 refine⟨g,bs,u,g::(Fa++Fa'),Fs,Fb'++Fb,cells,hA,hsz0,by simp,List.mem_cons_self,hg,hu,ho,?_⟩;intro w' H' y' u' Fs' x' f hf hup hF hg' hnd hnb hH0 hH ho';unfold OwR OwRow;have hnd':g∉Fa++Fa':=by simpa using hnd
 rw[hH0,if_neg (by simp[hh])];refine⟨hv,by simpa using hl,hle,hmx,?_⟩;rw[if_neg (by omega)];refine⟨hsz0,g,bs,_,Fa++((Fa'++(Fs'++Fb'))++Fb),hA,by simp,hg',by simpa using hsz,?_⟩;have hd:=zn0 (u':=u') hcs' hsz';rw[hpos]at hd
 have:((cells.setIfInBounds (bs+i*t.sz+c) u').toList.drop bs).take ((H []).len*t.sz)=ca++((ca'++(u'::cb'))++cb):=by
  rw[Array.toList_setIfInBounds,hd];simp
 rw[this]
 have fr:∀ k,k ∈ Fa ++ Fb→w'.heap[k]? = w.heap[k]?:=fun k hk=>hF k (by grind) (by
  rintro rfl;rcases List.mem_append.1 hk with hk|hk
  ·exact hnd' (List.mem_append_left _ hk)
  ·exact hnb (List.mem_append_right _ hk))
 refine RL.put (by omega) (hra.imp_idx fun k x c' f' _ hk' hf' hr=>?_) ?_ (hrb.imp_idx fun k x c' f' hk' _ hf' hr=>?_)
 ·have hki:k≠i:=by rw[List.length_take]at hk';omega
  refine Ow.frame t (fun q hq=>fr q (List.mem_append_left _ (hf' q hq))) (Ow.hd t (fun j _ _ p=>?_) hr);exact hH _ _ _ (fun hh=>hki hh.1)
 ·refine hk w' (fun c' p=>H' ((i,c')::p)) y' u' Fs' x' f hf hup (fun k hk=>hF k (by grind) ?_) (fun j hj p=>hH _ _ _ (fun hh=>hj hh.2)) ho';rintro rfl;rcases List.mem_append.1 hk with hk|hk
  ·exact hnd' (List.mem_append_right _ hk)
  ·exact hnb (List.mem_append_left _ hk)
 ·have hki:k≠i:=by omega
  refine Ow.frame t (fun q hq=>fr q (List.mem_append_right _ (hf' q hq))) (Ow.hd t (fun j _ _ p=>?_) hr);exact hH _ _ _ (fun hh=>hki hh.1)
theorem OwR.elem{e:TypeId}{t:Ty}{H:Path→Hd}{xs:List t.den}{v:Value}{F:List Nat}{i:Nat}
  (h:OwR w e t H xs v F) (hnd:F.Nodup) (hh:(H []).hole=false) (hi:i<(H []).len) :
  ∃ g bs ci Fa Fi Fb cells,(H []).A=some ⟨g,bs,none⟩∧(H []).sz=t.sz∧F=Fa++(Fi++Fb)∧g∈Fa∧HC w g cells e∧bs+i*t.sz+t.sz≤cells.size ∧
   (∀ j u,ci[j]? = some u→cells[bs+i*t.sz+j]? = some u)∧xs.length=(H []).len∧Ow w t (fun c' p=>H ((i,c')::p)) 0 (xs.getD i t.dflt) ci Fi ∧
   ∀ (w':World) (H':Path→Hd) (x':t.den) (ci':List Value) (Fi':List Nat) (cells':Array Value),
    (∀ k∈Fa++Fb,k≠g→w'.heap[k]? = w.heap[k]?)→HC w' g cells' e→cells'.size=cells.size →
    (∀ j u,ci'[j]? = some u→cells'[bs+i*t.sz+j]? = some u)→(∀ j,(j<bs+i*t.sz∨bs+i*t.sz+t.sz≤j)→cells'[j]? = cells[j]?) →
    H' []=H []→(∀ i' c' p,i'≠i→H' ((i',c')::p)=H ((i',c')::p)) →
    Ow w' t (fun c' p=>H' ((i,c')::p)) 0 x' ci' Fi'→OwR w' e t H' (xs.set i x') v (Fa++(Fi'++Fb)):=by
 unfold OwR OwRow at h;rw[if_neg (by simp[hh])]at h;obtain⟨hv,hl,hle,hmx,h5⟩:=h;rw[if_neg (by omega)]at h5;obtain⟨hsz0,g,bs,cells,F',hA,rfl,hg,hsz,hrl⟩:=h5;obtain⟨ca,ci,cb,Fa,Fi,Fb,hcs,rfl,hra,hri,hrb⟩:=hrl.at (i:=i) (by omega) t.dflt
 have hca:ca.length=i*t.sz:=by
  rw[hra.length (sz:=t.sz) (fun k x c f h=>Ow.len t h),List.length_take];congr 1;omega
 have hci:ci.length=t.sz:=Ow.len t hri
 have hcb:cb.length=(xs.length - (i+1))*t.sz:=by
  rw[hrb.length (sz:=t.sz) (fun k x c f h=>Ow.len t h),List.length_drop]
 have hsz':bs+(H []).len*t.sz≤cells.size:=by
  have:=Nat.mul_le_mul_right t.sz hle;omega
 have hm:(H []).len*t.sz=i*t.sz+t.sz+cb.length:=by
  have hx:((cells.toList.drop bs).take ((H []).len*t.sz)).length=(H []).len*t.sz:=by simp;omega
  rw[← hx,hcs];simp;omega
 have hget:∀ j u,ci[j]? = some u→cells[bs+i*t.sz+j]? = some u:=by
  intro j u hu;have hj:j<ci.length:=(List.getElem?_eq_some_iff.1 hu).1
  have:=congrArg (·[ca.length+j]?) hcs
  simp only[List.getElem?_take,List.getElem?_drop]at this;rw[if_pos (by omega),List.getElem?_append_right (by omega),Nat.add_sub_cancel_left,List.getElem?_append_left hj,hu,hca]at this;rw[← this,Array.getElem?_toList];congr 1;omega
 have hnd0:=List.nodup_cons.1 hnd;refine⟨g,bs,ci,g::Fa,Fi,Fb,cells,hA,hsz0,rfl,List.mem_cons_self,hg,by omega,hget,hl,hri,?_⟩;intro w' H' x' ci' Fi' cells' hF hg' hs' hc1 hc2 hH0 hH ho';have hci':ci'.length=t.sz:=Ow.len t ho';unfold OwR OwRow;rw[hH0,if_neg (by simp[hh])];refine⟨hv,by simpa using hl,hle,hmx,?_⟩;rw[if_neg (by omega)];refine⟨hsz0,g,bs,cells',Fa++(Fi'++Fb),hA,rfl,hg',by omega,?_⟩
 have hnew:(cells'.toList.drop bs).take ((H []).len*t.sz)=ca++(ci'++cb):=by
  apply List.ext_getElem?;intro j
  have hold:=congrArg (·[j]?) hcs
  simp only[List.getElem?_take,List.getElem?_drop]at hold ⊢
  by_cases hj:j<(H []).len*t.sz
  ·rw[if_pos hj]at hold ⊢;rcases Nat.lt_or_ge j ca.length with h1|h1
   ·rw[List.getElem?_append_left h1]at hold ⊢;rw[← hold];have:=hc2 (bs+j) (.inl (by omega));simpa using this
   ·rw[List.getElem?_append_right h1]at hold ⊢;rcases Nat.lt_or_ge (j - ca.length) t.sz with h2|h2
    ·rw[List.getElem?_append_left (by omega)];have hu:ci'[j - ca.length]? = some (ci'[j - ca.length]'(by omega)):=List.getElem?_eq_getElem (by omega);rw[hu];have:=hc1 _ _ hu;rw[Array.getElem?_toList,← this];congr 1;omega
    ·rw[List.getElem?_append_right (by omega)]at hold ⊢;rw[hci]at hold;rw[hci',← hold];have:=hc2 (bs+j) (.inr (by omega));simpa using this
  ·rw[if_neg hj]at hold ⊢;rw[List.getElem?_append_right (by omega),List.getElem?_append_right (by omega),List.getElem?_eq_none (by omega)]
 rw[hnew]
 have fr:∀ k,k ∈ Fa ++ Fb→w'.heap[k]? = w.heap[k]?:=fun k hk=>hF k (by grind) (by
  rintro rfl
  exact hnd0.1 (by grind))
 refine RL.put (by omega) (hra.imp_idx fun k x c' f' _ hk' hf' hr=>?_) ho' (hrb.imp_idx fun k x c' f' hk' _ hf' hr=>?_)
 ·have hki:k≠i:=by rw[List.length_take]at hk';omega
  exact Ow.frame t (fun q hq=>fr q (List.mem_append_left _ (hf' q hq))) (Ow.hd t (fun j _ _ p=>hH _ _ _ hki) hr)
 ·have hki:k≠i:=by omega
  exact Ow.frame t (fun q hq=>fr q (List.mem_append_right _ (hf' q hq))) (Ow.hd t (fun j _ _ p=>hH _ _ _ hki) hr)
structure Rw where
 e:TypeId
 t:Ty
 xs:List t.den
def zll:Sb→Option Rw
 |⟨.row e t,ys⟩=>some ⟨e,t,ys⟩
 |_=>none
def zbe:Path→Rw→Option Rw
 | [],r=>some r
 |(i,c)::p,r=>match sub r.t (r.xs.getD i r.t.dflt) c with
  |some b=>(match zll b with|some r'=>zbe p r'|none=>none)
  |none=>none
def zpa(f:(r:Rw)→Option (List r.t.den)):(b:Sb)→Option b.s.den
 |⟨.row e t,ys⟩=>f ⟨e,t,ys⟩
 |_=>none
def zbo:Path→(r:Rw)→((r':Rw)→Option (List r'.t.den))→Option (List r.t.den)
 | [],r,f=>f r
 |(i,c)::p,r,f=>match upd r.t (r.xs.getD i r.t.dflt) c (zpa fun r'=>zbo p r' f) with
  |some x=>some (r.xs.set i x)
  |none=>none
def zh5:(Path→Hd)→Path→Prop
 |_,[]=>True
 |H,(i,c)::p=>(H []).hole=false∧i<(H []).len∧zh5 (fun q=>H ((i,c)::q)) p
theorem OwR.focus:∀ (p:Path) {r r':Rw} {H:Path→Hd} {v:Value} {F:List Nat},OwR w r.e r.t H r.xs v F→F.Nodup→zh5 H p→zbe p r=some r' →
    ∃ v' Fa F' Fb,F=Fa++(F'++Fb)∧OwR w r'.e r'.t (fun q=>H (p++q)) r'.xs v' F' ∧
      ∀ (w':World) (H':Path→Hd) (ys':List r'.t.den) (F1:List Nat) (xs1:List r.t.den) (f:(r:Rw)→Option (List r.t.den)),
        f r'=some ys'→zbo p r f=some xs1→(∀ k∈Fa++Fb,w'.heap[k]? = w.heap[k]?)→(∀ q,¬ (p <+: q)→H' q=H q) →
        OwR w' r'.e r'.t (fun q=>H' (p++q)) ys' v' F1→OwR w' r.e r.t H' xs1 v (Fa++(F1++Fb))
  | [],r,r',H,v,F,h,hnd,hp,hr=>by
    simp only[zbe]at hr;injection hr with hr
    subst hr;refine⟨v,[],F,[],by simp,h,?_⟩;intro w' H' ys' F1 xs1 f hf hu _ _ ho;simp only[zbo]at hu;rw[hf]at hu;injection hu with hu
    subst hu;simpa using ho
  |(i,c)::p,r,r',H,v,F,h,hnd,hp,hr=>by
    obtain⟨hh,hi,hp⟩:=hp;simp only[zbe]at hr;split at hr
    · rename_i b hb;split at hr
      · rename_i r1 hr1;obtain⟨g,bs,u,Fa,Fs,Fb,cells,hA,hszz,rfl,hgm,hg,hu,ho,hk⟩:=h.cell hh hi hb;obtain⟨bt,by_⟩:=b
        cases bt with
        |row e1 t1 =>
          simp only[zll]at hr1;injection hr1 with hr1
          subst hr1;obtain⟨u',hu',ho'⟩:=ho;injection hu' with hu'
          subst hu';have hnd1:Fs.Nodup:=(List.nodup_append.1 ((List.nodup_append.1 hnd).2.1)).1;obtain⟨v',Ga,F',Gb,rfl,ho2,hk2⟩:=OwR.focus p (r:=⟨e1,t1,by_⟩) (H:=fun q=>H ((i,c)::q)) (v:=u) (F:=Fs) ho' hnd1 hp hr;refine⟨v',Fa++Ga,F',Gb++Fb,by simp,ho2,?_⟩;intro w' H' ys' F1 xs1 f hf hup hF hH ho3;simp only[zbo]at hup;split at hup
          · rename_i x' hx';injection hup with hup
            subst hup;have hgF:w'.heap[g]? = w.heap[g]?:=hF g (by grind)
            have hsame:cells.setIfInBounds (bs+i*r.t.sz+c) u=cells:=by
              apply Array.ext
              · simp
              · intro j h1 h2;rw[Array.getElem_setIfInBounds];split
                · rename_i hj;subst hj;rw[Array.getElem?_eq_getElem h2]at hu;injection hu with hu
                  exact hu.symm
                · rfl
            -- the inner row,changed
            obtain⟨zs,hzs,hz2⟩:∃ zs,zbo p ⟨e1,t1,by_⟩ f=some zs∧True:=by
              cases hq:zbo p ⟨e1,t1,by_⟩ f with
              |some zs=>exact⟨zs,rfl,trivial⟩
              |none =>
                exfalso
                have hno:∀ (t:Ty) (x:t.den) (c:Nat),sub t x c=some ⟨.row e1 t1,by_⟩→upd t x c (zpa fun r'=>zbo p r' f)=none:=by
                  intro t
                  induction t with
                  |int k=>intro x c h;simp only[sub]at h;split at h <;> cases h
                  |bool=>intro x c h;simp only[sub]at h;split at h <;> cases h
                  |str=>intro x c h;simp only[sub]at h;split at h <;> cases h
                  | row e t ih => intro x c h; simp only [sub] at h; split at h
                                  · rename_i hc;subst hc;injection h with h;injection h with h1 h2;injection h1 with h3 h4;subst h3;subst h4;have:=eq_of_heq h2;subst this;simp only[upd,if_true,zpa];exact hq
                                  · cases h
                  |pair a b iha ihb =>
                    intro x c h;simp only[sub]at h;split at h
                    · rename_i hc;simp only[upd,if_pos hc,iha _ _ h]
                    · rename_i hc;simp only[upd,if_neg hc,ihb _ _ h]
                rw[hno _ _ _ hb]at hx';cases hx'
            have ho4:=hk2 w' (fun q=>H' ((i,c)::q)) ys' F1 zs f hf hzs (fun k hk=>hF k (by grind)) (fun q hq=>hH _ (fun hpre=>hq (by simpa using hpre))) ho3;have hnd2:=hnd
            have hgA:g∉Fa.tail∧g∉Fb:=by
              have hFa:∃ l,Fa=g::l∨g∈Fa:=⟨[],.inr hgm⟩;constructor
              · have hn:=(List.nodup_append.1 hnd).1;intro hm
                cases Fa with
                |nil=>cases hm
                |cons a l =>
                  simp only[List.tail_cons]at hm;have hn1:=List.nodup_cons.1 hn
                  -- the head is g itself
                  by_cases hag:a=g
                  · subst hag;exact hn1.1 hm
                  · exact (by
                      have:=hk
                      exact absurd hm (by
                        intro _
                        exact hag (by
                          have hg0:=h;unfold OwR OwRow at hg0;rw[if_neg (by simp[hh])]at hg0;obtain⟨_,_,hle,_,h5⟩:=hg0;rw[if_neg (by omega)]at h5;obtain⟨_,g',b',_,F'',hA',hF',_⟩:=h5;rw[hA]at hA';injection hA' with hA'
                          injection hA' with hg1
                          rw[List.cons_append]at hF';injection hF' with hF1
                          rw[hF1,hg1])))
              · intro hm;exact(List.nodup_append.1 hnd).2.2 g hgm g (by grind) rfl
            have hres:=hk w' H' zs u (Ga++(F1++Gb)) x' (zpa fun r'=>zbo p r' f) hzs hx' (fun k hk _=>hF k (by grind)) (by rw[hsame];exact hg.frame hgF) hgA.1 hgA.2
              (hH _ (by simp)) (fun i' c' q hne=>hH _ (fun hpre=>hne (by simpa using (List.cons_prefix_cons.1 hpre).1.symm))) ⟨u,rfl,ho4⟩
            simpa using hres
          · cases hup
        |_=>simp[zll]at hr1
      · cases hr
    · cases hr
end
end Go.Proofs.Ytbjgiioppmkpiaa.Rx

namespace Go.Proofs.Ytbjgiioppmkpiaa.Rx
open Go Go.RowKit
def CnRow{α:Type}(w:World)(Z:Nat→Prop)(sz:Nat)(R:α→List Value→Prop)(xs:List α)(v:Value):Prop :=
 ∃ A cap,v = .slice A xs.length cap∧xs.length≤cap∧cap≤maxLen ∧
  (xs=[]∨∃ g b cells q fz,A=some ⟨g,b,none⟩∧Z g∧w.heap[g]? = some (.cells cells q fz)∧b + xs.length * sz≤cells.size ∧
   RL (fun _ x cs F=>R x cs∧F=[]) 0 xs ((cells.toList.drop b).take (xs.length*sz)) [])∧(A=none→cap=0)
def Cn(w:World)(Z:Nat→Prop):(t:Ty)→t.den→List Value→Prop
 | .int k,(n:Int),cs=>cs=[.int k n]
 | .bool,(b:Bool),cs=>cs=[.bool b]
 | .str,(s:ByteArray),cs=>cs=[.string s]
 | .pair a b,x,cs=>∃ c1 c2,cs=c1++c2∧Cn w Z a x.1 c1∧Cn w Z b x.2 c2
 | .row e t,xs,cs=>∃ v,cs=[v]∧CnRow w Z t.sz (fun x cs=>Cn w Z t x cs) xs v
abbrev CnR(w:World)(Z:Nat→Prop)(t:Ty)(xs:List t.den)(v:Value):Prop:=CnRow w Z t.sz (fun x cs=>Cn w Z t x cs) xs v
section
variable{w w':World}{Z Z':Nat→Prop}
theorem CnRow.imp{α:Type}{sz:Nat}{R R':α→List Value→Prop}{xs:List α}{v:Value}(h:CnRow w Z sz R xs v)
  (hw:∀ k,Z k→Z' k∧w'.heap[k]? = w.heap[k]?) (hr:∀ x c,R x c→R' x c):CnRow w' Z' sz R' xs v:=by
 obtain⟨A,cap,rfl,h1,h2,h3,h4⟩:=h;refine⟨A,cap,rfl,h1,h2,?_,h4⟩;rcases h3 with h3|⟨g,b,cells,q,fz,rfl,hz,hg,hs,hl⟩
 ·exact .inl h3
 ·exact .inr ⟨g,b,cells,q,fz,rfl,(hw g hz).1,(hw g hz).2.trans hg,hs,hl.imp (fun k x c f _ h=>⟨hr x c h.1,h.2⟩)⟩
theorem Cn.imp(hw:∀ k,Z k→Z' k∧w'.heap[k]? = w.heap[k]?):∀ (t:Ty) {x:t.den} {cs:List Value},Cn w Z t x cs→Cn w' Z' t x cs
 | .int _,_,_,h=>h
 | .bool,_,_,h=>h
 | .str,_,_,h=>h
 | .pair a b,x,cs,h=>by
  obtain⟨c1,c2,rfl,h1,h2⟩:=h;exact⟨c1,c2,rfl,Cn.imp hw a h1,Cn.imp hw b h2⟩
 | .row e t,xs,cs,h=>by
  obtain⟨v,rfl,ho⟩:=h;exact⟨v,rfl,ho.imp hw (fun x c h=>Cn.imp hw t h)⟩
theorem CnR.imp{t:Ty}{xs:List t.den}{v:Value}(hw:∀ k,Z k→Z' k∧w'.heap[k]? = w.heap[k]?)(h:CnR w Z t xs v):CnR w' Z' t xs v :=
 CnRow.imp h hw (fun x c h=>Cn.imp hw t h)
theorem Cn.len:∀ (t:Ty) {x:t.den} {cs:List Value},Cn w Z t x cs→cs.length=t.sz
 | .int _,_,_,h=>by rw[show _=_ from h];rfl
 | .bool,_,_,h=>by rw[show _=_ from h];rfl
 | .str,_,_,h=>by rw[show _=_ from h];rfl
 | .pair a b,x,cs,h=>by
  obtain⟨c1,c2,rfl,h1,h2⟩:=h;rw[List.length_append,Cn.len a h1,Cn.len b h2];rfl
 | .row e t,xs,cs,h=>by
  obtain⟨v,rfl,ho⟩:=h;rfl
theorem Cn.one:∀ (t:Ty) {x:t.den} {cs:List Value},Cn w Z t x cs→∀ u∈cs,u.oneCell'=true
 | .int _,_,_,h=>by rw[show _=_ from h];intro u hu;rw[List.mem_singleton.1 hu];rfl
 | .bool,_,_,h=>by rw[show _=_ from h];intro u hu;rw[List.mem_singleton.1 hu];rfl
 | .str,_,_,h=>by rw[show _=_ from h];intro u hu;rw[List.mem_singleton.1 hu];rfl
 | .pair a b,x,cs,h=>by
  obtain⟨c1,c2,rfl,h1,h2⟩:=h;intro u hu;rcases List.mem_append.1 hu with hu|hu
  ·exact Cn.one a h1 u hu
  ·exact Cn.one b h2 u hu
 | .row e t,xs,cs,h=>by
  obtain⟨v,rfl,A,cap,rfl,_⟩:=h;intro u hu;rw[List.mem_singleton.1 hu];rfl
theorem Ow.toCn:∀ (t:Ty) {H:Nat→Path→Hd} {c:Nat} {x:t.den} {cs:List Value} {F:List Nat},(∀ j p,(H j p).hole=false)→(∀ k∈F,Z k)→Ow w t H c x cs F→Cn w Z t x cs
 | .int _,_,_,_,_,_,_,_,h=>h.1
 | .bool,_,_,_,_,_,_,_,h=>h.1
 | .str,_,_,_,_,_,_,_,h=>h.1
 | .pair a b,H,c,x,cs,F,hh,hF,h=>by
  obtain⟨c1,c2,F1,F2,rfl,rfl,h1,h2⟩:=h;exact⟨c1,c2,rfl,Ow.toCn a hh (fun k hk=>hF k (List.mem_append_left _ hk)) h1,Ow.toCn b hh (fun k hk=>hF k (List.mem_append_right _ hk)) h2⟩
 | .row e t,H,c,xs,cs,F,hh,hF,h=>by
  obtain⟨v,rfl,ho⟩:=h;refine⟨v,rfl,?_⟩;unfold OwRow at ho;rw[if_neg (by simp[hh])]at ho;obtain⟨rfl,hl,hle,hmx,h5⟩:=ho;refine⟨_,_,by rw[hl],by omega,hmx,?_,fun hn=>?_⟩
  rotate_left
  ·split at h5
   ·assumption
   ·obtain⟨_,g,b,cells,F',hA,_⟩:=h5;rw[hA]at hn;cases hn
  split at h5
  ·left;exact List.eq_nil_of_length_eq_zero (by omega)
  ·right;obtain⟨_,g,b,cells,F',hA,rfl,⟨q,_,hg⟩,hs,hrl⟩:=h5;refine⟨g,b,cells,e,q,hA,hF g List.mem_cons_self,hg,?_,?_⟩
   ·have:=Nat.mul_le_mul_right t.sz hle;rw[hl];omega
   ·rw[hl];have hrl':=hrl.imp (R':=fun _ x cs F=>Cn w Z t x cs) (fun k x c f hf hr=>Ow.toCn t (fun j p=>hh _ _) (fun q hq=>hF q (List.mem_cons_of_mem _ (hf q hq))) hr);clear hrl;generalize (cells.toList.drop b).take ((H c []).len*t.sz)=cs at hrl';generalize (0:Nat)=i at hrl';clear hF hg hs hl
    induction xs generalizing i cs F' with
    |nil=>exact⟨hrl'.1,rfl⟩
    |cons x xs ih =>
     obtain⟨c1,c2,F1,F2,rfl,rfl,h1,h2⟩:=hrl';exact⟨c1,c2,[],[],rfl,rfl,⟨h1,rfl⟩,ih F2 c2 (i+1) h2⟩
theorem OwR.toCn{e:TypeId}{t:Ty}{H:Path→Hd}{xs:List t.den}{v:Value}{F:List Nat}(hh:∀ p,(H p).hole=false)(hF:∀ k∈F,Z k)(h:OwR w e t H xs v F):CnR w Z t xs v:=by
 obtain⟨v',hv,h'⟩:=Ow.toCn (Z:=Z) (.row e t) (H:=fun _=>H) (c:=0) (cs:=[v]) (fun _ p=>hh p) hF ⟨v,rfl,h⟩;injection hv with hv
 subst hv;exact h'
theorem Cn.cell:∀ (t:Ty) {x:t.den} {cs:List Value} {c:Nat} {b:Sb},Cn w Z t x cs→sub t x c=some b→∃ u,cs[c]? = some u∧Cn w Z b.s b.y [u]
 | .int _,x,cs,c,b,h,hs=>by
  simp only[sub]at hs;split at hs
  ·rename_i hc;subst hc;injection hs with hs;subst hs;rw[show _=_ from h];exact⟨_,rfl,rfl⟩
  ·cases hs
 | .bool,x,cs,c,b,h,hs=>by
  simp only[sub]at hs;split at hs
  ·rename_i hc;subst hc;injection hs with hs;subst hs;rw[show _=_ from h];exact⟨_,rfl,rfl⟩
  ·cases hs
 | .str,x,cs,c,b,h,hs=>by
  simp only[sub]at hs;split at hs
  ·rename_i hc;subst hc;injection hs with hs;subst hs;rw[show _=_ from h];exact⟨_,rfl,rfl⟩
  ·cases hs
 | .row _ _,x,cs,c,b,h,hs=>by
  simp only[sub]at hs;split at hs
  ·rename_i hc;subst hc;injection hs with hs;subst hs
   have h':=h;obtain⟨v,rfl,_⟩:=h;exact⟨v,rfl,h'⟩
  ·cases hs
 | .pair a b',x,cs,c,b,h,hs=>by
  obtain⟨c1,c2,rfl,h1,h2⟩:=h;have l1:=Cn.len a h1;simp only[sub]at hs;split at hs
  ·rename_i hc;obtain⟨u,hu,ho⟩:=Cn.cell a h1 hs;exact⟨u,by rw[List.getElem?_append_left (by omega)];exact hu,ho⟩
  ·rename_i hc;obtain⟨u,hu,ho⟩:=Cn.cell b' h2 hs;exact⟨u,by rw[List.getElem?_append_right (by omega),l1];exact hu,ho⟩
theorem CnR.get{t:Ty}{xs:List t.den}{v:Value}{i:Nat}(h:CnR w Z t xs v)(hi:i<xs.length) :
  ∃ g b cap cells q fz ci,v = .slice (some ⟨g,b,none⟩) xs.length cap∧Z g∧w.heap[g]? = some (.cells cells q fz)∧Cn w Z t (xs.getD i t.dflt) ci∧∀ j u,ci[j]? = some u→cells[b+i*t.sz+j]? = some u:=by
 obtain⟨A,cap,rfl,h1,h2,h3,h4⟩:=h;rcases h3 with h3|⟨g,b,cells,q,fz,rfl,hz,hg,hs,hl⟩
 ·subst h3;simp at hi
 ·obtain⟨ca,ci,cb,Fa,Fi,Fb,hcs,_,hra,hri,_⟩:=hl.at (i:=i) hi t.dflt;refine⟨g,b,cap,cells,q,fz,ci,rfl,hz,hg,hri.1,fun j u hu=>?_⟩
  have hca:ca.length=i*t.sz:=by
   rw[hra.length (sz:=t.sz) (fun k x c f h=>Cn.len t h.1),List.length_take];congr 1;omega
  have hj:j<ci.length:=(List.getElem?_eq_some_iff.1 hu).1
  have:=congrArg (·[ca.length+j]?) hcs
  simp only[List.getElem?_take,List.getElem?_drop]at this
  have hlt:ca.length+j<xs.length*t.sz:=by
   have hx:((cells.toList.drop b).take (xs.length*t.sz)).length=xs.length*t.sz:=by simp;omega
   rw[← hx,hcs];simp;omega
  rw[if_pos hlt,List.getElem?_append_right (by omega),Nat.add_sub_cancel_left,List.getElem?_append_left hj,hu,hca]at this;rw[← this,Array.getElem?_toList];congr 1;omega
theorem RL.cut{α:Type}{R:Nat→α→List Value→List Nat→Prop}{sz:Nat}{xs:List α}{cs:List Value}{F:List Nat}(h:RL R 0 xs cs F)(hs:∀ k x c f,R k x c f→c.length=sz)
  (off n:Nat) (hn:off+n≤xs.length):∃ Fa F' Fb,F=Fa++(F'++Fb)∧RL (fun k=>R (k+off)) 0 ((xs.drop off).take n) ((cs.drop (off*sz)).take (n*sz)) F':=by
 have e:xs=xs.take off++((xs.drop off).take n++(xs.drop off).drop n):=by rw[List.take_append_drop,List.take_append_drop]
 have h0:=h;rw[e]at h;obtain⟨c1,c2,F1,F2,rfl,rfl,h1,h2⟩:=h.split;obtain⟨c3,c4,F3,F4,rfl,rfl,h3,h4⟩:=h2.split;have hl:(xs.take off).length=off:=by rw[List.length_take];omega
 have hc1:c1.length=off*sz:=by rw[h1.length hs,hl]
 have hc3:c3.length=n*sz:=by rw[h3.length hs];congr 1;simp;omega
 refine⟨F1,F3,F4,rfl,?_⟩;rw[← hc1,List.drop_left,← hc3,List.take_left];rw[hl]at h3;exact h3.shift
theorem CnR.view{e:TypeId}{t:Ty}{xs:List t.den}{A:Option Addr}{l c:Nat}(h:CnR w Z t xs (.slice A l c)){off n:Nat}(hn:off+n≤xs.length){A':Option Addr}{c':Nat}
  (hc:c'=c - off) (hA:c'≠0→A'=A.map (·.add (off*t.sz))):CnR w Z t ((xs.drop off).take n) (.slice A' n c'):=by
 obtain⟨A0,cap,he,h1,h2,h3,h4⟩:=h;injection he with e1 e2 e3
 subst e1;subst e2;subst e3;have hlen:((xs.drop off).take n).length=n:=by simp;omega
 refine⟨A',c',by rw[hlen],by rw[hlen];omega,by omega,?_,fun hn=>?_⟩
 rotate_left
 ·rcases Nat.eq_zero_or_pos c' with h0|h0
  ·exact h0
  ·have:=hA (by omega);rw[hn]at this
   cases A with
   |none=>have:=h4 rfl;omega
   |some a=>cases this
 rcases Nat.eq_zero_or_pos n with h0|h0
 ·subst h0;left;simp
 right;rcases h3 with h3|⟨g,b,cells,q,fz,rfl,hz,hg,hs,hl⟩
 ·subst h3;simp at hn;omega
 ·obtain⟨Fa,F',Fb,hF,hr⟩:=hl.cut (sz:=t.sz) (fun k x c f h=>Cn.len t h.1) off n hn
  have hF':F'=[]:=by
   have:=congrArg List.length hF;simp at this;exact List.eq_nil_of_length_eq_zero (by omega)
  subst hF';have hcz:c'≠0:=by omega
  have hmul:off*t.sz+n*t.sz≤xs.length*t.sz:=by rw[← Nat.add_mul];exact Nat.mul_le_mul_right _ hn
  refine⟨g,b+off*t.sz,cells,q,fz,?_,hz,hg,by rw[hlen];omega,?_⟩
  ·rw[hA hcz];simp only[Option.map_some];unfold Addr.add;split
   ·rename_i h;rw[h,Nat.add_zero]
   ·rfl
  ·rw[hlen]
   have he:((cells.toList.drop (b+off*t.sz)).take (n*t.sz))=(((cells.toList.drop b).take (xs.length*t.sz)).drop (off*t.sz)).take (n*t.sz):=by
    rw[List.drop_take,List.take_take,List.drop_drop];congr 1;omega
   rw[he];exact hr.imp (fun _ _ _ _ _ h=>h)
theorem CnR.nil{t:Ty}:CnR w Z t ([]:List t.den) (.slice none 0 0):=⟨none,0,rfl,Nat.le_refl _,Nat.zero_le _,.inl rfl,fun _=>rfl⟩
theorem OwR.view{e:TypeId}{t:Ty}{H H':Path→Hd}{xs:List t.den}{v:Value}{F:List Nat}(h:OwR w e t H xs v F)(hh:(H []).hole=false){off n:Nat}(hn:off+n≤(H []).len)
  {A':Option Addr} {c':Nat} (hc:c'=0∧n=0∨(c'+off=(H []).cap∧∃ g b,(H []).A=some ⟨g,b,none⟩∧A'=some ⟨g,b+off*t.sz,none⟩))
  (hnc:n≤c') (h0:H' []=⟨A',c',n,t.sz,false⟩) (hH:∀ i c p,H' ((i,c)::p)=H ((i+off,c)::p)) :
  ∃ F',F'.Sublist F∧OwR w e t H' ((xs.drop off).take n) (.slice A' n c') F':=by
 unfold OwR OwRow at h;rw[if_neg (by simp[hh])]at h;obtain⟨hv,hl,hle,hmx,h5⟩:=h;have hlen:((xs.drop off).take n).length=n:=by simp;omega
 by_cases hz:c'=0
 ·subst hz;have hn0:n=0:=by omega
  subst hn0;refine⟨[],List.nil_sublist _,?_⟩;unfold OwR OwRow;rw[h0];rw[if_neg (by simp)];exact⟨rfl,by simp,Nat.le_refl _,Nat.zero_le _,by simp⟩
 ·rcases hc with hc|⟨hc,g,b,hA,rfl⟩
  ·exact absurd hc.1 hz
  have hcap:¬ (H []).cap=0:=by omega
  rw[if_neg hcap]at h5;obtain⟨hsz,g',b',cells,F',hA',rfl,hg,hs,hrl⟩:=h5;rw[hA]at hA';injection hA' with hA'
  injection hA' with e1 e2
  subst e1;subst e2;obtain⟨Fa,F1,Fb,rfl,hr⟩:=hrl.cut (sz:=t.sz) (fun k x c f h=>Ow.len t h) off n (by omega);have hsub:(g::F1).Sublist (g::(Fa++(F1++Fb))):=List.Sublist.cons_cons g ((List.sublist_append_left F1 Fb).trans (List.sublist_append_right Fa _));refine⟨g::F1,hsub,?_⟩;unfold OwR OwRow;rw[h0,if_neg (by simp)];refine⟨rfl,hlen,hnc,by simp only;omega,?_⟩;rw[if_neg hz];refine⟨rfl,?_⟩;have hm:(off+c')*t.sz=off*t.sz+c'*t.sz:=Nat.add_mul _ _ _;have hce:(off+c')*t.sz=(H []).cap*t.sz:=by rw[← hc,Nat.add_comm]
  refine⟨g,b+off*t.sz,cells,F1,rfl,rfl,hg,by simp only;omega,?_⟩;have hmul:off*t.sz+n*t.sz≤(H []).len*t.sz:=by rw[← Nat.add_mul];exact Nat.mul_le_mul_right _ hn
  have he:((cells.toList.drop (b+off*t.sz)).take (n*t.sz))=(((cells.toList.drop b).take ((H []).len*t.sz)).drop (off*t.sz)).take (n*t.sz):=by
   rw[List.drop_take,List.take_take,List.drop_drop];congr 1;omega
  simp only;rw[he];refine hr.imp (fun k x c f _ h=>?_);exact Ow.hd t (fun j _ _ p=>hH _ _ _) h
end
end Go.Proofs.Ytbjgiioppmkpiaa.Rx

namespace Go.Proofs.Ytbjgiioppmkpiaa.Rx
open Go Go.RowKit
inductive SV where
 |int (k:IntKind) (n:Int)
 |bool (b:Bool)
 |str (s:ByteArray)
 |con (r:Rw)
 |cptr (r:Rw) (i c:Nat)
 |ref (o ver:Nat) (p:Path) (vw:Option (Nat×Nat))
 |ptr (o ver:Nat) (p:Path) (i c:Nat)
 |bptr (o c:Nat)
 |nil
 |undef
 |mapr (o:Nat)
inductive AV where
 |one (s:SV)
 |agg (cs:List SV)
 |tup (vs:List (Bool×List SV))
 |fn (f:FuncId) (caps:List SV)
 |par (i:Nat) (agg:Bool) (cs:List SV)
 |undef
inductive Ent where
 |box (cs:List SV)
 |row (r:Rw) (ver:Nat) (hole:Option Path)
 |dead (ver:Nat)
 |iter (s:ByteArray) (pos:Int)
 |half (r:Rw) (k:Int) (c:Nat)
 |ro (r:Rw)
 |mid (r:Rw) (rt:Nat) (q:Rw)
 |rv (r:Rw) (rt:Nat)
 |map (m:List (ByteArray×Bool))
 |grp (e:TypeId) (t:Ty) (m:List ((Int×Int)×Option (List t.den)))
 |lit (t:Ty) (m:List (Int×t.den))
 |mit (t:Ty) (cur left:List (Int×t.den))
 |gh (as:List AV)
def Ent.ver:Ent→Nat
 | .box _=>0
 | .row _ v _=>v
 | .dead v=>v
 | .iter _ _=>0
 | .half _ _ _=>0
 | .ro _=>0
 | .mid _ rt _=>rt+1
 | .rv _ rt=>rt+1
 | .map _=>0
 | .grp _ _ _=>0
 | .lit _ _=>0
 | .mit _ _ _=>0
 | .gh _=>0
abbrev Ob:=Nat→Option Ent
abbrev In:=Nat→Nat→Path→Hd
structure Cx where
 w0:World
 Z:Nat→Prop
 D0:Nat→Prop
 args:Nat→Value
 gh:Nat→Value
def F2{α β:Type}(R:α→β→Prop):List α→List β→Prop
 | [],[]=>True
 |a::as,b::bs=>R a b∧F2 R as bs
 |_,_=>False
theorem F2.imp{α β:Type}{R R':α→β→Prop}(hr:∀ a b,R a b→R' a b):∀ {as:List α} {bs:List β},F2 R as bs→F2 R' as bs
 | [],[],h=>h
 |a::as,b::bs,h=>⟨hr _ _ h.1,F2.imp hr h.2⟩
 | [],_::_,h=>h.elim
 |_::_,[],h=>h.elim
theorem F2.len{α β:Type}{R:α→β→Prop}:∀ {as:List α} {bs:List β},F2 R as bs→as.length=bs.length
 | [],[],_=>rfl
 |a::as,b::bs,h=>by simp[F2.len h.2]
 | [],_::_,h=>h.elim
 |_::_,[],h=>h.elim
theorem F2.get{α β:Type}{R:α→β→Prop}:∀ {as:List α} {bs:List β} {i:Nat} {a:α},F2 R as bs→as[i]? = some a→∃ b,bs[i]? = some b∧R a b
 | [],[],i,a,_,h=>by simp at h
 |x::as,y::bs,0,a,h,hi=>by simp at hi;subst hi;exact⟨y,rfl,h.1⟩
 |x::as,y::bs,i+1,a,h,hi=>by simp at hi;simpa using F2.get h.2 hi
 | [],_::_,_,_,h,_=>h.elim
 |_::_,[],_,_,h,_=>h.elim
theorem F2.set{α β:Type}{R:α→β→Prop}{a:α}{b:β}(hab:R a b):∀ {as:List α} {bs:List β} {i:Nat},F2 R as bs→F2 R (as.set i a) (bs.set i b)
 | [],[],i,h=>h
 |x::as,y::bs,0,h=>⟨hab,h.2⟩
 |x::as,y::bs,i+1,h=>⟨h.1,F2.set hab h.2⟩
 | [],_::_,_,h=>h.elim
 |_::_,[],_,h=>h.elim
theorem F2.app{α β:Type}{R:α→β→Prop}:∀ {as as':List α} {bs bs':List β},F2 R as bs→F2 R as' bs'→F2 R (as++as') (bs++bs')
 | [],_,[],_,_,h=>h
 |a::as,_,b::bs,_,h,h'=>⟨h.1,F2.app h.2 h'⟩
 | [],_,_::_,_,h,_=>h.elim
 |_::_,_,[],_,h,_=>h.elim
theorem F2.take{α β:Type}{R:α→β→Prop}:∀ {as:List α} {bs:List β} {n:Nat},F2 R as bs→F2 R (as.take n) (bs.take n)
 | [],[],n,h=>by simp;exact h
 |a::as,b::bs,0,h=>trivial
 |a::as,b::bs,n+1,h=>⟨h.1,F2.take h.2⟩
 | [],_::_,_,h=>h.elim
 |_::_,[],_,h=>h.elim
theorem F2.drop{α β:Type}{R:α→β→Prop}:∀ {as:List α} {bs:List β} {n:Nat},F2 R as bs→F2 R (as.drop n) (bs.drop n)
 | [],[],n,h=>by simp;exact h
 |a::as,b::bs,0,h=>h
 |a::as,b::bs,n+1,h=>F2.drop (as:=as) h.2
 | [],_::_,_,h=>h.elim
 |_::_,[],_,h=>h.elim
theorem F2.all{α β:Type}{R:α→β→Prop}{p:β→Prop}(hp:∀ a b,R a b→p b):∀ {as:List α} {bs:List β},F2 R as bs→∀ b∈bs,p b
 | [],[],_,b,hb=>by cases hb
 |x::as,y::bs,h,b,hb=>by
  rcases List.mem_cons.1 hb with rfl|hb
  ·exact hp _ _ h.1
  ·exact F2.all hp h.2 b hb
 | [],_::_,h,_,_=>h.elim
 |_::_,[],h,_,_=>h.elim
def zce(ob:Ob)(o ver:Nat):Prop:=∃ e,ob o=some e∧ver≤e.ver
def pv:(Path→Hd)→Path→Prop
 |_,[]=>True
 |H,(i,c)::p=>i<(H []).len∧pv (fun q=>H ((i,c)::q)) p
def RelS(cx:Cx)(I:In)(ob:Ob):SV→Value→Prop
 | .int k n,v=>v = .int k n
 | .bool b,v=>v = .bool b
 | .str s,v=>v = .string s
 | .con r,v=>CnR cx.w0 cx.Z r.t r.xs v
 | .cptr r i c,v=>i<r.xs.length∧∃ g b cap,CnR cx.w0 cx.Z r.t r.xs (.slice (some ⟨g,b,none⟩) r.xs.length cap)∧v = .pointer (some ⟨g,b+i*r.t.sz+c,none⟩)
 | .ref o ver p vw,v=>zce ob o ver∧pv (I o ver) p∧∃ off len,vw.getD (0,(I o ver p).len)=(off,len)∧off+len≤(I o ver p).len ∧
   ∃ A c,v = .slice A len c∧len≤c∧c≤maxLen∧(vw=none→A=(I o ver p).A∧c=(I o ver p).cap)∧(c=0∨(c+off=(I o ver p).cap∧∃ g b,(I o ver p).A=some ⟨g,b,none⟩∧A=some ⟨g,b+off*(I o ver p).sz,none⟩))
 | .ptr o ver p i c,v=>zce ob o ver∧pv (I o ver) p∧i<(I o ver p).len∧∃ g b,(I o ver p).A=some ⟨g,b,none⟩∧v = .pointer (some ⟨g,b+i*(I o ver p).sz+c,none⟩)
 | .bptr o c,v=>zce ob o 0∧∃ g,(I o 0 []).A=some ⟨g,0,none⟩∧v = .pointer (some ⟨g,c,none⟩)
 | .nil,v=>v = .slice none 0 0
 | .undef,v=>v.oneCell'=true
 | .mapr o,v=>zce ob o 0∧∃ g,(I o 0 []).A=some ⟨g,0,none⟩∧v = .map (some g)
theorem RelS.one{cx:Cx}{I:In}{ob:Ob}{s:SV}{v:Value}(h:RelS cx I ob s v):v.oneCell'=true:=by
 cases s with
 |int k n=>rw[show v=_ from h];rfl
 |bool b=>rw[show v=_ from h];rfl
 |str s=>rw[show v=_ from h];rfl
 |con r=>obtain⟨A,cap,rfl,_⟩:=h;rfl
 |cptr r i c=>obtain⟨_,_,_,_,_,rfl⟩:=h;rfl
 |ref o ver p vw=>obtain⟨_,_,_,_,_,_,A,c,rfl,_⟩:=h;rfl
 |ptr o ver p i c=>obtain⟨_,_,_,g,b,_,rfl⟩:=h;rfl
 |bptr o c=>obtain⟨_,g,_,rfl⟩:=h;rfl
 |nil=>rw[show v=_ from h];rfl
 |undef=>exact h
 |mapr o=>obtain⟨_,g,_,rfl⟩:=h;rfl
def RelA(cx:Cx)(I:In)(ob:Ob):AV→Value→Prop
 | .one s,v=>RelS cx I ob s v
 | .agg cs,v=>∃ arr:Array Value,v = .agg arr∧F2 (RelS cx I ob) cs arr.toList
 | .tup vs,v=>∃ arr:Array Value,v = .tuple arr∧F2 (fun (x:Bool×List SV) v=>if x.1=true then (∃ arr:Array Value,v = .agg arr∧F2 (RelS cx I ob) x.2 arr.toList) else (∃ s,x.2=[s]∧RelS cx I ob s v)) vs arr.toList
 | .fn f caps,v=>∃ arr:Array Value,v = .func (.func f) #[] arr∧F2 (RelS cx I ob) caps arr.toList
 | .par i agg cs,v=>v=cx.args i∧(if agg=true then (∃ arr:Array Value,v = .agg arr∧F2 (RelS cx I ob) cs arr.toList) else (∃ s,cs=[s]∧RelS cx I ob s v))
 | .undef,_=>True
structure Ext(I:In)(ob:Ob)(I':In)(ob':Ob):Prop where
 i:∀ o ver,zce ob o ver→I' o ver=I o ver
 k:∀ o ver,zce ob o ver→zce ob' o ver
theorem Ext.refl(I:In)(ob:Ob):Ext I ob I ob:=⟨fun _ _ _=>rfl,fun _ _ h=>h⟩
theorem Ext.trans{I I' I'':In}{ob ob' ob'':Ob}(h:Ext I ob I' ob')(h':Ext I' ob' I'' ob''):Ext I ob I'' ob'' :=
 ⟨fun o v hk=>(h'.i o v (h.k o v hk)).trans (h.i o v hk),fun o v hk=>h'.k o v (h.k o v hk)⟩
section
variable{cx:Cx}{I I':In}{ob ob':Ob}{w w':World}
theorem RelS.ext{s:SV}{v:Value}(h:RelS cx I ob s v)(e:Ext I ob I' ob'):RelS cx I' ob' s v:=by
 cases s with
 |ref o ver p vw=>obtain⟨h1,h2⟩:=h;refine⟨e.k _ _ h1,?_⟩;rw[e.i _ _ h1];exact h2
 |ptr o ver p i c=>obtain⟨h1,h2⟩:=h;refine⟨e.k _ _ h1,?_⟩;rw[e.i _ _ h1];exact h2
 |bptr o c=>obtain⟨h1,h2⟩:=h;refine⟨e.k _ _ h1,?_⟩;rw[e.i _ _ h1];exact h2
 |mapr o=>obtain⟨h1,h2⟩:=h;refine⟨e.k _ _ h1,?_⟩;rw[e.i _ _ h1];exact h2
 |_=>exact h
theorem RelA.ext{a:AV}{v:Value}(h:RelA cx I ob a v)(e:Ext I ob I' ob'):RelA cx I' ob' a v:=by
 cases a with
 |one s=>exact RelS.ext h e
 |agg cs=>obtain⟨arr,rfl,h⟩:=h;exact⟨arr,rfl,h.imp (fun _ _ h=>h.ext e)⟩
 |tup vs =>
  obtain⟨arr,rfl,h⟩:=h;refine⟨arr,rfl,h.imp (fun x v h=>?_)⟩;split
  ·rename_i hx;rw[if_pos hx]at h;obtain⟨a2,rfl,h⟩:=h;exact⟨a2,rfl,h.imp (fun _ _ h=>h.ext e)⟩
  ·rename_i hx;rw[if_neg hx]at h;obtain⟨s,hs,h⟩:=h;exact⟨s,hs,h.ext e⟩
 |fn f caps=>obtain⟨arr,rfl,h⟩:=h;exact⟨arr,rfl,h.imp (fun _ _ h=>h.ext e)⟩
 |par i agg cs =>
  obtain⟨h0,h⟩:=h;refine⟨h0,?_⟩;split
  ·rename_i hx;rw[if_pos hx]at h;obtain⟨a2,h1,h⟩:=h;exact⟨a2,h1,h.imp (fun _ _ h=>h.ext e)⟩
  ·rename_i hx;rw[if_neg hx]at h;obtain⟨s,hs,h⟩:=h;exact⟨s,hs,h.ext e⟩
 |undef=>trivial
def HalfR(cx:Cx)(w:World)(r:Rw)(k:Nat)(H:Path→Hd)(v:Value)(F:List Nat):Prop :=
 (∀ p,(H p).hole=false)∧OwRow w r.e r.t.sz (fun i x cs F=>if i<k then Ow w r.t (fun c' p=>H ((i,c')::p)) 0 x cs F else Cn cx.w0 cx.Z r.t x cs∧F=[]) (H []) r.xs v F
theorem HalfR.frame{cx:Cx}{w w':World}{r:Rw}{k:Nat}{H:Path→Hd}{v:Value}{F:List Nat}(h:HalfR cx w r k H v F)(hw:∀ k∈F,w'.heap[k]? = w.heap[k]?):HalfR cx w' r k H v F :=
 ⟨h.1,h.2.imp hw (fun i x c f hf hR=>by
  split
  ·rename_i hi;rw[if_pos hi]at hR;exact Ow.frame r.t (fun q hq=>hw q (hf q hq)) hR
  ·rename_i hi;rw[if_neg hi]at hR;exact hR)⟩
def ApR(w:World)(F:List Nat)(e:TypeId)(t:Ty)(xs:List t.den)(v:Value):Prop :=
 ∃ (h:Hd) (G:List Nat),h.hole=false∧(∀ k∈G,k∈F)∧OwRow w e t.sz (fun _ x cs f=>Cn w (fun k=>k∈F∧k∉G) t x cs∧f=[]) h xs v G
theorem ApR.frame{w w':World}{F:List Nat}{e:TypeId}{t:Ty}{xs:List t.den}{v:Value}(h:ApR w F e t xs v)(hw:∀ k∈F,w'.heap[k]? = w.heap[k]?):ApR w' F e t xs v:=by
 obtain⟨h,G,h1,h2,h3⟩:=h;exact⟨h,G,h1,h2,h3.imp (fun k hk=>hw k (h2 k hk)) (fun i x c f _ hr=>⟨Cn.imp (fun k hk=>⟨hk,hw k hk.1⟩) t hr.1,hr.2⟩)⟩
theorem ApR.nil{w:World}{e:TypeId}{t:Ty}:ApR w [] e t [] (.slice none 0 0):=⟨⟨none,0,0,0,false⟩,[],rfl,(fun k hk=>hk),by unfold OwRow;simp⟩
def RoR(w:World)(F:List Nat)(e:TypeId)(t:Ty)(xs:List t.den)(v:Value):Prop:=CnR w (fun k=>k∈F) t xs v∧(∃ A len cap,v = .slice A len cap∧(cap=0∨∃ g b,A=some ⟨g,b,none⟩))∧ApR w F e t xs v
theorem RoR.frame{w w':World}{F:List Nat}{e:TypeId}{t:Ty}{xs:List t.den}{v:Value}(h:RoR w F e t xs v)(hw:∀ k∈F,w'.heap[k]? = w.heap[k]?):RoR w' F e t xs v:=⟨CnR.imp (fun k hk=>⟨hk,hw k hk⟩) h.1,h.2.1,h.2.2.frame hw⟩
def MapIs(w:World)(g:Nat)(m:List (ByteArray×Bool)):Prop:=∃ es clock,w.heap[g]? = some (.map es clock)∧es.toList.map (fun e=>(e.key,e.val))=m.map (fun x=>(Value.string x.1,Value.bool x.2))
theorem MapIs.frame{w w':World}{g:Nat}{m:List (ByteArray×Bool)}(h:MapIs w g m)(hw:w'.heap[g]? = w.heap[g]?):MapIs w' g m:=by
 obtain⟨es,c,h1,h2⟩:=h;exact⟨es,c,hw.trans h1,h2⟩
def keyV(k:Int×Int):Value:=.agg #[.int .i64 k.1,.int .i64 k.2]
def GR(w:World)(e:TypeId)(t:Ty):Nat→List MapEntry→List ((Int×Int)×Option (List t.den))→List (List Nat)→Prop
 |_,[],[],[]=>True
 |j,x::es,a::m,f::fs=>x.born=j∧x.key=keyV a.1∧(match a.2 with|none=>f=[]|some xs=>∃ H,OwR w e t H xs x.val f∧∀ p,(H p).hole=false)∧GR w e t (j+1) es m fs
 |_,_,_,_=>False
theorem GR.frame{w w':World}{e:TypeId}{t:Ty}:∀ {j:Nat} {es:List MapEntry} {m:List ((Int×Int)×Option (List t.den))} {fs:List (List Nat)},GR w e t j es m fs→(∀ k∈fs.flatten,w'.heap[k]? = w.heap[k]?)→GR w' e t j es m fs
 |_,[],[],[],_,_=>trivial
 |j,x::es,a::m,f::fs,h,hw=>by
  obtain⟨h1,h2,h3,h4⟩:=h;refine⟨h1,h2,?_,h4.frame fun k hk=>hw k (by simp only[List.flatten_cons,List.mem_append];exact .inr hk)⟩
  cases ha:a.2 with
  |none=>rw[ha]at h3;exact h3
  |some xs =>
   rw[ha]at h3;obtain⟨H,h5,h6⟩:=h3;exact⟨H,h5.frame fun k hk=>hw k (by simp only[List.flatten_cons,List.mem_append];exact .inl hk),h6⟩
 |_,[],[],_::_,h,_=>h.elim
 |_,[],_::_,_,h,_=>by cases ‹List (List Nat)› <;> exact h.elim
 |_,_::_,[],_,h,_=>by cases ‹List (List Nat)› <;> exact h.elim
 |_,_::_,_::_,[],h,_=>h.elim
def GrpIs(w:World)(g:Nat)(e:TypeId)(t:Ty)(m:List ((Int×Int)×Option (List t.den)))(F:List Nat):Prop :=
 ∃ es fs,w.heap[g]? = some (.map es es.size)∧F=fs.flatten∧GR w e t 0 es.toList m fs
theorem GrpIs.frame{w w':World}{g:Nat}{e:TypeId}{t:Ty}{m:List ((Int×Int)×Option (List t.den))}{F:List Nat}(h:GrpIs w g e t m F)(hg:w'.heap[g]? = w.heap[g]?)(hw:∀ k∈F,w'.heap[k]? = w.heap[k]?):GrpIs w' g e t m F:=by
 obtain⟨es,fs,h1,rfl,h3⟩:=h;exact⟨es,fs,hg.trans h1,rfl,h3.frame hw⟩
def LitR(w0:World)(Z:Nat→Prop)(t:Ty)(x:Int×t.den)(e:MapEntry):Prop:=e.key = .int .i64 x.1∧∃ arr:Array Value,e.val = .agg arr∧Cn w0 Z t x.2 arr.toList
def LitIs(w0:World)(Z:Nat→Prop)(w:World)(g:Nat)(t:Ty)(m:List (Int×t.den)):Prop :=
 ∃ es:Array MapEntry,w.heap[g]? = some (.map es es.size)∧F2 (LitR w0 Z t) m es.toList∧∀ (i:Nat) (e:MapEntry),es[i]? = some e→e.born=i
theorem LitIs.frame{w0:World}{Z:Nat→Prop}{w w':World}{g:Nat}{t:Ty}{m:List (Int×t.den)}(h:LitIs w0 Z w g t m)(hg:w'.heap[g]? = w.heap[g]?):LitIs w0 Z w' g t m:=by
 obtain⟨es,h1,h2⟩:=h;exact⟨es,hg.trans h1,h2⟩
def MitIs(w0:World)(Z:Nat→Prop)(w:World)(g gm:Nat)(t:Ty)(cur left:List (Int×t.den)):Prop :=
 g≠gm∧∃ (es:Array MapEntry) (seen:Array Nat),w.heap[gm]? = some (.map es es.size)∧w.heap[g]? = some (.mapIter (some gm) es.size seen es.size)∧(∀ (i:Nat) (e:MapEntry),es[i]? = some e→e.born=i) ∧
  F2 (LitR w0 Z t) left (es.toList.filter fun e=>!seen.contains e.born)∧(∀ x∈cur,∃ e∈es.toList,seen.back? = some e.born∧LitR w0 Z t x e)
theorem MitIs.frame{w0:World}{Z:Nat→Prop}{w w':World}{g gm:Nat}{t:Ty}{cur left:List (Int×t.den)}(h:MitIs w0 Z w g gm t cur left)(hg:w'.heap[g]? = w.heap[g]?)(hm:w'.heap[gm]? = w.heap[gm]?):MitIs w0 Z w' g gm t cur left:=by
 obtain⟨h0,es,seen,h1,h2,h3⟩:=h;exact⟨h0,es,seen,hm.trans h1,hg.trans h2,h3⟩
def RelO(cx:Cx)(I:In)(ob:Ob)(w:World)(o:Nat):Ent→List Nat→Prop
 | .box cs,F=>∃ g T arr,F=[g]∧(I o 0 []).A=some ⟨g,0,none⟩∧w.heap[g]? = some (.cells arr T (0,0))∧F2 (RelS cx I ob) cs arr.toList
 | .row r ver hole,F=>(∃ v,OwR w r.e r.t (I o ver) r.xs v F)∧(∀ u,u≤ver→I o u []=I o ver [])∧(∀ p,(I o ver p).hole=true→hole=some p)∧hole≠some []
 | .dead _,F=>F=[]
 | .iter s pos,F=>∃ g,F=[g]∧(I o 0 []).A=some ⟨g,0,none⟩∧w.heap[g]? = some (.stringIter s pos.toNat)
 | .half r k c,F=>∃ H v,HalfR cx w r k.toNat H v F∧I o 0 []=H []
 | .ro r,F=>∃ v,RoR w F r.e r.t r.xs v∧v = .slice (I o 0 []).A (I o 0 []).len (I o 0 []).cap∧(I o 0 []).sz=r.t.sz
 | .mid r rt q,F=>(∃ v F0 Fp,F=F0++Fp∧OwR w r.e r.t (I o rt) r.xs v F0)∧(∀ p,(I o rt p).hole=false)∧(∀ u,u≤rt→I o u []=I o rt []) ∧
   ∃ vz,CnR w (fun k=>k∈F∧∀ g b,(I o rt []).A=some ⟨g,b,none⟩→k≠g) q.t q.xs vz∧vz = .slice (I o (rt+1) []).A (I o (rt+1) []).len (I o (rt+1) []).cap
 | .rv r rt,F=>(∃ v,RoR w F r.e r.t r.xs v∧v = .slice (I o rt []).A (I o rt []).len (I o rt []).cap)∧(∀ u,u≤rt→I o u []=I o rt [])
 | .map m,F=>∃ g,F=[g]∧(I o 0 []).A=some ⟨g,0,none⟩∧MapIs w g m
 | .grp e t m,F=>∃ g F',F=g::F'∧(I o 0 []).A=some ⟨g,0,none⟩∧GrpIs w g e t m F'
 | .lit t m,F=>∃ g,F=[g]∧(I o 0 []).A=some ⟨g,0,none⟩∧LitIs cx.w0 cx.Z w g t m
 | .mit t cur left,F=>∃ g gm,F=[g,gm]∧(I o 0 []).A=some ⟨g,0,none⟩∧MitIs cx.w0 cx.Z w g gm t cur left
 | .gh as,F=>F=[]∧∀ i,RelA cx I ob (as.getD i .undef) (cx.gh i)
structure Kp(w:World)(D:Nat→Prop)(w':World):Prop where
 os:w'.os=w.os
 tape:w'.tape=w.tape
 output:w'.output=w.output
 size:w.heap.size≤w'.heap.size
 block:∀ k,k<w.heap.size→¬ D k→w'.heap[k]? = w.heap[k]?
theorem Kp.refl(w:World)(D:Nat→Prop):Kp w D w:=⟨rfl,rfl,rfl,Nat.le_refl _,fun _ _ _=>rfl⟩
theorem Kp.trans{w w1 w2:World}{D:Nat→Prop}(h:Kp w D w1)(h':Kp w1 D w2):Kp w D w2 :=
 ⟨h'.os.trans h.os,h'.tape.trans h.tape,h'.output.trans h.output,Nat.le_trans h.size h'.size,fun k hk hD=>(h'.block k (Nat.lt_of_lt_of_le hk h.size) hD).trans (h.block k hk hD)⟩
theorem Kp.step{w w1 w2:World}{D D1:Nat→Prop}(h:Kp w D w1)(h':Kp w1 D1 w2)(hd:∀ k,D1 k→D k∨w.heap.size≤k):Kp w D w2 :=
 ⟨h'.os.trans h.os,h'.tape.trans h.tape,h'.output.trans h.output,Nat.le_trans h.size h'.size,fun k hk hD =>
  (h'.block k (Nat.lt_of_lt_of_le hk h.size) (fun h1=>(hd k h1).elim hD (fun h2=>absurd hk (Nat.not_lt.2 h2)))).trans (h.block k hk hD)⟩
structure RelH(cx:Cx)(I:In)(FF:Nat→List Nat)(ob:Ob)(w:World):Prop where
 rel:∀ o e,ob o=some e→RelO cx I ob w o e (FF o)
 non:∀ o,ob o=none→FF o=[]
 nd:∀ o,(FF o).Nodup
 dj:∀ o o',o≠o'→∀ k,k∈FF o→k∉FF o'
 mine:∀ o k,k∈FF o→¬ cx.Z k∧(cx.D0 k∨cx.w0.heap.size≤k)∧k<w.heap.size
 kp:Kp cx.w0 cx.D0 w
 zone:∀ k,cx.Z k→k<cx.w0.heap.size∧¬ cx.D0 k
theorem zje{ob:Ob}{o u v:Nat}(h:zce ob o v)(hu:u≤v):zce ob o u:=by obtain⟨e,he,hl⟩:=h;exact⟨e,he,Nat.le_trans hu hl⟩
theorem RelO.ext{o:Nat}{e:Ent}{F:List Nat}(h:RelO cx I ob w o e F)(x:Ext I ob I' ob')(hk:zce ob o e.ver):RelO cx I' ob' w o e F:=by
 cases e with
 |box cs =>
  obtain⟨g,T,arr,rfl,h1,h2,h3⟩:=h;exact⟨g,T,arr,rfl,by rw[x.i o 0 hk];exact h1,h2,h3.imp (fun _ _ h=>h.ext x)⟩
 |row r ver hole =>
  obtain⟨h1,h2,h3,h4⟩:=h;have hI:I' o ver=I o ver:=x.i o ver hk;refine⟨by rw[hI];exact h1,fun u hu=>?_,by rw[hI];exact h3,h4⟩;obtain⟨e,he,hv⟩:=hk;rw[hI,x.i o u ⟨e,he,Nat.le_trans hu hv⟩];exact h2 u hu
 |dead v=>exact h
 |iter s pos =>
  obtain⟨g,rfl,h1,h2⟩:=h;exact⟨g,rfl,by rw[x.i o 0 hk];exact h1,h2⟩
 |map m =>
  obtain⟨g,rfl,h1,h2⟩:=h;exact⟨g,rfl,by rw[x.i o 0 hk];exact h1,h2⟩
 |grp e t m =>
  obtain⟨g,F',rfl,h1,h2⟩:=h;exact⟨g,F',rfl,by rw[x.i o 0 hk];exact h1,h2⟩
 |lit t m =>
  obtain⟨g,rfl,h1,h2⟩:=h;exact⟨g,rfl,by rw[x.i o 0 hk];exact h1,h2⟩
 |mit t cur left =>
  obtain⟨g,gm,rfl,h1,h2⟩:=h;exact⟨g,gm,rfl,by rw[x.i o 0 hk];exact h1,h2⟩
 |gh as=>exact⟨h.1,fun i=>(h.2 i).ext x⟩
 |half r k c =>
  obtain⟨H,v,h1,h2⟩:=h;exact⟨H,v,h1,by rw[x.i o 0 hk];exact h2⟩
 |ro r =>
  obtain⟨v,h1,h2,h3⟩:=h;exact⟨v,h1,by rw[x.i o 0 hk];exact h2,by rw[x.i o 0 hk];exact h3⟩
 |mid r rt q =>
  obtain⟨⟨v,F0,Fp,h1,h2⟩,h3,h4,vz,h5,h6⟩:=h;have e0:I' o rt=I o rt:=x.i o rt (zje hk (Nat.le_succ rt));have e1:I' o (rt+1)=I o (rt+1):=x.i o (rt+1) hk;exact⟨⟨v,F0,Fp,h1,by rw[e0];exact h2⟩,by rw[e0];exact h3,fun u hu=>by rw[x.i o u (zje hk (Nat.le_succ_of_le hu)),e0];exact h4 u hu,vz,by rw[e0];exact h5,by rw[e1];exact h6⟩
 |rv r rt =>
  obtain⟨⟨v,h1,h2⟩,h4⟩:=h;have e0:I' o rt=I o rt:=x.i o rt (zje hk (Nat.le_succ rt));exact⟨⟨v,h1,by rw[e0];exact h2⟩,fun u hu=>by rw[x.i o u (zje hk (Nat.le_succ_of_le hu)),e0];exact h4 u hu⟩
theorem RelO.frame{o:Nat}{e:Ent}{F:List Nat}(h:RelO cx I ob w o e F)(hw:∀ k∈F,w'.heap[k]? = w.heap[k]?):RelO cx I ob w' o e F:=by
 cases e with
 |box cs =>
  obtain⟨g,T,arr,rfl,h1,h2,h3⟩:=h;exact⟨g,T,arr,rfl,h1,(hw g (List.mem_singleton.2 rfl)).trans h2,h3⟩
 |row r ver hole =>
  obtain⟨⟨v,h1⟩,h2,h3⟩:=h;exact⟨⟨v,h1.frame hw⟩,h2,h3⟩
 |dead v=>exact h
 |iter s pos =>
  obtain⟨g,rfl,h1,h2⟩:=h;exact⟨g,rfl,h1,(hw g (List.mem_singleton.2 rfl)).trans h2⟩
 |map m =>
  obtain⟨g,rfl,h1,h2⟩:=h;exact⟨g,rfl,h1,h2.frame (hw g (List.mem_singleton.2 rfl))⟩
 |grp e t m =>
  obtain⟨g,F',rfl,h1,h2⟩:=h;exact⟨g,F',rfl,h1,h2.frame (hw g List.mem_cons_self) (fun k hk=>hw k (List.mem_cons_of_mem _ hk))⟩
 |lit t m =>
  obtain⟨g,rfl,h1,h2⟩:=h;exact⟨g,rfl,h1,h2.frame (hw g (List.mem_singleton.2 rfl))⟩
 |mit t cur left =>
  obtain⟨g,gm,rfl,h1,h2⟩:=h;exact⟨g,gm,rfl,h1,h2.frame (hw g List.mem_cons_self) (hw gm (by simp))⟩
 |gh as=>exact h
 |half r k c =>
  obtain⟨H,v,h1,h2⟩:=h;exact⟨H,v,h1.frame hw,h2⟩
 |ro r =>
  obtain⟨v,h1,h2⟩:=h;exact⟨v,h1.frame hw,h2⟩
 |mid r rt q =>
  obtain⟨⟨v,F0,Fp,rfl,h2⟩,h3,h4,vz,h5,h6⟩:=h;exact⟨⟨v,F0,Fp,rfl,h2.frame (fun k hk=>hw k (List.mem_append_left _ hk))⟩,h3,h4,vz,CnR.imp (fun k hk=>⟨hk,hw k hk.1⟩) h5,h6⟩
 |rv r rt =>
  obtain⟨⟨v,h1,h2⟩,h4⟩:=h;exact⟨⟨v,h1.frame hw,h2⟩,h4⟩
theorem RelH.world{FF:Nat→List Nat}(h:RelH cx I FF ob w){D:Nat→Prop}(hk:Kp w D w')(hD:∀ k,D k→(cx.D0 k∨cx.w0.heap.size≤k)∧∀ o,k∉FF o):RelH cx I FF ob w' :=
  ⟨fun o e he=>(h.rel o e he).frame (fun k hk'=>hk.block k ((h.mine o k hk').2.2) (fun hd=>(hD k hd).2 o hk')),h.non,h.nd,h.dj,
   fun o k hk'=>⟨(h.mine o k hk').1,(h.mine o k hk').2.1,Nat.lt_of_lt_of_le (h.mine o k hk').2.2 hk.size⟩,h.kp.step hk (fun k hd=>(hD k hd).1),h.zone⟩
theorem RelH.ext{FF:Nat→List Nat}(h:RelH cx I FF ob w)(x:Ext I ob I' ob):RelH cx I' FF ob w :=
 ⟨fun o e he=>(h.rel o e he).ext x ⟨e,he,Nat.le_refl _⟩,h.non,h.nd,h.dj,h.mine,h.kp,h.zone⟩
def Ob.put(ob:Ob)(o:Nat)(e:Ent):Ob:=fun k=>if k=o then some e else ob k
def zaj(FF:Nat→List Nat)(o:Nat)(F:List Nat):Nat→List Nat:=fun k=>if k=o then F else FF k
theorem zak{o:Nat}{e:Ent}(hv:∀ e0,ob o=some e0→e0.ver≤e.ver):∀ o' ver,zce ob o' ver→zce (ob.put o e) o' ver:=by
 rintro o' ver ⟨e0,he,hle⟩
 by_cases ho:o'=o
 ·subst ho;exact⟨e,by simp[Ob.put],Nat.le_trans hle (hv e0 he)⟩
 ·exact⟨e0,by simp[Ob.put,ho,he],hle⟩
theorem RelH.take{FF:Nat→List Nat}(h:RelH cx I FF ob w){o:Nat}{e:Ent}(he:ob o=some e):RelH cx I (zaj FF o []) (ob.put o (.dead e.ver)) w:=by
 have x:Ext I ob I (ob.put o (.dead e.ver)):=⟨fun _ _ _=>rfl,zak (fun e0 h0=>by rw[he]at h0;injection h0 with h0;subst h0;exact Nat.le_refl _)⟩;refine⟨fun o' e' he'=>?_,fun o' ho'=>?_,fun o'=>?_,fun o1 o2 hne k hk=>?_,fun o' k hk=>?_,h.kp,h.zone⟩
 ·by_cases hoo:o'=o
  ·subst hoo;simp only[Ob.put,if_true]at he';injection he' with he'
   subst he';simp[zaj,RelO]
  ·simp only[Ob.put,if_neg hoo]at he';simp only[zaj,if_neg hoo];exact(h.rel o' e' he').ext x ⟨e',he',Nat.le_refl _⟩
 ·by_cases hoo:o'=o
  ·simp[zaj,hoo]
  ·simp only[Ob.put,if_neg hoo]at ho';simp only[zaj,if_neg hoo];exact h.non o' ho'
 ·unfold zaj;split
  ·exact List.nodup_nil
  ·exact h.nd o'
 ·unfold zaj at *;split at hk
  ·cases hk
  ·split
   ·simp
   ·exact h.dj o1 o2 hne k hk
 ·unfold zaj at hk;split at hk
  ·cases hk
  ·exact h.mine o' k hk
theorem RelH.give{FF:Nat→List Nat}(h:RelH cx I FF ob w){o:Nat}{e:Ent}{F:List Nat}(hF0:FF o=[])(hv:∀ e0,ob o=some e0→e0.ver≤e.ver)
  (x:Ext I ob I' (ob.put o e)) (hrel:RelO cx I' (ob.put o e) w o e F) (hnd:F.Nodup) (hdj:∀ k∈F,∀ o',k∉FF o')
  (hm:∀ k∈F,¬ cx.Z k∧(cx.D0 k∨cx.w0.heap.size≤k)∧k<w.heap.size):RelH cx I' (zaj FF o F) (ob.put o e) w:=by
 refine⟨fun o' e' he'=>?_,fun o' ho'=>?_,fun o'=>?_,fun o1 o2 hne k hk=>?_,fun o' k hk=>?_,h.kp,h.zone⟩
 ·by_cases hoo:o'=o
  ·subst hoo;simp only[Ob.put,if_true]at he';injection he' with he'
   subst he';simp only[zaj,if_true];exact hrel
  ·simp only[Ob.put,if_neg hoo]at he';simp only[zaj,if_neg hoo];exact(h.rel o' e' he').ext x ⟨e',he',Nat.le_refl _⟩
 ·by_cases hoo:o'=o
  ·subst hoo;simp[Ob.put]at ho'
  ·simp only[Ob.put,if_neg hoo]at ho';simp only[zaj,if_neg hoo];exact h.non o' ho'
 ·unfold zaj;split
  ·exact hnd
  ·exact h.nd o'
 ·unfold zaj at *;split at hk
  ·rw[if_neg (by rename_i h1;intro h2;exact hne (h1.trans h2.symm))];exact hdj k hk o2
  ·split
   ·intro hk2;exact hdj k hk2 o1 hk
   ·exact h.dj o1 o2 hne k hk
 ·unfold zaj at hk;split at hk
  ·exact hm k hk
  ·exact h.mine o' k hk
end
end Go.Proofs.Ytbjgiioppmkpiaa.Rx

namespace Go.Proofs.Ytbjgiioppmkpiaa.Rx
open Go Go.RowKit
inductive Tr(α:Type):Type 1 where
 |ret (a:α)
 |fail
 |test (c:Bool) (t:Tr α)
 |split (c:Bool) (t e:Tr α)
 |call {ρ:Type} (x:Option ρ) (k:ρ→Tr α)
def Tr.run{α β:Type}:Tr α→(α→Option β)→Option β
 | .ret a,k=>k a
 | .fail,_=>none
 | .test c t,k=>cond c (t.run k) none
 | .split c t e,k=>cond c (t.run k) (e.run k)
 | .call x f,k=>x.bind fun r=>(f r).run k
def Tr.bind{α β:Type}:Tr α→(α→Tr β)→Tr β
 | .ret a,f=>f a
 | .fail,_=>.fail
 | .test c t,f=>.test c (t.bind f)
 | .split c t e,f=>.split c (t.bind f) (e.bind f)
 | .call x g,f=>.call x fun r=>(g r).bind f
def Tr.ev{α:Type}(t:Tr α):Option α:=t.run some
theorem Tr.run_ev{α β:Type}(t:Tr α)(k:α→Option β):t.run k=t.ev.bind k:=by
 induction t with
 |ret a=>rfl
 |fail=>rfl
 |test c t ih=>cases c <;> simp[Tr.run,Tr.ev,ih]
 |split c t e ih1 ih2=>cases c <;> simp[Tr.run,Tr.ev,ih1,ih2] <;> rfl
 |call x g ih =>
  cases x with
  |none=>rfl
  |some r=>simp only[Tr.run,Tr.ev,Option.bind_some];exact ih r
theorem Tr.run_bind{α β γ:Type}(t:Tr α)(f:α→Tr β)(k:β→Option γ):(t.bind f).run k=t.run fun a=>(f a).run k:=by
 induction t with
 |ret a=>rfl
 |fail=>rfl
 |test c t ih=>simp only[Tr.bind,Tr.run,ih]
 |split c t e ih1 ih2=>simp only[Tr.bind,Tr.run,ih1,ih2]
 |call x g ih=>simp only[Tr.bind,Tr.run,ih]
@[simp] theorem Tr.ev_bind{α β:Type}(t:Tr α)(f:α→Tr β):(t.bind f).ev=t.ev.bind fun a=>(f a).ev:=by
 unfold Tr.ev;rw[Tr.run_bind,Tr.run_ev];rfl
@[simp] theorem Tr.ev_ret{α:Type}(a:α):(Tr.ret a).ev=some a:=rfl
@[simp] theorem Tr.ev_fail{α:Type}:(Tr.fail:Tr α).ev=none:=rfl
@[simp] theorem Tr.ev_test{α:Type}(c:Bool)(t:Tr α):(Tr.test c t).ev=cond c t.ev none:=rfl
@[simp] theorem Tr.ev_split{α:Type}(c:Bool)(t e:Tr α):(Tr.split c t e).ev=cond c t.ev e.ev:=rfl
@[simp] theorem Tr.ev_call{α ρ:Type}(x:Option ρ)(k:ρ→Tr α):(Tr.call x k).ev=x.bind fun r=>(k r).ev:=rfl
def M(α:Type):Type 1:=Ob→Tr (α×List Nat)
namespace M
def pure{α:Type}(a:α):M α:=fun _=>.ret (a,[])
def bind{α β:Type}(x:M α)(f:α→M β):M β:=fun ob=>(x ob).bind fun al=>(f al.1 ob).bind fun bl=>.ret (bl.1,al.2++bl.2)
def fail{α:Type}:M α:=fun _=>.fail
def test(c:Bool):M Unit:=fun _=>.test c (.ret ((),[]))
def split{α:Type}(c:Bool)(x y:M α):M α:=fun ob=>.split c (x ob) (y ob)
def call{ρ:Type}(x:Option ρ):M ρ:=fun _=>.call x fun r=>.ret (r,[])
def get(o:Nat):M Ent:=fun ob=>match ob o with|some e=>.ret (e,[o])|none=>.fail
def free(o:Nat):M Unit:=fun ob=>match ob o with|some _=>.fail|none=>.ret ((),[o])
def ofOpt{α:Type}(x:Option α):M α:=match x with|some a=>pure a|none=>fail
def Loc{α:Type}(x:M α):Prop:=∀ ob ob' a l,(x ob).ev=some (a,l)→(∀ o∈l,ob' o=ob o)→(x ob').ev=some (a,l)
theorem zae{α:Type}(a:α):(pure a).Loc:=fun _ _ _ _ h _=>h
theorem zac{α:Type}:(fail:M α).Loc:=fun _ _ _ _ h _=>h
theorem zan(c:Bool):(test c).Loc:=fun _ _ _ _ h _=>h
theorem zat{ρ:Type}(x:Option ρ):(call x).Loc:=fun _ _ _ _ h _=>h
theorem zao{α:Type}(x:Option α):(ofOpt x).Loc:=by cases x;exact zac;exact zae _
theorem zap(o:Nat):(get o).Loc:=by
 intro ob ob' a l h hl;unfold get at *
 cases he:ob o with
 |none=>rw[he]at h;cases h
 |some e=>rw[he]at h;injection h with h;injection h with h1 h2;subst h1;subst h2;rw[hl o (by simp),he];rfl
theorem zal(o:Nat):(free o).Loc:=by
 intro ob ob' a l h hl;unfold free at *
 cases he:ob o with
 |some e=>rw[he]at h;cases h
 |none=>rw[he]at h;injection h with h;injection h with h1 h2;subst h2;rw[hl o (by simp),he];rfl
theorem zab{α β:Type}{x:M α}{f:α→M β}(hx:x.Loc)(hf:∀ a,(f a).Loc):(bind x f).Loc:=by
 intro ob ob' b l h hl;simp only[bind,Tr.ev_bind]at h ⊢
 cases h1:(x ob).ev with
 |none=>rw[h1]at h;cases h
 |some al =>
  obtain⟨a,l1⟩:=al;rw[h1]at h;simp only[Option.bind_some]at h
  cases h2:(f a ob).ev with
  |none=>rw[h2]at h;cases h
  |some bl =>
   obtain⟨b',l2⟩:=bl;rw[h2]at h;simp only[Option.bind_some,Tr.ev_ret]at h;injection h with h
   injection h with e1 e2
   subst e1;subst e2;rw[hx ob ob' a l1 h1 (fun o ho=>hl o (List.mem_append_left _ ho))];simp only[Option.bind_some];rw[hf a ob ob' b' l2 h2 (fun o ho=>hl o (List.mem_append_right _ ho))];rfl
theorem zam{α:Type}{c:Bool}{x y:M α}(hx:x.Loc)(hy:y.Loc):(split c x y).Loc:=by
 intro ob ob' a l h hl;cases c
 ·exact hy ob ob' a l h hl
 ·exact hx ob ob' a l h hl
theorem ev_bind{α β:Type}{x:M α}{f:α→M β}{ob:Ob}{b:β}{l:List Nat}(h:(bind x f ob).ev=some (b,l)) :
  ∃ a l1 l2,(x ob).ev=some (a,l1)∧(f a ob).ev=some (b,l2)∧l=l1++l2:=by
 simp only[bind,Tr.ev_bind]at h
 cases h1:(x ob).ev with
 |none=>rw[h1]at h;cases h
 |some al =>
  obtain⟨a,l1⟩:=al;rw[h1]at h;simp only[Option.bind_some]at h
  cases h2:(f a ob).ev with
  |none=>rw[h2]at h;cases h
  |some bl =>
   obtain⟨b',l2⟩:=bl;rw[h2]at h;simp only[Option.bind_some,Tr.ev_ret]at h;injection h with h
   injection h with e1 e2
   subst e1;subst e2;exact⟨a,l1,l2,rfl,h2,rfl⟩
theorem ev_pure{α:Type}{a b:α}{ob:Ob}{l:List Nat}(h:(pure a ob).ev=some (b,l)):a=b:=by
 injection h with h;injection h
theorem ev_get{o:Nat}{ob:Ob}{e:Ent}{l:List Nat}(h:(get o ob).ev=some (e,l)):ob o=some e:=by
 unfold get at h
 cases he:ob o with
 |none=>rw[he]at h;cases h
 |some e'=>rw[he]at h;injection h with h;injection h with h;rw[h]
theorem ev_free{o:Nat}{ob:Ob}{u:Unit}{l:List Nat}(h:(free o ob).ev=some (u,l)):ob o=none:=by
 unfold free at h
 cases he:ob o with
 |none=>rfl
 |some e'=>rw[he]at h;cases h
theorem ev_test{c:Bool}{ob:Ob}{u:Unit}{l:List Nat}(h:(test c ob).ev=some (u,l)):c=true:=by
 cases c
 ·cases h
 ·rfl
theorem ev_ofOpt{α:Type}{x:Option α}{a:α}{ob:Ob}{l:List Nat}(h:(ofOpt x ob).ev=some (a,l)):x=some a:=by
 cases x with
 |none=>cases h
 |some b=>exact congrArg some (ev_pure (ob:=ob) h)
theorem ev_call{ρ:Type}{x:Option ρ}{a:ρ}{ob:Ob}{l:List Nat}(h:(call x ob).ev=some (a,l)):x=some a:=by
 cases x with
 |none=>cases h
 |some b=>injection h with h;injection h with h;rw[h]
theorem ev_fail{α:Type}{a:α}{ob:Ob}{l:List Nat}(h:((fail:M α) ob).ev=some (a,l)):False:=by cases h
theorem ev_split{α:Type}{c:Bool}{x y:M α}{a:α}{ob:Ob}{l:List Nat}(h:(split c x y ob).ev=some (a,l)) :
  (c=true∧(x ob).ev=some (a,l))∨(c=false∧(y ob).ev=some (a,l)):=by
 cases c
 ·exact .inr ⟨rfl,h⟩
 ·exact .inl ⟨rfl,h⟩
end M
inductive ZK where
 |int (k:IntKind)|bool|str|slice|ptr|map
 deriving DecidableEq
inductive TD where
 |int (k:IntKind)|bool|str
 |slice (e:TypeId)
 |struct (fs:List (Nat×Nat))
 |ptr
 |map (k e:TypeId)
 |arr (n:Nat) (e:TypeId)
 |other
 deriving DecidableEq
structure TI where
 d:TD
 sz:Nat
 bytes:Nat
 z:List ZK
 ty:Option Ty
 eq:Bool
abbrev TB:=TypeId→Option TI
def zk:Value→Option ZK
 | .int k (.ofNat 0)=>some (.int k)
 | .bool false=>some .bool
 | .string s=>if s.size=0 then some .str else none
 | .slice none 0 0=>some .slice
 | .pointer none=>some .ptr
 | .map none=>some .map
 |_=>none
def ZK.sv:ZK→SV
 | .int k=>.int k 0
 | .bool=>.bool false
 | .str=>.str ByteArray.empty
 | .slice=>.nil
 | .ptr=>.undef
 | .map=>.undef
def Ty.zks:Ty→List ZK
 | .int k=>[.int k]
 | .bool=>[.bool]
 | .str=>[.str]
 | .row _ _=>[.slice]
 | .pair a b=>a.zks++b.zks
def TD.fits(P:Program):TypeDesc→TD→Bool
 | .int k,.int k'=>k == k'
 | .bool,.bool=>true
 | .string,.str=>true
 | .slice e,.slice e'=>e == e'
 | .struct fs,.struct gs=>(fs.toList.map fun f=>(f.offset,(P.cellsOf f.type))) == gs
 | .pointer _,.ptr=>true
 | .map k e,.map k' e'=>k == k'&&e == e'
 | .array n e,.arr n' e'=>n == n'&&e == e'
 | .struct _,_=>false
 | .array _ _,_=>false
 |_,.other=>true
 |_,_=>false
def yqm:TypeDesc→Value→Bool
 | .struct _,.agg _=>true
 | .array _ _,.agg _=>true
 | .struct _,_=>false
 | .array _ _,_=>false
 |_,.agg _=>false
 |_,.tuple _=>false
 |_,_=>true
def zkF:ZK→Option TypeDesc→Bool
 | .int _,some (.int _)=>true
 | .bool,some .bool=>true
 | .str,some .string=>true
 |_,_=>false
def eqFs(P:Program):Nat→List ZK→List Field→Bool
 |_,[],[]=>true
 | i, z :: zs, f :: fs => f.name != "_" && Nat.beq f.offset i && zkF z (P.underlying f.type) && eqFs P (i + 1) zs fs
 |_,_,_=>false
def eqOK(P:Program)(t:TypeId)(zs:List ZK):Bool:=match P.underlying t with
 |some (.struct fs)=>!P.stoodInHeld t&&!P.eqGuardType P.depth t&&eqFs P 0 zs fs.toList
 |_=>false
def okTI(P:Program)(t:TypeId)(ti:TI):Bool :=
  match P.info? t,P.underlying t with
  |some i,some d=>TD.fits P d ti.d&&i.size == ti.sz&&i.bytes == ti.bytes &&
      (match i.zero with
       |some z=>z.cells.toList.map zk == ti.z.map some&&yqm d z
       |none=>false) &&
      (match ti.ty with|some ty=>ty.sz == ti.sz&&ty.zks == ti.z|none=>true)&&(match ti.eq with|true=>eqOK P t ti.z|false=>true)
  |_,_=>false
def tbOf(L:List (TypeId×TI)):TB:=fun t=>(L.find? fun p=>p.1 == t).map (·.2)
def TBok(P:Program)(T:TB):Prop:=∀ t ti,T t=some ti→okTI P t ti=true
theorem tbOk{P:Program}{L:List (TypeId×TI)}(h:(L.all fun p=>okTI P p.1 p.2)=true):TBok P (tbOf L):=by
 intro t ti ht;unfold tbOf at ht
 cases hf:L.find? fun p=>p.1 == t with
 |none=>rw[hf]at ht;cases ht
 |some p =>
  rw[hf]at ht;injection ht with ht
  subst ht;have h1:=List.find?_some hf;have h2:=List.mem_of_find?_eq_some hf;have h3:=List.all_eq_true.1 h p h2;have:p.1=t:=by simpa using h1
  rw[← this];exact h3
theorem zob{cx:Cx}{I:In}{ob:Ob}{v:Value}{z:ZK}(h:zk v=some z):RelS cx I ob z.sv v:=by
 unfold zk at h;split at h
 ·injection h with h;subst h;rfl
 ·injection h with h;subst h;rfl
 ·rename_i s;split at h
  ·rename_i hs;injection h with h;subst h
   show _=Value.string ByteArray.empty;congr 1;have:s.data.size=0:=hs
   cases s with
   |mk d=>simp at this;subst this;rfl
  ·cases h
 ·injection h with h;subst h;rfl
 ·injection h with h;subst h;rfl
 ·injection h with h;subst h;rfl
 ·cases h
theorem zp6{cx:Cx}{I:In}{ob:Ob}:∀ {vs:List Value} {zs:List ZK},vs.map zk=zs.map some→F2 (RelS cx I ob) (zs.map ZK.sv) vs
 | [],[],_=>trivial
 |v::vs,z::zs,h=>by
  simp only[List.map_cons,List.cons.injEq]at h;exact⟨zob h.1,zp6 h.2⟩
 | [],_::_,h=>by simp at h
 |_::_,[],h=>by simp at h
structure TIok(P:Program)(t:TypeId)(ti:TI) where
 i:TypeInfo
 d:TypeDesc
 hi:P.info? t=some i
 hd:P.underlying t=some d
 fits:TD.fits P d ti.d=true
 size:i.size=ti.sz
 bytes:i.bytes=ti.bytes
 z:Value
 hz:i.zero=some z
 zs:z.cells.toList.map zk=ti.z.map some
 agg:yqm d z=true
 ty:∀ ty,ti.ty=some ty→ty.sz=ti.sz∧ty.zks=ti.z
 eq:ti.eq=true→eqOK P t ti.z=true
theorem TBok.get{P:Program}{T:TB}(h:TBok P T){t:TypeId}{ti:TI}(ht:T t=some ti):Nonempty (TIok P t ti):=by
 have:=h t ti ht;unfold okTI at this;split at this
 ·rename_i i d hi hd;simp only[Bool.and_eq_true]at this;obtain⟨⟨⟨⟨⟨h1,h2⟩,h3⟩,h4⟩,h5⟩,h6⟩:=this;split at h4
  ·rename_i z hz;simp only[Bool.and_eq_true]at h4;refine⟨⟨i,d,hi,hd,h1,by simpa using h2,by simpa using h3,z,hz,by simpa using h4.1,h4.2,fun ty hty=>?_,fun he=>?_⟩⟩
   ·rw[hty]at h5;simpa using h5
   ·rw[he]at h6;exact h6
  ·cases h4
 ·cases this
def H0:Path→Hd:=fun _=>⟨none,0,0,0,false⟩
theorem zli{w:World}:∀ (t:Ty) {vs:List Value} {c:Nat},vs.map zk=t.zks.map some→Ow w t (fun _=>H0) c t.dflt vs []
 | .int k,vs,c,h=>by
  obtain⟨v,rfl⟩:∃ v,vs=[v]:=by
   have:=congrArg List.length h;simp[Ty.zks]at this;exact List.length_eq_one_iff.1 this
  simp only[Ty.zks,List.map_cons,List.map_nil,List.cons.injEq,and_true]at h;have:=zob (cx:=⟨default,fun _=>False,fun _=>False,fun _=>default,fun _=>default⟩) (I:=fun _ _ _=>⟨none,0,0,0,false⟩) (ob:=fun _=>none) h;exact⟨by rw[show v=_ from this];rfl,rfl⟩
 | .bool,vs,c,h=>by
  obtain⟨v,rfl⟩:∃ v,vs=[v]:=by
   have:=congrArg List.length h;simp[Ty.zks]at this;exact List.length_eq_one_iff.1 this
  simp only[Ty.zks,List.map_cons,List.map_nil,List.cons.injEq,and_true]at h;have:=zob (cx:=⟨default,fun _=>False,fun _=>False,fun _=>default,fun _=>default⟩) (I:=fun _ _ _=>⟨none,0,0,0,false⟩) (ob:=fun _=>none) h;exact⟨by rw[show v=_ from this];rfl,rfl⟩
 | .str,vs,c,h=>by
  obtain⟨v,rfl⟩:∃ v,vs=[v]:=by
   have:=congrArg List.length h;simp[Ty.zks]at this;exact List.length_eq_one_iff.1 this
  simp only[Ty.zks,List.map_cons,List.map_nil,List.cons.injEq,and_true]at h;have:=zob (cx:=⟨default,fun _=>False,fun _=>False,fun _=>default,fun _=>default⟩) (I:=fun _ _ _=>⟨none,0,0,0,false⟩) (ob:=fun _=>none) h;exact⟨by rw[show v=_ from this];rfl,rfl⟩
 | .row e t,vs,c,h=>by
  obtain⟨v,rfl⟩:∃ v,vs=[v]:=by
   have:=congrArg List.length h;simp[Ty.zks]at this;exact List.length_eq_one_iff.1 this
  simp only[Ty.zks,List.map_cons,List.map_nil,List.cons.injEq,and_true]at h;have:=zob (cx:=⟨default,fun _=>False,fun _=>False,fun _=>default,fun _=>default⟩) (I:=fun _ _ _=>⟨none,0,0,0,false⟩) (ob:=fun _=>none) h;refine⟨v,rfl,?_⟩;unfold OwRow;rw[show v=_ from this];simp[H0,Ty.dflt]
 | .pair a b,vs,c,h=>by
  simp only[Ty.zks,List.map_append]at h;have hl:=congrArg List.length h;have e:vs=vs.take a.zks.length++vs.drop a.zks.length:=(List.take_append_drop _ _).symm;rw[e,List.map_append]at h
  have hlen:((vs.take a.zks.length).map zk).length=(a.zks.map some).length:=by
   simp at hl ⊢;omega
  have:=List.append_inj h hlen;rw[e];exact⟨_,_,[],[],rfl,rfl,zli a this.1,zli b this.2⟩
end Go.Proofs.Ytbjgiioppmkpiaa.Rx

namespace Go.Proofs.Ytbjgiioppmkpiaa.Rx
open Go Go.RowKit
inductive LS where
 |int (k:IntKind) (n:Int)|bool (b:Bool)|str (s:ByteArray)
 |nil
 |rw (r:Rw)
def LS.scalar:LS→Bool
 | .nil=>false
 | .rw _=>false
 |_=>true
def zaq(r:Rw)(t:Ty):Option (List t.den):=if h:r.t=t then some (h ▸ r.xs) else none
def zbr(l:LS):(b:Sb)→Option b.s.den
 |⟨.int k,_⟩=>match l with | .int k' n=>(if k'=k then some n else none)|_=>none
 |⟨.bool,_⟩=>match l with | .bool b=>some b|_=>none
 |⟨.str,_⟩=>match l with | .str s=>some s|_=>none
 |⟨.row e t,_⟩=>match l with | .nil=>some ([]:List t.den) | .rw r=>(if r.e=e then zaq r t else none)|_=>none
 |_=>none
def zlj(t:Ty):t.den→Nat→List LS→Option t.den
 |x,_,[]=>some x
 |x,c,l::ls=>match upd t x c (zbr l) with|some x'=>zlj t x' (c+1) ls|none=>none
def RelL(w:World):LS→Value→(Path→Hd)→List Nat→Prop
 | .int k n,v,_,F=>v = .int k n∧F=[]
 | .bool b,v,_,F=>v = .bool b∧F=[]
 | .str s,v,_,F=>v = .string s∧F=[]
 | .nil,v,H,F=>v = .slice none 0 0∧F=[]∧H=H0
 | .rw r,v,H,F=>OwR w r.e r.t H r.xs v F
def RelLs(w:World):List LS→List Value→List (Path→Hd)→List (List Nat)→Prop
 | [],[],[],[]=>True
 |l::ls,v::vs,H::Hs,F::Fs=>RelL w l v H F∧RelLs w ls vs Hs Fs
 |_,_,_,_=>False
theorem RelL.frame{w w':World}{l:LS}{v:Value}{H:Path→Hd}{F:List Nat}(h:RelL w l v H F)(hF:∀ k∈F,w'.heap[k]? = w.heap[k]?):RelL w' l v H F:=by
 cases l with
 |rw r=>exact OwR.frame hF h
 |_=>exact h
theorem RelLs.frame{w w':World}:∀ {ls:List LS} {vs:List Value} {Hs:List (Path→Hd)} {Fs:List (List Nat)},RelLs w ls vs Hs Fs→(∀ k∈Fs.flatten,w'.heap[k]? = w.heap[k]?)→RelLs w' ls vs Hs Fs
 | [],[],[],[],h,_=>h
 |l::ls,v::vs,H::Hs,F::Fs,h,hF=>⟨h.1.frame (fun k hk=>hF k (by simp;exact .inl hk)),RelLs.frame h.2 (fun k hk=>hF k (by rw[List.flatten_cons];exact List.mem_append_right _ hk))⟩
theorem RelL.leaf{w:World}{l:LS}{v:Value}{H:Path→Hd}{F:List Nat}{b:Sb}{y':b.s.den}(h:RelL w l v H F)(hs:zbr l b=some y')(c:Nat)(H':Nat→Path→Hd)(hH:H' c=H):Ow w b.s H' c y' [v] F:=by
 obtain⟨s,y⟩:=b
 cases s with
 |int k =>
  cases l <;> simp only[zbr]at hs <;> try cases hs
  rename_i k' n;split at hs
  ·rename_i hk;injection hs with hs;subst hs;subst hk;exact⟨by rw[h.1],h.2⟩
  ·cases hs
 |bool=>cases l <;> simp only[zbr]at hs <;> cases hs;exact⟨by rw[h.1],h.2⟩
 |str=>cases l <;> simp only[zbr]at hs <;> cases hs;exact⟨by rw[h.1],h.2⟩
 |pair a b=>simp only[zbr]at hs;cases hs
 |row e t =>
  cases l <;> simp only[zbr]at hs <;> try cases hs
  ·obtain⟨rfl,rfl,rfl⟩:=h;refine⟨_,rfl,?_⟩;unfold OwRow;rw[hH];simp[H0]
  ·rename_i r;obtain⟨e1,t1,xs⟩:=r;split at hs
   ·rename_i he;simp only at he;subst he;simp only[zaq]at hs;split at hs
    ·rename_i ht;subst ht;injection hs with hs
     subst hs;refine⟨v,rfl,?_⟩;show OwR w _ _ (H' c) _ v F;rw[hH];exact h
    ·cases hs
   ·cases hs
def over(cs:List Value)(c:Nat)(vs:List Value):List Value:=cs.take c++vs++cs.drop (c+vs.length)
theorem zmz{w:World}:∀ (t:Ty) {x:t.den} {c:Nat} {f:(b:Sb)→Option b.s.den} {x':t.den},upd t x c f=some x'→∃ b y',sub t x c=some b∧f b=some y'
 | .int k,x,c,f,x',h=>by
  simp only[upd]at h;split at h
  ·rename_i hc;subst hc;exact⟨_,_,by simp only[sub,if_true],h⟩
  ·cases h
 | .bool,x,c,f,x',h=>by
  simp only[upd]at h;split at h
  ·rename_i hc;subst hc;exact⟨_,_,by simp only[sub,if_true],h⟩
  ·cases h
 | .str,x,c,f,x',h=>by
  simp only[upd]at h;split at h
  ·rename_i hc;subst hc;exact⟨_,_,by simp only[sub,if_true],h⟩
  ·cases h
 | .row _ _,x,c,f,x',h=>by
  simp only[upd]at h;split at h
  ·rename_i hc;subst hc;exact⟨_,_,by simp only[sub,if_true],h⟩
  ·cases h
 | .pair a b,x,c,f,x',h=>by
  simp only[upd]at h;split at h
  ·rename_i hc;split at h
   ·rename_i y hy;obtain⟨b,y',h1,h2⟩:=zmz (w:=w) a hy;exact⟨b,y',by simp only[sub,if_pos hc,h1],h2⟩
   ·cases h
  ·rename_i hc;split at h
   ·rename_i y hy;obtain⟨b,y',h1,h2⟩:=zmz (w:=w) b hy;exact⟨b,y',by simp only[sub,if_neg hc,h1],h2⟩
   ·cases h
theorem Ow.upd{w:World}(t:Ty):∀ {ls:List LS} {vs:List Value} {Hs:List (Path→Hd)} {Fs:List (List Nat)} {H:Nat→Path→Hd} {x x':t.den} {cs:List Value} {F:List Nat} {c:Nat},
  Ow w t H 0 x cs F→RelLs w ls vs Hs Fs→zlj t x c ls=some x'→(F++Fs.flatten).Nodup →
  ∃ H' F',Ow w t H' 0 x' (over cs c vs) F'∧F'.Nodup∧(∀ k∈F',k∈F∨k∈Fs.flatten)∧(∀ j,(j<c∨c+ls.length≤j)→H' j=H j)∧(∀ i l h,ls[i]? = some l→Hs[i]? = some h→LS.scalar l=false→H' (c+i)=h)∧(∀ i l,ls[i]? = some l→LS.scalar l=true→H' (c+i)=H (c+i))
 | [],[],[],[],H,x,x',cs,F,c,ho,_,hu,hn=>by
  simp only[zlj]at hu;injection hu with hu
  subst hu;exact⟨H,F,by simpa [over] using ho,by simpa using hn,fun k hk=>.inl hk,fun _ _=>rfl,fun i l h hi=>by simp at hi,fun i l hi=>by simp at hi⟩
 |l::ls,v::vs,h1::Hs,F1::Fs,H,x,x',cs,F,c,ho,hr,hu,hn=>by
  simp only[zlj]at hu;split at hu
  ·rename_i x1 hx1;obtain⟨b,y',hb,hy⟩:=zmz (w:=w) t hx1;obtain⟨ca,u,cb,Fa,Fo,Fb,rfl,hca,rfl,ho1,hk⟩:=Ow.cell t ho hb;rw[Nat.zero_add]at ho1 hk
   let H1:Nat→Path→Hd:=fun j=>if j=c∧LS.scalar l=false then h1 else H j
   have hleaf:Ow w b.s H1 c y' [v] F1:=by
    cases hsc:LS.scalar l with
    |false=>exact hr.1.leaf hy c H1 (by simp[H1,hsc])
    |true =>
     have hr1:=hr.1
     cases l with
     |int k n=>exact RelL.leaf (l:=.int k n) (H:=H1 c) hr1 hy c H1 rfl
     |bool n=>exact RelL.leaf (l:=.bool n) (H:=H1 c) hr1 hy c H1 rfl
     |str n=>exact RelL.leaf (l:=.str n) (H:=H1 c) hr1 hy c H1 rfl
     |nil=>cases hsc
     |rw r=>cases hsc
   have ho2:=hk w H1 y' v F1 x1 (zbr l) hy hx1 (fun _ _=>rfl) (fun j hj p=>by simp[H1,hj]) hleaf
   have hn2:((Fa++(F1++Fb))++Fs.flatten).Nodup:=by
    simp only[List.flatten_cons,List.nodup_append,List.mem_append]at hn ⊢
    grind
   obtain⟨H',F',h3,h4,h5,h6,h7,h8⟩:=Ow.upd (ls:=ls) t ho2 hr.2 hu hn2;refine⟨H',F',?_,h4,fun k hk'=>?_,fun j hj=>?_,fun i l' h' hi hi' hs=>?_,fun i l' hi hs=>?_⟩
   ·have:over (ca++u::cb) c (v::vs)=over (ca++v::cb) (c+1) vs:=by
     unfold over;rw[← hca,List.take_left]
     have e1:(ca++v::cb).take (ca.length+1)=ca++[v]:=by
      rw[show ca++v::cb=(ca++[v])++cb by simp];exact List.take_left' (by simp)
     have e2:(ca++u::cb).drop (ca.length+(v::vs).length)=cb.drop vs.length:=by
      rw[show ca++u::cb=(ca++[u])++cb by simp,List.drop_append];have:(ca++[u]).drop (ca.length+(v::vs).length)=[]:=by simp
      rw[this];simp;congr 1;omega
     have e3:(ca++v::cb).drop (ca.length+1+vs.length)=cb.drop vs.length:=by
      rw[show ca++v::cb=(ca++[v])++cb by simp,List.drop_append];have:(ca++[v]).drop (ca.length+1+vs.length)=[]:=by simp
      rw[this];simp
     rw[e1,e2,e3];simp
    rw[this];exact h3
   ·have:=h5 k hk';simp only[List.flatten_cons,List.mem_append]at this ⊢
    grind
   ·rw[h6 j (by simp at hj;omega)];have:j≠c:=by simp at hj;omega
    simp[H1,this]
   ·cases i with
    |zero =>
     simp at hi hi';subst hi;subst hi';rw[Nat.add_zero,h6 c (by omega)];simp[H1,hs]
    |succ i =>
     simp at hi hi';rw[show c+(i+1)=c+1+i by omega];exact h7 i l' h' hi hi' hs
   ·cases i with
    |zero =>
     simp at hi;subst hi;rw[Nat.add_zero,h6 c (by omega)];simp[H1,hs]
    |succ i =>
     simp at hi;rw[show c+(i+1)=c+1+i by omega,h8 i l' hi hs];have:c+1+i≠c:=by omega
     simp[H1,this]
  ·cases hu
def zfd{α:Type}(xs:List α):Option (Nat×Nat)→List α
 |none=>xs
 |some (off,n)=>(xs.drop off).take n
def res1(s:SV)(cons:List (Nat×Ent)):M (LS×List (Nat×Ent)) :=
 match s with
 | .int k n=>M.pure (.int k n,cons)
 | .bool b=>M.pure (.bool b,cons)
 | .str s=>M.pure (.str s,cons)
 | .nil=>M.pure (.nil,cons)
 | .ref o _ [] vw=>match cons.any (fun c=>c.1 == o) with
  |true=>M.fail
  |false=>M.bind (M.get o) fun
   | .row r cur none=>M.pure (.rw ⟨r.e,r.t,zfd r.xs vw⟩,cons++[(o,.dead cur)])
   |_=>M.fail
 |_=>M.fail
def resM:List SV→List (Nat×Ent)→M (List LS×List (Nat×Ent))
 | [],cons=>M.pure ([],cons)
 |s::ss,cons=>M.bind (res1 s cons) fun a=>M.bind (resM ss a.2) fun b=>M.pure (a.1::b.1,b.2)
def Ob.puts(ob:Ob):List (Nat×Ent)→Ob
 | []=>ob
 |u::us=>(ob.put u.1 u.2).puts us
theorem Ob.puts_append(ob:Ob):∀ (a b:List (Nat×Ent)),ob.puts (a++b)=(ob.puts a).puts b
 | [],_=>rfl
 |u::us,b=>Ob.puts_append (ob.put u.1 u.2) us b
theorem Ob.puts_other{o:Nat}:∀ {us:List (Nat×Ent)} {ob:Ob},(∀ u∈us,u.1≠o)→ob.puts us o=ob o
 | [],_,_=>rfl
 |u::us,ob,h=>by
  rw[Ob.puts,Ob.puts_other (fun x hx=>h x (List.mem_cons_of_mem _ hx))];simp[Ob.put,(h u List.mem_cons_self).symm]
section
variable{cx:Cx}{I:In}{w:World}
theorem zi6{FF:Nat→List Nat}{ob:Ob}{s:SV}{v:Value}{cons:List (Nat×Ent)}{r:LS×List (Nat×Ent)}{lg:List Nat}(h:RelH cx I FF (ob.puts cons) w)(hs:RelS cx I ob s v)
  (x:Ext I ob I (ob.puts cons)) (he:(res1 s cons ob).ev=some (r,lg)) :
  ∃ FF' H F,RelH cx I FF' (ob.puts r.2) w∧Ext I ob I (ob.puts r.2)∧RelL w r.1 v H F∧F.Nodup∧(∀ p,(H p).hole=false) ∧
   (∀ k∈F,(¬ cx.Z k∧(cx.D0 k∨cx.w0.heap.size≤k)∧k<w.heap.size)∧(∀ o,k∉FF' o)∧∃ o,k∈FF o)∧(∀ o k,k∈FF' o→k∈FF o)∧(∀ o,(∀ u∈r.2,u.1≠o)→FF' o=FF o)∧(∀ u∈cons,u∈r.2):=by
 have triv:∀ l,r=(l,cons)→RelL w l v H0 []→∃ FF' H F,RelH cx I FF' (ob.puts r.2) w∧Ext I ob I (ob.puts r.2)∧RelL w r.1 v H F∧F.Nodup∧(∀ p,(H p).hole=false) ∧
   (∀ k∈F,(¬ cx.Z k∧(cx.D0 k∨cx.w0.heap.size≤k)∧k<w.heap.size)∧(∀ o,k∉FF' o)∧∃ o,k∈FF o)∧(∀ o k,k∈FF' o→k∈FF o)∧(∀ o,(∀ u∈r.2,u.1≠o)→FF' o=FF o)∧(∀ u∈cons,u∈r.2):=by
  rintro l rfl hl;exact⟨FF,H0,[],h,x,hl,List.nodup_nil,fun _=>rfl,(fun k hk=>by cases hk),fun o k hk=>hk,fun _ _=>rfl,fun _ h=>h⟩
 cases s with
 |int k n=>exact triv _ (M.ev_pure (ob:=ob) he).symm ⟨hs,rfl⟩
 |bool b=>exact triv _ (M.ev_pure (ob:=ob) he).symm ⟨hs,rfl⟩
 |str s=>exact triv _ (M.ev_pure (ob:=ob) he).symm ⟨hs,rfl⟩
 |nil=>exact triv _ (M.ev_pure (ob:=ob) he).symm ⟨hs,rfl,rfl⟩
 |ref o ver p vw =>
  cases p with
  |cons a p=>exact(M.ev_fail (ob:=ob) he).elim
  |nil =>
   cases hany:cons.any (fun c=>c.1 == o) with
   |true=>simp only[res1,hany]at he;exact(M.ev_fail (ob:=ob) he).elim
   |false =>
    simp only[res1,hany]at he;obtain⟨e,l1,l2,he1,he2,rfl⟩:=M.ev_bind he;have hob:=M.ev_get he1
    have hno:∀ u∈cons,u.1≠o:=by
     intro u hu e;have:=List.any_eq_false.1 hany u hu;simp[e]at this
    have hob':ob.puts cons o=some e:=by rw[Ob.puts_other hno];exact hob
    cases e with
    |box cs=>exact(M.ev_fail (ob:=ob) he2).elim
    |dead vv=>exact(M.ev_fail (ob:=ob) he2).elim
    |iter _ _=>exact(M.ev_fail (ob:=ob) he2).elim
    |map _=>exact(M.ev_fail (ob:=ob) he2).elim
    |grp _ _ _=>exact(M.ev_fail (ob:=ob) he2).elim
    |lit _ _=>exact(M.ev_fail (ob:=ob) he2).elim
    |mit _ _ _=>exact(M.ev_fail (ob:=ob) he2).elim
    |gh _=>exact(M.ev_fail (ob:=ob) he2).elim
    |half _ _ _=>exact(M.ev_fail (ob:=ob) he2).elim
    |ro _=>exact(M.ev_fail (ob:=ob) he2).elim
    |mid _ _ _=>exact(M.ev_fail (ob:=ob) he2).elim
    |rv _ _=>exact(M.ev_fail (ob:=ob) he2).elim
    |row r0 cur hole =>
     cases hole with
     |some q=>exact(M.ev_fail (ob:=ob) he2).elim
     |none =>
      have hr:=M.ev_pure (ob:=ob) he2;subst hr;obtain⟨⟨v0,ho⟩,hroot,hhole,_⟩:=h.rel o _ hob';have ht:=h.take hob';have e2:ob.puts (cons++[(o,Ent.dead cur)])=(ob.puts cons).put o (.dead (Ent.row r0 cur none).ver):=by rw[Ob.puts_append];rfl
      have hnoh:∀ p,(I o cur p).hole=false:=by
       intro p
       cases hp:(I o cur p).hole with
       |false=>rfl
       |true=>exact absurd (hhole p hp) (by simp)
      obtain⟨⟨e0,he0,hle0⟩,_,off,len,hvw,hol,A,c,rfl,hlc,hcm,hex,hc⟩:=hs
      have hver:ver≤cur:=by
       rw[hob]at he0;injection he0 with he0;subst he0;exact hle0
      have hI:I o ver []=I o cur []:=hroot ver hver;rw[hI]at hvw hol hc
      have hlen:r0.xs.length=(I o cur []).len:=by
       unfold OwR OwRow at ho;rw[if_neg (by simp[hnoh])]at ho;exact ho.2.1
      let H':Path→Hd:=fun q=>match q with | []=>⟨A,c,len,r0.t.sz,false⟩|(i,c')::p=>I o cur ((i+off,c')::p)
      have hcnd:c=0∧len=0∨(c+off=(I o cur []).cap∧∃ g b,(I o cur []).A=some ⟨g,b,none⟩∧A=some ⟨g,b+off*r0.t.sz,none⟩):=by
       rcases hc with hc|⟨hc,g,b,hA,hA'⟩
       ·exact .inl ⟨hc,by omega⟩
       ·by_cases hz:c=0
        ·exact .inl ⟨hz,by omega⟩
        ·refine .inr ⟨hc,g,b,hA,?_⟩;rw[hA'];unfold OwR OwRow at ho;rw[if_neg (by simp[hnoh])]at ho;rw[if_neg (by omega)]at ho;rw[ho.2.2.2.2.1]
      obtain⟨F',hsub,hview⟩:=ho.view (H':=H') (hnoh []) hol hcnd hlc rfl (fun i c p=>rfl)
      have hxs:(r0.xs.drop off).take len=zfd r0.xs vw:=by
       cases vw with
       |none =>
        simp only[Option.getD_none,Prod.mk.injEq]at hvw;obtain⟨rfl,rfl⟩:=hvw;simp[zfd,← hlen]
       |some ol =>
        simp only[Option.getD_some]at hvw;subst hvw;rfl
      rw[hxs]at hview
      have x2:Ext I ob I (ob.puts (cons++[(o,Ent.dead cur)])):=by
       rw[e2];exact x.trans ⟨fun _ _ _=>rfl,zak (fun e1 h1=>by rw[hob']at h1;injection h1 with h1;subst h1;exact Nat.le_refl _)⟩
      refine⟨zaj FF o [],H',F',by rw[e2];exact ht,x2,hview,hsub.nodup (h.nd o),fun p=>?_,fun k hk=>⟨h.mine o k (hsub.subset hk),fun o' ho'=>?_,o,hsub.subset hk⟩,fun o' k hk=>?_,fun o' ho'=>?_,fun u hu=>List.mem_append_left _ hu⟩
      ·cases p with
       |nil=>rfl
       |cons a p=>exact hnoh _
      ·unfold zaj at ho';split at ho'
       ·cases ho'
       ·rename_i hne;exact h.dj o o' (fun e=>hne e.symm) k (hsub.subset hk) ho'
      ·unfold zaj at hk;split at hk
       ·cases hk
       ·exact hk
      ·unfold zaj;rw[if_neg];intro e;exact ho' (o,Ent.dead cur) (by simp) e.symm
 |_=>exact(M.ev_fail (ob:=ob) he).elim
theorem zb6{ob:Ob}:∀ {ss:List SV} {vs:List Value} {FF:Nat→List Nat} {cons:List (Nat×Ent)} {r:List LS×List (Nat×Ent)} {lg:List Nat},RelH cx I FF (ob.puts cons) w→F2 (RelS cx I ob) ss vs →
  Ext I ob I (ob.puts cons)→(resM ss cons ob).ev=some (r,lg) →
  ∃ FF' Hs Fs,RelH cx I FF' (ob.puts r.2) w∧Ext I ob I (ob.puts r.2)∧RelLs w r.1 vs Hs Fs∧Fs.flatten.Nodup∧(∀ H∈Hs,∀ p,(H p).hole=false) ∧
   (∀ k∈Fs.flatten,(¬ cx.Z k∧(cx.D0 k∨cx.w0.heap.size≤k)∧k<w.heap.size)∧(∀ o,k∉FF' o)∧∃ o,k∈FF o)∧(∀ o k,k∈FF' o→k∈FF o)∧(∀ o,(∀ u∈r.2,u.1≠o)→FF' o=FF o)∧(∀ u∈cons,u∈r.2)
 | [],[],FF,cons,r,lg,h,_,x,he=>by
  have:=M.ev_pure (ob:=ob) he;subst this;exact⟨FF,[],[],h,x,trivial,List.nodup_nil,fun H hH=>(by cases hH),fun k hk=>by simp at hk,fun o k hk=>hk,fun _ _=>rfl,fun _ h=>h⟩
 |s::ss,v::vs,FF,cons,r,lg,h,hs,x,he=>by
  obtain⟨a,l1,l2,he1,he2,rfl⟩:=M.ev_bind he;obtain⟨b,l3,l4,he3,he4,rfl⟩:=M.ev_bind he2;have:=M.ev_pure (ob:=ob) he4;subst this;obtain⟨FF1,H,F,h1,x1,hl,hn,hho,hm,hsub,hoth,hmon⟩:=zi6 h hs.1 x he1;obtain⟨FF2,Hs,Fs,h2,x2,hl2,hn2,hho2,hm2,hsub2,hoth2,hmon2⟩:=zb6 h1 hs.2 x1 he3;refine⟨FF2,H::Hs,F::Fs,h2,x2,⟨hl,hl2⟩,?_,?_,?_,fun o k hk=>hsub o k (hsub2 o k hk),?_,fun u hu=>hmon2 u (hmon u hu)⟩
  ·rw[List.flatten_cons,List.nodup_append];refine⟨hn,hn2,fun k hk k' hk' e=>?_⟩;subst e;obtain⟨_,_,o,ho⟩:=hm2 k hk';exact(hm k hk).2.1 o ho
  ·intro H1 hH1;rcases List.mem_cons.1 hH1 with rfl|hH1
   ·exact hho
   ·exact hho2 H1 hH1
  ·intro k hk;rw[List.flatten_cons]at hk;rcases List.mem_append.1 hk with hk|hk
   ·obtain⟨h3,h4,h5⟩:=hm k hk;exact⟨h3,fun o ho=>h4 o (hsub2 o k ho),h5⟩
   ·obtain⟨h3,h4,o,h5⟩:=hm2 k hk;exact⟨h3,h4,o,hsub o k h5⟩
  ·intro o ho;rw[hoth2 o ho];exact hoth o (fun u hu=>ho u (hmon2 u hu))
 | [],_::_,_,_,_,_,_,hs,_,_=>hs.elim
 |_::_,[],_,_,_,_,_,hs,_,_=>hs.elim
end
end Go.Proofs.Ytbjgiioppmkpiaa.Rx

namespace Go.Proofs.Ytbjgiioppmkpiaa.Rx
open Go Go.RowKit
theorem OwRow.elem{α:Type}{w:World}{e:TypeId}{sz i:Nat}{R:Nat→α→List Value→List Nat→Prop}{h:Hd}{xs:List α}{v:Value}{F:List Nat}(d:α)
  (hR:∀ k x c f,R k x c f→c.length=sz) (h0:OwRow w e sz R h xs v F) (hh:h.hole=false) (hi:i<h.len) :
  ∃ g b cells ca ci cb Fa Fi Fb,h.A=some ⟨g,b,none⟩∧h.sz=sz∧F=g::(Fa++(Fi++Fb))∧HC w g cells e∧b+h.cap*sz≤cells.size∧xs.length=h.len ∧
   (cells.toList.drop b).take (h.len*sz)=ca++(ci++cb)∧ca.length=i*sz∧ci.length=sz∧RL R 0 (xs.take i) ca Fa∧R i (xs.getD i d) ci Fi∧RL R (i+1) (xs.drop (i+1)) cb Fb ∧
   v = .slice h.A h.len h.cap∧h.len≤h.cap∧h.cap≤maxLen∧∀ j u,ci[j]? = some u→cells[b+i*sz+j]? = some u:=by
 unfold OwRow at h0;rw[if_neg (by simp[hh])]at h0;obtain⟨hv,hl,hle,hmx,h5⟩:=h0;rw[if_neg (by omega)]at h5;obtain⟨hsz,g,b,cells,F',hA,rfl,hg,hs,hrl⟩:=h5;obtain⟨ca,ci,cb,Fa,Fi,Fb,hcs,rfl,hra,hri,hrb⟩:=hrl.at (i:=i) (by omega) d
 have hca:ca.length=i*sz:=by
  have:=hra.length (sz:=sz) hR;rw[List.length_take,Nat.min_eq_left (by omega)]at this;exact this
 have hci:=hR _ _ _ _ hri;refine⟨g,b,cells,ca,ci,cb,Fa,Fi,Fb,hA,hsz,rfl,hg,hs,hl,hcs,hca,hci,hra,hri,hrb,hv,hle,hmx,fun j u hj=>?_⟩;have hjl:j<ci.length:=(List.getElem?_eq_some_iff.1 hj).1
 have h1:=congrArg (·[i*sz+j]?) hcs
 simp only[List.getElem?_take,List.getElem?_drop]at h1;have hm:h.len*sz=i*sz+(h.len - i)*sz:=by rw[← Nat.add_mul];congr 1;omega
 have hm2:sz≤(h.len - i)*sz:=Nat.le_mul_of_pos_left sz (by omega);rw[if_pos (by omega)]at h1;rw[List.getElem?_append_right (by omega),List.getElem?_append_left (by omega)]at h1;have e1:i*sz+j - ca.length=j:=by omega
 rw[e1,hj]at h1;rw[← h1,Array.getElem?_toList];congr 1;omega
def Ty.plain:Ty→Bool
 | .row _ _=>false
 | .pair a b=>a.plain&&b.plain
 |_=>true
theorem Cn.plain{w w':World}{Z:Nat→Prop}:∀ (T:Ty) {H':Nat→Path→Hd} {c':Nat} {x:T.den} {cs:List Value},T.plain=true→Cn w Z T x cs→Ow w' T H' c' x cs []
 | .int k,_,_,x,cs,_,h=>⟨h,rfl⟩
 | .bool,_,_,x,cs,_,h=>⟨h,rfl⟩
 | .str,_,_,x,cs,_,h=>⟨h,rfl⟩
 | .row e t,_,_,x,cs,hf,h=>by cases hf
 | .pair a b,H',c',x,cs,hf,h=>by
  obtain⟨c1,c2,rfl,h1,h2⟩:=h;simp only[Ty.plain,Bool.and_eq_true]at hf;exact⟨c1,c2,[],[],rfl,rfl,Cn.plain a hf.1 h1,Cn.plain b hf.2 h2⟩
def zh6:Ty→Nat→Bool
 | .row _ _,c=>Nat.beq c 0
 | .pair a b,c=>(match Nat.ble (c+1) a.sz with|true=>zh6 a c&&b.plain|false=>a.plain&&zh6 b (c - a.sz))
 |_,_=>false
theorem zzy{a b:Ty}{x x':(Ty.pair a b).den}{c:Nat}{f:(b:Sb)→Option b.s.den}(h:upd (.pair a b) x c f=some x'):(c<a.sz∧∃ y,upd a x.1 c f=some y∧x'=(y,x.2))∨(¬ c<a.sz∧∃ y,upd b x.2 (c - a.sz) f=some y∧x'=(x.1,y)):=by
 simp only[upd]at h;split at h
 ·rename_i hc
  cases hu:upd a x.1 c f with
  |none=>rw[hu]at h;cases h
  |some y=>rw[hu]at h;injection h with h;exact .inl ⟨hc,y,rfl,h.symm⟩
 ·rename_i hc
  cases hu:upd b x.2 (c - a.sz) f with
  |none=>rw[hu]at h;cases h
  |some y=>rw[hu]at h;injection h with h;exact .inr ⟨hc,y,rfl,h.symm⟩
theorem yk4{w w':World}{Z:Nat→Prop}{l:LS}{u:Value}{H2:Path→Hd}{F2:List Nat}(hl:RelL w' l u H2 F2):∀ (t:Ty) {H:Nat→Path→Hd} {c0 c:Nat} {x x':t.den} {cs:List Value},Cn w Z t x cs→zh6 t c=true→H (c0+c)=H2→upd t x c (zbr l)=some x'→Ow w' t H c0 x' (cs.set c u) F2
 | .int k,H,c0,c,x,x',cs,hc,h1,hH,hu=>by cases h1
 | .bool,H,c0,c,x,x',cs,hc,h1,hH,hu=>by cases h1
 | .str,H,c0,c,x,x',cs,hc,h1,hH,hu=>by cases h1
 | .row e t,H,c0,c,x,x',cs,hc,h1,hH,hu=>by
  have hc0:c=0:=Nat.eq_of_beq_eq_true h1;subst hc0;obtain⟨v,rfl,_⟩:=hc;simp only[upd,if_true]at hu;have:=RelL.leaf (b:=⟨.row e t,x⟩) hl hu c0 H (by simpa using hH);simpa using this
 | .pair a b,H,c0,c,x,x',cs,hc,h1,hH,hu=>by
  obtain⟨c1,c2,rfl,k1,k2⟩:=hc;have hl1:=Cn.len a k1;simp only[zh6]at h1;rcases zzy hu with ⟨hlt,y,hy,rfl⟩|⟨hge,y,hy,rfl⟩
  ·have hb:Nat.ble (c+1) a.sz=true:=Nat.ble_eq_true_of_le hlt;rw[hb]at h1;simp only[Bool.and_eq_true]at h1;rw[List.set_append,if_pos (by omega)];exact⟨c1.set c u,c2,F2,[],rfl,by simp,yk4 hl a k1 h1.1 hH hy,Cn.plain b h1.2 k2⟩
  ·have hb:Nat.ble (c+1) a.sz=false:=by
    cases hb:Nat.ble (c+1) a.sz with
    |false=>rfl
    |true=>exact absurd (Nat.le_of_ble_eq_true hb) (by omega)
   rw[hb]at h1;simp only[Bool.and_eq_true]at h1;rw[List.set_append,if_neg (by omega),hl1];exact⟨c1,c2.set (c - a.sz) u,[],F2,rfl,by simp,Cn.plain a h1.1 k1,yk4 hl b k2 h1.2 (by rw[← hH];congr 1;omega) hy⟩
end Go.Proofs.Ytbjgiioppmkpiaa.Rx

namespace Go.Proofs.Ytbjgiioppmkpiaa.Rx
open Go Go.RowKit
def TI.agg(ti:TI):Bool:=match ti.d with | .struct _=>true | .arr _ _=>true|_=>false
def mkAV(agg:Bool)(cs:List SV)(n:Nat):Option AV :=
 match agg with
 |true=>if cs.length=n then some (.agg cs) else none
 |false=>match cs,n with | [s],1=>some (.one s)|_,_=>none
def zln(p:Path)(ver cur:Nat)(hole:Option Path):Bool:=p.isEmpty || (ver == cur&&hole.isNone)
def svOf(o ver:Nat)(q:Path)(hole:Bool):Sb→Option SV
 |⟨.int k,n⟩=>some (.int k n)
 |⟨.bool,b⟩=>some (.bool b)
 |⟨.str,s⟩=>some (.str s)
 |⟨.row _ _,_⟩=>(match hole with|true=>none|false=>some (.ref o ver q none))
 |_=>none
def zkb(o cur:Nat)(p:Path)(hole:Bool)(r:Rw)(i:Nat):Nat→Nat→Option (List SV)
 |_,0=>some []
 |c,n+1=>match sub r.t (r.xs.getD i r.t.dflt) c with
  | some b=>(match svOf o cur (p ++ [(i,c)]) hole b with
   |some s=>(match zkb o cur p hole r i (c+1) n with|some ss=>some (s::ss)|none=>none)
   |none=>none)
  |none=>none
def yp3:Sb→Option SV
 |⟨.int k,n⟩=>some (.int k n)
 |⟨.bool,b⟩=>some (.bool b)
 |⟨.str,s⟩=>some (.str s)
 |⟨.row e t,ys⟩=>some (.con ⟨e,t,ys⟩)
 |_=>none
def zv0(r:Rw)(i:Nat):Nat→Nat→Option (List SV)
 |_,0=>some []
 |c,n+1=>match sub r.t (r.xs.getD i r.t.dflt) c with
  | some b=>(match yp3 b with
   |some s=>(match zv0 r i (c+1) n with|some ss=>some (s::ss)|none=>none)
   |none=>none)
  |none=>none
def roOf:Sb→SV
 |⟨.int k,(n:Int)⟩=>.int k n
 |⟨.bool,(b:Bool)⟩=>.bool b
 |⟨.str,(s:ByteArray)⟩=>.str s
 |_=>.undef
def rdRo(r:Rw)(i:Nat):Nat→Nat→Option (List SV)
 |_,0=>some []
 |c,n+1=>match sub r.t (r.xs.getD i r.t.dflt) c with
  |some b=>(match rdRo r i (c+1) n with|some ss=>some (roOf b::ss)|none=>none)
  |none=>none
def zpz(ti:TI):SV→M AV
 | .bptr o c=>M.bind (M.get o) fun
  | .box cs=>M.ofOpt (mkAV ti.agg ((cs.drop c).take ti.sz) ti.sz)
  |_=>M.fail
 | .ptr o ver p i c=>M.bind (M.get o) fun
  | .row r cur hole=>(match zln p ver cur hole with
   | true=>(match zbe p r with
    |some r'=>(match zkb o cur p hole.isSome r' i c ti.sz with|some ss=>M.ofOpt (mkAV ti.agg ss ti.sz)|none=>M.fail)
    |none=>M.fail)
   |false=>M.fail)
  | .half r k ch=>(match p.isEmpty&&(Nat.beq c ch&&(Nat.beq ti.sz 1&&!ti.agg)),sub r.t (r.xs.getD i r.t.dflt) c with
   |true,some ⟨.row e' t',ys⟩=>M.bind (M.test (decide (k≤(i:Int)))) fun _=>M.pure (.one (.con ⟨e',t',ys⟩))
   |_,_=>M.fail)
  | .ro r=>(match p.isEmpty,rdRo r i c ti.sz with
   |true,some ss=>M.ofOpt (mkAV ti.agg ss ti.sz)
   |_,_=>M.fail)
  |_=>M.fail
 | .cptr r i c=>match zv0 r i c ti.sz with|some ss=>M.ofOpt (mkAV ti.agg ss ti.sz)|none=>M.fail
 |_=>M.fail
section
variable{P:Program}{cx:Cx}{I:In}{FF:Nat→List Nat}{ob:Ob}{w:World}{t:TypeId}{ti:TI}
theorem TIok.isAgg(h:TIok P t ti)(w:World):(isAgg t).run P w = .ok ti.agg w:=by
 unfold Go.isAgg;rw[Sem.run_bind,run_underlying h.hd];have:=h.fits;unfold TI.agg;cases hd:h.d <;> simp[hd,TD.fits]at this ⊢ <;> (try (cases htd:ti.d <;> simp_all [TD.fits]))
theorem TIok.sizeOf(h:TIok P t ti)(w:World):(sizeOf t).run P w = .ok ti.sz w:=by
 simp[Go.sizeOf,typeInfo,h.hi,h.size]
theorem zi_{R:SV→Value→Prop}{agg:Bool}{cs:List SV}{n:Nat}{av:AV}{us:List Value}(h:mkAV agg cs n=some av)(hr:F2 (RelS cx I ob) cs us) :
  us.length=n∧RelA cx I ob av (if agg=true then .agg us.toArray else us.getD 0 undef)∧(agg=false→us.length=1):=by
 unfold mkAV at h
 cases agg with
 |true =>
  simp only at h;split at h
  ·rename_i hl;injection h with h
   subst h;exact⟨hr.len.symm.trans hl,⟨us.toArray,rfl,by simpa using hr⟩,fun h=>by cases h⟩
  ·cases h
 |false =>
  simp only at h;split at h
  ·injection h with h
   subst h;obtain⟨u,rfl⟩:∃ u,us=[u]:=List.length_eq_one_iff.1 (by rw[← hr.len];rfl);exact⟨rfl,hr.1,fun _=>rfl⟩
  ·cases h
theorem zgo(h:TIok P t ti){a:Addr}{us:List Value}(hl:us.length=ti.sz)(h1:ti.agg=false→us.length=1)(hc:∀ j u,us[j]? = some u→w.cell? (a.add j)=some u) :
  (Instr.loadAt t (.pointer (some a))).run P w = .ok (if ti.agg=true then .agg us.toArray else us.getD 0 undef) w:=by
 have ha:=h.isAgg w;unfold Instr.loadAt Instr.sureAddr loadVar
 cases hg:ti.agg with
 |true =>
  rw[hg]at ha;have:=run_loadCells_list (P:=P) w a us hc;rw[hl]at this;simp[ha,h.sizeOf,this]
 |false =>
  rw[hg]at ha;obtain⟨u,rfl⟩:=List.length_eq_one_iff.1 (h1 hg);have:=hc 0 u rfl;have e:a.add 0=a:=rfl;rw[e]at this;simp[ha,this]
theorem zbz{H:Path→Hd}:∀ {p:Path},pv H p→(∀ q,q <+: p→(H q).hole=false)→zh5 H p
 | [],_,h=>trivial
 |(i,c)::p,hp,h=>⟨h [] (List.nil_prefix),hp.1,zbz (H:=fun q=>H ((i,c)::q)) hp.2 (fun q hq=>h _ (List.cons_prefix_cons.2 ⟨rfl,hq⟩))⟩
theorem zbu(g b n:Nat):(⟨g,b,none⟩:Addr).add n=⟨g,b+n,none⟩:=Addr.add_lit g b n
theorem zz4{o ver cur:Nat}{q:Path}{hole:Bool}{b:Sb}{s:SV}{u:Value}{F:List Nat}{H:Nat→Path→Hd}{c:Nat}(h:svOf o cur q hole b=some s)(ho:Ow w b.s H c b.y [u] F)
  (hH:hole=false→H c []=I o cur q∧(I o cur q).hole=false) (hk:zce ob o cur) (hp:hole=false→pv (I o cur) q):RelS cx I ob s u:=by
 obtain⟨bs,y⟩:=b
 cases bs with
 |int k=>injection h with h;subst h;have:=ho.1;injection this
 |bool=>injection h with h;subst h;have:=ho.1;injection this
 |str=>injection h with h;subst h;have:=ho.1;injection this
 |pair _ _=>cases h
 |row e t =>
  cases hole with
  |true=>cases h
  |false =>
   injection h with h;subst h
   obtain⟨hH1,hH2⟩:=hH rfl;obtain⟨v,hv,ho⟩:=ho;injection hv with hv
   subst hv;rw[hH1]at ho;unfold OwRow at ho;rw[if_neg (by simp[hH2])]at ho;obtain⟨rfl,hl,hle,hmx,h5⟩:=ho;refine⟨hk,hp rfl,0,_,rfl,by omega,_,_,rfl,hle,hmx,fun _=>⟨rfl,rfl⟩,?_⟩;split at h5
   ·exact .inl ‹_›
   ·obtain⟨_,g,b,_,_,hA,_⟩:=h5;exact .inr ⟨rfl,g,b,hA,by rw[hA];simp⟩
theorem zv2{i c:Nat}:∀ {p:Path} {H:Path→Hd},pv H p→i<(H p).len→pv H (p++[(i,c)])
 | [],H,_,hi=>⟨hi,trivial⟩
 |a::p,H,hpv,hi=>⟨hpv.1,zv2 (p:=p) (H:=fun q=>H (a::q)) hpv.2 hi⟩
theorem zka{o cur:Nat}{p:Path}{hole:Option Path}{r':Rw}{i:Nat}{ci:List Value}{Fi:List Nat}
  (hcur:zce ob o cur) (hpv:pv (I o cur) p) (hi:i<(I o cur p).len) (hhole:∀ q,(I o cur q).hole=true→hole=some q)
  (ho:Ow w r'.t (fun c' q=>I o cur (p++(i,c')::q)) 0 (r'.xs.getD i r'.t.dflt) ci Fi):∀ {n c:Nat} {ss:List SV},zkb o cur p hole.isSome r' i c n=some ss →
   ∃ us,F2 (RelS cx I ob) ss us∧us.length=n∧∀ j u,us[j]? = some u→ci[c+j]? = some u
 |0,c,ss,h=>by
  injection h with h;subst h
  exact⟨[],trivial,rfl,fun j u hu=>by simp at hu⟩
 |n+1,c,ss,h=>by
  simp only[zkb]at h;split at h
  ·rename_i b hb;split at h
   ·rename_i s hs;split at h
    ·rename_i ss' hss;injection h with h;subst h
     obtain⟨us,hr,hl,hc⟩:=zka hcur hpv hi hhole ho hss;obtain⟨ca,u,cb,Fa,Fs,Fb,rfl,hca,_,ho1,_⟩:=Ow.cell r'.t ho hb;rw[Nat.zero_add]at ho1
     have hpv2:pv (I o cur) (p++[(i,c)]):=by
      exact zv2 hpv hi
     have hrel:RelS cx I ob s u:=zz4 (cx:=cx) (ob:=ob) (ver:=cur) hs ho1 (fun hh=>⟨rfl,by
      cases hq:(I o cur (p++[(i,c)])).hole with
      |false=>rfl
      |true=>rw[hhole _ hq]at hh;cases hh⟩) hcur (fun _=>hpv2)
     refine⟨u::us,⟨hrel,hr⟩,by simp[hl],fun j u' hu=>?_⟩
     cases j with
     |zero =>
      simp at hu;subst hu;rw[Nat.add_zero,List.getElem?_append_right (by omega),hca];simp
     |succ j =>
      simp at hu;have:=hc j u' hu;rw[show c+(j+1)=c+1+j by omega];exact this
    ·cases h
   ·cases h
  ·cases h
theorem zyq{b:Sb}{s:SV}{u:Value}(h:yp3 b=some s)(ho:Cn cx.w0 cx.Z b.s b.y [u]):RelS cx I ob s u:=by
 obtain⟨bs,y⟩:=b
 cases bs with
 |int k=>injection h with h;subst h;have:=ho;injection this
 |bool=>injection h with h;subst h;have:=ho;injection this
 |str=>injection h with h;subst h;have:=ho;injection this
 |pair _ _=>cases h
 |row e t =>
  injection h with h;subst h
  obtain⟨v,hv,ho⟩:=ho;injection hv with hv
  subst hv;exact ho
theorem zoo {r : Rw} {i : Nat} {ci : List Value} (ho : Cn cx.w0 cx.Z r.t (r.xs.getD i r.t.dflt) ci) : ∀ {n c : Nat} {ss : List SV}, zv0 r i c n = some ss →
      ∃ us,F2 (RelS cx I ob) ss us∧us.length=n∧∀ j u,us[j]? = some u→ci[c+j]? = some u
  |0,c,ss,h=>by
    injection h with h;subst h
    exact⟨[],trivial,rfl,fun j u hu=>by simp at hu⟩
  |n+1,c,ss,h=>by
    simp only[zv0]at h;split at h
    · rename_i b hb;split at h
      · rename_i s hs;split at h
        · rename_i ss' hss;injection h with h;subst h
          obtain⟨us,hr,hl,hc⟩:=zoo ho hss;obtain⟨u,hu,ho1⟩:=Cn.cell r.t ho hb;refine⟨u::us,⟨zyq hs ho1,hr⟩,by simp[hl],fun j u' hu'=>?_⟩
          cases j with
          |zero=>simp at hu';subst hu';exact hu
          |succ j =>
            simp at hu';have:=hc j u' hu';rw[show c+(j+1)=c+1+j by omega];exact this
        · cases h
      · cases h
    · cases h
theorem ybn{Z:Nat→Prop}{b:Sb}{u:Value}(h:Cn w Z b.s b.y [u]):RelS cx I ob (roOf b) u:=by
 obtain⟨t,y⟩:=b;have h1:=Cn.one t h u (by simp)
 cases t with
 |int k=>have:[u]=[.int k y]:=h;injection this with this
 |bool=>have:[u]=[.bool y]:=h;injection this with this
 |str=>have:[u]=[.string y]:=h;injection this with this
 |row e t=>exact h1
 |pair a b=>exact h1
theorem zr4 {Z : Nat → Prop} {r : Rw} {i : Nat} {ci : List Value} (ho : Cn w Z r.t (r.xs.getD i r.t.dflt) ci) : ∀ {n c : Nat} {ss : List SV}, rdRo r i c n = some ss →
      ∃ us,F2 (RelS cx I ob) ss us∧us.length=n∧∀ j u,us[j]? = some u→ci[c+j]? = some u
  |0,c,ss,h=>by
    injection h with h;subst h
    exact⟨[],trivial,rfl,fun j u hu=>by simp at hu⟩
  |n+1,c,ss,h=>by
    simp only[rdRo]at h;split at h
    · rename_i b hb;split at h
      · rename_i ss' hss;injection h with h;subst h
        obtain⟨us,hr,hl,hc⟩:=zr4 ho hss;obtain⟨u,hu,ho1⟩:=Cn.cell r.t ho hb;refine⟨u::us,⟨ybn ho1,hr⟩,by simp[hl],fun j u' hu'=>?_⟩
        cases j with
        |zero=>simp at hu';subst hu';exact hu
        |succ j =>
          simp at hu';have:=hc j u' hu';rw[show c+(j+1)=c+1+j by omega];exact this
      · cases h
    · cases h
theorem zv3{p q:Path}{i c:Nat}(h:q <+: p):q≠p++[(i,c)]:=by
 rintro rfl;have:=h.length_le;simp at this;omega
theorem RelH.place(h:RelH cx I FF ob w){o ver cur:Nat}{p:Path}{i c:Nat}{r r':Rw}{hole:Option Path}{v:Value}(ho:ob o=some (.row r cur hole))(hp:RelS cx I ob (.ptr o ver p i c) v)
  (hv:p=[]∨ver=cur) (hq:∀ q,hole=some q→¬ q <+: p) (hr:zbe p r=some r') :
  zce ob o cur∧pv (I o cur) p∧i<(I o cur p).len∧(∃ g b,(I o cur p).A=some ⟨g,b,none⟩∧v = .pointer (some ⟨g,b+i*(I o cur p).sz+c,none⟩))∧zh5 (I o cur) p∧(I o cur p).hole=false ∧
  (∀ q,(I o cur q).hole=true→hole=some q)∧∃ v0,OwR w r.e r.t (I o cur) r.xs v0 (FF o):=by
 obtain⟨hk,hpv,hi,hA⟩:=hp;obtain⟨⟨v0,hrel⟩,hroot,hhole,hne⟩:=h.rel o _ ho;have hcur:zce ob o cur:=⟨_,ho,Nat.le_refl _⟩
 have hle:ver≤cur:=by
  obtain⟨e,he,hle⟩:=hk;rw[ho]at he;injection he with he;subst he;exact hle
 have key:I o ver p=I o cur p∧pv (I o cur) p:=by
  rcases hv with rfl|rfl
  ·exact⟨hroot ver hle,trivial⟩
  ·exact⟨rfl,hpv⟩
 rw[key.1]at hi hA
 have hfree:∀ q,q <+: p→(I o cur q).hole=false:=by
  intro q hqp
  cases hh:(I o cur q).hole with
  |false=>rfl
  |true=>exact absurd hqp (hq q (hhole q hh))
 exact⟨hcur,key.2,hi,hA,zbz key.2 hfree,hfree p List.prefix_rfl,hhole,v0,hrel⟩
theorem zsq(hT:TIok P t ti)(h:RelH cx I FF ob w){p:SV}{v:Value}{av:AV}{lg:List Nat}(hp:RelS cx I ob p v)(he:(zpz ti p ob).ev=some (av,lg)) :
  ∃ u,(Instr.loadAt t v).run P w = .ok u w∧RelA cx I ob av u:=by
 cases p with
 |bptr o c =>
  simp only[zpz]at he;obtain⟨e,l1,l2,he1,he2,rfl⟩:=M.ev_bind he;have hob:=M.ev_get he1
  cases e with
  |box cs =>
   have he3:=M.ev_ofOpt he2;obtain⟨_,g,hA,rfl⟩:=hp;obtain⟨g',T,arr,hF,hA',hg,hcs⟩:=h.rel o _ hob;rw[hA]at hA';injection hA' with hA'
   injection hA' with hA'
   subst hA';obtain⟨h1,h2,h3⟩:=zi_ (R:=fun _ _=>True) he3 (hcs.drop.take (n:=ti.sz));refine⟨_,zgo hT h1 h3 (fun j u hu=>?_),h2⟩;rw[zbu,cell_of_row w g (c+j) arr T _ hg];rw[List.getElem?_take,List.getElem?_drop]at hu;split at hu
   ·simpa using hu
   ·cases hu
  |row r cur hole=>exact(M.ev_fail (ob:=ob) he2).elim
  |dead vv=>exact(M.ev_fail (ob:=ob) he2).elim
  |iter _ _=>exact(M.ev_fail (ob:=ob) he2).elim
  |map _=>exact(M.ev_fail (ob:=ob) he2).elim
  |grp _ _ _=>exact(M.ev_fail (ob:=ob) he2).elim
  |lit _ _=>exact(M.ev_fail (ob:=ob) he2).elim
  |mit _ _ _=>exact(M.ev_fail (ob:=ob) he2).elim
  |gh _=>exact(M.ev_fail (ob:=ob) he2).elim
  |half _ _ _=>exact(M.ev_fail (ob:=ob) he2).elim
  |ro _=>exact(M.ev_fail (ob:=ob) he2).elim
  |mid _ _ _=>exact(M.ev_fail (ob:=ob) he2).elim
  |rv _ _=>exact(M.ev_fail (ob:=ob) he2).elim
 |ptr o ver p i c =>
  simp only[zpz]at he;obtain⟨e,l1,l2,he1,he2,rfl⟩:=M.ev_bind he;have hob:=M.ev_get he1
  cases e with
  |box cs=>exact(M.ev_fail (ob:=ob) he2).elim
  |dead vv=>exact(M.ev_fail (ob:=ob) he2).elim
  |iter _ _=>exact(M.ev_fail (ob:=ob) he2).elim
  |map _=>exact(M.ev_fail (ob:=ob) he2).elim
  |grp _ _ _=>exact(M.ev_fail (ob:=ob) he2).elim
  |lit _ _=>exact(M.ev_fail (ob:=ob) he2).elim
  |mit _ _ _=>exact(M.ev_fail (ob:=ob) he2).elim
  |gh _=>exact(M.ev_fail (ob:=ob) he2).elim
  |mid _ _ _=>exact(M.ev_fail (ob:=ob) he2).elim
  |rv _ _=>exact(M.ev_fail (ob:=ob) he2).elim
  |ro r =>
   simp only at he2
   cases hck:p.isEmpty with
   |false=>simp only[hck]at he2;exact(M.ev_fail (ob:=ob) he2).elim
   |true =>
    cases hrd:rdRo r i c ti.sz with
    |none=>simp only[hck,hrd]at he2;exact(M.ev_fail (ob:=ob) he2).elim
    |some ss =>
     simp only[hck,hrd]at he2;have he3:=M.ev_ofOpt he2;have hp0:p=[]:=by simpa using hck
     subst hp0;obtain⟨⟨e0,he0,hle0⟩,_,hi,g,b,hA,rfl⟩:=hp;have hv0:ver=0:=by rw[hob]at he0;injection he0 with he0;subst he0;exact Nat.le_zero.1 hle0
     subst hv0;obtain⟨v0,⟨hcn,_⟩,hv0,hsz⟩:=h.rel o _ hob
     have hln:(I o 0 []).len=r.xs.length:=by
      obtain⟨A,cap,he,_⟩:=hcn;rw[hv0]at he;injection he
     obtain⟨g',b',cap,cells,q,fz,ci,hs,hz,hg,hel,hget⟩:=hcn.get (i:=i) (by omega);rw[hv0,hA]at hs;injection hs with hs _ _
     injection hs with hs
     injection hs with e1 e2
     subst e1;subst e2;obtain⟨us,hus,hul,huc⟩:=zr4 (cx:=cx) (I:=I) (ob:=ob) hel hrd;obtain⟨h1,h2,h3⟩:=zi_ (R:=fun _ _=>True) he3 hus;refine⟨_,zgo hT h1 h3 (fun j u hu=>?_),h2⟩;rw[zbu,cell_of_row w g _ cells q fz hg,hsz];have:=hget (c+j) u (huc j u hu);rw[← this];congr 1;omega
  |half r k ch =>
   simp only at he2
   cases hck:p.isEmpty&&(Nat.beq c ch&&(Nat.beq ti.sz 1&&!ti.agg)) with
   |false=>simp only[hck]at he2;exact(M.ev_fail (ob:=ob) he2).elim
   |true =>
    cases hsub:sub r.t (r.xs.getD i r.t.dflt) c with
    |none=>simp only[hck,hsub]at he2;exact(M.ev_fail (ob:=ob) he2).elim
    |some b =>
     obtain⟨bt,by_⟩:=b
     cases bt with
     |row e' t' =>
      simp only[hck,hsub]at he2;obtain⟨_,l3,l4,he3,he4,rfl⟩:=M.ev_bind he2;have hki:k≤(i:Int):=by simpa using M.ev_test he3
      have:=M.ev_pure (ob:=ob) he4;subst this;simp only[Bool.and_eq_true]at hck;have hp0:p=[]:=by simpa using hck.1
      have hc0:=Nat.eq_of_beq_eq_true hck.2.1;have hsz:=Nat.eq_of_beq_eq_true hck.2.2.1;have hag:ti.agg=false:=by simpa using hck.2.2.2
      subst hp0;subst hc0;obtain⟨⟨e0,he0,hle0⟩,_,hi,g,b,hA,rfl⟩:=hp;have hv0:ver=0:=by rw[hob]at he0;injection he0 with he0;subst he0;exact Nat.le_zero.1 hle0
      subst hv0;obtain⟨H,v0,⟨hnoh,how⟩,hroot⟩:=h.rel o _ hob;rw[hroot]at hi hA
      have hlen:∀ k' x c f,(if k'<k.toNat then Ow w r.t (fun c' p=>H ((k',c')::p)) 0 x c f else Cn cx.w0 cx.Z r.t x c∧f=[])→c.length=r.t.sz:=by
       intro k' x c f hR;split at hR
       ·exact Ow.len r.t hR
       ·exact Cn.len r.t hR.1
      obtain⟨g',b',cells,ca,ci,cb,Fa,Fi,Fb,hA',hsz',_,hg,_,_,_,_,_,_,hri,_,_,_,_,hget⟩:=how.elem r.t.dflt hlen (hnoh []) hi;obtain⟨q0,_,hg⟩:=hg;rw[if_neg (by omega)]at hri;rw[hA]at hA';injection hA' with hA'
      injection hA' with e1 e2
      subst e1;subst e2;obtain⟨u,hu,hcn⟩:=Cn.cell r.t hri.1 hsub;obtain⟨v1,hv1,hcr⟩:=hcn;injection hv1 with hv1
      subst hv1;refine⟨u,?_,hcr⟩
      have hrun:=zgo (P:=P) (w:=w) (us:=[u]) hT (a:=⟨g,b + i * (I o 0 []).sz + c,none⟩) (by simp [hsz]) (fun _=>rfl) (fun j u' hj=>by
       cases j with
       |zero =>
        simp only[List.getElem?_cons_zero,Option.some.injEq]at hj;subst hj;rw[zbu,cell_of_row w g _ cells _ _ hg,hroot,hsz',← hget c u hu];rfl
       |succ j=>simp at hj)
      rw[hag]at hrun;exact hrun
     |_=>simp only[hck,hsub]at he2;exact(M.ev_fail (ob:=ob) he2).elim
  |row r cur hole =>
   cases hok:zln p ver cur hole with
   |false=>simp only[hok]at he2;exact(M.ev_fail (ob:=ob) he2).elim
   |true =>
    simp only[hok]at he2
    cases hr':zbe p r with
    |none=>simp only[hr']at he2;exact(M.ev_fail (ob:=ob) he2).elim
    |some r' =>
     simp only[hr']at he2
     cases hss:zkb o cur p hole.isSome r' i c ti.sz with
     |none=>simp only[hss]at he2;exact(M.ev_fail (ob:=ob) he2).elim
     |some ss =>
      simp only[hss]at he2;have he3:=M.ev_ofOpt he2
      have hv:p=[]∨ver=cur:=by
       simp only[zln,Bool.or_eq_true,Bool.and_eq_true]at hok;rcases hok with hok|hok
       ·left;simpa using hok
       ·right;simpa using hok.1
      have hq:∀ q,hole=some q→¬ q <+: p:=by
       intro q hq hqp;subst hq;simp only[zln,Bool.or_eq_true,Bool.and_eq_true]at hok;rcases hok with hok|hok
       ·have:p=[]:=by simpa using hok
        subst this;have:=List.prefix_nil.1 hqp;subst this;exact(h.rel o _ hob).2.2.2 rfl
       ·simp at hok
      obtain⟨hcur,hpv,hi,⟨g,b,hA,rfl⟩,hpk,hph,hhole,v0,hrel⟩:=h.place hob hp hv hq hr';obtain⟨v',Fa,F',Fb,hF,ho',_⟩:=hrel.focus p (h.nd o) hpk hr'
      have hndF:F'.Nodup:=by
       have:=h.nd o;rw[hF]at this;exact(List.nodup_append.1 (List.nodup_append.1 this).2.1).1
      have e0:p++[]=p:=List.append_nil p;obtain⟨g',bs,ci,Ga,Fi,Gb,cells,hA',hsz,_,_,hg,_,hci,_,hoi,_⟩:=ho'.elem hndF (by simp only[e0];exact hph) (by simp only[e0];exact hi);obtain⟨q0,_,hg⟩:=hg;simp only[e0]at hA' hsz;rw[hA]at hA';injection hA' with hA'
      injection hA' with e1 e2
      subst e1;subst e2;obtain⟨us,hus,hul,huc⟩:=zka (cx:=cx) hcur hpv hi hhole hoi hss;obtain⟨h1,h2,h3⟩:=zi_ (R:=fun _ _=>True) he3 hus;refine⟨_,zgo hT h1 h3 (fun j u hu=>?_),h2⟩;rw[zbu,cell_of_row w g _ cells _ _ hg];have:=hci _ _ (huc j u hu);rw[← this,hsz];congr 1;omega
 |cptr r i c =>
  simp only[zpz]at he
  cases hss:zv0 r i c ti.sz with
  |none=>simp only[hss]at he;exact(M.ev_fail (ob:=ob) he).elim
  |some ss =>
   simp only[hss]at he;have he3:=M.ev_ofOpt he;obtain⟨hi,g,b,cap,hcn,rfl⟩:=hp;have hcn':CnR w cx.Z r.t r.xs (.slice (some ⟨g,b,none⟩) r.xs.length cap):=CnR.imp (fun k hk=>⟨hk,h.kp.block k (h.zone k hk).1 (h.zone k hk).2⟩) hcn;obtain⟨g',b',cap',cells,q,fz,ci,he,_,hg,_,hci⟩:=hcn'.get hi;injection he with e1 e2 e3
   injection e1 with e1
   injection e1 with e1 e4
   subst e1;subst e4;obtain⟨g2,b2,cap2,cells2,q2,fz2,ci2,he2,_,hg2,hoi2,hci2⟩:=hcn.get hi;injection he2 with e1 e2 e3
   injection e1 with e1
   injection e1 with e1 e4
   subst e1;subst e4
   have hsame:cells2=cells:=by
    have hz:cx.Z g:=‹cx.Z g›;have:=h.kp.block g (h.zone g hz).1 (h.zone g hz).2;rw[hg,hg2]at this;injection this with this
    injection this with this
    exact this.symm
   subst hsame;obtain⟨us,hus,hul,huc⟩:=zoo (I:=I) (ob:=ob) hoi2 hss;obtain⟨h1,h2,h3⟩:=zi_ (R:=fun _ _=>True) he3 hus;refine⟨_,zgo hT h1 h3 (fun j u hu=>?_),h2⟩;rw[zbu,cell_of_row w g _ cells2 _ _ hg];have:=hci2 _ _ (huc j u hu);rw[← this];congr 1;omega
 |_=>exact(M.ev_fail (ob:=ob) he).elim
end
end Go.Proofs.Ytbjgiioppmkpiaa.Rx

namespace Go.Proofs.Ytbjgiioppmkpiaa.Rx
open Go Go.RowKit
def zef:AV→Option (List SV)
 | .one s=>some [s]
 | .agg cs=>some cs
 |_=>none
def zkh:Path→Path→Bool
 | [],[]=>true
 |(i,c)::p,(j,d)::q=>Nat.beq i j&&Nat.beq c d&&zkh p q
 |_,_=>false
theorem zkg:∀ {p q:Path},zkh p q=true→p=q
 | [],[],_=>rfl
 |(i,c)::p,(j,d)::q,h=>by
  simp only[zkh,Bool.and_eq_true]at h;rw[Nat.eq_of_beq_eq_true h.1.1,Nat.eq_of_beq_eq_true h.1.2,zkg h.2]
 | [],_::_,h=>by cases h
 |_::_,[],h=>by simp[zkh]at h
def stOK(p:Path)(i c:Nat)(ls:List LS)(ver cur:Nat)(hole:Option Path):Bool :=
 (p.isEmpty || ver == cur)&&(match hole with|none=>true|some q=>(p.isEmpty&&ls.all LS.scalar) || (zkh q (p++[(i,c)])&&ls.length == 1&&!ls.all LS.scalar))
def zci:Path→Path→M Unit
 | [],[]=>M.pure ()
 | (i,c) :: p,(j,d) :: q=>(match Nat.beq c d with
  |false=>M.fail
  |true=>M.bind (M.test (decide ((i:Int)=(j:Int)))) fun _=>zci p q)
 |_,_=>M.fail
theorem zjl{ob:Ob}:∀ {p q:Path} {u:Unit} {l:List Nat},(zci p q ob).ev=some (u,l)→p=q
 | [],[],_,_,_=>rfl
 |(i,c)::p,(j,d)::q,_,_,h=>by
  simp only[zci]at h
  cases hc:Nat.beq c d with
  |false=>simp only[hc]at h;exact(M.ev_fail (ob:=ob) h).elim
  |true =>
   simp only[hc]at h;obtain⟨_,l1,l2,h1,h2,rfl⟩:=M.ev_bind h;have h3:(i:Int)=(j:Int):=by simpa using M.ev_test h1
   rw[Nat.eq_of_beq_eq_true hc,Int.ofNat.inj h3,zjl h2]
 | [],_::_,_,_,h=>(M.ev_fail (ob:=ob) h).elim
 |_::_,[],_,_,h=>by simp only[zci]at h;exact(M.ev_fail (ob:=ob) h).elim
theorem zkf:∀ p:Path,zkh p p=true
 | []=>rfl
 |(i,c)::p=>by simp only[zkh,Bool.and_eq_true];exact⟨⟨Nat.beq_refl i,Nat.beq_refl c⟩,zkf p⟩
def stT(p:Path)(i c:Nat)(ls:List LS)(ver cur:Nat)(hole:Option Path):M Unit :=
 match p.isEmpty || ver == cur with
 |false=>M.fail
 | true=>(match hole with
  |none=>M.pure ()
  | some q=>(match p.isEmpty&&ls.all LS.scalar with
   |true=>M.pure ()
   | false=>(match ls.length == 1&&!ls.all LS.scalar with
    |false=>M.fail
    |true=>zci q (p++[(i,c)]))))
theorem ymy{ob:Ob}{p:Path}{i c:Nat}{ls:List LS}{ver cur:Nat}{hole:Option Path}{u:Unit}{l:List Nat}(h:(stT p i c ls ver cur hole ob).ev=some (u,l)):stOK p i c ls ver cur hole=true:=by
 unfold stT at h;unfold stOK
 cases h1:(p.isEmpty || ver == cur) with
 |false=>simp only[h1]at h;exact(M.ev_fail (ob:=ob) h).elim
 |true =>
  simp only[h1]at h
  cases hole with
  |none=>rfl
  |some q =>
   simp only at h
   cases h2:(p.isEmpty&&ls.all LS.scalar) with
   |true=>rfl
   |false =>
    simp only[h2]at h
    cases h3:(ls.length == 1&&!ls.all LS.scalar) with
    |false=>simp only[h3]at h;exact(M.ev_fail (ob:=ob) h).elim
    |true =>
     simp only[h3]at h;have:=zjl h;subst this;simp only[Bool.and_eq_true]at h3;simp[zkf,h3.1,h3.2]
def zu1(i c:Nat)(ls:List LS)(r:Rw):Option (List r.t.den) :=
 match zlj r.t (r.xs.getD i r.t.dflt) c ls with
 |some x=>some (r.xs.set i x)
 |none=>none
def zc0(ls:List LS)(cur:Nat):Nat:=match ls.all LS.scalar with|true=>cur|false=>cur+1
def zd6(ls:List LS)(hole:Option Path):Option Path:=match ls.all LS.scalar with|true=>hole|false=>none
def zpy(ti:TI)(p:SV)(cs:List SV):M (List (Nat×Ent)) :=
 match cs.length == ti.sz&&!cs.isEmpty with
 |false=>M.fail
 |true=>match p with
  | .bptr o c=>M.bind (M.get o) fun
   | .box cs0=>(match Nat.ble (c + cs.length) cs0.length with
    |true=>M.pure [(o,.box (cs0.take c++cs++cs0.drop (c+cs.length)))]
    |false=>M.fail)
   |_=>M.fail
  | .ptr o ver p i c=>M.bind (M.get o) fun
   | .row r cur hole=>M.bind (resM cs []) fun lc =>
    (match lc.2.any (fun u=>u.1 == o) with
    |true=>M.fail
    | false=>M.bind (stT p i c lc.1 ver cur hole) fun _=>(match zbo p r (zu1 i c lc.1) with
      |some xs=>M.pure (lc.2++[(o,.row ⟨r.e,r.t,xs⟩ (zc0 lc.1 cur) (zd6 lc.1 hole))])
      |none=>M.fail))
   | .half r k ch=>M.bind (resM cs []) fun lc=>(match lc.2.any (fun u=>u.1 == o),lc.1,p.isEmpty&&(Nat.beq c ch&&zh6 r.t c) with
    | false,[l],true=>(match upd r.t (r.xs.getD i r.t.dflt) c (zbr l) with
     |some x'=>M.bind (M.test (decide (k=(i:Int)))) fun _=>M.pure (lc.2++[(o,.half ⟨r.e,r.t,r.xs.set i x'⟩ (k+1) c)])
     |none=>M.fail)
    |_,_,_=>M.fail)
   | .mid r rt q=>(match p,cs with
    | [],[.ref o' v' [] none]=>(match Nat.beq o' o&&(Nat.beq v' (rt + 1)&&Nat.ble ver rt),upd r.t (r.xs.getD i r.t.dflt) c (zbr (.rw q)) with
     |true,some x'=>M.pure [(o,.rv ⟨r.e,r.t,r.xs.set i x'⟩ rt)]
     |_,_=>M.fail)
    |_,_=>M.fail)
   |_=>M.fail
  |_=>M.fail
theorem zlb{r:Rw}{T:Ty}{xs:List T.den}(h:zaq r T=some xs):r=⟨r.e,T,xs⟩:=by
 obtain⟨e,t,ys⟩:=r;unfold zaq at h;split at h
 ·rename_i ht;simp only at ht;subst ht;injection h with h
  subst h;rfl
 ·cases h
theorem zrb{w:World}{Z:Nat→Prop}{q:Rw}{u:Value}(hq:CnR w Z q.t q.xs u):∀ (t:Ty) {x x':t.den} {cs:List Value} {c:Nat},Cn w Z t x cs→upd t x c (zbr (.rw q))=some x'→Cn w Z t x' (cs.set c u)
 | .int k,x,x',cs,c,h,hu=>by simp only[Go.Proofs.Ytbjgiioppmkpiaa.Rx.upd,zbr]at hu;split at hu <;> cases hu
 | .bool,x,x',cs,c,h,hu=>by simp only[Go.Proofs.Ytbjgiioppmkpiaa.Rx.upd,zbr]at hu;split at hu <;> cases hu
 | .str,x,x',cs,c,h,hu=>by simp only[Go.Proofs.Ytbjgiioppmkpiaa.Rx.upd,zbr]at hu;split at hu <;> cases hu
 | .row e t,x,x',cs,c,h,hu=>by
  simp only[Go.Proofs.Ytbjgiioppmkpiaa.Rx.upd,zbr]at hu;split at hu
  ·rename_i hc;subst hc;split at hu
   ·have hqq:=zlb hu;obtain⟨v,rfl,_⟩:=h;refine⟨u,rfl,?_⟩;rw[hqq]at hq;exact hq
   ·cases hu
  ·cases hu
 | .pair a b,x,x',cs,c,h,hu=>by
  obtain⟨c1,c2,rfl,h1,h2⟩:=h;have hl:=Cn.len a h1;simp only[Go.Proofs.Ytbjgiioppmkpiaa.Rx.upd]at hu;split at hu
  ·rename_i hc
   cases hy:Go.Proofs.Ytbjgiioppmkpiaa.Rx.upd a x.1 c (zbr (.rw q)) with
   |none=>rw[hy]at hu;cases hu
   |some y =>
    rw[hy]at hu;injection hu with hu
    subst hu;rw[List.set_append,if_pos (by omega)];exact⟨_,_,rfl,zrb hq a h1 hy,h2⟩
  ·rename_i hc
   cases hy:Go.Proofs.Ytbjgiioppmkpiaa.Rx.upd b x.2 (c - a.sz) (zbr (.rw q)) with
   |none=>rw[hy]at hu;cases hu
   |some y =>
    rw[hy]at hu;injection hu with hu
    subst hu;rw[List.set_append,if_neg (by omega),hl];exact⟨_,_,rfl,h1,zrb hq b h2 hy⟩
theorem zux{q:Rw}:∀ (t:Ty) {x x':t.den} {c:Nat},upd t x c (zbr (.rw q))=some x'→c<t.sz
 | .int k,x,x',c,hu=>by simp only[Go.Proofs.Ytbjgiioppmkpiaa.Rx.upd,zbr]at hu;split at hu <;> cases hu
 | .bool,x,x',c,hu=>by simp only[Go.Proofs.Ytbjgiioppmkpiaa.Rx.upd,zbr]at hu;split at hu <;> cases hu
 | .str,x,x',c,hu=>by simp only[Go.Proofs.Ytbjgiioppmkpiaa.Rx.upd,zbr]at hu;split at hu <;> cases hu
 | .row e t,x,x',c,hu=>by
  simp only[Go.Proofs.Ytbjgiioppmkpiaa.Rx.upd]at hu;split at hu
  ·rename_i hc;subst hc;exact Nat.one_pos
  ·cases hu
 | .pair a b,x,x',c,hu=>by
  simp only[Go.Proofs.Ytbjgiioppmkpiaa.Rx.upd]at hu;simp only[Ty.sz];split at hu
  ·omega
  ·cases hy:Go.Proofs.Ytbjgiioppmkpiaa.Rx.upd b x.2 (c - a.sz) (zbr (.rw q)) with
   |none=>rw[hy]at hu;cases hu
   |some y=>have:=zux b hy;omega
theorem zes{w:World}{Z:Nat→Prop}{t:Ty}{H:Path→Hd}(hh:∀ p,(H p).hole=false):∀ {i j:Nat} {xs:List t.den} {cs:List Value} {F:List Nat},(∀ k∈F,Z k) →
  RL (fun i x cs F=>Ow w t (fun c' p=>H ((i,c')::p)) 0 x cs F) i xs cs F→RL (fun _ x cs F=>Cn w Z t x cs∧F=[]) j xs cs []
 |_,_,[],_,_,_,h=>⟨h.1,rfl⟩
 |i,j,x::xs,_,_,hF,h=>by
  obtain⟨c1,c2,F1,F2,rfl,rfl,h1,h2⟩:=h;exact⟨c1,c2,[],[],rfl,rfl,⟨Ow.toCn t (fun _ _=>hh _) (fun k hk=>hF k (List.mem_append_left _ hk)) h1,rfl⟩,zes hh (fun k hk=>hF k (List.mem_append_right _ hk)) h2⟩
theorem OwR.toAp{w:World}{e:TypeId}{t:Ty}{H:Path→Hd}{xs:List t.den}{v:Value}{F F0:List Nat}(hh:∀ p,(H p).hole=false)(hnd:F.Nodup)(hF:∀ k∈F,k∈F0)(h:OwR w e t H xs v F):ApR w F0 e t xs v:=by
 unfold OwR OwRow at h;rw[if_neg (by rw[hh];simp)]at h;obtain⟨h1,h2,h3,h4,h5⟩:=h
 by_cases hc:(H []).cap=0
 ·refine⟨H [],[],hh [],(fun k hk=>by cases hk),?_⟩;unfold OwRow;rw[if_neg (by rw[hh];simp)];refine⟨h1,h2,h3,h4,?_⟩;rw[if_pos hc]
 ·rw[if_neg hc]at h5;obtain⟨h6,g,b,cells,F',hA,rfl,hg,hs,hl⟩:=h5;have hn:=List.nodup_cons.1 hnd;refine⟨H [],[g],hh [],(fun k hk=>by rw[List.mem_singleton.1 hk];exact hF g List.mem_cons_self),?_⟩;unfold OwRow;rw[if_neg (by rw[hh];simp)];refine⟨h1,h2,h3,h4,?_⟩;rw[if_neg hc];exact⟨h6,g,b,cells,[],hA,rfl,hg,hs,zes (Z:=fun k=>k∈F0∧k∉[g]) hh (fun k hk=>⟨hF k (List.mem_cons_of_mem _ hk),fun hk2=>hn.1 (by rw[← List.mem_singleton.1 hk2];exact hk)⟩) hl⟩
theorem zcv{α:Type}(l vs:List α)(o j:Nat)(h:o+vs.length≤l.length) :
  (l.take o++vs++l.drop (o+vs.length))[j]? = if j<o then l[j]? else if j<o+vs.length then vs[j - o]? else l[j]?:=by
 have h1:(l.take o).length=o:=by rw[List.length_take];omega
 by_cases hj:j<o
 ·rw[if_pos hj,List.append_assoc,List.getElem?_append_left (by omega),List.getElem?_take,if_pos hj]
 ·rw[if_neg hj]
  by_cases hj2:j<o+vs.length
  ·rw[if_pos hj2,List.getElem?_append_left (by rw[List.length_append];omega),List.getElem?_append_right (by omega),h1]
  ·rw[if_neg hj2,List.getElem?_append_right (by rw[List.length_append];omega),List.length_append,h1,List.getElem?_drop];congr 1;omega
section
variable{P:Program}{cx:Cx}{I:In}{FF:Nat→List Nat}{ob:Ob}{w:World}{t:TypeId}{ti:TI}
theorem zcb(h:TIok P t ti){g o:Nat}{e:TypeId}{cur:Array Value}{v:Value}(hg:HC w g cur e)(hl:v.cells.toList.length=ti.sz)
  (hs:o+v.cells.toList.length≤cur.size) (h1:∀ u∈v.cells.toList,u.oneCell'=true) :
  (Instr.storeAt t (.pointer (some ⟨g,o,none⟩)) v).run P w = .ok () (w.setRow g (cur.toList.take o++v.cells.toList++cur.toList.drop (o+v.cells.toList.length)).toArray):=by
 have:=HC.store (P:=P) hg hs h1;have hl':v.cells.size=ti.sz:=by simpa using hl
 simp[Instr.storeAt,Instr.sureAddr,storeVar,h.sizeOf,hl',this]
theorem zeg(w:World)(g:Nat)(cs:Array Value):Kp w (fun k=>k=g) (w.setRow g cs) :=
 ⟨rfl,rfl,rfl,by simp,fun k _ hk=>setRow_other w g k cs hk⟩
theorem zed{av:AV}{cs:List SV}{v:Value}(h:zef av=some cs)(hr:RelA cx I ob av v):F2 (RelS cx I ob) cs v.cells.toList:=by
 cases av with
 |one s =>
  injection h with h;subst h
  have h1:=RelS.one hr;have:v.cells.toList=[v]:=by cases v <;> first|rfl|cases h1
  rw[this];exact⟨hr,trivial⟩
 |agg cs' =>
  injection h with h;subst h
  obtain⟨arr,rfl,hr⟩:=hr;exact hr
 |_=>cases h
theorem RelLs.len{w:World}:∀ {ls:List LS} {vs:List Value} {Hs:List (Path→Hd)} {Fs:List (List Nat)},RelLs w ls vs Hs Fs→ls.length=vs.length∧ls.length=Hs.length
 | [],[],[],[],_=>⟨rfl,rfl⟩
 |l::ls,v::vs,H::Hs,F::Fs,h=>by have:=RelLs.len h.2;simp;omega
theorem zoe:∀ (p:Path) {r:Rw} {f:(r:Rw)→Option (List r.t.den)} {xs:List r.t.den},zbo p r f=some xs→∃ r' ys,zbe p r=some r'∧f r'=some ys
 | [],r,f,xs,h=>⟨r,xs,rfl,h⟩
 |(i,c)::p,r,f,xs,h=>by
  simp only[zbo]at h;split at h
  ·rename_i x hx;obtain⟨b,y',hb,hy⟩:=zmz (w:=default) r.t hx;obtain⟨bs,y⟩:=b
   cases bs with
   |row e t =>
    simp only[zpa]at hy;obtain⟨r',ys,h1,h2⟩:=zoe p hy;exact⟨r',ys,by simp only[zbe,hb,zll,h1],h2⟩
   |_=>cases hy
  ·cases h
theorem zu0(hT:TIok P t ti)(h:RelH cx I FF ob w){p:SV}{cs:List SV}{pv' v:Value}{ups:List (Nat×Ent)}{lg:List Nat}(hp:RelS cx I ob p pv')(hv:F2 (RelS cx I ob) cs v.cells.toList)
  (he:(zpy ti p cs ob).ev=some (ups,lg)) :
  ∃ w' I' FF',(Instr.storeAt t pv' v).run P w = .ok () w'∧Ext I ob I' (ob.puts ups)∧RelH cx I' FF' (ob.puts ups) w':=by
 unfold zpy at he
 cases hsz:(cs.length == ti.sz&&!cs.isEmpty) with
 |false=>simp only[hsz]at he;exact(M.ev_fail (ob:=ob) he).elim
 |true =>
 simp only[hsz]at he;have hsz0:=hsz;simp only[Bool.and_eq_true]at hsz0;have hsz':cs.length=ti.sz:=by simpa using hsz0.1
 have hpos:0<v.cells.toList.length:=by
  rw[← hv.len]
  cases cs with
  |nil=>simp at hsz0
  |cons _ _=>simp
 have hvl:v.cells.toList.length=ti.sz:=by rw[← hv.len];exact hsz'
 have hone:∀ u∈v.cells.toList,u.oneCell'=true:=F2.all (fun _ _ h=>RelS.one h) hv
 cases p with
 |bptr o c =>
  simp only at he;obtain⟨e,l1,l2,he1,he2,rfl⟩:=M.ev_bind he;have hob:=M.ev_get he1
  cases e with
  |row r cur hole=>exact(M.ev_fail (ob:=ob) he2).elim
  |dead vv=>exact(M.ev_fail (ob:=ob) he2).elim
  |iter _ _=>exact(M.ev_fail (ob:=ob) he2).elim
  |map _=>exact(M.ev_fail (ob:=ob) he2).elim
  |grp _ _ _=>exact(M.ev_fail (ob:=ob) he2).elim
  |lit _ _=>exact(M.ev_fail (ob:=ob) he2).elim
  |mit _ _ _=>exact(M.ev_fail (ob:=ob) he2).elim
  |gh _=>exact(M.ev_fail (ob:=ob) he2).elim
  |half _ _ _=>exact(M.ev_fail (ob:=ob) he2).elim
  |ro _=>exact(M.ev_fail (ob:=ob) he2).elim
  |mid _ _ _=>exact(M.ev_fail (ob:=ob) he2).elim
  |rv _ _=>exact(M.ev_fail (ob:=ob) he2).elim
  |box cs0 =>
   simp only at he2
   cases hle:Nat.ble (c+cs.length) cs0.length with
   |false=>simp only[hle]at he2;exact(M.ev_fail (ob:=ob) he2).elim
   |true =>
    simp only[hle]at he2;have hle':=Nat.le_of_ble_eq_true hle;have hups:=M.ev_pure (ob:=ob) he2;subst hups;obtain⟨_,g,hA,rfl⟩:=hp;obtain⟨g',T,arr,hF,hA',hg,hcs⟩:=h.rel o _ hob;rw[hA]at hA';injection hA' with hA'
    injection hA' with hA'
    subst hA';have hcl:=hcs.len;have hvl':v.cells.toList.length=cs.length:=by omega
    have hrun:=zcb hT (o:=c) (.old hg) hvl (by simp at hcl;omega) hone;rw[hvl']at hrun;have x:Ext I ob I (ob.put o (.box (cs0.take c++cs++cs0.drop (c+cs.length)))):=⟨fun _ _ _=>rfl,zak (fun e0 h0=>by rw[hob]at h0;injection h0 with h0;subst h0;exact Nat.le_refl _)⟩;refine⟨_,I,zaj (zaj FF o []) o [g],hrun,x,?_⟩;have h1:=h.take hob
    have h2:=h1.world (zeg w g (arr.toList.take c ++ v.cells.toList ++ arr.toList.drop (c + cs.length)).toArray) (fun k hk=>by
     subst hk;have hm:=h.mine o k (by rw[hF];simp);refine⟨hm.2.1,fun o' ho'=>?_⟩;unfold zaj at ho';split at ho'
     ·cases ho'
     ·rename_i hne
      exact h.dj o o' (fun e=>hne e.symm) k (by rw[hF];simp) ho')
    have e2:(ob.put o (.dead (Ent.box cs0).ver)).put o (.box (cs0.take c++cs++cs0.drop (c+cs.length)))=ob.puts [(o,.box (cs0.take c++cs++cs0.drop (c+cs.length)))]:=by
     funext k;simp only[Ob.puts,Ob.put];split <;> rfl
    rw[← e2];refine h2.give (by simp[zaj]) (fun e0 h0=>by simp[Ob.put]at h0;subst h0;exact Nat.le_refl _) ?_ ?_ (by simp) ?_ ?_
    ·exact⟨fun _ _ _=>rfl,zak (fun e0 h0=>by simp[Ob.put]at h0;subst h0;exact Nat.le_refl _)⟩
    ·refine⟨g,T,_,rfl,hA,setRow_heap w g _ _ T _ hg,?_⟩;rw[e2];refine(F2.app (F2.app ?_ ?_) ?_)
     ·exact(hcs.take (n:=c)).imp (fun _ _ h=>h.ext x)
     ·exact hv.imp (fun _ _ h=>h.ext x)
     ·exact(hcs.drop (n:=c+cs.length)).imp (fun _ _ h=>h.ext x)
    ·intro k hk o' ho';have hk':k=g:=by simpa using hk
     subst hk';unfold zaj at ho';split at ho'
     ·cases ho'
     ·rename_i hne;exact h.dj o o' (fun e=>hne e.symm) k (by rw[hF];simp) ho'
    ·intro k hk;have hk':k=g:=by simpa using hk
     subst hk';have:=h.mine o k (by rw[hF];simp);exact⟨this.1,this.2.1,by simpa using this.2.2⟩
 |ptr o ver p i c =>
  simp only at he;obtain⟨e,l1,l2,he1,he2,rfl⟩:=M.ev_bind he;have hob:=M.ev_get he1
  cases e with
  |box cs0=>exact(M.ev_fail (ob:=ob) he2).elim
  |dead vv=>exact(M.ev_fail (ob:=ob) he2).elim
  |iter _ _=>exact(M.ev_fail (ob:=ob) he2).elim
  |map _=>exact(M.ev_fail (ob:=ob) he2).elim
  |grp _ _ _=>exact(M.ev_fail (ob:=ob) he2).elim
  |lit _ _=>exact(M.ev_fail (ob:=ob) he2).elim
  |mit _ _ _=>exact(M.ev_fail (ob:=ob) he2).elim
  |gh _=>exact(M.ev_fail (ob:=ob) he2).elim
  |ro _=>exact(M.ev_fail (ob:=ob) he2).elim
  |rv _ _=>exact(M.ev_fail (ob:=ob) he2).elim
  |mid r rt q =>
   simp only at he2;split at he2
   ·rename_i o' v' 
    cases hck:Nat.beq o' o&&(Nat.beq v' (rt+1)&&Nat.ble ver rt) with
    |false=>simp only[hck]at he2;exact(M.ev_fail (ob:=ob) he2).elim
    |true =>
    cases hup:upd r.t (r.xs.getD i r.t.dflt) c (zbr (.rw q)) with
    |none=>simp only[hck,hup]at he2;exact(M.ev_fail (ob:=ob) he2).elim
    |some x' =>
    simp only[hck,hup]at he2;have hups:=M.ev_pure (ob:=ob) he2;subst hups;simp only[Bool.and_eq_true]at hck;have ho':=Nat.eq_of_beq_eq_true hck.1;have hv':=Nat.eq_of_beq_eq_true hck.2.1;have hvr:=Nat.le_of_ble_eq_true hck.2.2;subst ho';subst hv';obtain⟨⟨v0,F0,Fp,hF,how⟩,hnoh,hroot,vz,hcn,hvz⟩:=h.rel o' _ hob;obtain⟨_,_,hi,g,b,hA,rfl⟩:=hp;rw[hroot ver hvr]at hi hA
    -- the one cell
    obtain⟨u,hvc,hu⟩:∃ u,v.cells.toList=[u]∧RelS cx I ob (.ref o' (rt+1) [] none) u:=by
     revert hv;generalize v.cells.toList=vs;intro hv
     cases vs with
     |nil=>exact hv.elim
     |cons u vs =>
      cases vs with
      |nil=>exact⟨u,rfl,hv.1⟩
      |cons _ _=>exact hv.2.elim
    have huz:u=vz:=by
     obtain⟨_,_,off,len,hvw,hol,A,cc,rfl,_,_,hex,_⟩:=hu;obtain⟨hA1,hC1⟩:=hex rfl;simp only[Option.getD_none,Prod.mk.injEq]at hvw;rw[hvz,hA1,hC1,hvw.2]
    subst huz;have hlenR:∀ k' (x:r.t.den) c' f,Ow w r.t (fun c'' p=>I o' rt ((k',c'')::p)) 0 x c' f→c'.length=r.t.sz:=fun _ _ _ _ hR=>Ow.len r.t hR;obtain⟨g',b',cells,ca,ci,cb,Fa,Fi,Fb,hA',hsz2,hFF,hg,hsz3,hxl,hcs,hca,hcil,hra,hri,hrb,hv2,hle2,hmx2,hget⟩:=OwRow.elem r.t.dflt hlenR how (hnoh []) hi;rw[hA]at hA';injection hA' with hA'
    injection hA' with e1 e2
    subst e1;subst e2;rw[hroot ver hvr,hsz2];have hcsz:=zux r.t hup
    have hlsz:i*r.t.sz+r.t.sz≤(I o' rt []).len*r.t.sz:=by
     have:(i+1)*r.t.sz≤(I o' rt []).len*r.t.sz:=Nat.mul_le_mul_right _ hi;rw[Nat.add_mul,Nat.one_mul]at this;exact this
    have hcap:(I o' rt []).len*r.t.sz≤(I o' rt []).cap*r.t.sz:=Nat.mul_le_mul_right _ hle2;have hrun:=zcb hT (o:=b+i*r.t.sz+c) hg hvl (by rw[hvc];simp;omega) hone;rw[hvc]at hrun
    let cells':Array Value:=(cells.toList.take (b+i*r.t.sz+c)++[u]++cells.toList.drop (b+i*r.t.sz+c+1)).toArray
    have hrun':(Instr.storeAt t (.pointer (some ⟨g,b+i*r.t.sz+c,none⟩)) v).run P w = .ok () (w.setRow g cells'):=hrun
    have hset:cells'.toList=cells.toList.set (b+i*r.t.sz+c) u:=by
     show (cells.toList.take (b+i*r.t.sz+c)++[u]++cells.toList.drop (b+i*r.t.sz+c+1))=_;rw[List.set_eq_take_append_cons_drop,if_pos (by simp;omega)];simp
    have hcs':(cells'.toList.drop b).take ((I o' rt []).len*r.t.sz)=ca++(ci.set c u++cb):=by
     have h9:(cells'.toList.drop b).take ((I o' rt []).len*r.t.sz)=((cells.toList.drop b).take ((I o' rt []).len*r.t.sz)).set (i*r.t.sz+c) u:=by
      apply List.ext_getElem?;intro j;rw[hset];simp only[List.getElem?_take,List.getElem?_drop,List.getElem?_set,List.length_take,List.length_drop]
      by_cases hj:j<(I o' rt []).len*r.t.sz
      ·rw[if_pos hj]
       by_cases hje:i*r.t.sz+c=j
       ·subst hje;rw[if_pos (by omega),if_pos (by simp;omega),if_pos rfl,if_pos (by simp;omega)]
       ·rw[if_neg (by omega),if_neg hje,if_pos hj]
      ·rw[if_neg hj,if_neg (by omega),if_neg hj]
     rw[h9,hcs,List.set_append,if_neg (by omega),hca,List.set_append,if_pos (by omega)];congr 2;congr 1;omega
    have hnd0:(FF o').Nodup:=h.nd o';have hgF:g∈FF o':=by rw[hF,hFF];simp
    have hgn:g∉Fa++(Fi++Fb):=by
     rw[hF,hFF]at hnd0;have:=List.nodup_append.1 hnd0;exact(List.nodup_cons.1 this.1).1
    have frm:∀ k,k≠g→(w.setRow g cells').heap[k]? = w.heap[k]?:=fun k hk=>setRow_other w g k cells' hk;have hZ:∀ k∈Fa++(Fi++Fb),k∈FF o'∧k≠g:=fun k hk=>⟨by rw[hF,hFF];simp only[List.mem_append,List.mem_cons]at hk ⊢;exact .inl (.inr hk),fun e=>hgn (e ▸ hk)⟩;have up:∀ {x:r.t.den} {cs:List Value},Cn w (fun k=>k∈FF o'∧k≠g) r.t x cs→Cn (w.setRow g cells') (fun k=>k∈FF o') r.t x cs:=fun hc=>Cn.imp (fun k hk=>⟨hk.1,frm k hk.2⟩) r.t hc;have hci:Cn w (fun k=>k∈FF o'∧k≠g) r.t x' (ci.set c u):=zrb (CnR.imp (fun k hk=>⟨⟨hk.1,hk.2 g b hA⟩,rfl⟩) hcn) r.t (Ow.toCn r.t (fun _ _=>hnoh _) (fun k hk=>hZ k (by simp[hk])) hri) hup
    have hnew:RoR (w.setRow g cells') (FF o') r.e r.t (r.xs.set i x') v0:=by
     refine⟨⟨(I o' rt []).A,(I o' rt []).cap,by rw[hv2,List.length_set,hxl],by rw[List.length_set,hxl];exact hle2,hmx2,.inr ⟨g,b,cells',r.e,hg.choose,hA,hgF,setRow_heap w g _ _ _ _ hg.choose_spec.2,?_,?_⟩,fun hn=>by rw[hA]at hn;cases hn⟩,⟨(I o' rt []).A,(I o' rt []).len,(I o' rt []).cap,hv2,.inr ⟨g,b,hA⟩⟩,?_⟩
     ·have:cells'.size=cells.size:=by rw[← Array.length_toList,hset];simp
      rw[this,List.length_set,hxl];omega
     ·rw[List.length_set,hxl,hcs'];refine RL.put (Fa:=[]) (Fi:=[]) (Fb:=[]) (by omega) ?_ ⟨up hci,rfl⟩ ?_
      ·exact(zes (Z:=fun k=>k∈FF o'∧k≠g) (fun q=>hnoh q) (fun k hk=>hZ k (by simp[hk])) hra).imp (fun _ _ _ _ _ hc=>⟨up hc.1,hc.2⟩)
      ·exact(zes (Z:=fun k=>k∈FF o'∧k≠g) (fun q=>hnoh q) (fun k hk=>hZ k (by simp[hk])) hrb).imp (fun _ _ _ _ _ hc=>⟨up hc.1,hc.2⟩)
     ·have upA:∀ {x:r.t.den} {cs:List Value},Cn w (fun k=>k∈FF o'∧k≠g) r.t x cs→Cn (w.setRow g cells') (fun k=>k∈FF o'∧k∉[g]) r.t x cs:=fun hc=>Cn.imp (fun k hk=>⟨⟨hk.1,by simpa using hk.2⟩,frm k hk.2⟩) r.t hc;refine⟨I o' rt [],[g],hnoh [],(fun k hk=>by rw[List.mem_singleton.1 hk];exact hgF),?_⟩;unfold OwRow;rw[if_neg (by rw[hnoh];simp)];refine⟨hv2,by rw[List.length_set];exact hxl,hle2,hmx2,?_⟩;rw[if_neg (by omega)];refine⟨hsz2,g,b,cells',[],hA,rfl,HC.set (by rw[← Array.length_toList,hset];simp) hg,?_,?_⟩
      ·have:cells'.size=cells.size:=by rw[← Array.length_toList,hset];simp
       rw[this];exact hsz3
      ·rw[hcs'];refine RL.put (Fa:=[]) (Fi:=[]) (Fb:=[]) (by omega) ?_ ⟨upA hci,rfl⟩ ?_
       ·exact(zes (Z:=fun k=>k∈FF o'∧k≠g) (fun q=>hnoh q) (fun k hk=>hZ k (by simp[hk])) hra).imp (fun _ _ _ _ _ hc=>⟨upA hc.1,hc.2⟩)
       ·exact(zes (Z:=fun k=>k∈FF o'∧k≠g) (fun q=>hnoh q) (fun k hk=>hZ k (by simp[hk])) hrb).imp (fun _ _ _ _ _ hc=>⟨upA hc.1,hc.2⟩)
    have ht:=h.take hob
    have hw2:=ht.world (zeg w g cells') (fun k hk=>by
     subst hk;have hm:=h.mine o' k hgF;refine⟨hm.2.1,fun o1 ho1=>?_⟩;unfold zaj at ho1;split at ho1
     ·cases ho1
     ·rename_i hne
      exact h.dj o' o1 (fun e=>hne e.symm) k hgF ho1)
    have x2:Ext I ob I (ob.put o' (.rv ⟨r.e,r.t,r.xs.set i x'⟩ rt)):=⟨fun _ _ _=>rfl,zak (fun e0 h0=>by rw[hob]at h0;injection h0 with h0;subst h0;exact Nat.le_refl _)⟩
    have e2:((ob.put o' (.dead (Ent.mid r rt q).ver)).put o' (.rv ⟨r.e,r.t,r.xs.set i x'⟩ rt))=ob.puts [(o',.rv ⟨r.e,r.t,r.xs.set i x'⟩ rt)]:=by
     funext k;simp only[Ob.puts,Ob.put];split <;> rfl
    refine⟨_,I,zaj (zaj FF o' []) o' (FF o'),hrun',x2,?_⟩;rw[← e2];refine hw2.give (by simp[zaj]) (fun e0 h0=>by simp[Ob.put]at h0;subst h0;exact Nat.le_refl _) ?_ ?_ hnd0 ?_ ?_
    ·exact⟨fun _ _ _=>rfl,zak (fun e0 h0=>by simp[Ob.put]at h0;subst h0;exact Nat.le_refl _)⟩
    ·exact⟨⟨v0,hnew,hv2⟩,hroot⟩
    ·intro k hk o1 ho1;unfold zaj at ho1;split at ho1
     ·cases ho1
     ·rename_i hne;exact h.dj o' o1 (fun e=>hne e.symm) k hk ho1
    ·intro k hk;have:=h.mine o' k hk;exact⟨this.1,this.2.1,by simpa using this.2.2⟩
   ·exact(M.ev_fail (ob:=ob) he2).elim
  |half r k ch =>
   simp only at he2;obtain⟨⟨ls,cons⟩,l3,l4,he3,he4,rfl⟩:=M.ev_bind he2;simp only at he4
   cases hany:cons.any (fun u=>u.1 == o) with
   |true=>simp only[hany]at he4;exact(M.ev_fail (ob:=ob) he4).elim
   |false =>
   cases hck:p.isEmpty&&(Nat.beq c ch&&zh6 r.t c) with
   |false=>cases ls <;> (try rename_i l ls;cases ls) <;> (simp only[hany,hck]at he4;exact(M.ev_fail (ob:=ob) he4).elim)
   |true =>
   cases ls with
   |nil=>simp only[hany,hck]at he4;exact(M.ev_fail (ob:=ob) he4).elim
   |cons l ls =>
   cases ls with
   |cons l2 ls=>simp only[hany,hck]at he4;exact(M.ev_fail (ob:=ob) he4).elim
   |nil =>
   simp only[hany,hck]at he4
   cases hup:upd r.t (r.xs.getD i r.t.dflt) c (zbr l) with
   |none=>simp only[hup]at he4;exact(M.ev_fail (ob:=ob) he4).elim
   |some x' =>
   simp only[hup]at he4;obtain⟨_,l5,l6,he5,he6,rfl⟩:=M.ev_bind he4;have hki:k=(i:Int):=by simpa using M.ev_test he5
   have hups:=M.ev_pure (ob:=ob) he6;subst hups;simp only[Bool.and_eq_true]at hck;have hp0:p=[]:=by simpa using hck.1
   have hc0:=Nat.eq_of_beq_eq_true hck.2.1;have h1row:=hck.2.2;subst hp0;subst hc0;subst hki
   have hno:∀ u∈cons,u.1≠o:=by
    intro u hu e;have:=List.any_eq_false.1 hany u hu;simp[e]at this
   obtain⟨FF1,Hs,Fs,h1,x1,hls,hnd,hhs,hmine,hsub,hoth,_⟩:=zb6 (cons:=[]) h hv (Ext.refl I ob) he3;simp only at h1 x1 hoth;have hob1:ob.puts cons o=some (.half r (i:Int) c):=by rw[Ob.puts_other hno];exact hob
   have hFo:FF1 o=FF o:=hoth o hno
   -- the one leaf
   obtain⟨u,H2,F2,hvc,rfl,rfl,hl⟩:∃ u H2 F2,v.cells.toList=[u]∧Hs=[H2]∧Fs=[F2]∧RelL w l u H2 F2:=by
    revert hls;generalize v.cells.toList=vs;intro hls
    cases vs with
    |nil=>cases Hs <;> cases Fs <;> exact hls.elim
    |cons u vs =>
     cases Hs with
     |nil=>cases Fs <;> exact hls.elim
     |cons H2 Hs =>
      cases Fs with
      |nil=>exact hls.elim
      |cons F2 Fs =>
       obtain⟨ha,hb⟩:=hls
       cases vs with
       |nil =>
        cases Hs with
        |nil =>
         cases Fs with
         |nil=>exact⟨u,H2,F2,rfl,rfl,rfl,ha⟩
         |cons _ _=>exact hb.elim
        |cons _ _=>cases Fs <;> exact hb.elim
       |cons _ _=>cases Hs <;> cases Fs <;> exact hb.elim
   have hH2:∀ q,(H2 q).hole=false:=fun q=>hhs H2 List.mem_cons_self q;simp only[List.flatten_cons,List.flatten_nil,List.append_nil]at hnd hmine;obtain⟨⟨e0,he0,hle0⟩,_,hi,g,b,hA,rfl⟩:=hp;have hv0:ver=0:=by rw[hob]at he0;injection he0 with he0;subst he0;exact Nat.le_zero.1 hle0
   subst hv0;obtain⟨H,v0,⟨hnoh,how⟩,hroot⟩:=h1.rel o _ hob1;rw[hroot]at hi hA
   have hlenR:∀ k' x c' f,(if k'<((i:Nat):Int).toNat then Ow w r.t (fun c'' p=>H ((k',c'')::p)) 0 x c' f else Cn cx.w0 cx.Z r.t x c'∧f=[])→c'.length=r.t.sz:=by
    intro k' x c' f hR;split at hR
    ·exact Ow.len r.t hR
    ·exact Cn.len r.t hR.1
   obtain⟨g',b',cells,ca,ci,cb,Fa,Fi,Fb,hA',hsz2,hFF,hg,hsz3,hxl,hcs,hca,hcil,hra,hri,hrb,hv2,hle2,hmx2,hget⟩:=how.elem r.t.dflt hlenR (hnoh []) hi;rw[if_neg (by omega)]at hri;obtain⟨hcn,rfl⟩:=hri;rw[hA]at hA';injection hA' with hA'
   injection hA' with e1 e2
   subst e1;subst e2;rw[hroot,hsz2]
   have hcsz:c<r.t.sz:=by
    have:∀ (t:Ty) (c:Nat),zh6 t c=true→c<t.sz:=by
     intro t
     induction t with
     |int k=>intro c h;cases h
     |bool=>intro c h;cases h
     |str=>intro c h;cases h
     |row e t ih=>intro c h;have:=Nat.eq_of_beq_eq_true h;subst this;exact Nat.one_pos
     |pair a b iha ihb =>
      intro c h;simp only[zh6]at h
      cases hb:Nat.ble (c+1) a.sz with
      |true=>have:=Nat.le_of_ble_eq_true hb;simp only[Ty.sz];omega
      |false =>
       rw[hb]at h;simp only[Bool.and_eq_true]at h;have:=ihb _ h.2;simp only[Ty.sz];omega
    exact this r.t c h1row
   have hlsz:i*r.t.sz+r.t.sz≤(H []).len*r.t.sz:=by
    have:(i+1)*r.t.sz≤(H []).len*r.t.sz:=Nat.mul_le_mul_right _ hi;rw[Nat.add_mul,Nat.one_mul]at this;exact this
   have hcap:(H []).len*r.t.sz≤(H []).cap*r.t.sz:=Nat.mul_le_mul_right _ hle2;have hrun:=zcb hT (o:=b+i*r.t.sz+c) hg hvl (by rw[hvc];simp;omega) hone;rw[hvc]at hrun
   let cells':Array Value:=(cells.toList.take (b+i*r.t.sz+c)++[u]++cells.toList.drop (b+i*r.t.sz+c+1)).toArray
   have hrun':(Instr.storeAt t (.pointer (some ⟨g,b+i*r.t.sz+c,none⟩)) v).run P w = .ok () (w.setRow g cells'):=hrun
   have hset:cells'.toList=cells.toList.set (b+i*r.t.sz+c) u:=by
    show (cells.toList.take (b+i*r.t.sz+c)++[u]++cells.toList.drop (b+i*r.t.sz+c+1))=_;rw[List.set_eq_take_append_cons_drop,if_pos (by simp;omega)];simp
   have hcs':(cells'.toList.drop b).take ((H []).len*r.t.sz)=ca++(ci.set c u++cb):=by
    have h9:(cells'.toList.drop b).take ((H []).len*r.t.sz)=((cells.toList.drop b).take ((H []).len*r.t.sz)).set (i*r.t.sz+c) u:=by
     apply List.ext_getElem?;intro j;rw[hset];simp only[List.getElem?_take,List.getElem?_drop,List.getElem?_set,List.length_take,List.length_drop]
     by_cases hj:j<(H []).len*r.t.sz
     ·rw[if_pos hj]
      by_cases hje:i*r.t.sz+c=j
      ·subst hje;rw[if_pos (by omega),if_pos (by simp;omega),if_pos rfl,if_pos (by simp;omega)]
      ·rw[if_neg (by omega),if_neg hje,if_pos hj]
     ·rw[if_neg hj,if_neg (by omega),if_neg hj]
    rw[h9,hcs,List.set_append,if_neg (by omega),hca,List.set_append,if_pos (by omega)];congr 2;congr 1;omega
   let Hn:Path→Hd:=fun q=>match q with | []=>H []|(i',c')::q'=>if i'=i∧c'=c then H2 q' else H ((i',c')::q')
   have hHn:∀ q,(Hn q).hole=false:=by
    intro q
    cases q with
    |nil=>exact hnoh []
    |cons a q=>simp only[Hn];split;exact hH2 _;exact hnoh _
   have hFo2:FF o=g::(Fa++([]++Fb)):=by rw[← hFo,hFF]
   have hndo:(g::(Fa++Fb)).Nodup:=by have:=h1.nd o;rw[hFF]at this;simpa using this
   have hgn:=List.nodup_cons.1 hndo
   have hFd:∀ k∈F2,k≠g∧k∉Fa∧k∉Fb:=by
    intro k hk;have:=(hmine k hk).2.1 o;rw[hFF]at this;simp at this;exact⟨this.1,this.2.1,this.2.2⟩
   have frm:∀ k,k≠g→(w.setRow g cells').heap[k]? = w.heap[k]?:=fun k hk=>setRow_other w g k cells' hk
   have hnew:HalfR cx (w.setRow g cells') ⟨r.e,r.t,r.xs.set i x'⟩ ((i:Int)+1).toNat Hn v0 (g::(Fa++(F2++Fb))):=by
    refine⟨hHn,?_⟩;unfold OwRow;rw[if_neg (by simp[hHn])];refine⟨hv2,by simpa using hxl,hle2,hmx2,?_⟩;rw[if_neg (show ¬ (Hn []).cap=0 by show ¬ (H []).cap=0;omega)];refine⟨hsz2,g,b,cells',Fa++(F2++Fb),hA,rfl,HC.set (by rw[← Array.length_toList,hset];simp) hg,?_,?_⟩
    ·show b+(H []).cap*r.t.sz≤cells'.size;have:cells'.size=cells.size:=by rw[← Array.length_toList,hset];simp
     rw[this];exact hsz3
    ·show RL _ 0 (r.xs.set i x') ((cells'.toList.drop b).take ((H []).len*r.t.sz)) _;rw[hcs'];refine RL.put (by omega) (hra.imp_idx fun k' x c' f' _ hk' hf' hR=>?_) ?_ (hrb.imp_idx fun k' x c' f' hk' _ hf' hR=>?_)
     ·rw[List.length_take]at hk';rw[if_pos (by omega)]at hR;rw[if_pos (by omega)]
      have e9:(fun (c'':Nat) (p:Path)=>Hn ((k',c'')::p))=fun c'' p=>H ((k',c'')::p):=by
       funext c'' p;simp only[Hn];rw[if_neg (by omega)]
      rw[e9];exact Ow.frame r.t (fun q hq=>frm q (fun e=>hgn.1 (by rw[← e];exact List.mem_append_left _ (hf' q hq)))) hR
     ·rw[if_pos (by omega)];refine yk4 (w':=w.setRow g cells') (H2:=H2) (hl.frame (fun k hk=>frm k (hFd k hk).1)) r.t hcn h1row ?_ hup;funext q;simp[Hn]
     ·rw[if_neg (by omega)]at hR ⊢;exact hR
   have ht:=h1.take hob1
   have hw2:=ht.world (zeg w g cells') (fun k hk=>by
    subst hk;have hm:=h1.mine o k (by rw[hFF];simp);refine⟨hm.2.1,fun o' ho'=>?_⟩;unfold zaj at ho';split at ho'
    ·cases ho'
    ·rename_i hne
     exact h1.dj o o' (fun e=>hne e.symm) k (by rw[hFF];simp) ho')
   have x2:Ext I ob I (ob.puts (cons++[(o,Ent.half ⟨r.e,r.t,r.xs.set i x'⟩ ((i:Int)+1) c)])):=by
    have hoN:ob.puts (cons++[(o,Ent.half ⟨r.e,r.t,r.xs.set i x'⟩ ((i:Int)+1) c)])=(ob.puts cons).put o (.half ⟨r.e,r.t,r.xs.set i x'⟩ ((i:Int)+1) c):=by rw[Ob.puts_append];rfl
    rw[hoN];exact x1.trans ⟨fun _ _ _=>rfl,zak (fun e0 h0=>by rw[hob1]at h0;injection h0 with h0;subst h0;exact Nat.le_refl _)⟩
   have e2:(((ob.puts cons).put o (.dead (Ent.half r (i:Int) c).ver)).put o (.half ⟨r.e,r.t,r.xs.set i x'⟩ ((i:Int)+1) c))=ob.puts (cons++[(o,Ent.half ⟨r.e,r.t,r.xs.set i x'⟩ ((i:Int)+1) c)]):=by
    rw[Ob.puts_append];funext k;simp only[Ob.puts,Ob.put];split <;> rfl
   refine⟨_,I,zaj (zaj FF1 o []) o (g::(Fa++(F2++Fb))),hrun',x2,?_⟩;rw[← e2];refine hw2.give (by simp[zaj]) (fun e0 h0=>by simp[Ob.put]at h0;subst h0;exact Nat.le_refl _) ?_ ?_ ?_ ?_ ?_
   ·exact⟨fun _ _ _=>rfl,zak (fun e0 h0=>by simp[Ob.put]at h0;subst h0;exact Nat.le_refl _)⟩
   ·exact⟨Hn,v0,hnew,hroot⟩
   ·have h3:=hndo
    simp only[List.nodup_cons,List.nodup_append,List.mem_append,not_or]at h3 ⊢;refine⟨⟨h3.1.1,fun hk=>(hFd g hk).1 rfl,h3.1.2⟩,h3.2.1,⟨hnd,h3.2.2.1,fun a ha b hb e=>?_⟩,fun a ha b hb e=>?_⟩
    ·subst e;exact(hFd a ha).2.2 hb
    ·subst e;rcases hb with hb|hb
     ·exact(hFd a hb).2.1 ha
     ·exact h3.2.2.2 a ha a hb rfl
   ·intro k hk o' ho';unfold zaj at ho';split at ho'
    ·cases ho'
    ·rename_i hne;rcases List.mem_cons.1 hk with rfl|hk
     ·exact h1.dj o o' (fun e=>hne e.symm) k (by rw[hFF];simp) ho'
     ·rcases List.mem_append.1 hk with hk|hk
      ·exact h1.dj o o' (fun e=>hne e.symm) k (by rw[hFF];simp[hk]) ho'
      ·rcases List.mem_append.1 hk with hk|hk
       ·exact(hmine k hk).2.1 o' ho'
       ·exact h1.dj o o' (fun e=>hne e.symm) k (by rw[hFF];simp[hk]) ho'
   ·intro k hk
    have key:¬ cx.Z k∧(cx.D0 k∨cx.w0.heap.size≤k)∧k<w.heap.size:=by
     rcases List.mem_cons.1 hk with rfl|hk
     ·exact h1.mine o k (by rw[hFF];simp)
     ·rcases List.mem_append.1 hk with hk|hk
      ·exact h1.mine o k (by rw[hFF];simp[hk])
      ·rcases List.mem_append.1 hk with hk|hk
       ·exact(hmine k hk).1
       ·exact h1.mine o k (by rw[hFF];simp[hk])
    exact⟨key.1,key.2.1,by simpa using key.2.2⟩
  |row r cur hole =>
   simp only at he2;obtain⟨⟨ls,cons⟩,l3,l4,he3,he4,rfl⟩:=M.ev_bind he2;simp only at he4
   cases hany:cons.any (fun u=>u.1 == o) with
   |true=>simp only[hany]at he4;exact(M.ev_fail (ob:=ob) he4).elim
   |false =>
   simp only[hany]at he4;obtain⟨_,l5,l6,hst,he5,rfl⟩:=M.ev_bind he4;have hok:stOK p i c ls ver cur hole=true:=ymy hst;clear he4
   cases hup:zbo p r (zu1 i c ls) with
   |none=>simp only[hup]at he5;exact(M.ev_fail (ob:=ob) he5).elim
   |some xs1 =>
   simp only[hup]at he5;have hups:=M.ev_pure (ob:=ob) he5;subst hups
   have hno:∀ u∈cons,u.1≠o:=by
    intro u hu e;have:=List.any_eq_false.1 hany u hu;simp[e]at this
   -- what is moved is taken
   obtain⟨FF1,Hs,Fs,h1,x1,hls,hnd,hhs,hmine,hsub,hoth,_⟩:=zb6 (cons:=[]) h hv (Ext.refl I ob) he3;simp only at h1 x1 hoth;have hob1:ob.puts cons o=some (.row r cur hole):=by rw[Ob.puts_other hno];exact hob
   have hFo:FF1 o=FF o:=hoth o hno;obtain⟨r',ys,hr',hys⟩:=zoe p hup;simp only[stOK,Bool.and_eq_true,Bool.or_eq_true]at hok;obtain⟨hok1,hok2⟩:=hok;have hver:p=[]∨ver=cur:=hok1.imp (fun h=>by simpa using h) (fun h=>by simpa using h)
   have hq:∀ q,hole=some q→¬ q <+: p:=by
    intro q hq hqp;subst hq;simp only[Bool.or_eq_true,Bool.and_eq_true]at hok2;rcases hok2 with hok2|hok2
    ·have:p=[]:=by simpa using hok2.1
     subst this;have:=List.prefix_nil.1 hqp;subst this;exact(h.rel o _ hob).2.2.2 rfl
    ·exact zv3 hqp (zkg hok2.1.1)
   obtain⟨hcur,hpv,hi,⟨g,b,hA,rfl⟩,hpk,hph,hhole,v0,hrel⟩:=h1.place hob1 (hp.ext x1) hver hq hr';obtain⟨v',Fa,F',Fb,hF,ho',hback⟩:=hrel.focus p (h1.nd o) hpk hr';have hndF:(Fa++(F'++Fb)).Nodup:=by rw[← hF];exact h1.nd o
   have hndF':F'.Nodup:=(List.nodup_append.1 (List.nodup_append.1 hndF).2.1).1;have e0:p++[]=p:=List.append_nil p;obtain⟨g',bs,ci,Ga,Fi,Gb,cells,hA',hsz1,hF'e,hgm,hg,hin,hci,hxl,hoi,helem⟩:=ho'.elem hndF' (by simp only[e0];exact hph) (by simp only[e0];exact hi);simp only[e0]at hA' hsz1;rw[hA]at hA';injection hA' with hA'
   injection hA' with e1 e2
   subst e1;subst e2;rw[hsz1]at *;subst hF'e
   -- the new element
   simp only[zu1]at hys
   cases hx':zlj r'.t (r'.xs.getD i r'.t.dflt) c ls with
   |none=>rw[hx']at hys;cases hys
   |some x' =>
   rw[hx']at hys;injection hys with hys
   have hmem:∀ k,k∈FF1 o↔k∈Fa++((Ga++(Fi++Gb))++Fb):=fun k=>by rw[hF]
   have hdis:∀ k∈Fs.flatten,k∉Fa++((Ga++(Fi++Gb))++Fb):=fun k hk hk2=>(hmine k hk).2.1 o ((hmem k).2 hk2)
   have hnd2:(Fi++Fs.flatten).Nodup:=by
    rw[List.nodup_append];refine⟨?_,hnd,fun a ha b hb e=>?_⟩
    ·have:=(List.nodup_append.1 hndF').2.1;exact(List.nodup_append.1 this).1
    ·subst e;exact hdis a hb (by simp;grind)
   obtain⟨H',Fi',hnew,hndi,hsubi,hH1,hH2,hH3⟩:=Ow.upd r'.t hoi hls hx' hnd2;have hcl:ci.length=r'.t.sz:=Ow.len r'.t hoi;have hlen:ls.length=v.cells.toList.length:=hls.len.1
   have hrange:c+v.cells.toList.length≤r'.t.sz:=by
    have:=Ow.len r'.t hnew;unfold over at this;simp at this hcl hpos;simp;omega
   have hgFs:g∉Fs.flatten:=fun hk=>hdis g hk (by simp;grind);have hrun:=zcb hT (o:=b+i*r'.t.sz+c) hg hvl (by omega) hone
   -- headers
   let Hn:Path→Hd:=fun q=>if p <+: q then (match q.drop p.length with|(i',c')::q'=>if i'=i then H' c' q' else I o cur q | []=>I o cur q) else I o cur q
   have hn0:Hn p=I o cur p:=by simp[Hn]
   have hn1:∀ c' q',Hn (p++(i,c')::q')=H' c' q':=by intro c' q';simp[Hn]
   have hn2:∀ i' c' q',i'≠i→Hn (p++(i',c')::q')=I o cur (p++(i',c')::q'):=by intro i' c' q' hne;simp[Hn,hne]
   have hn3:∀ q,¬ p <+: q→Hn q=I o cur q:=by intro q hq;simp[Hn,hq]
   have hnroot:Hn []=I o cur []:=by
    by_cases hpe:p <+: []
    ·have:=List.prefix_nil.1 hpe;subst this;exact hn0
    ·exact hn3 _ hpe
   have hscal:ls.all LS.scalar=true→∀ q,Hn q=I o cur q:=by
    intro hall q
    by_cases hpq:p <+: q
    ·obtain⟨rest,rfl⟩:=hpq
     cases rest with
     |nil=>rw[e0];exact hn0
     |cons a rest =>
      obtain⟨i',c'⟩:=a
      by_cases hii:i'=i
      ·subst hii;rw[hn1]
       by_cases hr:c'<c∨c+ls.length≤c'
       ·rw[hH1 c' hr]
       ·obtain⟨d,rfl⟩:∃ d,c'=c+d:=⟨c' - c,by omega⟩;have hd:d<ls.length:=by omega
        rw[hH3 d _ (List.getElem?_eq_getElem hd) (List.all_eq_true.1 hall _ (List.getElem_mem hd))]
      ·exact hn2 _ _ _ hii
    ·exact hn3 q hpq
   let I':In:=fun o' u=>if o'=o∧u=zc0 ls cur then Hn else I o' u
   have hI'new:I' o (zc0 ls cur)=Hn:=by simp[I']
   have hI'old:∀ o' u,zce ob o' u→I' o' u=I o' u:=by
    intro o' u hk;simp only[I'];split
    ·rename_i hh;obtain⟨rfl,rfl⟩:=hh;obtain⟨e,he,hle⟩:=hk;rw[hob]at he;injection he with he
     subst he;unfold zc0 at hle ⊢
     cases hall:ls.all LS.scalar with
     |true=>funext q;exact hscal hall q
     |false=>rw[hall]at hle;simp[Ent.ver]at hle;omega
    ·rfl
   have hoN:ob.puts (cons++[(o,Ent.row ⟨r.e,r.t,xs1⟩ (zc0 ls cur) (zd6 ls hole))])=(ob.puts cons).put o (.row ⟨r.e,r.t,xs1⟩ (zc0 ls cur) (zd6 ls hole)):=by rw[Ob.puts_append];rfl
   have hvle:cur≤zc0 ls cur:=by unfold zc0;cases ls.all LS.scalar <;> simp
   have x2:Ext I ob I' (ob.puts (cons++[(o,Ent.row ⟨r.e,r.t,xs1⟩ (zc0 ls cur) (zd6 ls hole))])):=by
    refine⟨hI'old,fun o' u hk=>?_⟩;rw[hoN];exact zak (fun e0 h0=>by rw[hob1]at h0;injection h0 with h0;subst h0;exact hvle) o' u (x1.k o' u hk)
   -- the world behind
   let cells':Array Value:=(cells.toList.take (b+i*r'.t.sz+c)++v.cells.toList++cells.toList.drop (b+i*r'.t.sz+c+v.cells.toList.length)).toArray
   have hsp:∀ j,cells'[j]? = if j<b+i*r'.t.sz+c then cells[j]? else if j<b+i*r'.t.sz+c+v.cells.toList.length then v.cells.toList[j - (b+i*r'.t.sz+c)]? else cells[j]?:=by
    intro j;have:=zcv cells.toList v.cells.toList (b+i*r'.t.sz+c) j (by simp at hrange ⊢;omega);simp only[Array.getElem?_toList]at this;simpa [cells'] using this
   have hcs':cells'.size=cells.size:=by simp[cells'];simp at hrange;omega
   let w':=w.setRow g cells'
   have hg':HC w' g cells' r'.e:=HC.set hcs' hg;have hw':∀ k,k≠g→w'.heap[k]? = w.heap[k]?:=fun k hk=>setRow_other w g k cells' hk
   have hgout:g∉Fa++Fb:=by
    intro hk;have:=hndF;rw[List.nodup_append]at this;obtain⟨_,h4,h5⟩:=this;rw[List.nodup_append]at h4;rcases List.mem_append.1 hk with hk|hk
    ·exact h5 g hk g (by simp;grind) rfl
    ·exact h4.2.2 g (by simp;grind) g hk rfl
   have hgFi:g∉Fi':=by
    intro hk;rcases hsubi g hk with hk|hk
    ·have:=List.nodup_append.1 hndF';exact this.2.2 g hgm g (by simp;grind) rfl
    ·exact hgFs hk
   have hrow:=helem w' (fun q=>Hn (p++q)) x' _ Fi' cells' (fun k _ hk=>hw' k hk) hg' hcs' (fun j u hu=>?_) (fun j hj=>?_) (by simp only[e0];exact hn0) (fun i' c' q hne=>hn2 i' c' q hne)
    (Ow.frame r'.t (fun k hk=>hw' k (fun e=>hgFi (e ▸ hk))) (Ow.hd r'.t (fun j _ _ q=>hn1 j q) hnew))
   rotate_left
   ·-- the cells of the new element
    rw[hsp];unfold over at hu;have:=zcv ci v.cells.toList c j (by omega);rw[this]at hu
    by_cases h1:j<c
    ·rw[if_pos h1]at hu;rw[if_pos (by omega)];exact hci j u hu
    ·rw[if_neg h1]at hu
     by_cases h2:j<c+v.cells.toList.length
     ·rw[if_pos h2]at hu;rw[if_neg (by omega),if_pos (by omega),← hu];congr 1;omega
     ·rw[if_neg h2]at hu;rw[if_neg (by omega),if_neg (by omega)];exact hci j u hu
   ·rw[hsp];split
    ·rfl
    ·split
     ·omega
     ·rfl
   have hfull:=hback w' Hn ys (Ga++(Fi'++Gb)) xs1 (zu1 i c ls) (by simp only[zu1,hx'];exact congrArg some hys) hup (fun k hk=>hw' k (fun e=>hgout (e ▸ hk))) (fun q hq=>hn3 q hq) (by rw[← hys];exact hrow)
   -- the objects
   have ht:=h1.take hob1;have hmineo:∀ k∈FF1 o,¬ cx.Z k∧(cx.D0 k∨cx.w0.heap.size≤k)∧k<w.heap.size:=fun k hk=>h1.mine o k hk;have hgo:g∈FF1 o:=(hmem g).2 (by simp;grind)
   have hw2:=ht.world (zeg w g cells') (fun k hk=>by
    subst hk;refine⟨(hmineo k hgo).2.1,fun o' ho'=>?_⟩;unfold zaj at ho';split at ho'
    ·cases ho'
    ·rename_i hne
     exact h1.dj o o' (fun e=>hne e.symm) k hgo ho')
   let Fn:=Fa++((Ga++(Fi'++Gb))++Fb)
   have hFn:∀ k∈Fn,k∈FF1 o∨k∈Fs.flatten:=by
    intro k hk;simp only[Fn,List.mem_append]at hk;have hh:=hmem k;simp only[List.mem_append]at hh;rcases hk with hk|(hk|hk|hk)|hk
    ·exact .inl (hh.2 (.inl hk))
    ·exact .inl (hh.2 (.inr (.inl (.inl hk))))
    ·rcases hsubi k hk with hk|hk
     ·exact .inl (hh.2 (.inr (.inl (.inr (.inl hk)))))
     ·exact .inr hk
    ·exact .inl (hh.2 (.inr (.inl (.inr (.inr hk)))))
    ·exact .inl (hh.2 (.inr (.inr hk)))
   have hFnd:Fn.Nodup:=by
    have hd2:∀ k∈Fi',k∉Fa∧k∉Ga∧k∉Gb∧k∉Fb:=by
     intro k hk;rcases hsubi k hk with hk|hk
     ·have h3:=hndF;simp only[List.nodup_append,List.mem_append]at h3
      grind
     ·have:=hdis k hk;simp only[List.mem_append]at this
      grind
    have h3:=hndF;simp only[Fn,List.nodup_append,List.mem_append]at h3 ⊢
    grind
   refine⟨w',I',zaj (zaj FF1 o []) o Fn,hrun,x2,?_⟩
   have e2:(((ob.puts cons).put o (.dead (Ent.row r cur hole).ver)).put o (.row ⟨r.e,r.t,xs1⟩ (zc0 ls cur) (zd6 ls hole)))=ob.puts (cons++[(o,Ent.row ⟨r.e,r.t,xs1⟩ (zc0 ls cur) (zd6 ls hole))]):=by
    rw[hoN];funext k;simp only[Ob.put];split <;> rfl
   rw[← e2];refine hw2.give (by simp[zaj]) (fun e0 h0=>by simp[Ob.put]at h0;subst h0;exact hvle) ?_ ?_ hFnd ?_ ?_
   ·refine⟨fun o' u hk=>?_,fun o' u hk=>?_⟩
    ·simp only[I'];split
     ·rename_i hh;obtain⟨rfl,rfl⟩:=hh;obtain⟨e,he,hle⟩:=hk;simp[Ob.put]at he;subst he;unfold zc0 at hle ⊢
      cases hall:ls.all LS.scalar with
      |true=>funext q;exact hscal hall q
      |false=>rw[hall]at hle;simp[Ent.ver]at hle;omega
     ·rfl
    ·exact zak (fun e0 h0=>by simp[Ob.put]at h0;subst h0;exact hvle) o' u hk
   ·refine⟨⟨v0,?_⟩,fun u hu=>?_,fun q hq=>?_,?_⟩
    ·rw[hI'new];exact hfull
    ·rw[hI'new,hnroot];simp only[I'];split
     ·exact hnroot
     ·rename_i hne
      have hu':u≤cur:=by
       unfold zc0 at hu hne
       cases hall:ls.all LS.scalar with
       |true=>rw[hall]at hu;exact hu
       |false =>
        rw[hall]at hu hne;have:u≠cur+1:=fun e=>hne ⟨trivial,e⟩;have hu2:u≤cur+1:=hu;omega
      exact(h1.rel o _ hob1).2.1 u hu'
    ·rw[hI'new]at hq;unfold zd6
     cases hall:ls.all LS.scalar with
     |true =>
      rw[hscal hall q]at hq;exact hhole q hq
     |false =>
      exfalso
      -- no hole is left
      have hout:∀ q,(I o cur q).hole=true→q=p++[(i,c)]∧ls.length=1:=by
       intro q hq;have:=hhole q hq;subst this;simp only[Bool.or_eq_true,Bool.and_eq_true,hall]at hok2;rcases hok2 with hok2|hok2
       ·exact absurd hok2.2 (by simp)
       ·exact⟨zkg hok2.1.1,by simpa using hok2.1.2⟩
      by_cases hpq:p <+: q
      ·obtain⟨rest,rfl⟩:=hpq
       cases rest with
       |nil =>
        rw[e0,hn0]at hq;rw[hph]at hq;cases hq
       |cons a rest =>
        obtain⟨i',c'⟩:=a
        by_cases hii:i'=i
        ·subst hii;rw[hn1]at hq
         by_cases hr:c'<c∨c+ls.length≤c'
         ·rw[hH1 c' hr]at hq;have:=(hout _ hq).1;have:=List.append_cancel_left this;injection this with h5 h6
          injection h5 with h7 h8
          have:=(hout _ hq).2;omega
         ·obtain⟨d,rfl⟩:∃ d,c'=c+d:=⟨c' - c,by omega⟩;have hd:d<ls.length:=by omega
          have hdl:=List.getElem?_eq_getElem hd
          cases hs:LS.scalar (ls[d]) with
          |true =>
           rw[hH3 d _ hdl hs]at hq;have h5:=(hout _ hq);have h6:=List.append_cancel_left h5.1;injection h6 with h6 h7
           injection h6 with h6 h8
           have hd0:d=0:=by omega
           subst hd0
           have:ls.all LS.scalar=true:=by
            obtain⟨l,hl⟩:=List.length_eq_one_iff.1 h5.2;subst hl;simpa using hs
           rw[hall]at this;cases this
          |false =>
           have hdh:d<Hs.length:=by have:ls.length=Hs.length:=hls.len.2;omega
           rw[hH2 d _ _ hdl (List.getElem?_eq_getElem hdh) hs]at hq;rw[hhs _ (List.getElem_mem hdh)]at hq;cases hq
        ·rw[hn2 _ _ _ hii]at hq;have:=(hout _ hq).1;have:=List.append_cancel_left this;injection this with h5 h6
         injection h5 with h7 h8
         exact hii h7
      ·rw[hn3 q hpq]at hq;have:=(hout _ hq).1;exact hpq ⟨_,this.symm⟩
    ·unfold zd6
     cases ls.all LS.scalar with
     |true=>exact(h1.rel o _ hob1).2.2.2
     |false=>simp
   ·intro k hk o' ho';unfold zaj at ho';split at ho'
    ·cases ho'
    ·rename_i hne;rcases hFn k hk with hk|hk
     ·exact h1.dj o o' (fun e=>hne e.symm) k hk ho'
     ·exact(hmine k hk).2.1 o' ho'
   ·intro k hk;rcases hFn k hk with hk|hk
    ·have:=hmineo k hk;exact⟨this.1,this.2.1,by simpa [w'] using this.2.2⟩
    ·have:=(hmine k hk).1;exact⟨this.1,this.2.1,by simpa [w'] using this.2.2⟩
 |_=>simp only at he;exact(M.ev_fail (ob:=ob) he).elim
end
end Go.Proofs.Ytbjgiioppmkpiaa.Rx

namespace Go.Proofs.Ytbjgiioppmkpiaa.Rx
open Go Go.RowKit
section
variable{P:Program}{w:World}
def zlh(w:World)(A:Option Addr)(us:List Value):Prop:=us=[]∨∃ a,A=some a∧∀ j u,us[j]? = some u→w.cell? (a.add j)=some u
theorem zbi(size m c:Nat)(A:Option Addr)(us:List Value)(hl:us.length=m*size)(hr:zlh w A us)(hA:A=none→us=[]) :
  (Builtin.firstCells size m (.slice A m c)).run P w = .ok us.toArray w:=by
 cases A with
 |none =>
  rw[hA rfl];exact run_firstCells_none (P:=P) (w:=w) size m m c
 |some a =>
  refine run_firstCells_some (P:=P) w size m a m c us hl ?_;rcases hr with rfl|⟨a',ha,hr⟩
  ·intro j u hu;simp at hu
  ·injection ha with ha;subst ha;exact hr
theorem zdw(t ty e:TypeId)(i:TypeInfo)(ht:P.underlying t=some (.slice e))(hi:P.info? e=some i)(g b n c m cx:Nat)(X:Option Addr)(cur news:List Value)(curA:Array Value)
  (hg:HC w g curA e) (hl:news.length=m*i.size) (hx:zlh w X news) (hX:X=none→news=[]) (h1:∀ u∈news,u.oneCell'=true)
  (hroom:n+m≤c) (hfit:b+n*i.size+news.length≤curA.size) :
  (Builtin.append_ #[t,t] ty #[.slice (some ⟨g,b,none⟩) n c,.slice X m cx]).run P w =
   .ok (.slice (some ⟨g,b,none⟩) (n+m) c) (w.setRow g (curA.toList.take (b+n*i.size)++news++curA.toList.drop (b+n*i.size+news.length)).toArray):=by
 have hf:=zbi (P:=P) i.size m cx X news hl hx hX;have hst:=HC.store (P:=P) hg hfit h1;simp[Builtin.append_,run_underlying ht,sizeOf,typeInfo,hi,Builtin.lenOf,hroom,hf,Addr.add_lit,hst]
theorem zh4(t ty e:TypeId)(i:TypeInfo)(ht:P.underlying t=some (.slice e))(hi:P.info? e=some i)(A X:Option Addr)(c cx:Nat) :
  (Builtin.append_ #[t,t] ty #[.slice A 0 c,.slice X 0 cx]).run P w = .ok (.slice A 0 c) w:=by
 have hf:=zbi (P:=P) (w:=w) i.size 0 cx X [] (by simp) (.inl rfl) (fun _=>rfl);cases A <;> simp[Builtin.append_,run_underlying ht,sizeOf,typeInfo,hi,Builtin.lenOf,hf,storeCells]
theorem zdx(t ty e:TypeId)(i:TypeInfo)(z:Value)(ht:P.underlying t=some (.slice e))(hi:P.info? e=some i)(hz:i.zero=some z)
  (A X:Option Addr) (n c m cx:Nat) (olds news:List Value) (hlo:olds.length=n*i.size) (hro:zlh w A olds) (hA:A=none→olds=[])
  (hl:news.length=m*i.size) (hx:zlh w X news) (hX:X=none→news=[])
  (hg:c<n+m) (h63:((n+m:Nat):Int)≤9223372036854775807) (hfit:Builtin.nextslicecap (n+m) c*i.bytes≤281474976710656) :
  (Builtin.append_ #[t,t] ty #[.slice A n c,.slice X m cx]).run P w =
   .ok (.slice (some ⟨w.heap.size,0,none⟩) (n+m) (grownCap w (n+m) c e))
    (w.drew.alloc (.cells (olds.toArray++news.toArray++Builtin.zeroCells z.cells (grownCap w (n+m) c e - (n+m))) e)):=by
 have hn:¬ (n+m≤c):=by omega
 have h63':¬ (9223372036854775807<((n:Int)+(m:Int))):=by omega
 have h48':¬ (281474976710656<Builtin.nextslicecap (n+m) c*i.bytes):=by omega
 have hf:=zbi (P:=P) (w:=w.drew) i.size m cx X news hl hx hX;have hfo:=zbi (P:=P) (w:=w.drew) i.size n c A olds hlo hro hA;simp[Builtin.append_,run_underlying ht,sizeOf,typeInfo,zeroValue,hi,hz,Builtin.lenOf,hn,h63',h48',Question.forced,hf,hfo,newRow,grownCap];congr 2;apply Array.ext';simp[List.append_assoc]
theorem zbx(w:World)(o:Obj)(D:Nat→Prop):Kp w D (w.alloc o):=⟨rfl,rfl,rfl,by simp,fun k hk _=>Below.heap_alloc w o k hk⟩
theorem yma(w:World)(D:Nat→Prop):Kp w D w.drew:=⟨rfl,rfl,rfl,Nat.le_refl _,fun _ _ _=>rfl⟩
abbrev RE(w:World)(t:Ty)(H:Path→Hd):List t.den→List Value→List Nat→Prop:=RL (fun i x cs F=>Ow w t (fun c' p=>H ((i,c')::p)) 0 x cs F) 0
theorem OwR.elems{e:TypeId}{t:Ty}{H:Path→Hd}{xs:List t.den}{v:Value}{F:List Nat}(h:OwR w e t H xs v F)(hh:(H []).hole=false) :
  ∃ us F',v = .slice (H []).A (H []).len (H []).cap∧xs.length=(H []).len∧(H []).len≤(H []).cap∧(H []).cap≤maxLen∧RE w t H xs us F'∧zlh w (H []).A us∧((H []).A=none→us=[])∧(∀ k∈F',k∈F)∧F'.Nodup=F'.Nodup ∧
   (F.Nodup→F'.Nodup) ∧
   ((H []).cap≠0→∃ g b cells,(H []).sz=t.sz∧(H []).A=some ⟨g,b,none⟩∧F=g::F'∧HC w g cells e∧b+(H []).cap*t.sz≤cells.size∧(cells.toList.drop b).take ((H []).len*t.sz)=us)∧((H []).cap=0→F=[]):=by
 unfold OwR OwRow at h;rw[if_neg (by simp[hh])]at h;obtain⟨hv,hl,hle,hmx,h5⟩:=h
 by_cases hc:(H []).cap=0
 ·rw[if_pos hc]at h5;have hx:xs=[]:=List.eq_nil_of_length_eq_zero (by omega);subst hx;exact⟨[],[],hv,hl,hle,hmx,⟨rfl,rfl⟩,.inl rfl,fun _=>rfl,(fun k hk=>by cases hk),rfl,fun _=>List.nodup_nil,fun h=>absurd hc h,fun _=>h5⟩
 ·rw[if_neg hc]at h5;obtain⟨hsz,g,b,cells,F',hA,rfl,hg,hs,hrl⟩:=h5;refine⟨_,F',hv,hl,hle,hmx,hrl,?_,(fun h=>by rw[hA]at h;cases h),fun k hk=>List.mem_cons_of_mem _ hk,rfl,fun h=>(List.nodup_cons.1 h).2,fun _=>⟨g,b,cells,hsz,hA,rfl,hg,hs,rfl⟩,fun h=>absurd h hc⟩;refine .inr ⟨_,hA,fun j u hu=>?_⟩;rw[zbu,hg.cell];simp only[List.getElem?_take,List.getElem?_drop]at hu;split at hu
  ·simpa using hu
  ·cases hu
theorem RE.len{t:Ty}{H:Path→Hd}{xs:List t.den}{us:List Value}{F:List Nat}(h:RE w t H xs us F):us.length=xs.length*t.sz:=RL.length h (fun _ _ _ _ h=>Ow.len t h)
theorem RE.one{t:Ty}{H:Path→Hd}{xs:List t.den}{us:List Value}{F:List Nat}(h:RE w t H xs us F):∀ u∈us,u.oneCell'=true:=RL.all h (fun _ _ _ _ h=>Ow.one t h)
theorem RE.frame{w':World}{t:Ty}{H:Path→Hd}{xs:List t.den}{us:List Value}{F:List Nat}(h:RE w t H xs us F)(hF:∀ k∈F,w'.heap[k]? = w.heap[k]?):RE w' t H xs us F :=
 RL.imp h (fun _ _ _ _ hf h=>Ow.frame t (fun k hk=>hF k (hf k hk)) h)
def Happ(h0:Hd)(H1 H2:Path→Hd)(n:Nat):Path→Hd
 | []=>h0
 |(i,c)::p=>if i<n then H1 ((i,c)::p) else H2 ((i - n,c)::p)
theorem RE.app{t:Ty}{h0:Hd}{H1 H2:Path→Hd}{xs ys:List t.den}{us vs:List Value}{F G:List Nat}(h:RE w t H1 xs us F)(h':RE w t H2 ys vs G) :
  RE w t (Happ h0 H1 H2 xs.length) (xs++ys) (us++vs) (F++G):=by
 refine RL.append (RL.imp_idx h (fun k x c f _ hk _ hr=>Ow.hd t (fun j _ _ p=>?_) hr)) ?_
 ·simp only[Happ];rw[if_pos (by omega)]
 ·have h2:RL (fun k x cs F=>Ow w t (fun c' p=>Happ h0 H1 H2 xs.length ((k+xs.length,c')::p)) 0 x cs F) 0 ys vs G :=
   RL.imp h' (fun k x c f _ hr=>Ow.hd t (fun j _ _ p=>by simp only[Happ];rw[if_neg (by omega),Nat.add_sub_cancel]) hr)
  exact RL.unshift (R:=fun k x cs F=>Ow w t (fun c' p=>Happ h0 H1 H2 xs.length ((k,c')::p)) 0 x cs F) h2
theorem OwR.laid{e:TypeId}{t:Ty}{H:Path→Hd}{xs:List t.den}{us:List Value}{F:List Nat}{g b cap:Nat}{cells:Array Value}(h:RE w t H xs us F)(hg:HC w g cells e)
  (hc:cap≠0) (hl:xs.length≤cap) (hm:cap≤maxLen) (hs:b+cap*t.sz≤cells.size) (hu:(cells.toList.drop b).take (xs.length*t.sz)=us) (h0:H []=⟨some ⟨g,b,none⟩,cap,xs.length,t.sz,false⟩) :
  OwR w e t H xs (.slice (some ⟨g,b,none⟩) xs.length cap) (g::F):=by
 unfold OwR OwRow;rw[h0];rw[if_neg (by simp)];refine⟨rfl,rfl,hl,hm,?_⟩;rw[if_neg hc];exact⟨rfl,g,b,cells,F,rfl,rfl,hg,hs,by rw[hu];exact h⟩
theorem OwR.empty{e:TypeId}{t:Ty}{H:Path→Hd}{A:Option Addr}(h0:H []=⟨A,0,0,t.sz,false⟩):OwR w e t H [] (.slice A 0 0) []:=by
 unfold OwR OwRow;rw[h0];rw[if_neg (by simp)];simp
theorem zmu{t ty e:TypeId}{ti:TI}{T:Ty}(hti:TIok P e ti)(hty:ti.ty=some T)(ht:P.underlying t=some (.slice e))
  {H1 H2:Path→Hd} {xs ys:List T.den} {v:Value} {F G:List Nat} {X:Option Addr} {cx:Nat} {news:List Value}
  (hb:OwR w e T H1 xs v F) (hh:(H1 []).hole=false) (hx:RE w T H2 ys news G) (hr:zlh w X news) (hX:X=none→news=[])
  (hbd:(xs.length+ys.length)*ti.bytes≤140737488355328) (hmx:xs.length+ys.length≤maxLen) (hlt:∀ k∈F++G,k<w.heap.size) (hFG:(F++G).Nodup) :
  ∃ A c w' F' H',(Builtin.append_ #[t,t] ty #[v,.slice X ys.length cx]).run P w = .ok (.slice A (xs.length+ys.length) c) w'∧OwR w' e T H' (xs++ys) (.slice A (xs.length+ys.length) c) F' ∧
   Kp w (fun k=>k∈F) w'∧F'.Nodup∧(∀ k∈F',k∈F∨k∈G∨k=w.heap.size)∧(w.heap.size∈F'→w.heap.size<w'.heap.size)∧(∀ p,(H' p).hole=true→∃ q,q≠[]∧((H1 q).hole=true∨(H2 q).hole=true)) ∧
   H' []=⟨A,c,xs.length+ys.length,T.sz,false⟩:=by
 obtain⟨us,F1,rfl,hl,hle,hcm,hre,hru,hAn,hsub,_,hnd1,hcap,hcap0⟩:=hb.elems hh;obtain⟨htsz,htz⟩:=hti.ty T hty;have hisz:hti.i.size=T.sz:=by rw[hti.size,htsz]
 have hul:us.length=xs.length*T.sz:=hre.len;have hnl:news.length=ys.length*T.sz:=hx.len;have hpos:=T.sz_pos;have hnd:=List.nodup_append.1 hFG
 have happ:∀ h0:Hd,h0.hole=false→∀ p,(Happ h0 H1 H2 xs.length p).hole=true→∃ q,q≠[]∧((H1 q).hole=true∨(H2 q).hole=true):=by
  intro h0 hz p hp
  cases p with
  |nil=>simp only[Happ]at hp;rw[hz]at hp;cases hp
  |cons a p =>
   obtain⟨i,c⟩:=a;simp only[Happ]at hp;split at hp
   ·exact⟨_,by simp,.inl hp⟩
   ·exact⟨_,by simp,.inr hp⟩
 rw[← hl]
 by_cases hroom:xs.length+ys.length≤(H1 []).cap
 ·by_cases hc0:(H1 []).cap=0
  ·-- nothing at all
   have hx0:xs=[]:=List.eq_nil_of_length_eq_zero (by omega);have hy0:ys=[]:=List.eq_nil_of_length_eq_zero (by omega);subst hx0;subst hy0;have hrun:=zh4 (P:=P) (w:=w) t ty e hti.i ht hti.hi (H1 []).A X (H1 []).cap cx;refine⟨(H1 []).A,(H1 []).cap,w,[],fun p=>match p with | []=>⟨(H1 []).A,(H1 []).cap,0,T.sz,false⟩|a::q=>H0 q,hrun,?_,Kp.refl _ _,List.nodup_nil,(fun k hk=>by cases hk),(fun h=>by cases h),?_,rfl⟩
   ·rw[hc0];exact OwR.empty rfl
   ·intro p hp
    cases p with
    |nil=>cases hp
    |cons a q=>cases hp
  ·obtain⟨g,b,cells,hsz,hA,rfl,hg,hs,hcells⟩:=hcap hc0
   have hfit:b+xs.length*T.sz+news.length≤cells.size:=by
    have:=Nat.mul_le_mul_right T.sz hroom;rw[Nat.add_mul]at this;omega
   have hrun:=zdw (P:=P) (w:=w) t ty e hti.i ht hti.hi g b xs.length (H1 []).cap ys.length cx X [] news cells hg (by rw[hnl,hisz]) hr hX hx.one hroom (by rw[hisz];exact hfit);rw[hisz]at hrun;rw[hA]
   let cells':Array Value:=(cells.toList.take (b+xs.length*T.sz)++news++cells.toList.drop (b+xs.length*T.sz+news.length)).toArray
   have hg':HC (w.setRow g cells') g cells' e:=HC.set (by simp[cells'];omega) hg;have hgF:g∉F1:=(List.nodup_cons.1 hnd.1).1;have hgG:g∉G:=fun h=>hnd.2.2 g (by simp) g h rfl;have hw':∀ k,k≠g→(w.setRow g cells').heap[k]? = w.heap[k]?:=fun k hk=>setRow_other w g k cells' hk
   let Hn:=Happ ⟨some ⟨g,b,none⟩,(H1 []).cap,xs.length+ys.length,T.sz,false⟩ H1 H2 xs.length
   have hre2:RE (w.setRow g cells') T Hn (xs++ys) (us++news) (F1++G) :=
    RE.app (hre.frame (fun k hk=>hw' k (fun e=>hgF (e ▸ hk)))) (hx.frame (fun k hk=>hw' k (fun e=>hgG (e ▸ hk))))
   have hlen2:(xs++ys).length=xs.length+ys.length:=List.length_append
   have hu2:(cells'.toList.drop b).take ((xs++ys).length*T.sz)=us++news:=by
    apply List.ext_getElem?;intro j;have hsp:=zcv cells.toList news (b+xs.length*T.sz) (b+j) (by simpa using hfit)
    have hold:=congrArg (·[j]?) hcells
    simp only[List.getElem?_take,List.getElem?_drop]at hold ⊢;rw[hlen2,Nat.add_mul];simp only[cells',List.toList_toArray] ;rw[hsp]
    by_cases h1:j<xs.length*T.sz
    ·rw[if_pos (by omega),if_pos (by omega),List.getElem?_append_left (by omega)];rw[← hl,if_pos h1]at hold;exact hold
    ·rw[List.getElem?_append_right (by omega),hul]
     by_cases h2:j<xs.length*T.sz+ys.length*T.sz
     ·rw[if_pos h2,if_neg (by omega),if_pos (by omega)];congr 1;omega
     ·rw[if_neg h2,List.getElem?_eq_none (by omega)]
   have hlaid:=OwR.laid (b:=b) (cap:=(H1 []).cap) hre2 hg' hc0 (by omega) hcm (by simp[cells'];omega) hu2 (by simp[Hn,Happ]);rw[hlen2]at hlaid;refine⟨_,_,_,_,Hn,hrun,hlaid,?_,?_,?_,?_,happ _ rfl,rfl⟩
   ·exact⟨rfl,rfl,rfl,by simp,fun k _ hk=>hw' k (fun e=>hk (by rw[e];simp))⟩
   ·have:(g::(F1++G))=(g::F1)++G:=rfl;rw[this];exact hFG
   ·intro k hk;rcases List.mem_cons.1 hk with rfl|hk
    ·exact .inl (by simp)
    ·rcases List.mem_append.1 hk with hk|hk
     ·exact .inl (List.mem_cons_of_mem _ hk)
     ·exact .inr (.inl hk)
   ·intro hk
    exact absurd (hlt w.heap.size (by
     rcases List.mem_cons.1 hk with e|hk
     ·rw[e];simp
     ·rcases List.mem_append.1 hk with hk|hk
      ·simp[hk]
      ·simp[hk])) (Nat.lt_irrefl _)
 ·-- a new block
  have hg:(H1 []).cap<xs.length+ys.length:=by omega
  have hfit:=growslice_fits (old:=(H1 []).cap) hg hbd;have hgrow:=zdx (P:=P) (w:=w) t ty e hti.i hti.z ht hti.hi hti.hz (H1 []).A X xs.length (H1 []).cap ys.length cx us news (by rw[hul,hisz]) hru hAn (by rw[hnl,hisz]) hr hX hg (by simp only[maxLen]at hmx;omega) (by rw[hti.bytes];exact hfit);have hge:=grownCap_ge w (xs.length+ys.length) (H1 []).cap e;have hgm:=grownCap_le_maxLen w (xs.length+ys.length) (H1 []).cap e hmx;generalize hN:grownCap w (xs.length+ys.length) (H1 []).cap e=N at *
  have hzs:hti.z.cells.size=T.sz:=by
   have:=congrArg List.length hti.zs;simp at this;rw[this,← htz];clear this
   have:∀ T:Ty,T.zks.length=T.sz:=by
    intro T
    induction T with
    |pair a b iha ihb=>simp[Ty.zks,Ty.sz,iha,ihb]
    |_=>rfl
   exact this T
  let cells':Array Value:=us.toArray++news.toArray++Builtin.zeroCells hti.z.cells (N - (xs.length+ys.length))
  have hsz':cells'.size=N*T.sz:=by
   simp only[cells',Array.size_append,List.size_toArray,size_zeroCells,hzs,hul,hnl,← Nat.add_mul];congr 1;omega
  let w':=w.drew.alloc (.cells cells' e)
  have hg':HC w' w.heap.size cells' e:=.old (heap_alloc_new w.drew _);have hold:∀ k,k<w.heap.size→w'.heap[k]? = w.heap[k]?:=fun k hk=>Below.heap_alloc w.drew _ k hk
  let Hn:=Happ ⟨some ⟨w.heap.size,0,none⟩,N,xs.length+ys.length,T.sz,false⟩ H1 H2 xs.length
  have hre2:RE w' T Hn (xs++ys) (us++news) (F1++G) :=
   RE.app (hre.frame (fun k hk=>hold k (hlt k (by simp[hsub k hk])))) (hx.frame (fun k hk=>hold k (hlt k (by simp[hk]))))
  have hlen2:(xs++ys).length=xs.length+ys.length:=List.length_append
  have hlaid:=OwR.laid (b:=0) (cap:=N) hre2 hg' (by omega) (by omega) hgm (by omega) (by
   simp only[cells',Array.toList_append,List.drop_zero,hlen2];rw[show (xs.length+ys.length)*T.sz=(us++news).length by simp[hul,hnl,Nat.add_mul]]
   exact List.take_left) (by simp[Hn,Happ])
  rw[hlen2]at hlaid;refine⟨_,_,w',_,Hn,hgrow,hlaid,?_,?_,?_,?_,happ _ rfl,rfl⟩
  ·exact⟨rfl,rfl,rfl,by simp[w'],fun k hk _=>hold k hk⟩
  ·rw[List.nodup_cons];refine⟨fun hk=>?_,?_⟩
   ·rcases List.mem_append.1 hk with hk|hk
    ·exact absurd (hlt _ (by simp[hsub _ hk])) (Nat.lt_irrefl _)
    ·exact absurd (hlt w.heap.size (by simp[hk])) (Nat.lt_irrefl _)
   ·rw[List.nodup_append];exact⟨hnd1 hnd.1,hnd.2.1,fun a ha b hb=>hnd.2.2 a (hsub a ha) b hb⟩
  ·intro k hk;rcases List.mem_cons.1 hk with rfl|hk
   ·exact .inr (.inr rfl)
   ·rcases List.mem_append.1 hk with hk|hk
    ·exact .inl (hsub k hk)
    ·exact .inr (.inl hk)
  ·intro _;simp[w']
end
end Go.Proofs.Ytbjgiioppmkpiaa.Rx

