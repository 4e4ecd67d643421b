/- An evaluator over the program text, proved sound once: what a function computes on data, out of its code. No condition. -/
import Derived.ChangeArms
import Derived.ChangeOld
import Derived.Deep.Slices
import Derived.WideShapes
import Derived.DataReads
import Derived.Below
import Derived.Test.YtdkaagpkeomhmaaRxK3
namespace Go.Proofs.Ytdkaagpkeomhmaa.Rx
open Go Go.RowKit Go.ChangeShapes Go.WideShapes Go.Deep
set_option linter.unusedVariables false
set_option linter.unusedSimpArgs false
def WfT:(t:Ty)→t.den→Prop
 | .int k,(n:Int)=>(Lit.int k n).wf=true
 | .bool,_=>True
 | .str,(s:ByteArray)=>s.size≤9223372036854775807
 | .row _ t,xs=>xs.length≤9223372036854775807∧∀ x ∈ xs,WfT t x
 | .pair a b,x=>WfT a x.1∧WfT b x.2
def Opn {H:Type} (enc:TypeId × Value→H) (P:Program) (w:World) (tid:TypeId) (t:Ty):Prop :=
 ∀ fuel cs x,DataW.trod enc P w 0 (fun _=>true) true fuel tid cs=some x→∃ a:t.den,Cn w (fun k=>k < w.heap.size) t a cs∧WfT t a
section
variable {H:Type} {enc:TypeId × Value→H} {P:Program} {w:World} {tid e:TypeId}
theorem opn_int {k:IntKind} (ht:P.underlying tid=some (.int k)):Opn enc P w tid (.int k):=by
 intro fuel cs x h
 obtain ⟨n,rfl,_,hw⟩:=DataW.trod_int ht h
 exact ⟨n,rfl,hw⟩
theorem opn_bool (ht:P.underlying tid=some .bool):Opn enc P w tid .bool:=by
 intro fuel cs x h
 obtain ⟨n,rfl,_⟩:=DataW.trod_bool ht h
 exact ⟨n,rfl,trivial⟩
theorem opn_string (ht:P.underlying tid=some .string):Opn enc P w tid .str:=by
 intro fuel cs x h
 obtain ⟨s,rfl,_,hs⟩:=DataW.trod_string ht h
 exact ⟨s,rfl,hs⟩
theorem rl_of_at {t:Ty} {Z:Nat→Prop} {cells:List Value}:∀ (n b i0:Nat),b + n * t.sz≤cells.length→(∀ i,i < n→∃ x:t.den,Cn w Z t x ((cells.drop (b + i * t.sz)).take t.sz)∧WfT t x) →
  ∃ xs:List t.den,xs.length=n∧RL (fun _ x cs F=>Cn w Z t x cs∧F=[]) i0 xs ((cells.drop b).take (n * t.sz)) []∧∀ x ∈ xs,WfT t x
 | 0,b,i0,_,_=>⟨[],rfl,⟨by simp,rfl⟩,by simp⟩
 | n + 1,b,i0,hb,h=>by
  have hm:(n + 1) * t.sz=t.sz + n * t.sz:=by rw [Nat.add_mul,Nat.one_mul,Nat.add_comm]
  obtain ⟨x,hx,hw⟩:=h 0 (by omega)
  obtain ⟨xs,hl,hr,hws⟩:=rl_of_at (t:=t) (Z:=Z) (cells:=cells) n (b + t.sz) (i0 + 1) (by omega) (fun i hi=>by
   have:=h (i + 1) (by omega)
   rw [show b + (i + 1) * t.sz=b + t.sz + i * t.sz by rw [Nat.add_mul,Nat.one_mul]; omega] at this
   exact this)
  refine ⟨x :: xs,by simp [hl],⟨(cells.drop b).take t.sz,(cells.drop (b + t.sz)).take (n * t.sz),[],[],?_,rfl,⟨by simpa using hx,rfl⟩,hr⟩,?_⟩
  ·rw [hm,List.take_add,List.drop_drop]
  ·intro y hy
   rcases List.mem_cons.1 hy with rfl | hy
   ·exact hw
   ·exact hws y hy
theorem opn_slice {t:Ty} (ht:P.underlying tid=some (.slice e)) (hc:P.cellsOf e=t.sz) (h:Opn enc P w e t):Opn enc P w tid (.row e t):=by
 intro fuel cs x hx
 rcases open_slice ht hx with ⟨rfl,_⟩ | ⟨a,len,cap,m,n,D,Pl,rfl,hb,hl,hm,hmm,_,hi⟩
 ·exact ⟨[],⟨_,rfl,CnR.nil⟩,by simp,by simp⟩
 ·simp only [if_true] at hmm
  have hsz:1≤t.sz:=Ty.sz_pos t
  have hmax:cap≤9223372036854775807:=by
   have:maxLen=9223372036854775807:=rfl
   omega
  rcases Nat.eq_zero_or_pos len with h0 | h0
  ·subst h0
   exact ⟨[],⟨_,rfl,some a,cap,rfl,Nat.zero_le _,by omega,.inl rfl,fun h=>by cases h⟩,by simp,by simp⟩
  ·rw [hc] at hi
   have key:∀ i,i < len→∃ x:t.den,∃ c,c.length=t.sz∧Cn w (fun k=>k < w.heap.size) t x c∧WfT t x∧∀ j,j < t.sz→w.cell? ((a.add (i * t.sz)).add j)=c[j]?:=by
    intro i hil
    obtain ⟨cs',hcs,htr⟩:=hi i (by omega)
    obtain ⟨x,hK,hW⟩:=h _ _ _ htr
    obtain ⟨_,hcl,hat⟩:=World.cells?_some hcs
    exact ⟨x,cs',hcl,hK,hW,hat⟩
   obtain ⟨g,b,sp⟩:=a
   obtain ⟨x0,c0,hc0,_,_,hat0⟩:=key 0 h0
   have h1:=hat0 0 (by omega)
   rw [List.getElem?_eq_getElem (by omega)] at h1
   unfold World.cell? at h1
   have hg0:((Addr.add ⟨g,b,sp⟩ (0 * t.sz)).add 0).block=g:=by simp [Addr.add]
   rw [hg0] at h1
   cases hg:w.heap[g]? with
   | none=>simp [hg] at h1
   | some o =>
    cases o with
    | cells cells q fz =>
     have hsp:sp=none:=by
      simp only [hg] at h1
      have:((Addr.add ⟨g,b,sp⟩ (0 * t.sz)).add 0).spot=sp:=by simp [Addr.add]
      rw [this] at h1
      cases sp with
      | none=>rfl
      | some s=>simp at h1
     subst hsp
     have cellat:∀ j,w.cell? ⟨g,j,none⟩=cells[j]?:=by
      intro j
      unfold World.cell?
      simp [hg]
     have addat:∀ i j,((Addr.add ⟨g,b,none⟩ i).add j)=⟨g,b + i + j,none⟩:=by
      intro i j
      unfold Addr.add
      by_cases hi:i=0 <;> by_cases hj:j=0 <;> simp [hi,hj]
     have hlast:b + len * t.sz≤cells.size:=by
      obtain ⟨x,c,hcl,_,_,hat⟩:=key (len - 1) (by omega)
      have:=hat (t.sz - 1) (by omega)
      rw [addat,cellat,List.getElem?_eq_getElem (by omega)] at this
      have hlt:=(Array.getElem?_eq_some_iff.1 this).1
      have hm:len * t.sz=(len - 1) * t.sz + t.sz:=by
       conv=>lhs; rw [show len=(len - 1) + 1 by omega,Nat.add_mul,Nat.one_mul]
      omega
     obtain ⟨xs,hxl,hr,hws⟩:=rl_of_at (w:=w) (t:=t) (Z:=fun k=>k < w.heap.size) (cells:=cells.toList) len b 0 (by simpa using hlast) (fun i hil=>by
      obtain ⟨x,c,hcl,hK,hW,hat⟩:=key i hil
      refine ⟨x,?_,hW⟩
      have:(cells.toList.drop (b + i * t.sz)).take t.sz=c:=by
       have hm:=Nat.mul_le_mul_right t.sz (show i + 1≤len by omega)
       rw [Nat.add_mul,Nat.one_mul] at hm
       apply List.ext_getElem?
       intro j
       rcases Nat.lt_or_ge j t.sz with hj | hj
       ·rw [List.getElem?_take_of_lt hj,List.getElem?_drop,Array.getElem?_toList,← hat j hj,addat,cellat]
       ·rw [List.getElem?_take_eq_none hj,List.getElem?_eq_none (by omega)]
      rw [this]
      exact hK)
     refine ⟨xs,⟨_,rfl,some ⟨g,b,none⟩,cap,by rw [hxl],by rw [hxl]; omega,by omega,.inr ⟨g,b,cells,q,fz,rfl,?_,hg,by rw [hxl]; exact hlast,by rw [hxl]; exact hr⟩,fun h=>by cases h⟩,by omega,hws⟩
     exact (Array.getElem?_eq_some_iff.1 hg).1
    | _=>simp [hg] at h1
inductive OpnFs {H:Type} (enc:TypeId × Value→H) (P:Program) (w:World):List Field→Nat→Ty→Prop where
 | one (f:Field) (o:Nat) (t:Ty) (ho:f.offset=o) (hc:P.cellsOf f.type=t.sz) (h:Opn enc P w f.type t):OpnFs enc P w [f] o t
 | cons (f:Field) (fs:List Field) (o:Nat) (a b:Ty) (ho:f.offset=o) (hc:P.cellsOf f.type=a.sz) (h:Opn enc P w f.type a) (hs:OpnFs enc P w fs (o + a.sz) b):OpnFs enc P w (f :: fs) o (.pair a b)
theorem opnFs_open {fs:List Field} {o:Nat} {t:Ty} (h:OpnFs enc P w fs o t):∀ {cs:List Value} {n:Nat} {xs:List (DataW H × List MemPlace)},cs.length=o + t.sz→xs.length=fs.length →
  (∀ (i:Nat) (f:Field),fs[i]? = some f→DataW.trod enc P w 0 (fun _=>true) true n f.type ((cs.drop f.offset).take (P.cellsOf f.type))=xs[i]?)→∃ a:t.den,Cn w (fun k=>k < w.heap.size) t a (cs.drop o)∧WfT t a:=by
 induction h with
 | one f o t ho hc h =>
  intro cs n xs hl hx hf
  have h0:=hf 0 f rfl
  rw [List.getElem?_eq_getElem (by simp [hx])] at h0
  obtain ⟨a,ha,hw⟩:=h _ _ _ h0
  rw [ho,hc,List.take_of_length_le (by simp; omega)] at ha
  exact ⟨a,ha,hw⟩
 | cons f fs o a b ho hc h hs ih =>
  intro cs n xs hl hx hf
  have hl':cs.length=o + (a.sz + b.sz):=hl
  have h0:=hf 0 f rfl
  rw [List.getElem?_eq_getElem (by simp [hx])] at h0
  obtain ⟨x,hx1,hw1⟩:=h _ _ _ h0
  rw [ho,hc] at hx1
  obtain ⟨y,hy1,hw2⟩:=ih (cs:=cs) (n:=n) (xs:=xs.drop 1) (by omega) (by simp [hx]) (fun i f hi=>by
   rw [List.getElem?_drop,Nat.add_comm]
   exact hf (i + 1) f (by simpa using hi))
  exact ⟨(x,y),⟨(cs.drop o).take a.sz,cs.drop (o + a.sz),by rw [← List.drop_drop,List.take_append_drop],hx1,hy1⟩,hw1,hw2⟩
theorem opn_struct {fs:Array Field} {l:List Field} {t:Ty} (ht:P.underlying tid=some (.struct fs)) (hfs:fs.toList=l) (hc:P.cellsOf tid=t.sz) (h:OpnFs enc P w l 0 t):Opn enc P w tid t:=by
 intro fuel cs x hx
 obtain ⟨xs,n,_,_,hlen,hxs,hf⟩:=DataW.trod_struct ht hx
 have:=opnFs_open h (cs:=cs) (n:=n) (xs:=xs) (by rw [hlen,hc]; omega) (by rw [hxs,← hfs]; simp) (fun i f hi=>hf i f (by rw [← hfs] at hi; simpa using hi))
 simpa using this
variable {base:Nat} {r:Go.Reach} {v:Value} {d:DataW H} {ps:List MemPlace} {t:Ty}
theorem arg_slice (ht:P.underlying tid=some (.slice e)) (ho:Opn enc P w tid t) (hv:Value.okWide P w r base tid v) (h:DataW.Trod enc P w 0 (fun _=>true) true tid v d ps) :
  ∃ x:t.den,ArgR w (fun k=>k < w.heap.size) (.val t false) x v []∧WfT t x:=by
 obtain ⟨a,l,c,rfl⟩:=okWide_slice ht hv
 obtain ⟨fuel,hf⟩:=h
 obtain ⟨x,hx,hw⟩:=ho _ _ _ hf
 exact ⟨x,⟨rfl,rfl,hx⟩,hw⟩
theorem arg_struct {fs:Array Field} (ht:P.underlying tid=some (.struct fs)) (ho:Opn enc P w tid t) (hv:Value.okWide P w r base tid v) (h:DataW.Trod enc P w 0 (fun _=>true) true tid v d ps) :
  ∃ x:t.den,ArgR w (fun k=>k < w.heap.size) (.val t true) x v []∧WfT t x:=by
 obtain ⟨cs,rfl,_⟩:=okWide_struct ht hv
 obtain ⟨fuel,hf⟩:=h
 obtain ⟨x,hx,hw⟩:=ho _ _ _ hf
 exact ⟨x,⟨rfl,cs,rfl,hx⟩,hw⟩
theorem arg_int {k:IntKind} (ht:P.underlying tid=some (.int k)) (hv:Value.okWide P w r base tid v) (h:DataW.Trod enc P w 0 (fun _=>true) true tid v d ps) :
  ∃ x:Int,ArgR w (fun k=>k < w.heap.size) (.val (.int k) false) x v []∧(Lit.int k x).wf=true:=by
 obtain ⟨n,rfl,_,_,hw⟩:=open_int ht hv h
 exact ⟨n,⟨rfl,rfl,rfl⟩,hw⟩
theorem arg_bool (ht:P.underlying tid=some .bool) (hv:Value.okWide P w r base tid v) (h:DataW.Trod enc P w 0 (fun _=>true) true tid v d ps) :
  ∃ x:Bool,ArgR w (fun k=>k < w.heap.size) (.val .bool false) x v []:=by
 obtain ⟨n,rfl,_⟩:=open_bool ht hv h
 exact ⟨n,⟨rfl,rfl,rfl⟩⟩
theorem arg_string (ht:P.underlying tid=some .string) (ho:Opn enc P w tid .str) (hv:Value.okWide P w r base tid v) (h:DataW.Trod enc P w 0 (fun _=>true) true tid v d ps) :
  ∃ x:ByteArray,ArgR w (fun k=>k < w.heap.size) (.val .str false) x v []∧x.size≤9223372036854775807:=by
 obtain ⟨s,rfl⟩:=okWide_string ht hv
 obtain ⟨fuel,hf⟩:=h
 obtain ⟨x,hx,hw⟩:=ho _ _ _ hf
 exact ⟨x,⟨rfl,rfl,hx⟩,hw⟩
theorem call_law {f:FuncId} {ks:List PK} {st:Bool} {F:Nat→argsD ks→Option (retsD [.val .bool false] × outsD ks)} (hh:Holds P f ⟨ks,[.val .bool false],st,F⟩) {W:World} {vs:List Value} {x:argsD ks} {Fs:List (List Nat)} (hF:Fs.flatten=[])
  (ha:ArgsR W (fun k=>k < W.heap.size) ks x vs Fs) {n:Nat} {o:outsD ks} (he:F n x=some ((true,()),o)) :
  Calls P f vs.toArray W fun e W'=>e = .returned (.bool true)∧Below W.heap.size W W':=by
 refine (hh n W (fun k=>k < W.heap.size) vs x Fs _ (fun k hk=>⟨hk,by rw [hF]; simp⟩) (by rw [hF]; simp) (by rw [hF]; exact List.nodup_nil) ha he).mono ?_
 rintro e W' ⟨us,Gs,Os,rfl,hr,_,_,_,hk⟩
 cases us with
 | nil=>cases Gs <;> exact hr.elim
 | cons u us =>
 cases Gs with
 | nil=>exact hr.elim
 | cons G Gs =>
 cases us with
 | cons _ _=>cases Gs <;> exact hr.2.elim
 | nil =>
 cases Gs with
 | cons _ _=>exact hr.2.elim
 | nil =>
  obtain ⟨⟨_,_,hv⟩,_⟩:=hr
  injection hv with hv
  subst hv
  refine ⟨rfl,hk.os,hk.tape,hk.output,hk.size,fun k hlt=>hk.block k hlt (by rw [hF]; simp)⟩
end
end Go.Proofs.Ytdkaagpkeomhmaa.Rx

