/- Plain laws of those functions, no program in sight: the law answers true on all data. No condition. -/
import GoSem.Claim
import Derived.WalkKit
import Derived.Test.YtbjgiioppmkpiaaMF2
set_option linter.unusedVariables false
set_option linter.unusedSimpArgs false
namespace Go.Proofs.Ytbjgiioppmkpiaa.Rx.Gr
section
variable(e:Nat→List Nat)(fo:Nat→Bool)
def chl(i:Nat):List Nat:=(e i).filter fo
def bfs:Nat→List Nat→List Nat→Option (List Nat)
 |_,done,[]=>some done
 |0,_,_::_=>none
 |k+1,done,id::todo=>if id∈done then none else bfs k (done++[id]) (todo++chl e fo id)
def up(ab:Nat→Nat):Nat→Nat→Bool
 |k,0=>true
 |0,_+1=>false
 |k+1,x+1=>up ab k (ab (x+1))
def many(N x:Nat):Nat:=((List.range N).flatMap e).count x
inductive Way:Nat→Nat→Prop
 |root:Way 0 0
 |next {x y k:Nat}:Way x k→y∈chl e fo x→Way y (k+1)
variable{e fo}
theorem zbg:∀ {A B:List Nat} (x:Nat),A.Nodup→(∀ a∈A,a∈B)→(A.flatMap e).count x≤(B.flatMap e).count x
 | [],B,x,_,_=>by simp
 |a::A,B,x,hn,hs=>by
  obtain⟨B1,B2,rfl⟩:=List.append_of_mem (hs a List.mem_cons_self);have hn':=List.nodup_cons.1 hn
  have ih:=zbg (A:=A) (B:=B1 ++ B2) x hn'.2 (fun b hb=>by
   have:=hs b (List.mem_cons_of_mem _ hb);rcases List.mem_append.1 this with h|h
   ·exact List.mem_append_left _ h
   ·rcases List.mem_cons.1 h with h|h
    ·subst h;exact absurd hb hn'.1
    ·exact List.mem_append_right _ h)
  simp only[List.flatMap_cons,List.flatMap_append,List.count_append]at ih ⊢;omega
theorem nodup_len:∀ {A B:List Nat},A.Nodup→(∀ a∈A,a∈B)→A.length≤B.length
 | [],B,_,_=>by simp
 |a::A,B,hn,hs=>by
  obtain⟨B1,B2,rfl⟩:=List.append_of_mem (hs a List.mem_cons_self);have hn':=List.nodup_cons.1 hn
  have ih:=nodup_len (A:=A) (B:=B1 ++ B2) hn'.2 (fun b hb=>by
   have:=hs b (List.mem_cons_of_mem _ hb);rcases List.mem_append.1 this with h|h
   ·exact List.mem_append_left _ h
   ·rcases List.mem_cons.1 h with h|h
    ·subst h;exact absurd hb hn'.1
    ·exact List.mem_append_right _ h)
  simp only[List.length_append,List.length_cons]at ih ⊢;omega
theorem zpk(x:Nat)(A:List Nat):(A.flatMap (chl e fo)).count x≤(A.flatMap e).count x:=by
 induction A with
 |nil=>simp
 |cons a A ih =>
  simp only[List.flatMap_cons,List.count_append];have:(chl e fo a).count x≤(e a).count x:=List.Sublist.count_le x List.filter_sublist;omega
theorem zyo(x:Nat)(hx:fo x=true)(A:List Nat):(A.flatMap (chl e fo)).count x=(A.flatMap e).count x:=by
 induction A with
 |nil=>simp
 |cons a A ih =>
  simp only[List.flatMap_cons,List.count_append,ih];have:(chl e fo a).count x=(e a).count x:=List.count_filter hx;omega
structure Inv(N:Nat)(e:Nat→List Nat)(fo:Nat→Bool)(done todo:List Nat):Prop where
 eq:done++todo=0::done.flatMap (chl e fo)
 nd:done.Nodup
 lt:∀ x∈done++todo,x<N∧fo x=true
theorem Inv.step{N id:Nat}{done todo:List Nat}(hr:∀ i,∀ x∈e i,x<N)(h:Inv N e fo done (id::todo))(hid:id∉done):Inv N e fo (done++[id]) (todo++chl e fo id):=by
 refine⟨?_,?_,fun x hx=>?_⟩
 ·have:=h.eq;rw[List.flatMap_append,List.flatMap_singleton,← List.cons_append,← this];simp
 ·rw[List.nodup_append];exact⟨h.nd,by simp,fun a ha b hb=>by rw[List.mem_singleton.1 hb];rintro rfl;exact hid ha⟩
 ·have:x∈done++(id::todo)∨x∈chl e fo id:=by simp at hx ⊢;grind
  rcases this with h1|h1
  ·exact h.lt x h1
  ·obtain⟨h2,h3⟩:=List.mem_filter.1 h1;exact⟨hr id x h2,h3⟩
theorem Inv.len{N:Nat}{done todo:List Nat}(h:Inv N e fo done todo):done.length≤N:=by
 have:=nodup_len (B:=List.range N) h.nd (fun a ha=>List.mem_range.2 (h.lt a (List.mem_append_left _ ha)).1);simpa using this
theorem zn4{N:Nat}(hr:∀ i,∀ x∈e i,x<N):∀ {k:Nat} {done todo D:List Nat},Inv N e fo done todo→(∀ x∈done++todo,∃ q,q≤done.length∧Way e fo x q)→bfs e fo k done todo=some D→Inv N e fo D []∧∀ x∈D,∃ q,q≤N∧Way e fo x q
 |k,done,[],D,h,hw,hb=>by
  have hb':done=D:=by cases k <;> (simp only[bfs]at hb;injection hb)
  subst hb';exact⟨h,fun x hx=>by obtain⟨q,h1,h2⟩:=hw x (by simpa using hx);exact⟨q,Nat.le_trans h1 h.len,h2⟩⟩
 |0,done,id::todo,D,h,hw,hb=>by simp[bfs]at hb
 |k+1,done,id::todo,D,h,hw,hb=>by
  simp only[bfs]at hb;split at hb
  ·cases hb
  ·rename_i hid;refine zn4 hr (h.step hr hid) (fun x hx=>?_) hb;have:x∈done++(id::todo)∨x∈chl e fo id:=by simp at hx ⊢;grind
   rcases this with h1|h1
   ·obtain⟨q,h2,h3⟩:=hw x h1;exact⟨q,by simp;omega,h3⟩
   ·obtain⟨q,h2,h3⟩:=hw id (by simp);exact⟨q+1,by simp;omega,.next h3 h1⟩
theorem inv0 {N:Nat} (hN:0 < N) (h0:fo 0=true):Inv N e fo [] [0]:=⟨rfl,List.nodup_nil,fun x hx=>by
 have:x=0:=by simpa using hx
 subst this
 exact⟨hN,h0⟩⟩
theorem zsj{N x i j:Nat}(hi:i<N)(hj:j<N)(hij:i≠j)(h1:x∈e i)(h2:x∈e j):2≤many e N x:=by
 have h:=zbg (e:=e) (A:=[i,j]) (B:=List.range N) x (by simp [hij]) (fun a ha=>by
  rcases List.mem_cons.1 ha with rfl|ha
  ·exact List.mem_range.2 hi
  ·rw[List.mem_singleton.1 ha];exact List.mem_range.2 hj)
 have c1:=List.count_pos_iff.2 h1;have c2:=List.count_pos_iff.2 h2;simp only[List.flatMap_cons,List.flatMap_nil,List.count_append,List.count_nil]at h;unfold many;omega
theorem zuu{N:Nat}{ab:Nat→Nat}(hr:∀ i,∀ x∈e i,x<N)(hN:0<N)(h1:∀ x,x<N→fo x=true→x≠0→many e N x=1)(hab:∀ x,many e N x=1→ab x<N∧x∈e (ab x)):∀ {x k:Nat},Way e fo x k→x<N∧up ab k x=true
 |_,_,.root=>⟨hN,by simp[up]⟩
 |y,_,.next (x:=x) (k:=k) hw hy=>by
  obtain⟨hx,ih⟩:=zuu hr hN h1 hab hw;obtain⟨hy1,hy2⟩:=List.mem_filter.1 hy;have hyN:=hr x y hy1;refine⟨hyN,?_⟩
  cases y with
  |zero=>simp[up]
  |succ y =>
   have hm:=h1 (y+1) hyN hy2 (by omega);obtain⟨ha1,ha2⟩:=hab (y+1) hm
   have:ab (y+1)=x:=by
    by_cases hne:ab (y+1)=x
    ·exact hne
    ·have:=zsj ha1 hx hne ha2 hy1;omega
   simp only[up,this];exact ih
theorem folders_iff{N K:Nat}{ab:Nat→Nat}(hN:0<N)(hK:N<K)(hr:∀ i,∀ x∈e i,x<N)(hz:∀ i,0∉e i)(hf:∀ i,e i≠[]→fo i=true)(hl:∀ i,N≤i→e i=[])(h0:fo 0=true)
  (hab:∀ x,many e N x=1→ab x<N∧x∈e (ab x)) :
  ((∃ D,bfs e fo K [] [0]=some D∧∀ x,x<N→fo x=true→x∈D)↔(∀ x,x<N→fo x=true→x≠0→many e N x=1∧up ab (N+1) x=true))∧(∀ D,bfs e fo K [] [0]=some D→Inv N e fo D []):=by
 have upmono:∀ (k m x:Nat),k≤m→up ab k x=true→up ab m x=true:=by
  intro k
  induction k with
  |zero =>
   intro m x _ h
   cases x with
   |zero=>cases m <;> simp[up]
   |succ x=>simp[up]at h
  |succ k ih =>
   intro m x hm h
   cases x with
   |zero=>cases m <;> simp[up]
   |succ x =>
    obtain⟨m,rfl⟩:∃ m',m=m'+1:=⟨m - 1,by omega⟩;simp only[up]at h ⊢;exact ih m _ (by omega) h
 have hway0:∀ x∈([]:List Nat)++[0],∃ q,q≤([]:List Nat).length∧Way e fo x q:=fun x hx=>by
  have:x=0:=by simpa using hx
  subst this;exact⟨0,Nat.le_refl _,.root⟩
 refine⟨⟨?_,?_⟩,fun D hD=>(zn4 hr (inv0 hN h0) hway0 hD).1⟩
 ·rintro ⟨D,hD,hall⟩;obtain⟨hinv,hway⟩:=zn4 hr (inv0 hN h0) hway0 hD;have heq:D=0::D.flatMap (chl e fo):=by simpa using hinv.eq
  have hone:∀ x,x<N→fo x=true→x≠0→many e N x=1:=by
   intro x hx hfx hx0;have hxD:=hall x hx hfx
   have c1:D.count x=1:=by
    have:=hinv.nd.count (a:=x);rw[this,if_pos hxD]
   have c2:D.count x=(D.flatMap (chl e fo)).count x:=by
    conv=>lhs;rw[heq]
    rw[List.count_cons_of_ne (fun e=>hx0 e.symm)]
   have c3:=zyo (e:=e) x hfx D;have hle1:=zbg (e:=e) (A:=D) (B:=List.range N) x hinv.nd (fun a ha=>List.mem_range.2 (hinv.lt a (by simpa using ha)).1)
   -- all entries lie in folders,all folders are met
   have hsub:∀ A:List Nat,A.Nodup→(∀ a∈A,a<N)→(A.flatMap e).count x≤(D.flatMap e).count x:=by
    intro A hA hAN
    have hfil:(A.flatMap e).count x=((A.filter fun i=>fo i).flatMap e).count x:=by
     clear hA hAN
     induction A with
     |nil=>rfl
     |cons a A ih =>
      rw[List.filter_cons];split
      ·simp only[List.flatMap_cons,List.count_append,ih]
      ·rename_i hna
       have:e a=[]:=by
        by_cases hea:e a=[]
        ·exact hea
        ·exact absurd (hf a hea) hna
       simp only[List.flatMap_cons,List.count_append,this,List.count_nil,ih];omega
    rw[hfil];refine zbg x (hA.sublist List.filter_sublist) (fun a ha=>?_);obtain⟨ha1,ha2⟩:=List.mem_filter.1 ha;exact hall a (hAN a ha1) ha2
   have hle2:=hsub (List.range N) List.nodup_range (fun a ha=>List.mem_range.1 ha);unfold many;omega
  intro x hx hfx hx0;obtain⟨q,hq,hw⟩:=hway x (hall x hx hfx);exact⟨hone x hx hfx hx0,upmono q (N+1) x (by omega) (zuu hr hN hone hab hw).2⟩
 ·intro h;have hone:∀ x,x<N→fo x=true→x≠0→many e N x=1:=fun x a b c=>(h x a b c).1
  have hm0:many e N 0=0:=by
   unfold many;rw[List.count_eq_zero];intro hm;obtain⟨i,_,hi⟩:=List.mem_flatMap.1 hm;exact hz i hi
  have run:∀ (k:Nat) (done todo:List Nat),Inv N e fo done todo→N+1≤k+done.length→∃ D,bfs e fo k done todo=some D∧Inv N e fo D []:=by
   intro k
   induction k with
   |zero =>
    intro done todo hi hk;have:=hi.len;omega
   |succ k ih =>
    intro done todo hi hk
    cases todo with
    |nil=>exact⟨done,by simp[bfs],hi⟩
    |cons id todo =>
     have hid:id∉done:=by
      intro hmem;have hlt:=hi.lt id (by simp)
      have c1:2≤(done++id::todo).count id:=by
       have:=List.count_pos_iff.2 hmem;rw[List.count_append,List.count_cons_self];omega
      rw[hi.eq]at c1;have c2:=zpk (e:=e) (fo:=fo) id done;have c3:=zbg (e:=e) (A:=done) (B:=List.range N) id hi.nd (fun a ha=>List.mem_range.2 (hi.lt a (List.mem_append_left _ ha)).1)
      by_cases h0':id=0
      ·subst h0';rw[List.count_cons_self]at c1;unfold many at hm0;omega
      ·rw[List.count_cons_of_ne (fun e=>h0' e.symm)]at c1;have:=hone id hlt.1 hlt.2 h0';unfold many at this;omega
     obtain⟨D,h1,h2⟩:=ih (done++[id]) (todo++chl e fo id) (hi.step hr hid) (by simp;omega);exact⟨D,by simp only[bfs,if_neg hid];exact h1,h2⟩
  obtain⟨D,hD,hinv⟩:=run K [] [0] (inv0 hN h0) (by simp;omega);have heq:D=0::D.flatMap (chl e fo):=by simpa using hinv.eq
  refine⟨D,hD,fun x hx hfx=>?_⟩
  have key:∀ (k x:Nat),x<N→fo x=true→up ab k x=true→x∈D:=by
   intro k
   induction k with
   |zero =>
    intro x hx hfx hu
    cases x with
    |zero=>rw[heq];exact List.mem_cons_self
    |succ x=>simp[up]at hu
   |succ k ih =>
    intro x hx hfx hu
    cases x with
    |zero=>rw[heq];exact List.mem_cons_self
    |succ x =>
     simp only[up]at hu;obtain⟨ha1,ha2⟩:=hab (x+1) (hone (x+1) hx hfx (by omega));have hp:=ih (ab (x+1)) ha1 (hf _ (fun hn=>by rw[hn]at ha2;cases ha2)) hu;rw[heq];exact List.mem_cons_of_mem _ (List.mem_flatMap.2 ⟨_,hp,List.mem_filter.2 ⟨ha2,hfx⟩⟩)
  by_cases hx0:x=0
  ·subst hx0;rw[heq];exact List.mem_cons_self
  ·exact key _ x hx hfx (h x hx hfx hx0).2
end
end Go.Proofs.Ytbjgiioppmkpiaa.Rx.Gr
namespace Go.Proofs.Ytbjgiioppmkpiaa.Rx.Pu
open Go
theorem wr{x:Int}(h0:-9223372036854775808≤x)(h1:x≤9223372036854775807):IntKind.i64.wrap x=x:=by
 have e1:(2:Int) ^ IntKind.i64.bits=18446744073709551616:=rfl;have e2:(2:Int) ^ (IntKind.i64.bits - 1)=9223372036854775808:=rfl;have e3:IntKind.i64.signed=true:=rfl;unfold IntKind.wrap;simp only[e1,e2,e3,Bool.true_and,decide_eq_true_eq];split <;> omega
theorem zn1{α:Type}{p:Prop}[Decidable p]{a b:α}:cond (decide p) a b=if p then a else b:=by
 by_cases h:p <;> simp[h]
theorem zaa(i:Nat):((i:Int)).toNat=i:=rfl
theorem zb1{α:Type}{l:List α}{i:Nat}{d:α}(h:i<l.length):l.drop i=l.getD i d::l.drop (i+1):=by
 rw[List.drop_eq_getElem_cons h,List.getD_eq_getElem?_getD,List.getElem?_eq_getElem h,Option.getD_some]
theorem zur{a b:Int}(ha:0≤a)(ha2:a<4611686018427387904)(hb:0≤b)(hb2:b<4611686018427387904) :
  0≤IntKind.i64.wrap ((BitVec.ofInt IntKind.i64.bits a ^^^ BitVec.ofInt IntKind.i64.bits b).toNat:Int):=by
 have e0:IntKind.i64.bits=64:=rfl;obtain⟨m,rfl⟩:=Int.eq_ofNat_of_zero_le ha;obtain⟨k,rfl⟩:=Int.eq_ofNat_of_zero_le hb;have hm:m<2 ^ 62:=by omega
 have hk:k<2 ^ 62:=by omega
 have hx:m ^^^ k<2 ^ 62:=Nat.xor_lt_two_pow hm hk
 have e:(BitVec.ofInt IntKind.i64.bits (m:Int) ^^^ BitVec.ofInt IntKind.i64.bits (k:Int)).toNat=m ^^^ k:=by
  have h1:∀ j:Nat,j<2 ^ 62→(BitVec.ofInt IntKind.i64.bits (j:Int)).toNat=j:=by
   intro j hj;rw[BitVec.toNat_ofInt];have e9:((2 ^ IntKind.i64.bits:Nat):Int)=18446744073709551616:=rfl;rw[e9];omega
  rw[BitVec.toNat_xor,h1 m hm,h1 k hk]
 rw[e,wr (by omega) (by omega)];omega
theorem zei{a b:Int}(ha:0≤a)(hb:1≤b):0≤a.tmod b∧a.tmod b<b:=by
 rw[Int.tmod_eq_emod_of_nonneg ha];exact⟨Int.emod_nonneg _ (by omega),Int.emod_lt_of_pos _ (by omega)⟩
theorem zlx{a b:Int}(ha:0≤a)(hb:1≤b):0≤a.tdiv b∧a.tdiv b≤a:=by
 rw[Int.tdiv_eq_ediv_of_nonneg ha];exact⟨Int.ediv_nonneg ha (by omega),Int.ediv_le_self _ ha⟩
end Go.Proofs.Ytbjgiioppmkpiaa.Rx.Pu
namespace Go.Proofs.Ytbjgiioppmkpiaa.Rx.Fs
open Go Go.Proofs.Ytbjgiioppmkpiaa.Rx.Pu Go.Proofs.Ytbjgiioppmkpiaa.Rx.Gr
theorem zk3:∀ a:List UInt8,Op.bytesLess a a=false
 | []=>rfl
 |a::x=>by simp[Op.bytesLess,zk3 x,UInt8.lt_irrefl]
theorem zmm:∀ {a b c:List UInt8},Op.bytesLess a b=true→Op.bytesLess b c=true→Op.bytesLess a c=true
 |_,[],_,h,_=>by simp[Op.bytesLess]at h
 |_,_::_,[],_,h=>by simp[Op.bytesLess]at h
 | [],_::_,_::_,_,_=>rfl
 |a::x,b::y,c::z,h,h'=>by
  simp only[Op.bytesLess,Bool.or_eq_true,Bool.and_eq_true,decide_eq_true_eq,beq_iff_eq]at h h' ⊢;rcases h with h|⟨rfl,h⟩ <;> rcases h' with h'|⟨rfl,h'⟩
  ·exact .inl (UInt8.lt_trans h h')
  ·exact .inl h
  ·exact .inl h'
  ·exact .inr ⟨rfl,zmm h h'⟩
theorem zmn:∀ (a b:List UInt8),Op.bytesLess a b=true∨a=b∨Op.bytesLess b a=true
 | [],[]=>.inr (.inl rfl)
 | [],_::_=>.inl rfl
 |_::_,[]=>.inr (.inr rfl)
 |a::x,b::y=>by
  simp only[Op.bytesLess,Bool.or_eq_true,Bool.and_eq_true,decide_eq_true_eq,beq_iff_eq,List.cons.injEq]
  by_cases hab:a=b
  ·subst hab;rcases zmn x y with h|h|h
   ·exact .inl (.inr ⟨rfl,h⟩)
   ·exact .inr (.inl ⟨rfl,h⟩)
   ·exact .inr (.inr (.inr ⟨rfl,h⟩))
  ·rcases UInt8.lt_or_lt_of_ne hab with h|h
   ·exact .inl (.inl h)
   ·exact .inr (.inr (.inl h))
def lt(a b:ByteArray):Bool:=Op.bytesLess a.toList b.toList
theorem toList_inj{a b:ByteArray}(h:a.toList=b.toList):a=b:=by
 rw[ByteArray.toList_eq,ByteArray.toList_eq]at h
 cases a with
 |mk x=>cases b with
  |mk y =>
   congr 1;exact Array.toList_inj.1 h
theorem zh2(a b:ByteArray):(a.toList == b.toList)=decide (a=b):=by
 by_cases h:a=b
 ·subst h;simp
 ·have:a.toList≠b.toList:=fun e=>h (toList_inj e);simp[h,this]
theorem lt_irrefl(a:ByteArray):lt a a=false:=zk3 _
theorem lt_trans{a b c:ByteArray}(h:lt a b=true)(h':lt b c=true):lt a c=true:=zmm h h'
theorem zsl(a b:ByteArray):lt a b=true∨a=b∨lt b a=true:=by
 rcases zmn a.toList b.toList with h|h|h
 ·exact .inl h
 ·exact .inr (.inl (toList_inj h))
 ·exact .inr (.inr h)
theorem zsm{a b:ByteArray}(h:lt a b=true):lt b a=false:=by
 cases h':lt b a with
 |false=>rfl
 |true=>have:=lt_trans h h';rw[lt_irrefl]at this;cases this
theorem zeb(a:ByteArray):(a.toList == (ByteArray.mk #[]).toList)=decide (a.size=0):=by
 rw[zh2]
 have h:a=ByteArray.mk #[]↔a.size=0:=by
  constructor
  ·rintro rfl;rfl
  ·intro h
   cases a with
   |mk x =>
    congr 1;exact Array.eq_empty_of_size_eq_zero h
 simp only[h]
def zb0(b:UInt8):Bool:=decide (97≤b.toNat∧b.toNat≤122)
def nmOk(s:ByteArray):Bool:=decide (1≤s.size∧s.size≤3)&&s.data.toList.all zb0
theorem zm5(s:ByteArray):s.data.toList.length=s.size:=by rw[Array.length_toList];rfl
theorem zxz(s:ByteArray)(i:Nat)(h:i<s.size):s.get! i=s.data.toList.getD i 0:=by
 cases s with
 |mk d =>
  have h':i<d.size:=h;show d[i]! = _;rw[getElem!_pos d i h',List.getD_eq_getElem?_getD,List.getElem?_eq_getElem (by simpa using h')];simp
theorem yp0(s:ByteArray)(i:Nat)(h:(s.get! i).toNat<128):Utf8.decode s i=((s.get! i).toNat,1):=by
 simp only[Utf8.decode,Nat.add_zero];rw[if_pos h]
theorem yp1(s:ByteArray)(i:Nat)(h:¬ (s.get! i).toNat<128):122<(Utf8.decode s i).1:=by
 simp only[Utf8.decode,Nat.add_zero];rw[if_neg h]
 repeat' split
 all_goals simp_all [Utf8.runeError]
 all_goals omega
abbrev En:=ByteArray×Int
abbrev Nd:=Int×Int×Int×Int×Int×Int×Bool×ByteArray×List En
abbrev d0:Nd:=ZN
abbrev e0:En:=(ByteArray.empty,(0:Int))
abbrev kd(n:Nd):Int:=n.1
abbrev md(n:Nd):Int:=n.2.1
abbrev ow(n:Nd):Int:=n.2.2.1
abbrev gr(n:Nd):Int:=n.2.2.2.1
abbrev lk(n:Nd):Int:=n.2.2.2.2.1
abbrev op(n:Nd):Int:=n.2.2.2.2.2.1
abbrev mk(n:Nd):Bool:=n.2.2.2.2.2.2.1
abbrev tx(n:Nd):ByteArray:=n.2.2.2.2.2.2.2.1
abbrev nm(n:Nd):List En:=n.2.2.2.2.2.2.2.2
def zr(n:Nd):Prop:=kd n=0∧md n=0∧ow n=0∧gr n=0∧lk n=0∧op n=0∧mk n=false∧(tx n).size=0∧(nm n).length=0
instance(n:Nd):Decidable (zr n):=by unfold zr;infer_instance
def zg4 (n:Nd):Bool:=decide (1≤kd n∧kd n≤2)&&(decide (0≤md n∧md n≤511)&&(decide (0≤ow n∧ow n≤9)&&(decide (0≤gr n∧gr n≤9)&&(decide (0≤op n∧op n≤99) &&
  ((bif decide (kd n=1) then !decide ((40:Int) < ((tx n).size:Int))&&!decide ((0:Int) < ((nm n).length:Int)) else true) &&
   (bif decide (kd n=2) then decide ((tx n).size=0)&&(!mk n&&!decide ((6:Int)<((nm n).length:Int))) else true))))))
def zn6 (n:Nd):Bool:=decide (1≤kd n∧kd n≤2)&&(decide (0≤md n∧md n≤511)&&(decide (0≤ow n∧ow n≤9)&&(decide (0≤gr n∧gr n≤9)&&(decide (0≤op n∧op n≤99)&&(decide (0≤lk n∧lk n≤99) &&
  (!decide ((40:Int) < ((tx n).size:Int))&&(!decide ((6:Int) < ((nm n).length:Int)) &&
   ((bif decide (kd n=2) then decide ((tx n).size=0)&&!mk n else true)&&(bif decide (kd n=1) then !decide ((0:Int)<((nm n).length:Int)) else true)))))))))
def zdk(es:List En)(k:Nat):Bool:=decide (k=0) || lt (es.getD (k - 1) e0).1 (es.getD k e0).1
def entI(f:List Nd)(es:List En)(k:Nat):Bool:=nmOk (es.getD k e0).1&&(decide (0≤(es.getD k e0).2∧(es.getD k e0).2≤9)&&(!decide (kd (f.getD (es.getD k e0).2.toNat d0)=0)&&zdk es k))
def entS(es:List En)(k:Nat):Bool:=nmOk (es.getD k e0).1&&(decide (1≤(es.getD k e0).2∧(es.getD k e0).2≤9)&&zdk es k)
def zia(f:List Nd)(es:List En):Nat→Nat→Bool
 |0,_=>true
 |d+1,k=>entI f es k&&zia f es d (k+1)
def zk9(es:List En):Nat→Nat→Bool
 |0,_=>true
 |d+1,k=>entS es k&&zk9 es d (k+1)
theorem zk_(f:List Nd)(es:List En):∀ (d k:Nat),zia f es d k=true↔∀ j,k≤j→j<k+d→entI f es j=true
 |0,k=>by simp[zia];omega
 |d+1,k=>by
  simp only[zia,Bool.and_eq_true,zk_ f es d (k+1)];constructor
  ·rintro ⟨h1,h2⟩ j hj hj2;rcases Nat.eq_or_lt_of_le hj with rfl|h
   ·exact h1
   ·exact h2 j (by omega) (by omega)
  ·intro h;exact⟨h k (by omega) (by omega),fun j hj hj2=>h j (by omega) (by omega)⟩
theorem zg1(es:List En):∀ (d k:Nat),zk9 es d k=true↔∀ j,k≤j→j<k+d→entS es j=true
 |0,k=>by simp[zk9];omega
 |d+1,k=>by
  simp only[zk9,Bool.and_eq_true,zg1 es d (k+1)];constructor
  ·rintro ⟨h1,h2⟩ j hj hj2;rcases Nat.eq_or_lt_of_le hj with rfl|h
   ·exact h1
   ·exact h2 j (by omega) (by omega)
  ·intro h;exact⟨h k (by omega) (by omega),fun j hj hj2=>h j (by omega) (by omega)⟩
def ndI(f:List Nd)(n:Nd):Bool:=bif decide (kd n=0) then decide (zr n) else zg4 n&&zia f (nm n) (nm n).length 0
def ndS(n:Nd):Bool:=bif decide (kd n=0) then decide (zr n) else zn6 n&&zk9 (nm n) (nm n).length 0
theorem zpq{n:Nd}(h:zn6 n=true):(nm n).length≤6:=by
 simp only[zn6,Bool.and_eq_true,Bool.not_eq_true',decide_eq_true_eq,decide_eq_false_iff_not]at h;omega
theorem zlc{n:Nd}(h:zg4 n=true):(nm n).length≤6:=by
 simp only[zg4,Bool.and_eq_true,Bool.not_eq_true',decide_eq_true_eq,decide_eq_false_iff_not]at h;obtain⟨h1,_,_,_,_,h2,h3⟩:=h;have:kd n=1∨kd n=2:=by omega
 rcases this with h4|h4
 ·simp only[h4,decide_true,cond_true,Bool.and_eq_true,Bool.not_eq_true',decide_eq_false_iff_not]at h2;omega
 ·simp only[h4,decide_true,cond_true,Bool.and_eq_true,Bool.not_eq_true',decide_eq_false_iff_not]at h3;omega
def cntE(l:List Int)(es:List En):List Int:=es.foldl (fun l e=>l.set e.2.toNat (l.getD e.2.toNat 0+1)) l
def abvE(i:Nat)(l:List Int)(es:List En):List Int:=es.foldl (fun l e=>l.set e.2.toNat (i:Int)) l
def cntN(l:List Int):List Nd→List Int
 | []=>l
 |n::ns=>cntN (cntE l (nm n)) ns
def abvN(l:List Int):Nat→List Nd→List Int
 |_,[]=>l
 |i,n::ns=>abvN (abvE i l (nm n)) (i+1) ns
end Go.Proofs.Ytbjgiioppmkpiaa.Rx.Fs
namespace Go.Proofs.Ytbjgiioppmkpiaa.Rx.Fs
open Go Go.Proofs.Ytbjgiioppmkpiaa.Rx.Pu Go.Proofs.Ytbjgiioppmkpiaa.Rx.Gr
theorem zdh:∀ (es:List En) (l:List Int),(cntE l es).length=l.length
 | [],_=>rfl
 |e::es,l=>by
  show (cntE (l.set e.2.toNat (l.getD e.2.toNat 0+1)) es).length=_;rw[zdh es,List.length_set]
theorem zbh{α:Type}(l:List α)(i j:Nat)(v d:α):(l.set i v).getD j d=if i=j∧i<l.length then v else l.getD j d:=by
 simp only[List.getD_eq_getElem?_getD,List.getElem?_set]
 by_cases h:i=j
 ·subst h
  by_cases h2:i<l.length
  ·simp[h2]
  ·simp[h2]
 ·simp[h]
theorem zh1:∀ (es:List En) (l:List Int) (B:Int),(∀ x,0≤l.getD x 0∧l.getD x 0≤B)→∀ x,0≤(cntE l es).getD x 0∧(cntE l es).getD x 0≤B+es.length
 | [],l,B,h,x=>by simpa [cntE] using h x
 |e::es,l,B,h,x=>by
  have:=zh1 es (l.set e.2.toNat (l.getD e.2.toNat 0 + 1)) (B + 1) (fun y=>by
   rw[zbh];have h1:=h e.2.toNat;have h2:=h y
   split <;> omega) x
  simp only[List.length_cons];constructor
  ·exact this.1
  ·have h3:=this.2;show (cntE (l.set e.2.toNat (l.getD e.2.toNat 0+1)) es).getD x 0≤_;omega
def ids(f:List Nd)(i:Nat):List Nat:=(nm (f.getD i d0)).map fun e=>e.2.toNat
def fold(f:List Nd)(x:Nat):Bool:=decide (kd (f.getD x d0)=2)
def zch(D:List Nat):List Bool:=(List.range 10).map fun x=>decide (x∈D)
theorem zcn(D:List Nat):(zch D).length=10:=by simp[zch]
theorem zhs(D:List Nat)(x:Nat)(h:x<10):(zch D).getD x false=decide (x∈D):=by
 simp[zch,List.getD_eq_getElem?_getD,h]
theorem zw6(D:List Nat)(x:Nat)(h:x<10):(zch D).set x true=zch (D++[x]):=by
 apply List.ext_getElem?;intro j;rw[List.getElem?_set]
 by_cases hj:j<10
 ·simp only[zch,List.length_map,List.length_range,List.getElem?_map,List.getElem?_range hj,Option.map_some,List.mem_append,List.mem_singleton]
  by_cases hx:x=j
  ·subst hx;simp[h]
  ·have:¬ j=x:=fun e=>hx e.symm;simp[hx,this]
 ·have e1:(zch D)[j]? = none:=List.getElem?_eq_none (by rw[zcn];omega);have e2:(zch (D++[x]))[j]? = none:=List.getElem?_eq_none (by rw[zcn];omega);rw[e1,e2,if_neg (by omega)]
theorem zw7:zch []=List.replicate 10 false:=by decide
def yey(a:Nd)(c:Int)(b:Bool):Bool :=
 !(decide (0 < c)&&decide (kd a=0))&&((bif decide (kd a=0) then true else decide (lk a=c)) &&
  ((bif decide (kd a=2) then b else true)&&!(decide (kd a=1)&&(decide (lk a=0)&&decide (op a=0)))))
def chkS(f:List Nd)(L:List Int)(M:List Bool)(i:Nat):Bool:=yey (f.getD i d0) (L.getD i 0) (M.getD i false)
def zn2(f:List Nd)(L:List Int)(M:List Bool):Nat→Nat→Bool
 |0,_=>true
 |d+1,i=>chkS f L M i&&zn2 f L M d (i+1)
def ndsS(f:List Nd):Nat→Nat→Bool
 |0,_=>true
 |d+1,i=>ndS (f.getD i d0)&&ndsS f d (i+1)
theorem zla(f:List Nd)(L:List Int)(M:List Bool):∀ (d k:Nat),zn2 f L M d k=true↔∀ j,k≤j→j<k+d→chkS f L M j=true
 |0,k=>by simp[zn2];omega
 |d+1,k=>by
  simp only[zn2,Bool.and_eq_true,zla f L M d (k+1)];constructor
  ·rintro ⟨h1,h2⟩ j hj hj2;rcases Nat.eq_or_lt_of_le hj with rfl|h
   ·exact h1
   ·exact h2 j (by omega) (by omega)
  ·intro h;exact⟨h k (by omega) (by omega),fun j hj hj2=>h j (by omega) (by omega)⟩
theorem znj(f:List Nd):∀ (d k:Nat),ndsS f d k=true↔∀ j,k≤j→j<k+d→ndS (f.getD j d0)=true
 |0,k=>by simp[ndsS];omega
 |d+1,k=>by
  simp only[ndsS,Bool.and_eq_true,znj f d (k+1)];constructor
  ·rintro ⟨h1,h2⟩ j hj hj2;rcases Nat.eq_or_lt_of_le hj with rfl|h
   ·exact h1
   ·exact h2 j (by omega) (by omega)
  ·intro h;exact⟨h k (by omega) (by omega),fun j hj hj2=>h j (by omega) (by omega)⟩
theorem zqo{n:Nd}(h:ndS n=true):(nm n).length≤6:=by
 unfold ndS at h
 cases hk:decide (kd n=0) with
 |true =>
  rw[hk]at h;have:zr n:=of_decide_eq_true h;have:=this.2.2.2.2.2.2.2.2;omega
 |false =>
  rw[hk]at h;simp only[cond_false,Bool.and_eq_true]at h;exact zpq h.1
theorem zqp{n:Nd}(h:ndS n=true):∀ e∈nm n,1≤e.2∧e.2≤9:=by
 intro e he;have hl:=zqo h;unfold ndS at h
 cases hk:decide (kd n=0) with
 |true =>
  rw[hk]at h;have:zr n:=of_decide_eq_true h;have:=this.2.2.2.2.2.2.2.2;have:nm n=[]:=List.eq_nil_of_length_eq_zero this;rw[this]at he;cases he
 |false =>
  rw[hk]at h;simp only[cond_false,Bool.and_eq_true]at h;obtain⟨k,hk2,hke⟩:=List.getElem_of_mem he;have:=(zg1 (nm n) _ 0).1 h.2 k (by omega) (by omega);have he2:(nm n).getD k e0=e:=by rw[List.getD_eq_getElem?_getD,List.getElem?_eq_getElem hk2,Option.getD_some,hke]
  simp only[entS,he2,Bool.and_eq_true,decide_eq_true_eq]at this;exact this.2.1
end Go.Proofs.Ytbjgiioppmkpiaa.Rx.Fs
namespace Go.Proofs.Ytbjgiioppmkpiaa.Rx.Fs
open Go Go.Proofs.Ytbjgiioppmkpiaa.Rx.Pu Go.Proofs.Ytbjgiioppmkpiaa.Rx.Gr
theorem zfc(i:Nat):∀ (es:List En) (l:List Int),(abvE i l es).length=l.length
 | [],_=>rfl
 |e::es,l=>by
  show (abvE i (l.set e.2.toNat (i:Int)) es).length=_;rw[zfc i es,List.length_set]
theorem zmw(i:Nat)(hi:i<10):∀ (es:List En) (l:List Int),(∀ x,0≤l.getD x 0∧l.getD x 0≤9)→∀ x,0≤(abvE i l es).getD x 0∧(abvE i l es).getD x 0≤9
 | [],l,h,x=>h x
 | e :: es,l,h,x=>zmw i hi es (l.set e.2.toNat (i:Int)) (fun y=>by
   rw[zbh];have h2:=h y
   split <;> omega) x
def abF(A:List Int)(x:Nat):Nat:=(A.getD x 0).toNat
def yez(a:Nd)(c i:Int)(u:Bool):Bool :=
 bif decide (kd a=0) then true else decide (lk a=c)&&(!(decide (kd a=1)&&(decide (lk a=0)&&decide (op a=0))) &&
  (!(decide (kd a=2)&&(decide ((0:Int)<i)&&!decide (lk a=1)))&&(!(decide (i=0)&&!decide (lk a=0))&&(bif decide (kd a=2) then u else true))))
def chkI(f:List Nd)(L A:List Int)(i:Nat):Bool:=yez (f.getD i d0) (L.getD i 0) (i:Int) (Gr.up (abF A) 11 i)
def zg3(f:List Nd)(L A:List Int):Nat→Nat→Bool
 |0,_=>true
 |d+1,i=>chkI f L A i&&zg3 f L A d (i+1)
def ndsI(f:List Nd):Nat→Nat→Bool
 |0,_=>true
 |d+1,i=>ndI f (f.getD i d0)&&ndsI f d (i+1)
theorem zg2(f:List Nd)(L A:List Int):∀ (d k:Nat),zg3 f L A d k=true↔∀ j,k≤j→j<k+d→chkI f L A j=true
 |0,k=>by simp[zg3];omega
 |d+1,k=>by
  simp only[zg3,Bool.and_eq_true,zg2 f L A d (k+1)];constructor
  ·rintro ⟨h1,h2⟩ j hj hj2;rcases Nat.eq_or_lt_of_le hj with rfl|h
   ·exact h1
   ·exact h2 j (by omega) (by omega)
  ·intro h;exact⟨h k (by omega) (by omega),fun j hj hj2=>h j (by omega) (by omega)⟩
theorem znk(f:List Nd):∀ (d k:Nat),ndsI f d k=true↔∀ j,k≤j→j<k+d→ndI f (f.getD j d0)=true
 |0,k=>by simp[ndsI];omega
 |d+1,k=>by
  simp only[ndsI,Bool.and_eq_true,znk f d (k+1)];constructor
  ·rintro ⟨h1,h2⟩ j hj hj2;rcases Nat.eq_or_lt_of_le hj with rfl|h
   ·exact h1
   ·exact h2 j (by omega) (by omega)
  ·intro h;exact⟨h k (by omega) (by omega),fun j hj hj2=>h j (by omega) (by omega)⟩
def z10:List Int:=List.replicate 10 0
theorem zif(x:Nat):z10.getD x 0=0:=by
 rw[List.getD_eq_getElem?_getD]
 by_cases h:x<10
 ·simp only[z10,List.getElem?_replicate,h,if_true,Option.getD_some]
 ·rw[List.getElem?_eq_none (by simp only[z10,List.length_replicate];omega)];rfl
def okI(f:List Nd):Bool:=decide (f.length=10)&&(decide (kd (f.getD 0 d0)=2)&&(ndsI f 10 0&&zg3 f (cntN z10 f) (abvN z10 0 f) 10 0))
noncomputable def okS (f:List Nd):Bool:=decide (f.length=10)&&(ndsS f 10 0&&(decide (kd (f.getD 0 d0)=2) &&
 (match Gr.bfs (ids f) (fold f) 11 [] [0] with|some D=>zn2 f (cntN z10 f) (zch D) 10 0|none=>false)))
end Go.Proofs.Ytbjgiioppmkpiaa.Rx.Fs
namespace Go.Proofs.Ytbjgiioppmkpiaa.Rx.Pu
open Go
theorem zcx{γ:Type}(F:Nat→Int→γ)(r:γ)(n:Nat)(hF:∀ k (i:Nat),i<n→F (k+1) i=F k ((i+1:Nat):Int))(hE:∀ k,F (k+1) (n:Int)=r):∀ (d k i:Nat),i+d=n→d<k→F k i=r:=by
 intro d
 induction d with
 |zero =>
  intro k i hd hk;obtain⟨k,rfl⟩:∃ m,k=m+1:=⟨k - 1,by omega⟩;have hi:i=n:=by omega
  subst hi;exact hE k
 |succ d ih =>
  intro k i hd hk;obtain⟨k,rfl⟩:∃ m,k=m+1:=⟨k - 1,by omega⟩;rw[hF k i (by omega)];exact ih k (i+1) (by omega) (by omega)
end Go.Proofs.Ytbjgiioppmkpiaa.Rx.Pu
namespace Go.Proofs.Ytbjgiioppmkpiaa.Rx.S
open Go Go.Proofs.Ytbjgiioppmkpiaa.Rx.Pu Go.Proofs.Ytbjgiioppmkpiaa.Rx.Fs
theorem lt_t{i n:Nat}(h:i<n):decide ((i:Int)<(n:Int))=true:=by simp;omega
theorem lt_f(n:Nat):decide ((n:Int)<(n:Int))=false:=by simp
theorem ge_t(i:Nat):decide ((0:Int)≤(i:Int))=true:=by simp
theorem ymx(i:Nat):(i:Int)+1=((i+1:Nat):Int):=by omega
theorem za4{i:Nat}(h:i<4611686018427387904):IntKind.i64.wrap ((i:Int)+1)=((i+1:Nat):Int):=(wr (x:=(i:Int)+1) (by omega) (by omega)).trans (ymx i)
theorem zkn(n:Nat)(a b c:Int):p61 n a b c=some ((decide (b≤a∧a≤c),()),()):=by
 show zit n a b c=_;simp only[zit,zn1]
 by_cases h:b≤a <;> simp[h]
theorem zkl(n:Nat)(a b c:Int):p66 n a b c=some ((decide (b≤a∧a≤c),()),()):=by
 show zip n a b c=_;simp only[zip,zn1]
 by_cases h:b≤a <;> simp[h]
theorem znf(n:Nat)(a:Int):p118 n a=some ((decide (0≤a∧a≤9),()),()):=by
 show zf1 n a=_;simp only[zf1,q66,zkl,Option.bind_some]
theorem yit(n:Nat)(a:Int):p120 n a=some ((decide (a<97∨122<a),()),()):=by
 show zf0 n a=_;simp only[zf0,zn1]
 by_cases h:a<97 <;> simp[h]
theorem zh8{s:ByteArray}{i:Nat}(h:i<s.size):(s.data.toList.drop i).all zb0=(zb0 (s.data.toList.getD i 0)&&(s.data.toList.drop (i+1)).all zb0):=by
 rw[zb1 (d:=0) (by rw[zm5];exact h)];rfl
theorem zmb(n:Nat)(s:ByteArray):∀ (m i:Nat),i≤s.size→s.size - i<m→∃ r:Int,zhl n m true s (i:Int)=some ((r,()),())∧decide (r<0)=(s.data.toList.drop i).all zb0
 |0,i,_,h=>by omega
 |m+1,i,hi,h=>by
  show ∃ r:Int,zi4 n (zhl n m) true s i=_∧_;simp only[zi4,zaa]
  by_cases h1:i<s.size
  ·have h2:decide (i<s.size)=true:=by simpa using h1
   rw[zh8 h1];simp only[h2,cond_true,q120,yit,Option.bind_some];have hg:=zxz s i h1
   by_cases h3:(s.get! i).toNat<128
   ·rw[yp0 s i h3];simp only
    by_cases h4:zb0 (s.data.toList.getD i 0)=true
    ·have h5:¬ (((s.get! i).toNat:Int)<97∨122<((s.get! i).toNat:Int)):=by
      rw[hg];simp only[zb0,decide_eq_true_eq]at h4;omega
     simp only[h5,decide_false,Bool.false_eq_true,beq_iff_eq,h4,Bool.true_and,show (false == true)=false from rfl,cond_false];exact zmb n s m (i+1) (by omega) (by omega)
    ·have h5:(((s.get! i).toNat:Int)<97∨122<((s.get! i).toNat:Int)):=by
      rw[hg];simp only[zb0,decide_eq_true_eq]at h4;omega
     simp only[h5,decide_true,show (true == true)=true from rfl,cond_true,h4,Bool.false_and];exact⟨i,rfl,by simp⟩
   ·have h5:=yp1 s i h3;have h6:(((Utf8.decode s i).1:Int)<97∨122<((Utf8.decode s i).1:Int)):=by omega
    have h7:zb0 (s.data.toList.getD i 0)=false:=by
     rw[← hg];simp only[zb0,decide_eq_false_iff_not];omega
    simp only[h6,decide_true,show (true == true)=true from rfl,cond_true,h7,Bool.false_and];exact⟨i,rfl,by simp⟩
  ·have h2:decide (i<s.size)=false:=by simpa using h1
   simp only[h2,cond_false];exact⟨-1,rfl,by rw[List.drop_eq_nil_of_le (by rw[zm5];omega)];simp⟩
theorem yny(n:Nat)(hn:4<n)(s:ByteArray):p70 n s=some ((nmOk s,()),()):=by
 show zim n s=_;simp only[zim,q61,zkn,Option.bind_some,nmOk]
 by_cases h:1≤s.size∧s.size≤3
 ·have h1:(1:Int)≤(s.size:Int)∧(s.size:Int)≤3:=by omega
  obtain⟨r,hr,hr2⟩:=zmb n s n 0 (by omega) (by omega);have hr':zhl n n true s 0=some ((r,()),()):=hr;simp only[h1,h,and_self,decide_true,cond_true,q119,p119,zju,q147,p147,zjt,hr',Option.bind_some,hr2,List.drop_zero,Bool.true_and]
 ·have h1:¬ ((1:Int)≤(s.size:Int)∧(s.size:Int)≤3):=by omega
  simp only[h1,h,decide_false,cond_false,Bool.false_and]
theorem zos(n:Nat)(s:ByteArray)(hs:s.size<4611686018427387904):∀ (m i:Nat),i≤s.size→s.size - i<m→zot n m s (i:Int)=some (((s.data.toList.drop i).all zb0&&decide (1≤s.size∧s.size≤3),()),())
 |0,i,_,h=>by omega
 |m+1,i,hi,h=>by
  show zm2 n (zot n m) s i=_;simp only[zm2,zaa]
  by_cases h1:i<s.size
  ·rw[zh8 h1,za4 (by omega),zos n s hs m (i+1) (by omega) (by omega)];simp only[lt_t h1,ge_t,cond_true]
   by_cases h4:((s.data.toList.getD i 0).toNat:Int)<97
   ·have:zb0 (s.data.toList.getD i 0)=false:=by simp only[zb0,decide_eq_false_iff_not];omega
    simp only[h4,decide_true,cond_true,this,Bool.false_and]
   ·by_cases h5:122<((s.data.toList.getD i 0).toNat:Int)
    ·have:zb0 (s.data.toList.getD i 0)=false:=by simp only[zb0,decide_eq_false_iff_not];omega
     simp only[h4,h5,decide_true,decide_false,cond_true,cond_false,this,Bool.false_and]
    ·have:zb0 (s.data.toList.getD i 0)=true:=by simp only[zb0,decide_eq_true_eq];omega
     simp only[h4,h5,decide_false,cond_false,this,Bool.true_and]
  ·have hi':i=s.size:=by omega
   subst hi';simp only[lt_f,cond_false,q66,zkl,Option.bind_some];rw[List.drop_eq_nil_of_le (by rw[zm5];omega)];have:(((1:Int)≤(s.size:Int))∧((s.size:Int)≤3))↔(1≤s.size∧s.size≤3):=by omega
   simp only[List.all_nil,Bool.true_and,this]
theorem ynw(n:Nat)(s:ByteArray)(hs:s.size<4611686018427387904)(hn:s.size<n):p76 n s=some ((nmOk s,()),()):=by
 have:=zos n s hs n 0 (by omega) (by omega);rw[List.drop_zero,Bool.and_comm]at this;exact this
theorem ynz(n:Nat)(a:Nd):p69 n a=some ((decide (zr a),()),()):=by
 show zin n a=_;simp only[zin,zr];obtain⟨a1,a2,a3,a4,a5,a6,a7,a8,a9⟩:=a;simp only[zeb]
 by_cases h1:a1=0 <;> by_cases h2:a2=0 <;> by_cases h3:a3=0 <;> by_cases h4:a4=0 <;> by_cases h5:a5=0 <;> by_cases h6:a6=0 <;> cases a7 <;> by_cases h8:a8.size=0 <;> simp[h1,h2,h3,h4,h5,h6,h8]
theorem yip(n:Nat)(a:Nd):p146 n a=some ((decide (zr a),()),()):=by
 show zfm n a=_;simp only[zfm,zr];obtain⟨a1,a2,a3,a4,a5,a6,a7,a8,a9⟩:=a;simp only[zeb]
 by_cases h1:a1=0 <;> by_cases h2:a2=0 <;> by_cases h3:a3=0 <;> by_cases h4:a4=0 <;> by_cases h5:a5=0 <;> by_cases h6:a6=0 <;> cases a7 <;> by_cases h8:a8.size=0 <;> simp[h1,h2,h3,h4,h5,h6,h8]
theorem zw9(a b:ByteArray):Op.bytesLess (ByteArray.toList a) (ByteArray.toList b)=Fs.lt a b:=rfl
theorem zmy{i:Nat}(h:i<4611686018427387904):IntKind.i64.wrap (((i+1:Nat):Int) - 1)=(i:Int):=(wr (x:=((i+1:Nat):Int) - 1) (by omega) (by omega)).trans (by omega)
theorem zbj{α:Type}{l:List α}{i:Nat}(h:i<l.length)(d:α):l.getD i d∈l:=by
 rw[List.getD_eq_getElem?_getD,List.getElem?_eq_getElem h,Option.getD_some];exact List.getElem_mem h
def SmE(n:Nat)(es:List En):Prop:=es.length<4611686018427387904∧∀ e∈es,e.1.size<n
def SmN(n:Nat)(a:Nd):Prop:=(tx a).size<4611686018427387904∧SmE n (nm a)
def SmF(n:Nat)(f:List Nd):Prop:=100<n∧n<4611686018427387904∧∀ a∈f,SmN n a
theorem zmh(n:Nat)(hn:n<4611686018427387904)(es:List En)(h:SmE n es)(a1 a2 a3 a4 a5 a6:Int)(a7:Bool)(a8:ByteArray):∀ (d m k:Nat),k+d=es.length→d<m→zd1 n m k a1 a2 a3 a4 a5 a6 a7 a8 es=some ((zk9 es d k,()),())
 |_,0,_,_,h=>by omega
 |0,m+1,k,hk,hm=>by
  show zeo n (zd1 n m) k a1 a2 a3 a4 a5 a6 a7 a8 es=_;have:k=es.length:=by omega
  subst this;simp only[zeo,lt_f,cond_false,zk9]
 |d+1,m+1,k,hk,hm=>by
  have hl:=h.1;have hkl:k<es.length:=by omega
  show zeo n (zd1 n m) k a1 a2 a3 a4 a5 a6 a7 a8 es=_;have ih:=zmh n hn es h a1 a2 a3 a4 a5 a6 a7 a8 d m (k+1) (by omega) (by omega);have hs:=(h.2 _ (zbj hkl e0));simp only[zeo,zk9,lt_t hkl,ge_t,cond_true,zaa,za4 (show k<4611686018427387904 by omega),ih,q76,ynw n _ (Nat.lt_trans hs hn) hs,q66,zkl,Option.bind_some,zw9,entS,zdk,e0];generalize zk9 es d (k+1)=o;generalize es.getD k (ByteArray.empty,(0:Int))=E
  cases nmOk E.1 with
  |false=>rfl
  |true =>
   cases decide (1≤E.2∧E.2≤9) with
   |false=>rfl
   |true =>
    cases k with
    |zero=>rfl
    |succ k =>
     have e1:decide ((0:Int)<((k+1:Nat):Int))=true:=decide_eq_true (by omega);simp only[e1,zmy (show k<4611686018427387904 by omega),ge_t,lt_t (show k<es.length by omega),Bool.not_true,cond_false,cond_true,zaa,Nat.add_sub_cancel,Bool.true_and];generalize es.getD k (ByteArray.empty,(0:Int))=E';cases Fs.lt E'.1 E.1 <;> rfl
theorem yiv(n:Nat)(hn:n<4611686018427387904)(hn2:100<n)(a:Nd)(h:SmN n a):p116 n a=some ((ndS a,()),()):=by
 have hlp:zn6 a=true→zd1 n n 0 a.1 a.2.1 a.2.2.1 a.2.2.2.1 a.2.2.2.2.1 a.2.2.2.2.2.1 a.2.2.2.2.2.2.1 a.2.2.2.2.2.2.2.1 (nm a)=some ((zk9 (nm a) (nm a).length 0,()),()):=fun h9 =>
  zmh n hn (nm a) h.2 _ _ _ _ _ _ _ _ (nm a).length n 0 (by omega) (by have:=zpq h9;omega)
 show zf3 n (zd1 n n) a=_;obtain⟨a1,a2,a3,a4,a5,a6,a7,a8,a9⟩:=a;simp only[kd,md,ow,gr,lk,op,mk,tx,nm,zn6]at hlp;simp only[zf3,ndS,q146,yip,q66,zkl,q118,znf,Option.bind_some,zeb,zn6,kd,md,ow,gr,lk,op,mk,tx,nm]
 cases decide (a1=0);rotate_left;· rfl
 revert hlp
 cases decide (1≤a1∧a1≤2);· intro;rfl
 cases decide (0≤a2∧a2≤511);· intro;rfl
 cases decide (0≤a3∧a3≤9);· intro;rfl
 cases decide (0≤a4∧a4≤9);· intro;rfl
 cases decide (0≤a6∧a6≤99);· intro;rfl
 cases decide (0≤a5∧a5≤99);· intro;rfl
 cases decide ((40:Int)<(a8.size:Int));rotate_left;· intro;rfl
 cases decide ((6:Int)<(a9.length:Int));rotate_left;· intro;rfl
 cases decide (a1=2)
 ·cases decide (a1=1)
  ·intro hlp;exact hlp rfl
  ·cases decide ((0:Int)<(a9.length:Int))
   ·intro hlp;exact hlp rfl
   ·intro;rfl
 ·cases decide (a8.size=0);· intro;rfl
  cases a7;rotate_left;· intro;rfl
  cases decide (a1=1)
  ·intro hlp;exact hlp rfl
  ·cases decide ((0:Int)<(a9.length:Int))
   ·intro hlp;exact hlp rfl
   ·intro;rfl
theorem zl5(g:Int→List Nd→List Int→Option R63)(n i:Nat)(f:List Nd)(hi:i<f.length)(hi2:f.length=10)(he:∀ e∈nm (f.getD i d0),1≤e.2∧e.2≤9):∀ (d m k:Nat) (l:List Int),k+d=(nm (f.getD i d0)).length→(nm (f.getD i d0)).length≤6→d<m →
  l.length=10→(∀ x,0≤l.getD x 0∧l.getD x 0≤1000 - d)→zdd g n m (i:Int) (k:Int) f l=g ((i+1:Nat):Int) f (cntE l ((nm (f.getD i d0)).drop k))
 |_,0,_,_,_,_,h,_,_=>by omega
 |0,m+1,k,l,hk,h6,hm,hl,hb=>by
  show zej n (zdd g n m) g i k f l=_;have hk':k=(nm (f.getD i d0)).length:=by omega
  have hf:decide ((k:Int)<((nm (f.getD i d0)).length:Int))=false:=by rw[hk'];exact lt_f _
  simp only[nm,d0]at hf;simp only[zej,lt_t hi,ge_t,cond_true,zaa,hf,cond_false,za4 (show i<4611686018427387904 by omega)];rw[List.drop_eq_nil_of_le (by omega)];rfl
 |d+1,m+1,k,l,hk,h6,hm,hl,hb=>by
  show zej n (zdd g n m) g i k f l=_;have hkl:k<(nm (f.getD i d0)).length:=by omega
  have hlt:=lt_t hkl;rw[zb1 (d:=e0) hkl];have hx:=he _ (zbj hkl e0);obtain⟨E,hE⟩:∃ E,(nm (f.getD i d0)).getD k e0=E:=⟨_,rfl⟩;rw[hE]at hx ⊢;have hE':=hE;simp only[nm,d0,e0]at hlt hE';have hb1:=hb E.2.toNat;have hw:IntKind.i64.wrap (l.getD E.2.toNat 0+1)=l.getD E.2.toNat 0+1:=wr (by omega) (by omega);have h0:decide (0≤E.2)=true:=decide_eq_true (by omega);have h9:decide (E.2<(l.length:Int))=true:=decide_eq_true (by omega)
  have ih:=zl5 g n i f hi hi2 he d m (k + 1) (l.set E.2.toNat (l.getD E.2.toNat 0 + 1)) (by omega) h6 (by omega) (by rw [List.length_set]; exact hl) (fun x=>by
   rw[zbh];have h1:=hb x
   split <;> omega)
  simp only[zej,lt_t hi,ge_t,cond_true,zaa,hlt,hE',h0,h9,hw,za4 (show k<4611686018427387904 by omega)];rw[ih];rfl
theorem zxy{α β:Type}(l:List α)(g:α→β)(k:Nat)(d:α)(d':β)(h:k<l.length):(l.map g).getD k d'=g (l.getD k d):=by
 rw[List.getD_eq_getElem?_getD,List.getD_eq_getElem?_getD,List.getElem?_map,List.getElem?_eq_getElem h];rfl
def nats(l:List Nat):List Int:=l.map fun (x:Nat)=>(x:Int)
theorem zbv(l:List Nat):(nats l).length=l.length:=by simp[nats]
theorem yc0(a b:List Nat):nats (a++b)=nats a++nats b:=by simp[nats]
theorem zfa(g:List Nd→List Bool→List Int→Option R117)(n i:Nat)(f:List Nd)(M:List Bool)(hi:i<f.length)(hi2:f.length=10)(he:∀ e∈nm (f.getD i d0),1≤e.2∧e.2≤9):∀ (d m k:Nat) (T:List Nat),k+d=(nm (f.getD i d0)).length→(nm (f.getD i d0)).length≤6→d<m→T.length+d≤1000 →
  zb7 g n m (i:Int) (k:Int) f M (nats T)=g f M (nats (T++((ids f i).drop k).filter (fold f)))
 |_,0,_,_,_,_,h,_=>by omega
 |0,m+1,k,T,hk,h6,hm,hT=>by
  show zcu n (zb7 g n m) g i k f M (nats T)=_;have hk':k=(nm (f.getD i d0)).length:=by omega
  have hf:decide ((k:Int)<((nm (f.getD i d0)).length:Int))=false:=by rw[hk'];exact lt_f _
  simp only[nm,d0]at hf;simp only[zcu,lt_t hi,ge_t,cond_true,zaa,hf,cond_false];rw[List.drop_eq_nil_of_le (by simp only[ids,List.length_map];omega)];simp
 |d+1,m+1,k,T,hk,h6,hm,hT=>by
  show zcu n (zb7 g n m) g i k f M (nats T)=_;have hkl:k<(nm (f.getD i d0)).length:=by omega
  have hlt:=lt_t hkl;have hx:=he _ (zbj hkl e0)
  have hdr:(ids f i).drop k=((nm (f.getD i d0)).getD k e0).2.toNat::(ids f i).drop (k+1):=by
   rw[zb1 (d:=0) (by simp only[ids,List.length_map];exact hkl)];congr 1;exact zxy _ _ _ _ _ hkl
  rw[hdr];obtain⟨E,hE⟩:∃ E,(nm (f.getD i d0)).getD k e0=E:=⟨_,rfl⟩;rw[hE]at hx ⊢;have hE':=hE;simp only[nm,d0,e0]at hlt hE';have h0:decide (0≤E.2)=true:=decide_eq_true (by omega);have h9:decide (E.2<(f.length:Int))=true:=decide_eq_true (by omega);have hn1:E.2=((E.2.toNat:Nat):Int):=by omega
  have hsz:decide (((nats T).length+[E.2].length)*(8:Nat)≤(140737488355328:Nat))=true:=decide_eq_true (by rw[zbv];simp;omega);have ih1:=zfa g n i f M hi hi2 he d m (k+1) T (by omega) h6 (by omega) (by omega);have hT2:zb7 g n m (i:Int) ((k+1:Nat):Int) f M (nats (T++[E.2.toNat]))=g f M (nats ((T++[E.2.toNat])++((ids f i).drop (k+1)).filter (fold f))):=zfa g n i f M hi hi2 he d m (k+1) (T++[E.2.toNat]) (by omega) h6 (by omega) (by simp;omega);simp only[zcu,lt_t hi,ge_t,cond_true,zaa,hlt,hE',h0,h9,hsz,za4 (show k<4611686018427387904 by omega)]
  by_cases hfo:fold f E.2.toNat=true
  ·have hfo2:=hfo;simp only[fold,kd,d0]at hfo2;have e1:nats T++[E.2]=nats (T++[E.2.toNat]):=by rw[yc0,hn1];rfl
   simp only[hfo2,cond_true,List.filter_cons,hfo,if_true,e1];rw[hT2,List.append_assoc];rfl
  ·have hfo2:fold f E.2.toNat=false:=by simpa using hfo
   have hfo3:=hfo2;simp only[fold,kd,d0]at hfo3;simp only[hfo3,cond_false,List.filter_cons,hfo2,Bool.false_eq_true,if_false];exact ih1
theorem zmg(n:Nat)(hn:100<n)(f:List Nd)(hi2:f.length=10)(hok:∀ i,i<10→ndS (f.getD i d0)=true):∀ (k m:Nat) (done todo:List Nat),done.Nodup→(∀ x∈done,x<10)→(∀ x∈todo,x<10)→11≤k+done.length→k<m→todo.length+6*k≤900 →
  ∃ (M:List Bool) (b:Bool),zdf n m f (zch done) (nats todo)=some ((M,(b,())),())∧(b=true↔∃ D,Gr.bfs (ids f) (fold f) k done todo=some D)∧∀ D,Gr.bfs (ids f) (fold f) k done todo=some D→M=zch D
 |_,0,_,_,_,_,_,_,h,_=>by omega
 |k,m+1,done,[],hnd,hd,ht,hk,hm,hs=>by
  show ∃ M b,zen n _ f (zch done) (nats [])=_∧_;have e1:decide ((0:Int)<((nats []).length:Int))=false:=rfl;simp only[zen,e1,cond_false];refine⟨_,_,rfl,?_,fun D hD=>?_⟩
  ·simp only[true_iff];exact⟨done,by cases k <;> rfl⟩
  ·have:some done=some D:=by cases k <;> exact hD
   injection this with this
   rw[this]
 |0,m+1,done,id::todo,hnd,hd,ht,hk,hm,hs=>by
  have:=Gr.nodup_len (B:=List.range 10) hnd (fun a ha=>List.mem_range.2 (hd a ha));simp at this;omega
 |k+1,m+1,done,id::todo,hnd,hd,ht,hk,hm,hs=>by
  show ∃ M b,zen n (zb7 (zdf n m) n n) f (zch done) (nats (id::todo))=_∧_;have hid:=ht id List.mem_cons_self;have e1:decide ((0:Int)<((nats (id::todo)).length:Int))=true:=decide_eq_true (by rw[zbv];simp);have e2:decide ((1:Int)≤((nats (id::todo)).length:Int))=true:=decide_eq_true (by rw[zbv,List.length_cons];omega)
  have e3:List.take (((nats (id::todo)).length:Int) - 1).toNat (List.drop ((0:Nat)+Int.toNat 1) (nats (id::todo)))=nats todo:=by
   rw[show (List.drop ((0:Nat)+Int.toNat 1) (nats (id::todo)))=nats todo from rfl];apply List.take_of_length_le;rw[zbv,zbv];simp
  have e4:(nats (id::todo)).getD (Int.toNat 0) 0=(id:Int):=rfl;have e5:decide (((0:Nat)+(nats todo).length)*(8:Nat)≤(140737488355328:Nat))=true:=decide_eq_true (by rw[zbv];simp at hs;omega);have e6:decide ((id:Int)<((zch done).length:Int))=true:=decide_eq_true (by rw[zcn];omega);simp only[zen,e1,e2,e3,e4,e5,e6,cond_true,ge_t,zaa,zhs done id hid]
  by_cases hm1:id∈done
  ·simp only[hm1,decide_true,cond_true];refine⟨_,_,rfl,?_,fun D hD=>?_⟩
   ·simp only[Bool.false_eq_true,false_iff];rintro ⟨D,hD⟩;simp only[Gr.bfs,hm1,if_true]at hD;cases hD
   ·simp only[Gr.bfs,hm1,if_true]at hD;cases hD
  ·simp only[hm1,decide_false,cond_false];have hlen:=zqo (hok id hid)
   have hmem:∀ x∈(ids f id).filter (fold f),x<10:=fun x hx=>by
    obtain⟨e,he,rfl⟩:=List.mem_map.1 (List.mem_filter.1 hx).1;have:=zqp (hok id hid) e he;omega
   have hfl:((ids f id).filter (fold f)).length≤6:=by
    have:=List.length_filter_le (fold f) (ids f id);simp only[ids,List.length_map]at this ⊢;omega
   rw[zw6 done id hid];have hl10:=zfa (zdf n m) n id f (zch (done++[id])) (by omega) hi2 (zqp (hok id hid)) (nm (f.getD id d0)).length n 0 todo (by omega) hlen (by omega) (by simp at hs;omega);rw[List.drop_zero]at hl10;have hl10':zb7 (zdf n m) n n (id:Int) 0 f (zch (done++[id])) (nats todo)=zdf n m f (zch (done++[id])) (nats (todo++(ids f id).filter (fold f))):=hl10;rw[hl10']
   have ih:=zmg n hn f hi2 hok k m (done ++ [id]) (todo ++ (ids f id).filter (fold f)) (by
    rw[List.nodup_append]
    exact⟨hnd,by simp,fun a ha b hb=>by rw[List.mem_singleton.1 hb];rintro rfl;exact hm1 ha⟩) (fun x hx=>by
    rcases List.mem_append.1 hx with h|h
    ·exact hd x h
    ·rw[List.mem_singleton.1 h];exact hid) (fun x hx=>by
    rcases List.mem_append.1 hx with h|h
    ·exact ht x (List.mem_cons_of_mem _ h)
    ·exact hmem x h) (by simp;omega) (by omega) (by simp at hs ⊢;omega)
   have hb:Gr.bfs (ids f) (fold f) (k+1) done (id::todo)=Gr.bfs (ids f) (fold f) k (done++[id]) (todo++(ids f id).filter (fold f)):=by
    simp only[Gr.bfs,hm1,if_false];rfl
   rw[hb];exact ih
theorem yiu(n:Nat)(hn:100<n)(f:List Nd)(hi2:f.length=10)(hok:∀ i,i<10→ndS (f.getD i d0)=true) :
  ∃ (M:List Bool) (b:Bool),p117 n f=some ((M,(b,())),())∧(b=true↔∃ D,Gr.bfs (ids f) (fold f) 11 [] [0]=some D)∧∀ D,Gr.bfs (ids f) (fold f) 11 [] [0]=some D→M=zch D:=by
 have:=zmg n hn f hi2 hok 11 n [] [0] List.nodup_nil (by simp) (by simp) (by simp) (by omega) (by simp);rw[zw7]at this;show ∃ M b,zf2 n (zdf n n) f=_∧_;have e1:decide ((f.length:Int)*((1:Nat):Int)≤140737488355328)=true:=decide_eq_true (by omega);have e2:(f.length:Int).toNat=10:=by omega
 simp only[zf2,e1,cond_true,e2];exact this
theorem lt10{i d:Nat}(h:i+(d+1)=10):decide ((i:Int)<10)=true:=decide_eq_true (by omega)
theorem zl4(n:Nat)(f:List Nd)(L:List Int)(M:List Bool)(hf:f.length=10)(hL:L.length=10)(hM:M.length=10):∀ (d m i:Nat),i+d=10→d<m→ze9 n m true (i:Int) f L M=some ((zn2 f L M d i,()),())
 |_,0,_,_,h=>by omega
 |0,m+1,i,hi,hm=>by
  obtain rfl:i=10:=by omega
  rfl
 |d+1,m+1,i,hi,hm=>by
  show zir n (ze9 n m) true i f L M=_;have ih:=zl4 n f L M hf hL hM d m (i+1) (by omega) (by omega);simp only[zir];rw[zaa];simp only[zn2,chkS,lt10 hi,lt_t (show i<f.length by omega),lt_t (show i<L.length by omega),lt_t (show i<M.length by omega),ge_t,cond_true,za4 (show i<4611686018427387904 by omega),ih];generalize zn2 f L M d (i+1)=o;generalize f.getD i ZN=a;generalize L.getD i 0=c;generalize M.getD i false=b;simp only[yey,kd,lk,op];cases decide (0<c) <;> cases decide (a.1=0) <;> cases decide (a.2.2.2.2.1=c) <;> cases decide (a.1=2) <;> cases b <;> cases decide (a.1=1) <;> cases decide (a.2.2.2.2.1=0) <;> cases decide (a.2.2.2.2.2.1=0) <;> rfl
theorem zov(n:Nat)(f:List Nd)(hf:f.length=10)(hs:SmF n f):∀ (d m i:Nat) (L:List Int),i+d=10→d<m→L.length=10→(∀ x,0≤L.getD x 0∧L.getD x 0≤6*i)→(∀ j,j<i→ndS (f.getD j d0)=true) →
  ze5 n m (i:Int) f L=some (((ndsS f d i&&(decide (kd (f.getD 0 d0)=2)&&(match Gr.bfs (ids f) (fold f) 11 [] [0] with|some D=>zn2 f (cntN L (f.drop i)) (zch D) 10 0|none=>false))),()),())
 |_,0,_,_,_,h,_,_,_=>by omega
 |0,m+1,i,L,hi,hm,hL,hb,hj=>by
  obtain rfl:i=10:=by omega
  show zhc n (zdd (ze5 n m) n n) (ze9 n n) ((10:Nat):Int) f L=_;have e1:decide (((10:Nat):Int)<10)=false:=by decide
  have e2:decide ((0:Int)<(f.length:Int))=true:=decide_eq_true (by omega);obtain⟨M,b,h1,h2,h3⟩:=yiu n hs.1 f hf (fun i hi=>hj i hi);simp only[zhc,e1,e2,cond_false,cond_true,ndsS,Bool.true_and,q117,h1,Option.bind_some,kd,d0];rw[List.drop_eq_nil_of_le (by omega),show Int.toNat 0=0 from rfl]
  cases decide ((f.getD 0 ZN).1=2) with
  |false=>rfl
  |true =>
   simp only[Bool.not_true,cond_false,Bool.true_and]
   cases hb:Gr.bfs (ids f) (fold f) 11 [] [0] with
   |none =>
    have:b=false:=by
     cases b with
     |false=>rfl
     |true=>obtain⟨D,hD⟩:=h2.1 rfl;rw[hb]at hD;cases hD
    subst this;obtain⟨n',rfl⟩:∃ k,n=k+1:=⟨n - 1,by have:=hs.1;omega⟩;rfl
   |some D =>
    have:b=true:=h2.2 ⟨D,hb⟩;subst this;rw[h3 D hb];exact zl4 n f (cntN L []) (zch D) hf hL (zcn D) 10 n 0 (by omega) (by have:=hs.1;omega)
 |d+1,m+1,i,L,hi,hm,hL,hb,hj=>by
  show zhc n (zdd (ze5 n m) n n) (ze9 n n) (i:Int) f L=_;have hi10:i<f.length:=by omega
  have hnd:=yiv n hs.2.1 hs.1 (f.getD i d0) (hs.2.2 _ (zbj hi10 d0));have hdr:cntN L (f.drop i)=cntN (cntE L (nm (f.getD i d0))) (f.drop (i+1)):=by rw[zb1 (d:=d0) hi10];rfl
  rw[hdr];have hq:q116 n (((f.getD i d0).1,(f.getD i d0).2.1,(f.getD i d0).2.2.1,(f.getD i d0).2.2.2.1,(f.getD i d0).2.2.2.2.1,(f.getD i d0).2.2.2.2.2.1,(f.getD i d0).2.2.2.2.2.2.1,(f.getD i d0).2.2.2.2.2.2.2.1,(f.getD i d0).2.2.2.2.2.2.2.2),())=some ((ndS (f.getD i d0),()),()):=hnd;simp only[d0]at hq;simp only[zhc,lt10 hi,lt_t hi10,ge_t,cond_true,zaa,ndsS,d0];rw[hq];simp only[Option.bind_some]
  cases hnS:ndS (f.getD i ZN) with
  |false=>rfl
  |true =>
   have hnS':ndS (f.getD i d0)=true:=hnS;have hlen:=zqo hnS';have hbd:=zh1 (nm (f.getD i d0)) L (6*i) hb
   have h10:=zl5 (ze5 n m) n i f hi10 hf (zqp hnS') (nm (f.getD i d0)).length n 0 L (by omega) hlen (by have:=hs.1; omega) hL (fun x=>by
    have:=hb x
    omega)
   rw[List.drop_zero]at h10;have h10':zdd (ze5 n m) n n (i:Int) 0 f L=ze5 n m ((i+1:Nat):Int) f (cntE L (nm (f.getD i d0))):=h10;simp only[Bool.not_true,cond_false,Bool.true_and];rw[h10']
   exact zov n f hf hs d m (i + 1) _ (by omega) (by omega) (by rw [zdh]; exact hL) (fun x=>by
    have:=hbd x
    omega) (fun j hji=>by
    rcases Nat.lt_or_ge j i with h|h
    ·exact hj j h
    ·obtain rfl:j=i:=by omega
     exact hnS')
theorem yf7(n:Nat)(f:List Nd)(hs:SmF n f):p63 n f=some ((okS f,()),()):=by
 show zfg n (ze5 n n) f=_
 by_cases hf:f.length=10
 ·have e1:decide ((f.length:Int)=10)=true:=decide_eq_true (by omega);have:=zov n f hf hs 10 n 0 z10 (by omega) (by have:=hs.1;omega) (by simp[z10]) (fun x=>by rw[zif];omega) (fun j hj=>by omega);rw[List.drop_zero]at this;simp only[zfg,e1,Bool.not_true,cond_false,okS,hf,decide_true,Bool.true_and];exact this
 ·have e1:decide ((f.length:Int)=10)=false:=decide_eq_false (by omega);simp only[zfg,e1,Bool.not_false,cond_true,okS,hf,decide_false,Bool.false_and]
theorem zl8(g:List Nd→Int→Int→List Int→List Int→Option R19)(n:Nat)(f:List Nd)(x3 x4:Int)(L A:List Int)(hA:A.length=10)(hb:∀ x,0≤A.getD x 0∧A.getD x 0≤9):∀ (d m s a:Nat),s+d=11→a<10→d<m →
  zdz g n m (a:Int) (s:Int) f x3 x4 L A=bif Gr.up (abF A) d a then g f x3 (IntKind.i64.wrap (x4+1)) L A else some ((false,()),())
 |_,0,_,_,_,_,h=>by omega
 |0,m+1,s,a,hs,ha,hm=>by
  obtain rfl:s=11:=by omega
  show zc_ n (zdz g n m) g a ((11:Nat):Int) f x3 x4 L A=_;have e1:decide ((10:Int)<((11:Nat):Int))=true:=by decide
  cases a with
  |zero=>rfl
  |succ a =>
   have e2:decide (((a+1:Nat):Int)=0)=false:=decide_eq_false (by omega);simp only[zc_,e1,e2,Bool.not_false,cond_true,Gr.up,cond_false]
 |d+1,m+1,s,a,hs,ha,hm=>by
  show zc_ n (zdz g n m) g a (s:Int) f x3 x4 L A=_;have e1:decide ((10:Int)<(s:Int))=false:=decide_eq_false (by omega)
  cases a with
  |zero=>
   have e2:decide (((0:Nat):Int)=0)=true:=rfl;simp only[zc_,e2,Bool.not_true,cond_false,Gr.up,cond_true]
  |succ a =>
   have e2:decide (((a+1:Nat):Int)=0)=false:=decide_eq_false (by omega);have hba:=hb (a+1);have e3:A.getD (a+1) 0=((abF A (a+1):Nat):Int):=by simp only[abF];omega
   have ih:=zl8 g n f x3 x4 L A hA hb d m (s+1) (abF A (a+1)) (by omega) (by simp only[abF];omega) (by omega);simp only[zc_,e1,e2,Bool.not_false,cond_true,Gr.up,cond_false,ge_t,lt_t (show a+1<A.length by omega),zaa,za4 (show s<4611686018427387904 by omega),e3,ih]
theorem zl9(n:Nat)(hn:100<n)(f:List Nd)(L A:List Int)(hf:f.length=10)(hL:L.length=10)(hA:A.length=10)(hb:∀ x,0≤A.getD x 0∧A.getD x 0≤9):∀ (d m i:Nat),i+d=10→d<m→zb4 n m f 10 (i:Int) L A=some ((zg3 f L A d i,()),())
 |_,0,_,_,h=>by omega
 |0,m+1,i,hi,hm=>by
  obtain rfl:i=10:=by omega
  rfl
 |d+1,m+1,i,hi,hm=>by
  show zi2 n (zb4 n m) (zdz (zb4 n m) n n) f 10 (i:Int) L A=_;have ih:=zl9 n hn f L A hf hL hA hb d m (i+1) (by omega) (by omega);have hup:=zl8 (zb4 n m) n f 10 (i:Int) L A hA hb 11 n 0 i (by omega) (by omega) (by omega);have hup':zdz (zb4 n m) n n (i:Int) 0 f 10 (i:Int) L A=_:=hup;rw[za4 (show i<4611686018427387904 by omega),ih]at hup';simp only[zi2];rw[zaa];simp only[zg3,chkI,lt10 hi,lt_t (show i<f.length by omega),lt_t (show i<L.length by omega),ge_t,cond_true,za4 (show i<4611686018427387904 by omega),ih,hup'];clear hup hup' ih;generalize zg3 f L A d (i+1)=o;generalize f.getD i ZN=a;generalize L.getD i 0=c;generalize Gr.up (abF A) 11 i=u;simp only[yez,kd,lk,op]
  cases decide (a.1=0);rotate_left;· rfl
  cases decide (a.2.2.2.2.1=c);· rfl
  cases decide (a.1=1) <;> cases decide (a.2.2.2.2.1=0) <;> cases decide (a.2.2.2.2.2.1=0) <;> cases decide (a.1=2) <;> cases decide ((0:Int)<(i:Int)) <;> cases decide (a.2.2.2.2.1=1) <;> cases decide ((i:Int)=0) <;> cases u <;> rfl
theorem zl_(g:List Nd→Int→Int→List Nd→List Int→List Int→Option R19)(n:Nat)(hn:100<n)(f:List Nd)(hf:f.length=10)(i:Nat)(hi:i<10)(es:List En)(a1 a2 a3 a4 a5 a6:Int)(a7:Bool)(a8:ByteArray)(h6:es.length≤6):∀ (d m k:Nat) (L A:List Int),k+d=es.length→d<m→L.length=10→A.length=10→(∀ x,0≤L.getD x 0∧L.getD x 0≤1000 - d) →
  zde g n m (i:Int) f 10 (i:Int) es (es.length:Int) (k:Int) f L A a1 a2 a3 a4 a5 a6 a7 a8 es=bif zia f es d k then g f 10 ((i+1:Nat):Int) f (cntE L (es.drop k)) (abvE i A (es.drop k)) else some ((false,()),())
 |_,0,_,_,_,_,h,_,_,_=>by omega
 |0,m+1,k,L,A,hk,hm,hL,hA,hb=>by
  obtain rfl:k=es.length:=by omega
  show zek n (zde g n m) g (i:Int) f 10 (i:Int) es (es.length:Int) (es.length:Int) f L A a1 a2 a3 a4 a5 a6 a7 a8 es=_;simp only[zek,lt_f,cond_false,zia,cond_true,za4 (show i<4611686018427387904 by omega),List.drop_length];rfl
 |d+1,m+1,k,L,A,hk,hm,hL,hA,hb=>by
  have hkl:k<es.length:=by omega
  show zek n (zde g n m) g (i:Int) f 10 (i:Int) es (es.length:Int) (k:Int) f L A a1 a2 a3 a4 a5 a6 a7 a8 es=_;rw[zb1 (d:=e0) hkl];obtain⟨E,hE⟩:∃ E,es.getD k e0=E:=⟨_,rfl⟩;have hE':=hE;simp only[e0]at hE';rw[hE];simp only[zia,entI,hE,zek,zaa,hE',lt_t hkl,ge_t,cond_true,q70,yny n (show 4<n by omega),q61,zkn,Option.bind_some,kd,zdk]
  cases nmOk E.1 with
  |false=>rfl
  |true =>
   by_cases h9:0≤E.2∧E.2≤9
   ·have b0:decide (0≤E.2)=true:=decide_eq_true h9.1;have b1:decide (E.2<(f.length:Int))=true:=decide_eq_true (by omega);have b2:decide (E.2<(L.length:Int))=true:=decide_eq_true (by omega);have b3:decide (E.2<(A.length:Int))=true:=decide_eq_true (by omega);have hb1:=hb E.2.toNat;have hw:IntKind.i64.wrap (L.getD E.2.toNat 0+1)=L.getD E.2.toNat 0+1:=wr (by omega) (by omega)
    have ih:=zl_ g n hn f hf i hi es a1 a2 a3 a4 a5 a6 a7 a8 h6 d m (k + 1) (L.set E.2.toNat (L.getD E.2.toNat 0 + 1)) (A.set E.2.toNat (i:Int)) (by omega) (by omega) (by rw [List.length_set]; exact hL) (by rw [List.length_set]; exact hA) (fun x=>by
     rw[zbh];have h1:=hb x
     split <;> omega)
    have hcn:cntE L (E::es.drop (k+1))=cntE (L.set E.2.toNat (L.getD E.2.toNat 0+1)) (es.drop (k+1)):=rfl;have hab:abvE i A (E::es.drop (k+1))=abvE i (A.set E.2.toNat (i:Int)) (es.drop (k+1)):=rfl;rw[hcn,hab];simp only[h9,and_self,decide_true,Bool.not_true,cond_false,b0,b1,b2,b3,cond_true,hw,za4 (show k<4611686018427387904 by omega),ih,Bool.true_and]
    by_cases hk0:(f.getD E.2.toNat ZN).1=0
    ·have hk0':(f.getD E.2.toNat d0).1=0:=hk0;simp only[hk0,hk0',decide_true,cond_true,Bool.not_true,Bool.false_and,cond_false]
    ·have hk0':¬ (f.getD E.2.toNat d0).1=0:=hk0;simp only[hk0,hk0',decide_false,cond_false,Bool.not_false,Bool.true_and]
     cases k with
     |zero =>
      have z1:decide ((0:Int)<((0:Nat):Int))=false:=rfl;simp only[z1,cond_false,decide_true,Bool.true_or,Bool.true_and]
     |succ k =>
      have e1:decide ((0:Int)<((k+1:Nat):Int))=true:=decide_eq_true (by omega);have e2:decide (k+1=0)=false:=decide_eq_false (by omega);simp only[e1,e2,zmy (show k<4611686018427387904 by omega),ge_t,lt_t (show k<es.length by omega),cond_true,zaa,Nat.add_sub_cancel,Bool.false_or,zw9];have hE2:es.getD (k+1) (ByteArray.empty,(0:Int))=E:=hE';obtain⟨E',hE3⟩:∃ E',es.getD k e0=E':=⟨_,rfl⟩;have hE4:=hE3;simp only[e0]at hE4;simp only[hE3,hE4]
      cases Fs.lt E'.1 E.1 with
      |false=>rfl
      |true=>simp only[Bool.not_true,cond_false,Bool.true_and]
   ·simp only[h9,decide_false,Bool.not_false,Bool.not_true,cond_true,Bool.false_and,Bool.and_false,cond_false]
theorem zox(n:Nat)(hn:100<n)(f:List Nd)(hf:f.length=10):∀ (d m i:Nat) (L A:List Int),i+d=10→d<m→L.length=10→A.length=10→(∀ x,0≤L.getD x 0∧L.getD x 0≤6*i)→(∀ x,0≤A.getD x 0∧A.getD x 0≤9) →
  zcl n m f 10 (i:Int) f L A=some ((ndsI f d i&&zg3 f (cntN L (f.drop i)) (abvN A i (f.drop i)) 10 0,()),())
 |_,0,_,_,_,_,h,_,_,_,_=>by omega
 |0,m+1,i,L,A,hi,hm,hL,hA,hb,hc=>by
  obtain rfl:i=10:=by omega
  show zhf n (zcl n m) (zde (zcl n m) n n) (zb4 n n) f 10 ((10:Nat):Int) f L A=_;have e1:decide (((10:Nat):Int)<10)=false:=by decide
  have h25:=zl9 n hn f L A hf hL hA hc 10 n 0 (by omega) (by omega);have h25':zb4 n n f (f.length:Int) 0 L A=some ((zg3 f L A 10 0,()),()):=by rw[hf];exact h25
  simp only[zhf,e1,cond_false,ndsI,Bool.true_and,h25'];rw[List.drop_eq_nil_of_le (by omega)];rfl
 |d+1,m+1,i,L,A,hi,hm,hL,hA,hb,hc=>by
  show zhf n (zcl n m) (zde (zcl n m) n n) (zb4 n n) f 10 (i:Int) f L A=_;have hi10:i<f.length:=by omega
  have hdr:cntN L (f.drop i)=cntN (cntE L (nm (f.getD i d0))) (f.drop (i+1)):=by rw[zb1 (d:=d0) hi10];rfl
  have hdr2:abvN A i (f.drop i)=abvN (abvE i A (nm (f.getD i d0))) (i+1) (f.drop (i+1)):=by rw[zb1 (d:=d0) hi10];rfl
  rw[hdr,hdr2];simp only[zhf];rw[zaa];simp only[lt10 hi,lt_t hi10,ge_t,cond_true,ndsI,za4 (show i<4611686018427387904 by omega)];obtain⟨⟨a1,a2,a3,a4,a5,a6,a7,a8,a9⟩,ha⟩:∃ a,f.getD i d0=a:=⟨_,rfl⟩;have ha':=ha;simp only[d0]at ha';simp only[ha,ha',nm]
  have hnext:=fun (hl:a9.length≤6)=>zox n hn f hf d m (i + 1) (cntE L a9) (abvE i A a9) (show i + 1 + d=10 by omega) (by omega) (by rw [zdh]; exact hL) (by rw [zfc]; exact hA) (fun x=>by
   have:=zh1 a9 L (6*i) hb x
   omega) (zmw i (by omega) a9 A hc)
  have h16:=fun (hl:a9.length≤6)=>zl_ (zcl n m) n hn f hf i (by omega) a9 a1 a2 a3 a4 a5 a6 a7 a8 hl a9.length n 0 L A (by omega) (by omega) hL hA (fun x=>by have:=hb x;omega)
  have hlp:zg4 (a1,a2,a3,a4,a5,a6,a7,a8,a9)=true→zde (zcl n m) n n (i:Int) f 10 (i:Int) a9 (a9.length:Int) 0 f L A a1 a2 a3 a4 a5 a6 a7 a8 a9=some (((zia f a9 a9.length 0&&ndsI f d (i+1))&&zg3 f (cntN (cntE L a9) (f.drop (i+1))) (abvN (abvE i A a9) (i+1) (f.drop (i+1))) 10 0,()),()):=fun hbs=>by
   have hl:=zlc hbs;have h1:=h16 hl;rw[List.drop_zero,hnext hl]at h1;refine Eq.trans h1 ?_;cases zia f a9 a9.length 0 <;> simp
  have hz:zr (a1,a2,a3,a4,a5,a6,a7,a8,a9)→zcl n m f 10 ((i+1:Nat):Int) f L A=some ((ndsI f d (i+1)&&zg3 f (cntN (cntE L a9) (f.drop (i+1))) (abvN (abvE i A a9) (i+1) (f.drop (i+1))) 10 0,()),()):=fun hz=>by
   have h9:a9=[]:=List.eq_nil_of_length_eq_zero hz.2.2.2.2.2.2.2.2;have:=hnext (by rw[h9];simp);subst h9;exact this
  clear hnext h16 hdr hdr2 ha ha';simp only[ndI,zg4,kd,md,ow,gr,lk,op,mk,tx,nm]at hlp ⊢;simp only[q69,ynz,q61,zkn,Option.bind_some,zeb];generalize zg3 f (cntN (cntE L a9) (f.drop (i+1))) (abvN (abvE i A a9) (i+1) (f.drop (i+1))) 10 0=o1 at hlp hz ⊢;generalize ndsI f d (i+1)=o2 at hlp hz ⊢;generalize zia f a9 a9.length 0=o3 at hlp ⊢;cases decide (a1=0)
  ·clear hz;revert hlp
   cases decide (1≤a1∧a1≤2);· intro;rfl
   cases decide (0≤a2∧a2≤511);· intro;rfl
   cases decide (0≤a3∧a3≤9);· intro;rfl
   cases decide (0≤a4∧a4≤9);· intro;rfl
   cases decide (0≤a6∧a6≤99);· intro;rfl
   cases decide (a1=1)
   ·cases decide (a1=2)
    ·intro hlp;exact hlp rfl
    ·cases decide (a8.size=0);· intro;rfl
     cases a7;rotate_left;· intro;rfl
     cases decide ((6:Int)<(a9.length:Int));rotate_left;· intro;rfl
     intro hlp;exact hlp rfl
   ·cases decide ((40:Int)<(a8.size:Int));rotate_left;· intro;rfl
    cases decide ((0:Int)<(a9.length:Int));rotate_left;· intro;rfl
    cases decide (a1=2)
    ·intro hlp;exact hlp rfl
    ·cases decide (a8.size=0);· intro;rfl
     cases a7;rotate_left;· intro;rfl
     cases decide ((6:Int)<(a9.length:Int));rotate_left;· intro;rfl
     intro hlp;exact hlp rfl
  ·clear hlp
   by_cases hzr:zr (a1,a2,a3,a4,a5,a6,a7,a8,a9)
   ·simp only[cond_true,hzr,decide_true,Bool.not_true,cond_false,Bool.true_and];exact hz hzr
   ·simp only[cond_true,hzr,decide_false,Bool.not_false,Bool.false_and]
theorem yn7(n:Nat)(hn:100<n)(f:List Nd):p19 n f=some ((okI f,()),()):=by
 show zfi n (zcl n n) f=_
 by_cases hf:f.length=10
 ·have e1:decide ((f.length:Int)=10)=true:=decide_eq_true (by omega);have e2:decide ((0:Int)<(f.length:Int))=true:=decide_eq_true (by omega);have e3:List.replicate (Int.toNat 10) (0:Int)=z10:=rfl;have:=zox n hn f hf 10 n 0 z10 z10 (by omega) (by omega) (by simp[z10]) (by simp[z10]) (fun x=>by rw[zif];omega) (fun x=>by rw[zif];omega);rw[List.drop_zero]at this;have e4:decide (((10:Nat):Int)=10)=true:=rfl;have e5:decide ((0:Int)<((10:Nat):Int))=true:=rfl;have this':zcl n n f ((10:Nat):Int) 0 f z10 z10=some ((ndsI f 10 0&&zg3 f (cntN z10 f) (abvN z10 0 f) 10 0,()),()):=this;simp only[zfi,e4,e5,e3,Bool.not_true,cond_false,cond_true,okI,hf,decide_true,Bool.true_and,this'];rw[show Int.toNat 0=0 from rfl];simp only[kd,d0]
  cases decide ((f.getD 0 ZN).1=2) with
  |false=>rfl
  |true=>rfl
 ·have e1:decide ((f.length:Int)=10)=false:=decide_eq_false (by omega);simp only[zfi,e1,Bool.not_false,cond_true,okI,hf,decide_false,Bool.false_and]
end Go.Proofs.Ytbjgiioppmkpiaa.Rx.S
namespace Go.Proofs.Ytbjgiioppmkpiaa.Rx.Fs
open Go Go.Proofs.Ytbjgiioppmkpiaa.Rx.Pu Go.Proofs.Ytbjgiioppmkpiaa.Rx.Gr
theorem zbt{α:Type}{l:List α}{k:Nat}(h:k<l.length)(d:α):l.getD k d∈l:=by
 rw[List.getD_eq_getElem?_getD,List.getElem?_eq_getElem h,Option.getD_some];exact List.getElem_mem h
theorem zb8{α:Type}{l:List α}{k:Nat}(h:k<l.length)(d:α):l.getD k d=l[k]:=by
 rw[List.getD_eq_getElem?_getD,List.getElem?_eq_getElem h,Option.getD_some]
def flat(ns:List Nd):List Nat:=ns.flatMap fun n=>(nm n).map fun e=>e.2.toNat
theorem zpn:∀ (es:List En) (l:List Int) (x:Nat),x<l.length→(cntE l es).getD x 0=l.getD x 0+(((es.map fun e=>e.2.toNat).count x:Nat):Int)
 | [],l,x,_=>by simp[cntE]
 |e::es,l,x,h=>by
  have:=zpn es (l.set e.2.toNat (l.getD e.2.toNat 0+1)) x (by rw[List.length_set];exact h);show (cntE (l.set e.2.toNat (l.getD e.2.toNat 0+1)) es).getD x 0=_;rw[this,zbh,List.map_cons,List.count_cons]
  by_cases hx:e.2.toNat=x
  ·subst hx;rw[if_pos ⟨rfl,h⟩];simp;omega
  ·have:¬ (e.2.toNat=x∧e.2.toNat<l.length):=fun h=>hx h.1;rw[if_neg this];simp[hx]
theorem zpm:∀ (ns:List Nd) (l:List Int) (x:Nat),x<l.length→(cntN l ns).getD x 0=l.getD x 0+(((flat ns).count x:Nat):Int)
 | [],l,x,_=>by simp[cntN,flat]
 |n::ns,l,x,h=>by
  have:=zpm ns (cntE l (nm n)) x (by rw[zdh];exact h);show (cntN (cntE l (nm n)) ns).getD x 0=_;have e2:flat (n::ns)=((nm n).map fun e=>e.2.toNat)++flat ns:=by simp[flat]
  rw[this,zpn _ _ _ h,e2,List.count_append];omega
theorem zpx(i:Nat):∀ (es:List En) (l:List Int) (x:Nat),x<l.length→(x∈(es.map fun e=>e.2.toNat)→(abvE i l es).getD x 0=i)∧(x∉(es.map fun e=>e.2.toNat)→(abvE i l es).getD x 0=l.getD x 0)
 | [],l,x,_=>by simp[abvE]
 |e::es,l,x,h=>by
  obtain⟨h1,h2⟩:=zpx i es (l.set e.2.toNat (i:Int)) x (by rw[List.length_set];exact h);have e1:(abvE i l (e::es))=abvE i (l.set e.2.toNat (i:Int)) es:=rfl;rw[e1];constructor
  ·intro hx
   by_cases hm:x∈(es.map fun e=>e.2.toNat)
   ·exact h1 hm
   ·rw[h2 hm,zbh];rw[List.map_cons]at hx;rcases List.mem_cons.1 hx with rfl|hx
    ·rw[if_pos ⟨rfl,h⟩]
    ·exact absurd hx hm
  ·intro hx;rw[List.map_cons,List.mem_cons]at hx;have hx1:¬ x=e.2.toNat:=fun h=>hx (.inl h);rw[h2 (fun h=>hx (.inr h)),zbh,if_neg (fun h=>hx1 h.1.symm)]
theorem zpw:∀ (ns:List Nd) (i:Nat) (l:List Int) (x:Nat),x<l.length→(x∈flat ns→∃ j,j<ns.length∧(abvN l i ns).getD x 0=((i+j:Nat):Int)∧x∈(nm (ns.getD j d0)).map fun e=>e.2.toNat)∧(x∉flat ns→(abvN l i ns).getD x 0=l.getD x 0)
 | [],i,l,x,_=>by simp[abvN,flat]
 |n::ns,i,l,x,h=>by
  obtain⟨h1,h2⟩:=zpw ns (i+1) (abvE i l (nm n)) x (by rw[zfc];exact h);obtain⟨g1,g2⟩:=zpx i (nm n) l x h;have e1:(abvN l i (n::ns))=abvN (abvE i l (nm n)) (i+1) ns:=rfl;have e2:flat (n::ns)=((nm n).map fun e=>e.2.toNat)++flat ns:=by simp[flat]
  rw[e1,e2];constructor
  ·intro hx
   by_cases hm:x∈flat ns
   ·obtain⟨j,hj,h3,h4⟩:=h1 hm;exact⟨j+1,by simp;omega,by rw[h3];omega,h4⟩
   ·rcases List.mem_append.1 hx with hx|hx
    ·exact⟨0,by simp,by rw[h2 hm,g1 hx];simp,hx⟩
    ·exact absurd hx hm
  ·intro hx;rw[h2 (fun h=>hx (List.mem_append_right _ h)),g2 (fun h=>hx (List.mem_append_left _ h))]
theorem zx2{f:List Nd}(hf:f.length=10):flat f=(List.range 10).flatMap (ids f):=by
 have h:f=(List.range 10).map fun i=>f.getD i d0:=by
  apply List.ext_getElem?;intro j;rw[List.getElem?_map]
  by_cases hj:j<10
  ·rw[List.getElem?_range hj,Option.map_some,List.getElem?_eq_getElem (by omega),List.getD_eq_getElem?_getD,List.getElem?_eq_getElem (by omega)];rfl
  ·rw[List.getElem?_eq_none (by omega),List.getElem?_eq_none (by simp;omega)];rfl
 conv=>lhs;rw[h]
 unfold flat;rw[List.flatMap_map];rfl
theorem zjg{f:List Nd}(hf:f.length=10){x:Nat}(hx:x<10):(cntN z10 f).getD x 0=((many (ids f) 10 x:Nat):Int):=by
 rw[zpm _ _ _ (by simp[z10];exact hx),zif,zx2 hf];simp[many]
theorem zhw{f:List Nd}(hf:f.length=10){i:Nat}(hi:10≤i):ids f i=[]:=by
 unfold ids;rw[List.getD_eq_getElem?_getD,List.getElem?_eq_none (by omega)];rfl
theorem zja{f:List Nd}{x i:Nat}(hi:i<10)(h:x∈ids f i):0<many (ids f) 10 x:=by
 unfold many;rw[List.count_pos_iff,List.mem_flatMap];exact⟨i,List.mem_range.2 hi,h⟩
theorem zjc{f:List Nd}{x:Nat}(h:0<many (ids f) 10 x):∃ i,i<10∧x∈ids f i:=by
 unfold many at h;rw[List.count_pos_iff,List.mem_flatMap]at h;obtain⟨i,hi,hx⟩:=h;exact⟨i,List.mem_range.1 hi,hx⟩
theorem zqs{f:List Nd}(h:∀ i,i<10→(nm (f.getD i d0)).length≤6)(x:Nat):many (ids f) 10 x≤60:=by
 unfold many
 have h1:∀ (l:List Nat),(∀ i∈l,i<10)→(l.flatMap (ids f)).length≤6*l.length:=by
  intro l
  induction l with
  |nil=>simp
  |cons a l ih =>
   intro hl;have h2:=ih (fun i hi=>hl i (List.mem_cons_of_mem _ hi));have h3:=h a (hl a List.mem_cons_self);rw[List.flatMap_cons,List.length_append,List.length_cons];have:(ids f a).length=(nm (f.getD a d0)).length:=by simp[ids]
   omega
 have h4:=List.count_le_length (a:=x) (l:=(List.range 10).flatMap (ids f));have h5:=h1 (List.range 10) (fun i hi=>List.mem_range.1 hi);rw[List.length_range]at h5;omega
structure OkF(f:List Nd):Prop where
 len:f.length=10
 root:kd (f.getD 0 d0)=2
 base:∀ i,i<10→kd (f.getD i d0)≠0→zg4 (f.getD i d0)=true
 zero:∀ i,i<10→kd (f.getD i d0)=0→zr (f.getD i d0)
 ents:∀ i k,i<10→k<(nm (f.getD i d0)).length→nmOk ((nm (f.getD i d0)).getD k e0).1=true∧(1≤((nm (f.getD i d0)).getD k e0).2∧((nm (f.getD i d0)).getD k e0).2≤9)∧kd (f.getD ((nm (f.getD i d0)).getD k e0).2.toNat d0)≠0∧zdk (nm (f.getD i d0)) k=true
 links:∀ i,i<10→kd (f.getD i d0)≠0→lk (f.getD i d0)=((many (ids f) 10 i:Nat):Int)
 live:∀ i,i<10→kd (f.getD i d0)=1→¬ (lk (f.getD i d0)=0∧op (f.getD i d0)=0)
 tree:∃ D,Gr.bfs (ids f) (fold f) 11 [] [0]=some D∧∀ x,x<10→fold f x=true→x∈D
theorem okSv{a:Nd}{c:Int}{b:Bool}:yey a c b=true↔¬ (0<c∧kd a=0)∧(kd a≠0→lk a=c)∧(kd a=2→b=true)∧¬ (kd a=1∧lk a=0∧op a=0):=by
 unfold yey
 by_cases h1:kd a=0 <;> by_cases h2:kd a=2 <;> by_cases h5:kd a=1 <;> by_cases h6:lk a=0 <;> simp[h1,h2,h5,h6]
theorem okIv{a:Nd}{c i:Int}{u:Bool}:yez a c i u=true↔(kd a=0∨(lk a=c∧¬ (kd a=1∧lk a=0∧op a=0)∧(kd a=2→0<i→lk a=1)∧(i=0→lk a=0)∧(kd a=2→u=true))):=by
 unfold yez
 by_cases h1:kd a=0 <;> by_cases h2:kd a=2 <;> by_cases h3:i=0 <;> by_cases h4:0<i <;> by_cases h5:kd a=1 <;> by_cases h6:lk a=0 <;> simp[h1,h2,h3,h4,h5,h6]
theorem zkv(f:List Nd):okS f=true↔OkF f:=by
 unfold okS;constructor
 ·intro h;simp only[Bool.and_eq_true,decide_eq_true_eq]at h;obtain⟨hf,hn,hr,hD⟩:=h
  cases hb:Gr.bfs (ids f) (fold f) 11 [] [0] with
  |none=>rw[hb]at hD;cases hD
  |some D =>
   rw[hb]at hD;have hc:=(zla f _ _ 10 0).1 hD;have hn':=(znj f 10 0).1 hn
   have hcv:∀ i,i<10→¬ (0<many (ids f) 10 i∧kd (f.getD i d0)=0)∧(kd (f.getD i d0)≠0→lk (f.getD i d0)=((many (ids f) 10 i:Nat):Int))∧(kd (f.getD i d0)=2→i∈D)∧¬ (kd (f.getD i d0)=1∧lk (f.getD i d0)=0∧op (f.getD i d0)=0):=fun i hi=>by
    have:=okSv.1 (hc i (by omega) (by omega));rw[zjg hf hi,zhs D i hi]at this;refine⟨fun h=>this.1 ⟨by omega,h.2⟩,this.2.1,fun h=>by simpa using this.2.2.1 h,this.2.2.2⟩
   have hbase:∀ i,i<10→kd (f.getD i d0)≠0→zn6 (f.getD i d0)=true∧zk9 (nm (f.getD i d0)) (nm (f.getD i d0)).length 0=true:=fun i hi hk=>by
    have:=hn' i (by omega) (by omega);unfold ndS at this;rw[decide_eq_false hk]at this;simpa using this
   have hzero:∀ i,i<10→kd (f.getD i d0)=0→zr (f.getD i d0):=fun i hi hk=>by
    have:=hn' i (by omega) (by omega);unfold ndS at this;rw[decide_eq_true hk]at this;simpa using this
   refine⟨hf,hr,fun i hi hk=>?_,hzero,fun i k hi hk=>?_,fun i hi=>(hcv i hi).2.1,fun i hi hk h=>(hcv i hi).2.2.2 ⟨hk,h⟩,D,hb,fun x hx hfx=>(hcv x hx).2.2.1 (by simpa [fold] using hfx)⟩
   ·have h1:=(hbase i hi hk).1;simp only[zn6,zg4,Bool.and_eq_true,Bool.not_eq_true',decide_eq_true_eq,decide_eq_false_iff_not]at h1 ⊢;obtain⟨b1,b2,b3,b4,b5,b6,b7,b8,b9,b10⟩:=h1;refine⟨b1,b2,b3,b4,b5,?_,?_⟩
    ·by_cases h:kd (f.getD i d0)=1
     ·simp only[h,decide_true,cond_true,Bool.and_eq_true,Bool.not_eq_true',decide_eq_false_iff_not]at b10 ⊢;exact⟨b7,b10⟩
     ·simp only[h,decide_false,cond_false]
    ·by_cases h:kd (f.getD i d0)=2
     ·simp only[h,decide_true,cond_true,Bool.and_eq_true,Bool.not_eq_true',decide_eq_false_iff_not]at b9 ⊢;exact⟨b9.1,b9.2,b8⟩
     ·simp only[h,decide_false,cond_false]
   ·have hk0:kd (f.getD i d0)≠0:=fun h=>by
     have:=(hzero i hi h).2.2.2.2.2.2.2.2;omega
    have h1:=(zg1 _ _ 0).1 (hbase i hi hk0).2 k (by omega) (by omega);simp only[entS,Bool.and_eq_true,decide_eq_true_eq]at h1;refine⟨h1.1,h1.2.1,fun h=>?_,h1.2.2⟩;have hx:((nm (f.getD i d0)).getD k e0).2.toNat<10:=by omega
    refine(hcv _ hx).1 ⟨zja hi ?_,h⟩;exact List.mem_map.2 ⟨_,zbt hk _,rfl⟩
 ·intro h;obtain⟨D,hb,hall⟩:=h.tree;simp only[Bool.and_eq_true,decide_eq_true_eq,hb]
  have hlen:∀ i,i<10→(nm (f.getD i d0)).length≤6:=fun i hi=>by
   by_cases hk:kd (f.getD i d0)=0
   ·have:=(h.zero i hi hk).2.2.2.2.2.2.2.2;omega
   ·exact zlc (h.base i hi hk)
  refine⟨h.len,(znj f 10 0).2 fun i _ hi=>?_,h.root,(zla f _ _ 10 0).2 fun i _ hi=>okSv.2 ?_⟩
  ·have hi:i<10:=by omega
   unfold ndS
   by_cases hk:kd (f.getD i d0)=0
   ·rw[decide_eq_true hk];exact decide_eq_true (h.zero i hi hk)
   ·rw[decide_eq_false hk];simp only[cond_false,Bool.and_eq_true];have h1:=h.base i hi hk;refine⟨?_,(zg1 _ _ 0).2 fun k _ hk2=>?_⟩
    ·have hl:=h.links i hi hk;have hm:=zqs hlen i;simp only[zn6,zg4,Bool.and_eq_true,Bool.not_eq_true',decide_eq_true_eq,decide_eq_false_iff_not]at h1 ⊢;obtain⟨b1,b2,b3,b4,b5,b6,b7⟩:=h1;have:kd (f.getD i d0)=1∨kd (f.getD i d0)=2:=by omega
     rcases this with h12|h12
     ·simp only[h12,decide_true,cond_true,Bool.and_eq_true,Bool.not_eq_true',decide_eq_false_iff_not]at b6 b7 ⊢;refine⟨by omega,b2,b3,b4,b5,by omega,b6.1,by omega,by simp,b6.2⟩
     ·simp only[h12,decide_true,cond_true,Bool.and_eq_true,Bool.not_eq_true',decide_eq_false_iff_not,decide_eq_true_eq]at b6 b7 ⊢;refine⟨by omega,b2,b3,b4,b5,by omega,by omega,b7.2.2,⟨b7.1,b7.2.1⟩,by simp⟩
    ·have:=h.ents i k hi (by omega);simp only[entS,Bool.and_eq_true,decide_eq_true_eq];exact⟨this.1,this.2.1,this.2.2.2⟩
  ·have hi:i<10:=by omega
   rw[zjg h.len hi,zhs D i hi];refine⟨fun hh=>?_,h.links i hi,fun hk=>?_,fun hh=>h.live i hi hh.1 hh.2⟩
   ·obtain⟨j,hj,hx⟩:=zjc (f:=f) (x:=i) (by omega);obtain⟨e,he,hei⟩:=List.mem_map.1 hx;obtain⟨k,hk,hke⟩:=List.getElem_of_mem he;have:=(h.ents j k hj hk).2.2.1;rw[zb8 hk,hke,hei]at this;exact this hh.2
   ·simpa using hall i hi (by simpa [fold] using hk)
theorem OkF.nlen{f:List Nd}(h:OkF f):∀ i,i<10→(nm (f.getD i d0)).length≤6:=fun i hi=>by
 by_cases hk:kd (f.getD i d0)=0
 ·have:=(h.zero i hi hk).2.2.2.2.2.2.2.2;omega
 ·exact zlc (h.base i hi hk)
theorem zs0{f:List Nd}(hf:f.length=10)(hb:∀ i,i<10→kd (f.getD i d0)≠0→zg4 (f.getD i d0)=true)(hz:∀ i,i<10→kd (f.getD i d0)=0→zr (f.getD i d0))
  (he:∀ i,i<10→∀ e∈nm (f.getD i d0),1≤e.2∧e.2≤9):(∀ i,∀ x∈ids f i,x<10)∧(∀ i,0∉ids f i)∧(∀ i,ids f i≠[]→fold f i=true)∧(∀ i,10≤i→ids f i=[]) ∧
  (∀ x,many (ids f) 10 x=1→abF (abvN z10 0 f) x<10∧x∈ids f (abF (abvN z10 0 f) x)):=by
 have h1:∀ i,∀ x∈ids f i,1≤x∧x<10:=fun i x hx=>by
  by_cases hi:i<10
  ·obtain⟨e,he1,rfl⟩:=List.mem_map.1 hx;have:=he i hi e he1;omega
  ·rw[zhw hf (by omega)]at hx;cases hx
 refine⟨fun i x hx=>(h1 i x hx).2,fun i hx=>by have:=h1 i 0 hx;omega,fun i hne=>?_,fun i hi=>zhw hf hi,fun x hx=>?_⟩
 ·by_cases hi:i<10
  ·by_cases hk:kd (f.getD i d0)=0
   ·have:=(hz i hi hk).2.2.2.2.2.2.2.2;exact absurd (by unfold ids;rw[List.eq_nil_of_length_eq_zero this];rfl) hne
   ·have h2:=hb i hi hk;simp only[zg4,Bool.and_eq_true,Bool.not_eq_true',decide_eq_true_eq,decide_eq_false_iff_not]at h2;obtain⟨b1,_,_,_,_,b6,_⟩:=h2;have:kd (f.getD i d0)=1∨kd (f.getD i d0)=2:=by omega
    rcases this with h12|h12
    ·simp only[h12,decide_true,cond_true,Bool.and_eq_true,Bool.not_eq_true',decide_eq_false_iff_not]at b6;have:(nm (f.getD i d0)).length=0:=by omega
     exact absurd (by unfold ids;rw[List.eq_nil_of_length_eq_zero this];rfl) hne
    ·simp only[fold,h12,decide_true]
  ·exact absurd (zhw hf (by omega)) hne
 ·obtain⟨i,hi,hxi⟩:=zjc (f:=f) (x:=x) (by omega);have hx10:=(h1 i x hxi).2;have hfl:x∈flat f:=by rw[zx2 hf,List.mem_flatMap];exact⟨i,List.mem_range.2 hi,hxi⟩
  obtain⟨j,hj,h3,h4⟩:=(zpw f 0 z10 x (by simp[z10];exact hx10)).1 hfl;have:abF (abvN z10 0 f) x=j:=by simp only[abF,h3];omega
  rw[this];exact⟨by omega,h4⟩
theorem yi8(f:List Nd):okI f=true↔OkF f:=by
 unfold okI;constructor
 ·intro h;simp only[Bool.and_eq_true,decide_eq_true_eq]at h;obtain⟨hf,hr,hn,hD⟩:=h;have hc:=(zg2 f _ _ 10 0).1 hD;have hn':=(znk f 10 0).1 hn
  have hcv:∀ i,i<10→kd (f.getD i d0)≠0→lk (f.getD i d0)=((many (ids f) 10 i:Nat):Int)∧¬ (kd (f.getD i d0)=1∧lk (f.getD i d0)=0∧op (f.getD i d0)=0)∧(kd (f.getD i d0)=2→0<(i:Int)→lk (f.getD i d0)=1)∧((i:Int)=0→lk (f.getD i d0)=0)∧(kd (f.getD i d0)=2→Gr.up (abF (abvN z10 0 f)) 11 i=true):=fun i hi hk=>by
   rcases okIv.1 (hc i (by omega) (by omega)) with h|h
   ·exact absurd h hk
   ·rw[zjg hf hi]at h;exact h
  have hbase:∀ i,i<10→kd (f.getD i d0)≠0→zg4 (f.getD i d0)=true∧zia f (nm (f.getD i d0)) (nm (f.getD i d0)).length 0=true:=fun i hi hk=>by
   have:=hn' i (by omega) (by omega);unfold ndI at this;rw[decide_eq_false hk]at this;simpa using this
  have hzero:∀ i,i<10→kd (f.getD i d0)=0→zr (f.getD i d0):=fun i hi hk=>by
   have:=hn' i (by omega) (by omega);unfold ndI at this;rw[decide_eq_true hk]at this;simpa using this
  have hm0:many (ids f) 10 0=0:=by
   have h1:=hcv 0 (by omega) (by rw[hr];decide);have h2:=h1.2.2.2.1 rfl;have h3:=h1.1;omega
  have hents:∀ i k,i<10→k<(nm (f.getD i d0)).length→nmOk ((nm (f.getD i d0)).getD k e0).1=true∧(1≤((nm (f.getD i d0)).getD k e0).2∧((nm (f.getD i d0)).getD k e0).2≤9)∧kd (f.getD ((nm (f.getD i d0)).getD k e0).2.toNat d0)≠0∧zdk (nm (f.getD i d0)) k=true:=fun i k hi hk=>by
   have hk0:kd (f.getD i d0)≠0:=fun h=>by
    have:=(hzero i hi h).2.2.2.2.2.2.2.2;omega
   have h1:=(zk_ f _ _ 0).1 (hbase i hi hk0).2 k (by omega) (by omega);simp only[entI,Bool.and_eq_true,decide_eq_true_eq,Bool.not_eq_true',decide_eq_false_iff_not]at h1;refine⟨h1.1,⟨?_,h1.2.1.2⟩,h1.2.2.1,h1.2.2.2⟩
   have hne:((nm (f.getD i d0)).getD k e0).2.toNat≠0:=fun h0=>by
    have:0∈ids f i:=by
     exact List.mem_map.2 ⟨_,zbt hk _,h0⟩
    have:=zja hi this;omega
   omega
  have hmem:∀ i,i<10→∀ e∈nm (f.getD i d0),1≤e.2∧e.2≤9:=fun i hi e he=>by
   obtain⟨k,hk,hke⟩:=List.getElem_of_mem he;have:=(hents i k hi hk).2.1
   rwa [zb8 hk,hke]at this
  obtain⟨p1,p2,p3,p4,p5⟩:=zs0 hf (fun i hi hk=>(hbase i hi hk).1) hzero hmem;have hfo:=(Gr.folders_iff (N:=10) (K:=11) (by omega) (by omega) p1 p2 p3 p4 (by simp only[fold,hr,decide_true]) p5).1;refine⟨hf,hr,fun i hi hk=>(hbase i hi hk).1,hzero,hents,fun i hi hk=>(hcv i hi hk).1,fun i hi hk h=>(hcv i hi (by rw[hk];decide)).2.1 ⟨hk,h⟩,hfo.2 fun x hx hfx hx0=>?_⟩;have h2:kd (f.getD x d0)=2:=by simpa [fold] using hfx
  have:=hcv x hx (by rw[h2];decide);have h3:=this.2.2.1 h2 (by omega);have h4:=this.1;exact⟨by omega,this.2.2.2.2 h2⟩
 ·intro h;simp only[Bool.and_eq_true,decide_eq_true_eq]
  have hmem:∀ i,i<10→∀ e∈nm (f.getD i d0),1≤e.2∧e.2≤9:=fun i hi e he=>by
   obtain⟨k,hk,hke⟩:=List.getElem_of_mem he;have:=(h.ents i k hi hk).2.1
   rwa [zb8 hk,hke]at this
  obtain⟨p1,p2,p3,p4,p5⟩:=zs0 h.len h.base h.zero hmem;have hfo:=(Gr.folders_iff (N:=10) (K:=11) (by omega) (by omega) p1 p2 p3 p4 (by simp only[fold,h.root,decide_true]) p5).1.1 h.tree;refine⟨h.len,h.root,(znk f 10 0).2 fun i _ hi=>?_,(zg2 f _ _ 10 0).2 fun i _ hi=>okIv.2 ?_⟩
  ·have hi:i<10:=by omega
   unfold ndI
   by_cases hk:kd (f.getD i d0)=0
   ·rw[decide_eq_true hk];exact decide_eq_true (h.zero i hi hk)
   ·rw[decide_eq_false hk];simp only[cond_false,Bool.and_eq_true];refine⟨h.base i hi hk,(zk_ f _ _ 0).2 fun k _ hk2=>?_⟩;have:=h.ents i k hi (by omega);simp only[entI,Bool.and_eq_true,decide_eq_true_eq,Bool.not_eq_true',decide_eq_false_iff_not];exact⟨this.1,by omega,this.2.2.1,this.2.2.2⟩
  ·have hi:i<10:=by omega
   rw[zjg h.len hi]
   by_cases hk:kd (f.getD i d0)=0
   ·exact .inl hk
   ·refine .inr ⟨h.links i hi hk,fun hh=>h.live i hi hh.1 hh.2,fun h2 h0=>?_,fun h0=>?_,fun h2=>?_⟩
    ·have:=(hfo i hi (by simpa [fold] using h2) (by omega)).1;have h3:=h.links i hi hk;omega
    ·have h3:=h.links i hi hk;have hi0:i=0:=by omega
     have:many (ids f) 10 i=0:=by
      by_cases hp:0<many (ids f) 10 i
      ·obtain⟨j,_,hj⟩:=zjc hp;rw[hi0]at hj;exact absurd hj (p2 j)
      ·omega
     omega
    ·by_cases hi0:i=0
     ·subst hi0;rfl
     ·exact(hfo i hi (by simpa [fold] using h2) hi0).2
theorem yn9(f:List Nd):okI f=okS f:=by
 have h:=(yi8 f).trans (zkv f).symm;cases h1:okI f <;> cases h2:okS f <;> simp_all
end Go.Proofs.Ytbjgiioppmkpiaa.Rx.Fs
namespace Go.Proofs.Ytbjgiioppmkpiaa.Rx.S
open Go Go.Proofs.Ytbjgiioppmkpiaa.Rx.Pu Go.Proofs.Ytbjgiioppmkpiaa.Rx.Fs
structure SzN(B:Nat)(a:Nd):Prop where
 tx:(tx a).size≤B
 nm:(nm a).length≤B
 en:∀ e∈Fs.nm a,e.1.size≤B
structure SzF(B:Nat)(f:List Nd):Prop where
 len:f.length≤B
 nd:∀ a∈f,SzN B a
theorem SzF.sm{B n:Nat}{f:List Nd}(h:SzF B f)(hB:B<n)(hn:100<n)(hn2:n<4611686018427387904):SmF n f :=
 ⟨hn,hn2,fun a ha=>⟨by have:=(h.nd a ha).tx;omega,by have:=(h.nd a ha).nm;omega,fun e he=>by have:=(h.nd a ha).en e he;omega⟩⟩
abbrev Cr:=Int×Int×List Int
theorem set_self{α:Type}{l:List α}{i:Nat}(d:α)(h:i<l.length):l.set i (l.getD i d)=l:=by
 rw[zb8 h];exact List.set_getElem_self h
theorem yiw(n:Nat)(l:List En)(h:l.length≤2000000):p115 n l=some ((l,()),()):=by
 have e:decide ((0+l.length)*(24:Nat)≤(140737488355328:Nat))=true:=decide_eq_true (by omega);unfold p115;rw[e];rfl
theorem yix(n:Nat)(l:List Nd)(h:l.length≤2000000):p114 n l=some ((l,()),()):=by
 have e:decide (l.length*(96:Nat)≤(140737488355328:Nat))=true:=decide_eq_true (by omega);unfold p114;rw[e];rfl
theorem yn1(n:Nat)(f:List Nd)(h:SzF 2000000 f)(hn:2000000<n):p62 n f=some ((f,()),()):=by
 have hlen:=h.len;show zis n (zkm n n) f=_;simp only[zis,q114,yix n f h.len,Option.bind_some]
 exact zcx (F:=fun k i=>zkm n k (f.length:Int) i f i) (r:=some ((f,()),())) f.length (fun k i hi=>by
  show zhd n (zkm n k) (f.length:Int) (i:Int) f (i:Int)=_;have hc:=yiw n (nm (f.getD i d0)) (h.nd _ (zbj hi d0)).nm;simp only[nm,d0]at hc;have hs:f.set i ((f.getD i d0).1,(f.getD i d0).2.1,(f.getD i d0).2.2.1,(f.getD i d0).2.2.2.1,(f.getD i d0).2.2.2.2.1,(f.getD i d0).2.2.2.2.2.1,(f.getD i d0).2.2.2.2.2.2.1,(f.getD i d0).2.2.2.2.2.2.2.1,(f.getD i d0).2.2.2.2.2.2.2.2)=f:=set_self d0 hi;simp only[d0]at hs;have ele:decide ((i:Int)≤(i:Int))=true:=decide_eq_true (Int.le_refl _);have ele2:decide ((i:Int)≤((i:Nat):Int))=true:=ele;simp only[zhd,lt_t hi,ge_t,ele,cond_true,zaa,q115,hc,Option.bind_some,hs,decide_true,za4 (show i<4611686018427387904 by omega)]
  rw[ymx]) (fun k=>by
  show zhd n (zkm n k) (f.length:Int) (f.length:Int) f (f.length:Int)=_;have ele:decide ((f.length:Int)≤(f.length:Int))=true:=decide_eq_true (Int.le_refl _)
  simp only[zhd,lt_f,cond_false,ele,cond_true]) f.length n 0 (by omega) (by omega)
theorem zuz{α:Type}{l:List α}{i:Nat}(h:i<l.length)(d:α):l.take i++[l.getD i d]=l.take (i+1):=by
 rw[zb8 h,List.take_add_one,List.getElem?_eq_getElem h];rfl
theorem yf5(n:Nat)(f:List Nd)(h:SzF 2000000 f)(hn:2000000<n):p67 n f=some ((f,()),()):=by
 have hlen:=h.len
 have:=zcx (F:=fun k i=>zl2 n k i f (f.take i.toNat)) (r:=some ((f,()),())) f.length (fun k i hi=>by
  show zha n (zl2 n k) (i:Int) f (f.take i)=_;have e1:decide ((0+(nm (f.getD i d0)).length)*(24:Nat)≤(140737488355328:Nat))=true:=decide_eq_true (by have:=(h.nd _ (zbj hi d0)).nm;omega);have e2:∀ x:Nd,decide (((f.take i).length+[x].length)*(96:Nat)≤(140737488355328:Nat))=true:=fun x=>decide_eq_true (by rw[List.length_take];simp only[List.length_cons,List.length_nil];omega);have hs:f.take i++[((f.getD i d0).1,(f.getD i d0).2.1,(f.getD i d0).2.2.1,(f.getD i d0).2.2.2.1,(f.getD i d0).2.2.2.2.1,(f.getD i d0).2.2.2.2.2.1,(f.getD i d0).2.2.2.2.2.2.1,(f.getD i d0).2.2.2.2.2.2.2.1,(f.getD i d0).2.2.2.2.2.2.2.2)]=f.take (i+1):=zuz hi d0;simp only[d0,nm]at hs e1
  simp only[zha,lt_t hi,ge_t,cond_true,zaa,e1,e2,hs,za4 (show i<4611686018427387904 by omega)]) (fun k=>by
  show zha n (zl2 n k) (f.length:Int) f (f.take f.length)=_
  simp only[zha,lt_f,cond_false,List.take_length]) f.length n 0 (by omega) (by omega)
 exact this
structure WfN(a:Nd):Prop where
 tx:(tx a).size≤9223372036854775807
 nm:(nm a).length≤9223372036854775807
 en:∀ e∈Fs.nm a,e.1.size≤9223372036854775807
structure WfF(f:List Nd):Prop where
 len:f.length≤9223372036854775807
 nd:∀ a∈f,WfN a
theorem znu{α:Type}(l:List α)(a:α)(r:List α)(d:α):(l++a::r).getD l.length d=a:=by
 rw[List.getD_eq_getElem?_getD,List.getElem?_append_right (Nat.le_refl _),Nat.sub_self];rfl
def zpj(l:List Int):Nat→Nat→Bool
 |0,_=>true
 |d+1,k=>decide (0≤l.getD k 0∧l.getD k 0≤9)&&((decide (k=0) || !decide (l.getD k 0≤l.getD (k - 1) 0))&&zpj l d (k+1))
def zec(c:Cr):Bool:=zpj c.2.2 c.2.2.length 0&&(decide (0≤c.1∧c.1≤9)&&(decide (0≤c.2.1∧c.2.1≤9)&&decide ((c.2.2.length:Int)≤3)))
theorem zor(n:Nat)(l:List Int)(hl:l.length≤2000000)(u r:Int):∀ (d m k:Nat),k+d=l.length→d<m→zl1 n m l (l.length:Int) (k:Int) u r l=some ((zpj l d k&&(decide (0≤u∧u≤9)&&(decide (0≤r∧r≤9)&&decide ((l.length:Int)≤3))),()),())
 |_,0,_,_,h=>by omega
 |0,m+1,k,hk,hm=>by
  obtain rfl:k=l.length:=by omega
  show zg9 n (zl1 n m) l (l.length:Int) (l.length:Int) u r l=_;simp only[zg9,lt_f,cond_false,zpj,Bool.true_and,q61,zkn,Option.bind_some]
  cases decide (0≤u∧u≤9);· rfl
  cases decide (0≤r∧r≤9) <;> rfl
 |d+1,m+1,k,hk,hm=>by
  have hkl:k<l.length:=by omega
  show zg9 n (zl1 n m) l (l.length:Int) (k:Int) u r l=_;have ih:=zor n l hl u r d m (k+1) (by omega) (by omega);simp only[zg9,lt_t hkl,ge_t,cond_true,zaa,zpj,q61,zkn,Option.bind_some,za4 (show k<4611686018427387904 by omega),ih]
  cases decide (0≤l.getD k 0∧l.getD k 0≤9);· rfl
  cases k with
  |zero=>rfl
  |succ k =>
   have e1:decide ((0:Int)<((k+1:Nat):Int))=true:=decide_eq_true (by omega);have e2:decide (k+1=0)=false:=decide_eq_false (by omega);simp only[e1,e2,zmy (show k<4611686018427387904 by omega),ge_t,lt_t (show k<l.length by omega),Bool.not_true,cond_true,cond_false,zaa,Nat.add_sub_cancel,Bool.false_or,Bool.true_and];cases decide (l.getD (k+1) 0≤l.getD k 0) <;> rfl
theorem yf4(n:Nat)(c:Cr)(hl:c.2.2.length≤2000000)(hn:2000000<n):p79 n c=some ((zec c,()),()):=zor n c.2.2 hl c.1 c.2.1 c.2.2.length n 0 (by omega) (by omega)
theorem zou(n:Nat)(l:List Int)(hl:l.length≤2000000)(u r:Int):∀ (d m k:Nat),k+d=l.length→d<m→zl3 n m (k:Int) u r l=some ((zpj l d k&&(decide (0≤u∧u≤9)&&(decide (0≤r∧r≤9)&&decide ((l.length:Int)≤3))),()),())
 |_,0,_,_,h=>by omega
 |0,m+1,k,hk,hm=>by
  obtain rfl:k=l.length:=by omega
  show zhb n (zl3 n m) (l.length:Int) u r l=_;simp only[zhb,lt_f,cond_false,zpj,Bool.true_and,q118,znf,Option.bind_some]
  cases decide (0≤u∧u≤9);· rfl
  cases decide (0≤r∧r≤9) <;> rfl
 |d+1,m+1,k,hk,hm=>by
  have hkl:k<l.length:=by omega
  show zhb n (zl3 n m) (k:Int) u r l=_;have ih:=zou n l hl u r d m (k+1) (by omega) (by omega);simp only[zhb,lt_t hkl,ge_t,cond_true,zaa,zpj,q118,znf,Option.bind_some,za4 (show k<4611686018427387904 by omega),ih]
  cases decide (0≤l.getD k 0∧l.getD k 0≤9);· rfl
  cases k with
  |zero=>rfl
  |succ k =>
   have e1:decide ((0:Int)<((k+1:Nat):Int))=true:=decide_eq_true (by omega);have e2:decide (k+1=0)=false:=decide_eq_false (by omega);simp only[e1,e2,zmy (show k<4611686018427387904 by omega),ge_t,lt_t (show k<l.length by omega),Bool.not_true,cond_true,cond_false,zaa,Nat.add_sub_cancel,Bool.false_or,Bool.true_and];cases decide (l.getD (k+1) 0≤l.getD k 0) <;> rfl
theorem yn0(n:Nat)(c:Cr)(hl:c.2.2.length≤2000000)(hn:2000000<n):p64 n c=some ((zec c,()),()):=zou n c.2.2 hl c.1 c.2.1 c.2.2.length n 0 (by omega) (by omega)
def hasB(f:List Nd)(id:Int):Bool:=decide (0≤id∧id≤9)&&!decide ((f.getD id.toNat d0).1=0)
theorem yns(n:Nat)(f:List Nd)(hf:f.length=10)(id:Int):p86 n f id=some ((hasB f id,()),()):=by
 show zih n f id=_;have w:IntKind.i64.wrap ((f.length:Int) - 1)=9:=by rw[hf];rfl
 simp only[zih,w,q61,zkn,Option.bind_some,hasB]
 by_cases h:0≤id∧id≤9
 ·have e1:decide (0≤id)=true:=decide_eq_true h.1;have e2:decide (id<(f.length:Int))=true:=decide_eq_true (by omega);simp only[h,and_self,decide_true,cond_true,e1,e2,Bool.true_and]
 ·simp only[h,decide_false,cond_false,Bool.false_and]
theorem yf6(n:Nat)(f:List Nd)(hf:f.length=10)(id:Int):p65 n f id=some ((hasB f id,()),()):=by
 show ziq n f id=_;have w:IntKind.i64.wrap ((f.length:Int) - 1)=9:=by rw[hf];rfl
 simp only[ziq,w,q66,zkl,Option.bind_some,hasB]
 by_cases h:0≤id∧id≤9
 ·have e1:decide (0≤id)=true:=decide_eq_true h.1;have e2:decide (id<(f.length:Int))=true:=decide_eq_true (by omega);simp only[h,and_self,decide_true,cond_true,e1,e2,Bool.true_and]
 ·simp only[h,decide_false,cond_false,Bool.false_and]
theorem zhp{f:List Nd}(h:okS f=true):f.length=10:=((zkv f).1 h).len
theorem zwb(n:Nat)(hn:100<n)(f:List Nd):p19 n f=some ((okS f,()),()):=by rw[yn7 n hn,yn9]
theorem SzF.set{B:Nat}{f:List Nd}(h:SzF B f){i:Nat}{a:Nd}(ha:SzN B a):SzF B (f.set i a) :=
 ⟨by rw [List.length_set]; exact h.len,fun b hb=>by
  rcases List.mem_or_eq_of_mem_set hb with h1|h1
  ·exact h.nd b h1
  ·rw[h1];exact ha⟩
theorem SzF.getD{B:Nat}{f:List Nd}(h:SzF B f){i:Nat}(hi:i<f.length):SzN B (f.getD i d0):=h.nd _ (zbj hi d0)
theorem SzF.nil(B:Nat):SzF B []:=⟨by simp,by simp⟩
noncomputable def zqc(a:Nd)(v:Int):Nd:=(a.1,a.2.1,a.2.2.1,a.2.2.2.1,a.2.2.2.2.1,v,a.2.2.2.2.2.2)
noncomputable def yjp(f:List Nd)(i:Nat):Bool:=!decide (i=0)&&(decide ((f.getD i d0).2.2.2.2.1=0)&&decide ((f.getD i d0).2.2.2.2.2.1=0))
noncomputable def zx1(f:List Nd)(i:Nat):List Nd:=bif yjp f i then f.set i d0 else f
noncomputable def zwo(f:List Nd)(i:Nat)(more:Bool):List Nd×Int :=
 bif more then (bif decide (99≤(f.getD i d0).2.2.2.2.2.1) then (f,6) else (f.set i (zqc (f.getD i d0) ((f.getD i d0).2.2.2.2.2.1+1)),0))
 else (bif decide ((f.getD i d0).2.2.2.2.2.1=0) then (f,6) else (zx1 (f.set i (zqc (f.getD i d0) ((f.getD i d0).2.2.2.2.2.1 - 1))) i,0))
theorem yim{i:Nat}:decide ((0:Int)<(i:Int)) = !decide (i=0):=by
 by_cases h:i=0
 ·rw[decide_eq_true h,decide_eq_false (by omega)];rfl
 ·rw[decide_eq_false h,decide_eq_true (by omega)];rfl
theorem zwl(n:Nat)(f:List Nd)(i:Nat)(hi:i<f.length):p127 n f (i:Int)=some ((zx1 f i,()),()):=by
 show zfw n f (i:Int)=_;unfold zx1 yjp;simp only[zfw,lt_t hi,ge_t,cond_true,zaa,yim,d0]
 cases decide (i=0);· 
  cases decide ((f.getD i ZN).2.2.2.2.1=0);· rfl
  cases decide ((f.getD i ZN).2.2.2.2.2.1=0) <;> rfl
 rfl
theorem yis(n:Nat)(f:List Nd)(i:Nat)(hi:i<f.length)(ho:0≤(f.getD i d0).2.2.2.2.2.1)(ho2:(f.getD i d0).2.2.2.2.2.1≤99)(more:Bool):p132 n f (i:Int) more=some (((zwo f i more).1,((zwo f i more).2,())),()):=by
 have w1:=wr (x:=(f.getD i d0).2.2.2.2.2.1+1) (by omega) (by omega);have w2:=wr (x:=(f.getD i d0).2.2.2.2.2.1 - 1) (by omega) (by omega);have hf:=fun v=>zwl n (f.set i (zqc (f.getD i d0) v)) i (by rw[List.length_set];exact hi);simp only[d0]at w1 w2;simp only[zqc,d0]at hf;show zft n f (i:Int) more=_;unfold zwo;simp only[zft,lt_t hi,ge_t,cond_true,zaa,d0,w1,w2,zqc,q127,hf,Option.bind_some];cases more
 ·simp only[cond_false,Bool.not_false,cond_true];cases decide ((f.getD i ZN).2.2.2.2.2.1=0) <;> rfl
 ·simp only[cond_true,Bool.not_true,cond_false];cases decide (99≤(f.getD i ZN).2.2.2.2.2.1) <;> rfl
theorem SzN.d0(B:Nat):SzN B d0:=⟨Nat.zero_le _,Nat.zero_le _,fun x hx=>by cases hx⟩
end Go.Proofs.Ytbjgiioppmkpiaa.Rx.S
namespace Go.Proofs.Ytbjgiioppmkpiaa.Rx.Gr
section
variable{e e':Nat→List Nat}{fo fo':Nat→Bool}
theorem zd7(N x:Nat):many e (N+1) x=many e N x+(e N).count x:=by
 unfold many;rw[List.range_succ,List.flatMap_append,List.count_append];simp
theorem many_congr{N x:Nat}(h:∀ j,j<N→(e' j).count x=(e j).count x):many e' N x=many e N x:=by
 induction N with
 |zero=>rfl
 |succ N ih=>rw[zd7,zd7,ih (fun j hj=>h j (by omega)),h N (by omega)]
theorem zjb{N x i:Nat}(hi:i<N)(h:∀ j,j<N→j≠i→(e' j).count x=(e j).count x):many e' N x+(e i).count x=many e N x+(e' i).count x:=by
 induction N with
 |zero=>omega
 |succ N ih =>
  rw[zd7,zd7]
  by_cases hn:i=N
  ·subst hn;rw[many_congr (fun j hj=>h j (by omega) (by omega))];omega
  ·have:=ih (by omega) (fun j hj=>h j (by omega));have:=h N (by omega) (fun e=>hn e.symm);omega
theorem yc2{N x:Nat}(h:0<many e N x):∃ i,i<N∧x∈e i:=by
 induction N with
 |zero=>simp[many]at h
 |succ N ih =>
  rw[zd7]at h
  by_cases h1:0<(e N).count x
  ·exact⟨N,by omega,List.count_pos_iff.1 h1⟩
  ·obtain⟨i,h2,h3⟩:=ih (by omega);exact⟨i,by omega,h3⟩
theorem Way.mono(he:∀ i,∀ x∈e i,x∈e' i)(hf:∀ x,fo x=true→fo' x=true):∀ {x k:Nat},Way e fo x k→Way e' fo' x k
 |_,_,.root=>.root
 | y,_,.next hw hy=>.next (Way.mono he hf hw) (by
  obtain⟨h1,h2⟩:=List.mem_filter.1 hy
  exact List.mem_filter.2 ⟨he _ _ h1,hf _ h2⟩)
theorem Way.lt{N:Nat}(hN:0<N)(hr:∀ i,∀ x∈e i,x<N){x k:Nat}(h:Way e fo x k):x<N:=by
 cases h with
 |root=>exact hN
 |next _ hy=>exact hr _ _ (List.mem_filter.1 hy).1
structure Tree(N:Nat)(e:Nat→List Nat)(fo:Nat→Bool):Prop where
 rg:∀ i,∀ x∈e i,x<N
 nz:∀ i,0∉e i
 un:∀ x,x<N→fo x=true→x≠0→many e N x=1
 wy:∀ x,x<N→fo x=true→∃ k,Way e fo x k
theorem Tree.par{N:Nat}(h:Tree N e fo)(hN:0<N){x i j:Nat}(hi:i<N)(hj:j<N)(hf:fo x=true)(h1:x∈e i)(h2:x∈e j):i=j:=by
 by_cases hij:i=j
 ·exact hij
 ·have:=zsj hi hj hij h1 h2;have:=h.un x (h.rg i x h1) hf (fun e=>by subst e;exact h.nz i h1);omega
theorem Tree.uniq{N:Nat}(h:Tree N e fo)(hN:0<N):∀ {x k:Nat},Way e fo x k→∀ {k':Nat},Way e fo x k'→k=k'
 |_,_,.root,k',h'=>by
  generalize hx:(0:Nat)=x at h'
  cases h' with
  |root=>rfl
  |next _ hy=>subst hx;exact absurd (List.mem_filter.1 hy).1 (h.nz _)
 |y,_,.next (x:=x) (k:=k) hw hy,k',h'=>by
  obtain⟨h1,h2⟩:=List.mem_filter.1 hy
  cases h' with
  |root=>exact absurd h1 (h.nz _)
  |next hw' hy' =>
   obtain⟨h3,h4⟩:=List.mem_filter.1 hy';have:=h.par hN (hw.lt hN h.rg) (hw'.lt hN h.rg) h2 h1 h3;subst this;rw[h.uniq hN hw hw']
theorem Tree.path{N:Nat}(h:Tree N e fo)(hN:0<N):∀ {x k:Nat},Way e fo x k→∃ l:List Nat,l.Nodup∧l.length=k+1∧∀ y∈l,y<N∧∃ j,j≤k∧Way e fo y j
 | _,_,.root=>⟨[0],by simp,rfl,fun y hy=>by
  rw[List.mem_singleton.1 hy];exact⟨hN,0,Nat.le_refl _,.root⟩⟩
 |y,_,.next (x:=x) (k:=k) hw hy=>by
  obtain⟨l,h1,h2,h3⟩:=h.path hN hw;have hwy:Way e fo y (k+1):=.next hw hy;refine⟨y::l,List.nodup_cons.2 ⟨fun hm=>?_,h1⟩,by simp[h2],fun z hz=>?_⟩
  ·obtain⟨_,j,hj,hwj⟩:=h3 y hm;have:=h.uniq hN hwy hwj;omega
  ·rcases List.mem_cons.1 hz with rfl|hz
   ·exact⟨hwy.lt hN h.rg,k+1,Nat.le_refl _,hwy⟩
   ·obtain⟨h4,j,hj,hwj⟩:=h3 z hz;exact⟨h4,j,by omega,hwj⟩
theorem Tree.bound{N:Nat}(h:Tree N e fo)(hN:0<N){x k:Nat}(hw:Way e fo x k):k<N:=by
 obtain⟨l,h1,h2,h3⟩:=h.path hN hw;have:=nodup_len (B:=List.range N) h1 (fun a ha=>List.mem_range.2 (h3 a ha).1);simp at this;omega
theorem ygo{ab:Nat→Nat}:∀ (k m x:Nat),k≤m→up ab k x=true→up ab m x=true:=by
 intro k
 induction k with
 |zero =>
  intro m x _ h
  cases x with
  |zero=>cases m <;> simp[up]
  |succ x=>simp[up]at h
 |succ k ih =>
  intro m x hm h
  cases x with
  |zero=>cases m <;> simp[up]
  |succ x =>
   cases m with
   |zero=>omega
   |succ m =>
    simp only[up]at h ⊢;exact ih m _ (by omega) h
theorem zrr{N K:Nat}(hN:0<N)(hK:N<K)(hr:∀ i,∀ x∈e i,x<N)(hz:∀ i,0∉e i)(hf:∀ i,e i≠[]→fo i=true)(hl:∀ i,N≤i→e i=[])(h0:fo 0=true) :
  (∃ D,bfs e fo K [] [0]=some D∧∀ x,x<N→fo x=true→x∈D)↔Tree N e fo:=by
 classical
 have hex:∀ x,∃ a,many e N x=1→a<N∧x∈e a:=fun x=>by
  by_cases h:many e N x=1
  ·obtain⟨i,h1,h2⟩:=yc2 (e:=e) (N:=N) (x:=x) (by omega);exact⟨i,fun _=>⟨h1,h2⟩⟩
  ·exact⟨0,fun h'=>absurd h' h⟩
 let ab:Nat→Nat:=fun x=>(hex x).choose
 have hab:∀ x,many e N x=1→ab x<N∧x∈e (ab x):=fun x=>(hex x).choose_spec;have hfi:=(folders_iff (ab:=ab) hN hK hr hz hf hl h0 hab).1;constructor
 ·intro hD;have h1:=hfi.1 hD;obtain⟨D,hD1,hD2⟩:=hD
  have hw:=(zn4 hr (inv0 hN h0) (fun x hx=>by
   have:x=0:=by simpa using hx
   subst this
   exact⟨0,Nat.le_refl _,.root⟩) hD1).2
  exact ⟨hr,hz,fun x hx hf' hne=>(h1 x hx hf' hne).1,fun x hx hf'=>by
   obtain⟨q,_,h2⟩:=hw x (hD2 x hx hf')
   exact⟨q,h2⟩⟩
 ·intro ht;refine hfi.2 fun x hx hf' hne=>⟨ht.un x hx hf' hne,?_⟩;obtain⟨k,hk⟩:=ht.wy x hx hf';exact ygo k (N+1) x (by have:=ht.bound hN hk;omega) (zuu hr hN ht.un hab hk).2
end
end Go.Proofs.Ytbjgiioppmkpiaa.Rx.Gr
namespace Go.Proofs.Ytbjgiioppmkpiaa.Rx.Fs
open Go Go.Proofs.Ytbjgiioppmkpiaa.Rx.Gr
def ltE(a b:En):Prop:=lt a.1 b.1=true
theorem zjv(es:List En):(∀ k,k<es.length→zdk es k=true)↔es.Pairwise ltE:=by
 rw[List.pairwise_iff_getElem];constructor
 ·intro h
  have key:∀ d i,(hj:i+d+1<es.length)→lt (es.getD i e0).1 (es.getD (i+d+1) e0).1=true:=by
   intro d
   induction d with
   |zero =>
    intro i hj;have:=h (i+1) hj;simp only[zdk,Bool.or_eq_true,decide_eq_true_eq]at this;rcases this with h1|h1
    ·omega
    ·simpa using h1
   |succ d ih =>
    intro i hj;have h1:=ih i (by omega);have:=h (i+(d+1)+1) hj;simp only[zdk,Bool.or_eq_true,decide_eq_true_eq]at this;rcases this with h2|h2
    ·omega
    ·exact lt_trans h1 (by simpa [Nat.add_assoc] using h2)
  intro i j hi hj hij;have:=key (j - i - 1) i (by omega);rw[show i+(j - i - 1)+1=j by omega]at this;simpa [ltE,List.getD_eq_getElem?_getD,List.getElem?_eq_getElem hi,List.getElem?_eq_getElem hj] using this
 ·intro h k hk;simp only[zdk,Bool.or_eq_true,decide_eq_true_eq]
  by_cases h0:k=0
  ·exact .inl h0
  ·right;have:=h (k - 1) k (by omega) hk (by omega);simpa [ltE,List.getD_eq_getElem?_getD,List.getElem?_eq_getElem hk,List.getElem?_eq_getElem (show k - 1<es.length by omega)] using this
def zfb(n:Nd):Prop:=(1≤kd n∧kd n≤2)∧(0≤md n∧md n≤511)∧(0≤op n∧op n≤99)∧(kd n=1→(tx n).size≤40∧(nm n).length=0)∧(kd n=2→(tx n).size=0∧mk n=false∧(nm n).length≤6)
def ownW(n:Nd):Prop:=(0≤ow n∧ow n≤9)∧(0≤gr n∧gr n≤9)
theorem zpr(n:Nd):zg4 n=true↔(1≤kd n∧kd n≤2)∧(0≤md n∧md n≤511)∧(0≤ow n∧ow n≤9)∧(0≤gr n∧gr n≤9)∧(0≤op n∧op n≤99) ∧
  (kd n=1→(tx n).size≤40∧(nm n).length=0)∧(kd n=2→(tx n).size=0∧mk n=false∧(nm n).length≤6):=by
 obtain⟨k,m,o,g,l,p,mm,t,e⟩:=n;simp only[zg4,kd,md,ow,gr,op,tx,nm,mk,Bool.and_eq_true,decide_eq_true_eq]
 by_cases h1:k=1
 ·subst h1;simp;omega
 ·by_cases h2:k=2
  ·subst h2;simp;omega
  ·simp[h1,h2]
theorem zre(n:Nd):zg4 n=true↔zfb n∧ownW n:=by
 rw[zpr];unfold zfb ownW;constructor
 ·rintro ⟨h1,h2,h3,h4,h5,h6,h7⟩;exact⟨⟨h1,h2,h5,h6,h7⟩,h3,h4⟩
 ·rintro ⟨⟨h1,h2,h5,h6,h7⟩,h3,h4⟩;exact⟨h1,h2,h3,h4,h5,h6,h7⟩
structure OkW(f:List Nd):Prop where
 len:f.length=10
 root:kd (f.getD 0 d0)=2
 base:∀ i,i<10→kd (f.getD i d0)≠0→zfb (f.getD i d0)
 zero:∀ i,i<10→kd (f.getD i d0)=0→zr (f.getD i d0)
 ents:∀ i k,i<10→k<(nm (f.getD i d0)).length→nmOk ((nm (f.getD i d0)).getD k e0).1=true∧(1≤((nm (f.getD i d0)).getD k e0).2∧((nm (f.getD i d0)).getD k e0).2≤9)∧kd (f.getD ((nm (f.getD i d0)).getD k e0).2.toNat d0)≠0∧zdk (nm (f.getD i d0)) k=true
 links:∀ i,i<10→kd (f.getD i d0)≠0→lk (f.getD i d0)=((many (ids f) 10 i:Nat):Int)
 live:∀ i,i<10→kd (f.getD i d0)=1→¬ (lk (f.getD i d0)=0∧op (f.getD i d0)=0)
 tree:∃ D,Gr.bfs (ids f) (fold f) 11 [] [0]=some D∧∀ x,x<10→fold f x=true→x∈D
theorem yi7(f:List Nd):OkF f↔OkW f∧∀ i,i<10→kd (f.getD i d0)≠0→ownW (f.getD i d0):=by
 constructor
 ·intro h;exact⟨⟨h.len,h.root,fun i hi hk=>((zre _).1 (h.base i hi hk)).1,h.zero,h.ents,h.links,h.live,h.tree⟩,fun i hi hk=>((zre _).1 (h.base i hi hk)).2⟩
 ·rintro ⟨h,ho⟩;exact⟨h.len,h.root,fun i hi hk=>(zre _).2 ⟨h.base i hi hk,ho i hi hk⟩,h.zero,h.ents,h.links,h.live,h.tree⟩
theorem OkF.toW{f:List Nd}(h:OkF f):OkW f:=((yi7 f).1 h).1
theorem OkW.nlen{f:List Nd}(h:OkW f):∀ i,i<10→(nm (f.getD i d0)).length≤6:=fun i hi=>by
 by_cases hk:kd (f.getD i d0)=0
 ·have:=(h.zero i hi hk).2.2.2.2.2.2.2.2;omega
 ·obtain⟨h1,_,_,h4,h5⟩:=h.base i hi hk;have:kd (f.getD i d0)=1∨kd (f.getD i d0)=2:=by omega
  rcases this with h6|h6
  ·have:=(h4 h6).2;omega
  ·exact(h5 h6).2.2
structure EntsOk(f:List Nd)(es:List En):Prop where
 all:∀ e∈es,nmOk e.1=true∧(1≤e.2∧e.2≤9)∧kd (f.getD e.2.toNat d0)≠0
 pw:es.Pairwise ltE
theorem yjr{f:List Nd}{es:List En}(h:EntsOk f es):∀ k,k<es.length→nmOk (es.getD k e0).1=true∧(1≤(es.getD k e0).2∧(es.getD k e0).2≤9)∧kd (f.getD (es.getD k e0).2.toNat d0)≠0∧zdk es k=true:=fun k hk=>by
 obtain⟨h1,h2,h3⟩:=h.all _ (zbt hk e0);exact⟨h1,h2,h3,(zjv es).2 h.pw k hk⟩
theorem OkW.entsOk{f:List Nd}(h:OkW f){i:Nat}(hi:i<10):EntsOk f (nm (f.getD i d0)) :=
 ⟨fun e he=>by
  obtain⟨k,hk,rfl⟩:=List.mem_iff_getElem.1 he;have:=h.ents i k hi hk;rw[zb8 hk]at this
  exact⟨this.1,this.2.1,this.2.2.1⟩,(zjv _).1 fun k hk=>(h.ents i k hi hk).2.2.2⟩
theorem yfo{f:List Nd}(hf:f.length=10)(hb:∀ i,i<10→kd (f.getD i d0)≠0→zfb (f.getD i d0))(hz:∀ i,i<10→kd (f.getD i d0)=0→zr (f.getD i d0))
  (he:∀ i,i<10→EntsOk f (nm (f.getD i d0))):(∀ i,∀ x∈ids f i,x<10)∧(∀ i,0∉ids f i)∧(∀ i,ids f i≠[]→fold f i=true)∧(∀ i,10≤i→ids f i=[]):=by
 have h1:∀ i,∀ x∈ids f i,1≤x∧x<10:=fun i x hx=>by
  by_cases hi:i<10
  ·obtain⟨e,he1,rfl⟩:=List.mem_map.1 hx;have:=((he i hi).all e he1).2.1;omega
  ·rw[zhw hf (by omega)]at hx;exact(List.not_mem_nil hx).elim
 refine⟨fun i x hx=>(h1 i x hx).2,fun i hx=>by have:=h1 i 0 hx;omega,fun i hne=>?_,fun i hi=>zhw hf hi⟩
 by_cases hi:i<10
 ·by_cases hk:kd (f.getD i d0)=0
  ·have:=(hz i hi hk).2.2.2.2.2.2.2.2;exact absurd (by unfold ids;rw[List.eq_nil_of_length_eq_zero this];rfl) hne
  ·obtain⟨b1,_,_,b4,_⟩:=hb i hi hk;have:kd (f.getD i d0)=1∨kd (f.getD i d0)=2:=by omega
   rcases this with h12|h12
   ·exact absurd (by unfold ids;rw[List.eq_nil_of_length_eq_zero (b4 h12).2];rfl) hne
   ·exact decide_eq_true h12
 ·exact absurd (zhw hf (by omega)) hne
theorem OkW.pre{f:List Nd}(h:OkW f):(∀ i,∀ x∈ids f i,x<10)∧(∀ i,0∉ids f i)∧(∀ i,ids f i≠[]→fold f i=true)∧(∀ i,10≤i→ids f i=[]) :=
 yfo h.len h.base h.zero (fun i hi=>h.entsOk hi)
theorem OkW.tr{f:List Nd}(h:OkW f):Tree 10 (ids f) (fold f):=by
 obtain⟨h1,h2,h3,h4⟩:=h.pre;exact(zrr (by omega) (by omega) h1 h2 h3 h4 (decide_eq_true h.root)).1 h.tree
theorem OkW.of{f:List Nd}(hlen:f.length=10)(hroot:kd (f.getD 0 d0)=2)(hbase:∀ i,i<10→kd (f.getD i d0)≠0→zfb (f.getD i d0))(hzero:∀ i,i<10→kd (f.getD i d0)=0→zr (f.getD i d0))
  (hents:∀ i,i<10→EntsOk f (nm (f.getD i d0))) (hlinks:∀ i,i<10→kd (f.getD i d0)≠0→lk (f.getD i d0)=((many (ids f) 10 i:Nat):Int))
  (hlive:∀ i,i<10→kd (f.getD i d0)=1→¬ (lk (f.getD i d0)=0∧op (f.getD i d0)=0)) (hun:∀ x,x<10→fold f x=true→x≠0→many (ids f) 10 x=1)
  (hwy:∀ x,x<10→fold f x=true→∃ k,Gr.Way (ids f) (fold f) x k):OkW f:=by
 obtain⟨h1,h2,h3,h4⟩:=yfo hlen hbase hzero hents;exact⟨hlen,hroot,hbase,hzero,fun i k hi hk=>yjr (hents i hi) k hk,hlinks,hlive,(zrr (by omega) (by omega) h1 h2 h3 h4 (decide_eq_true hroot)).2 ⟨h1,h2,hun,hwy⟩⟩
theorem zba{f:List Nd}{i:Nat}(hi:i<f.length)(a:Nd)(j:Nat):(f.set i a).getD j d0=if j=i then a else f.getD j d0:=by
 rw[zbh]
 by_cases h:j=i
 ·subst h;rw[if_pos ⟨rfl,hi⟩,if_pos rfl]
 ·rw[if_neg (fun h'=>h h'.1.symm),if_neg h]
theorem OkW.same{f:List Nd}(h:OkW f){i:Nat}(hi:i<10){a:Nd}(hk0:kd (f.getD i d0)≠0)(hk:kd a=kd (f.getD i d0))(hl:lk a=lk (f.getD i d0))(hn:nm a=nm (f.getD i d0))(hb:zfb a)
  (hv:kd a=1→¬ (lk a=0∧op a=0)):OkW (f.set i a):=by
 have hg:=zba (f:=f) (i:=i) (by rw[h.len];exact hi) a
 have hkd:∀ j,kd ((f.set i a).getD j d0)=kd (f.getD j d0):=fun j=>by
  rw[hg];split
  ·rename_i e;rw[e];exact hk
  ·rfl
 have hnm:∀ j,nm ((f.set i a).getD j d0)=nm (f.getD j d0):=fun j=>by
  rw[hg];split
  ·rename_i e;rw[e];exact hn
  ·rfl
 have hlk:∀ j,lk ((f.set i a).getD j d0)=lk (f.getD j d0):=fun j=>by
  rw[hg];split
  ·rename_i e;rw[e];exact hl
  ·rfl
 have hids:ids (f.set i a)=ids f:=by funext j;simp only[ids,hnm]
 have hfold:fold (f.set i a)=fold f:=by funext j;simp only[fold,hkd]
 refine OkW.of (by rw[List.length_set];exact h.len) (by rw[hkd];exact h.root) (fun j hj hj0=>?_) (fun j hj hj0=>?_) (fun j hj=>?_) (fun j hj hj0=>?_) (fun j hj hj1=>?_) ?_ ?_
 ·rw[hkd]at hj0;rw[hg];split
  ·exact hb
  ·exact h.base j hj hj0
 ·rw[hkd]at hj0;rw[hg];split
  ·rename_i e;subst e;exact absurd hj0 hk0
  ·exact h.zero j hj hj0
 ·rw[hnm];exact⟨fun e he=>by rw[hkd];exact(h.entsOk hj).all e he,(h.entsOk hj).pw⟩
 ·rw[hkd]at hj0;rw[hlk,hids];exact h.links j hj hj0
 ·rw[hg]at hj1 ⊢;split
  ·rename_i e;rw[if_pos e]at hj1;exact hv hj1
  ·rename_i e;rw[if_neg e]at hj1;exact h.live j hj hj1
 ·rw[hids,hfold];exact h.tr.un
 ·rw[hids,hfold];exact h.tr.wy
theorem ygl:zr d0:=⟨rfl,rfl,rfl,rfl,rfl,rfl,rfl,rfl,rfl⟩
theorem OkW.nm_file{f:List Nd}(h:OkW f){i:Nat}(hi:i<10)(hk:kd (f.getD i d0)≠2):nm (f.getD i d0)=[]:=by
 by_cases h0:ids f i=[]
 ·unfold ids at h0;exact List.map_eq_nil_iff.1 h0
 ·have:=h.pre.2.2.1 i h0;simp only[fold,decide_eq_true_eq]at this;exact absurd this hk
theorem OkW.many0{f:List Nd}(h:OkW f){x:Nat}(hx:kd (f.getD x d0)=0):many (ids f) 10 x=0:=by
 by_cases h0:many (ids f) 10 x=0
 ·exact h0
 ·obtain⟨i,hi,hm⟩:=zjc (f:=f) (x:=x) (by omega);obtain⟨e,he,rfl⟩:=List.mem_map.1 hm;exact absurd hx ((h.entsOk hi).all e he).2.2
theorem OkW.gone{f:List Nd}(h:OkW f){i:Nat}(hi:i<10)(hk:kd (f.getD i d0)=1)(hl:lk (f.getD i d0)=0):OkW (f.set i d0):=by
 have hg:=zba (f:=f) (i:=i) (by rw[h.len];exact hi) d0;have hnmi:=h.nm_file hi (by omega)
 have hnm:∀ j,nm ((f.set i d0).getD j d0)=nm (f.getD j d0):=fun j=>by
  rw[hg];split
  ·rename_i e;rw[e,hnmi]
  ·rfl
 have hids:ids (f.set i d0)=ids f:=by funext j;simp only[ids,hnm]
 have hfold:fold (f.set i d0)=fold f:=by
  funext j;simp only[fold,hg];split
  ·rename_i e;subst e;rw[hk];rfl
  ·rfl
 have hm0:many (ids f) 10 i=0:=by have:=h.links i hi (by omega);omega
 have hne:i≠0:=fun e=>by subst e;have:=h.root;omega
 refine OkW.of (by rw[List.length_set];exact h.len) (by rw[hg,if_neg (fun e=>hne e.symm)];exact h.root) (fun j hj hj0=>?_) (fun j hj hj0=>?_) (fun j hj=>?_) (fun j hj hj0=>?_) (fun j hj hj1=>?_) ?_ ?_
 ·rw[hg]at hj0 ⊢;split
  ·rename_i e;rw[if_pos e]at hj0;exact absurd rfl hj0
  ·rename_i e;rw[if_neg e]at hj0;exact h.base j hj hj0
 ·rw[hg]at hj0 ⊢;split
  ·exact ygl
  ·rename_i e;rw[if_neg e]at hj0;exact h.zero j hj hj0
 ·rw[hnm];refine⟨fun e he=>?_,(h.entsOk hj).pw⟩;obtain⟨h1,h2,h3⟩:=(h.entsOk hj).all e he;refine⟨h1,h2,?_⟩;rw[hg,if_neg]
  ·exact h3
  ·intro hei;have:=zja hj (x:=i) (f:=f) (List.mem_map.2 ⟨e,he,hei⟩);omega
 ·rw[hg]at hj0 ⊢;rw[hids];split
  ·rename_i e;rw[if_pos e]at hj0;exact absurd rfl hj0
  ·rename_i e;rw[if_neg e]at hj0;exact h.links j hj hj0
 ·rw[hg]at hj1 ⊢;split
  ·rename_i e;rw[if_pos e]at hj1;cases hj1
  ·rename_i e;rw[if_neg e]at hj1;exact h.live j hj hj1
 ·rw[hids,hfold];exact h.tr.un
 ·rw[hids,hfold];exact h.tr.wy
def insE(x:En):List En→List En
 | []=>[x]
 |y::ys=>bif lt x.1 y.1 then x::y::ys else y::insE x ys
theorem zd_(x:En):∀ es:List En,(insE x es).Perm (x::es)
 | []=>List.Perm.refl _
 |y::ys=>by
  simp only[insE]
  cases lt x.1 y.1 with
  |true=>exact List.Perm.refl _
  |false=>exact((zd_ x ys).cons y).trans (List.Perm.swap x y ys)
theorem zsu(x:En)(es:List En):(insE x es).length=es.length+1:=by rw[(zd_ x es).length_eq,List.length_cons]
theorem zns{x y:En}{es:List En}:y∈insE x es↔y=x∨y∈es:=by rw[(zd_ x es).mem_iff,List.mem_cons]
theorem zq2{x:En}:∀ {es:List En},es.Pairwise ltE→(∀ y∈es,y.1≠x.1)→(insE x es).Pairwise ltE
 | [],_,_=>List.pairwise_singleton _ _
 |y::ys,h,hn=>by
  obtain⟨h1,h2⟩:=List.pairwise_cons.1 h;simp only[insE]
  cases hl:lt x.1 y.1 with
  |true =>
   refine List.pairwise_cons.2 ⟨fun z hz=>?_,h⟩;rcases List.mem_cons.1 hz with rfl|hz
   ·exact hl
   ·exact lt_trans hl (h1 z hz)
  |false =>
   refine List.pairwise_cons.2 ⟨fun z hz=>?_,zq2 h2 (fun z hz=>hn z (List.mem_cons_of_mem _ hz))⟩;rcases zns.1 hz with rfl|hz
   ·rcases zsl y.1 z.1 with h3|h3|h3
    ·exact h3
    ·exact absurd h3 (hn y List.mem_cons_self)
    ·rw[h3]at hl;cases hl
   ·exact h1 z hz
noncomputable def zez(a:Nd)(es:List En):Nd:=(a.1,a.2.1,a.2.2.1,a.2.2.2.1,a.2.2.2.2.1,a.2.2.2.2.2.1,a.2.2.2.2.2.2.1,a.2.2.2.2.2.2.2.1,es)
noncomputable def zcw(a:Nd)(v:Int):Nd:=(a.1,a.2.1,a.2.2.1,a.2.2.2.1,v,a.2.2.2.2.2)
theorem zn5{a:Nd}(hk:kd a=2)(h:zfb a){es:List En}(hl:es.length≤6):zfb (zez a es):=by
 obtain⟨h1,h2,h5,h6,h7⟩:=h;refine⟨h1,h2,h5,fun hk1=>?_,fun hk2=>?_⟩
 ·exact absurd (show kd a=1 from hk1) (by omega)
 ·exact⟨(h7 hk).1,(h7 hk).2.1,hl⟩
theorem zyx{a:Nd}(h:zfb a)(v:Int):zfb (zcw a v):=h
theorem zsw{f:List Nd}(hlen:f.length=10){i y:Nat}(hi:i<10)(hy:y<10)(hiy:i≠y)(A B:Nd)(j:Nat):((f.set y A).set i B).getD j d0=if j=i then B else if j=y then A else f.getD j d0:=by
 rw[zba (by rw[List.length_set,hlen];exact hi),zba (by rw[hlen];exact hy)]
theorem OkW.put{f:List Nd}(h:OkW f){i y:Nat}(hi:i<10)(hy:y<10)(hki:kd (f.getD i d0)=2){A:Nd}{name:ByteArray}(hA:kd A=1∨kd A=2)(hnA:nm A=[])(hbA:zfb A)(hlA:lk A≠0)
  (hc:(kd (f.getD y d0)=0∧lk A=1)∨(kd (f.getD y d0)=1∧kd A=1∧lk A=lk (f.getD y d0)+1)) (hname:nmOk name=true) (hfr:∀ e∈nm (f.getD i d0),e.1≠name) (hl:(nm (f.getD i d0)).length≤5) :
  OkW ((f.set y A).set i (zez (f.getD i d0) (insE (name,(y:Int)) (nm (f.getD i d0))))):=by
 have hiy:i≠y:=fun e=>by subst e;rw[hki]at hc;omega
 have hy0:y≠0:=fun e=>by subst e;have:=h.root;omega
 have hny:nm (f.getD y d0)=[]:=h.nm_file hy (by omega);generalize hB:zez (f.getD i d0) (insE (name,(y:Int)) (nm (f.getD i d0)))=B;have hkB:kd B=2:=by rw[← hB];exact hki
 have hlB:lk B=lk (f.getD i d0):=by rw[← hB];rfl
 have hnB:nm B=insE (name,(y:Int)) (nm (f.getD i d0)):=by rw[← hB];rfl
 have hbB:zfb B:=by rw[← hB];exact zn5 hki (h.base i hi (by omega)) (by rw[zsu];omega)
 have hg:=zsw h.len hi hy hiy A B
 have hids:∀ j,j≠i→ids ((f.set y A).set i B) j=ids f j:=fun j hj=>by
  simp only[ids,hg,if_neg hj];split
  ·rename_i e;rw[e,hny,hnA]
  ·rfl
 have hidi:∀ x,(ids ((f.set y A).set i B) i).count x=(ids f i).count x+(if x=y then 1 else 0):=fun x=>by
  simp only[ids,hg,if_true,hnB];rw[((zd_ (name,(y:Int)) (nm (f.getD i d0))).map _).count_eq,List.map_cons,List.count_cons];simp only[Int.toNat_natCast,beq_iff_eq]
  by_cases e:x=y
  ·rw[if_pos e,if_pos e.symm]
  ·rw[if_neg e,if_neg (fun e'=>e e'.symm)]
 have hsub:∀ j,∀ x∈ids f j,x∈ids ((f.set y A).set i B) j:=fun j x hx=>by
  by_cases hj:j=i
  ·subst hj;have:=hidi x;have:=List.count_pos_iff.2 hx;exact List.count_pos_iff.1 (by omega)
  ·rw[hids j hj];exact hx
 have hyi:y∈ids ((f.set y A).set i B) i:=List.count_pos_iff.1 (by rw[hidi,if_pos rfl];omega)
 have hmany:∀ x,many (ids ((f.set y A).set i B)) 10 x=many (ids f) 10 x+(if x=y then 1 else 0):=fun x=>by
  have:=zjb (e:=ids f) (e':=ids ((f.set y A).set i B)) (N:=10) (x:=x) hi (fun j _ hj=>by rw[hids j hj]);rw[hidi]at this;omega
 have hmy:lk A=((many (ids f) 10 y:Nat):Int)+1:=by
  rcases hc with ⟨h1,h2⟩|⟨h1,_,h2⟩
  ·rw[h.many0 h1,h2];rfl
  ·rw[h2,h.links y hy (by omega)]
 have hfo:∀ x,fold f x=true→fold ((f.set y A).set i B) x=true:=fun x hx=>by
  simp only[fold,decide_eq_true_eq,hg]at hx ⊢;split
  ·exact hkB
  ·split
   ·rename_i e;subst e;omega
   ·exact hx
 have hwy:∀ x k,Gr.Way (ids f) (fold f) x k→Gr.Way (ids ((f.set y A).set i B)) (fold ((f.set y A).set i B)) x k:=fun x k hw=>hw.mono hsub hfo
 have hkd0:∀ x,kd (f.getD x d0)≠0→kd (((f.set y A).set i B).getD x d0)≠0:=fun x hx=>by
  rw[hg];split
  ·omega
  ·split
   ·omega
   ·exact hx
 have hr:kd (((f.set y A).set i B).getD 0 d0)=2:=by
  rw[hg];split
  ·exact hkB
  ·rw[if_neg (fun e=>hy0 e.symm)];exact h.root
 refine OkW.of (by rw[List.length_set,List.length_set];exact h.len) hr (fun j hj hj0=>?_) (fun j hj hj0=>?_) (fun j hj=>?_) (fun j hj hj0=>?_) (fun j hj hj1=>?_) (fun x hx hxf hx0=>?_) (fun x hx hxf=>?_)
 ·rw[hg]at hj0 ⊢;split
  ·exact hbB
  ·split
   ·exact hbA
   ·rename_i e1 e2;rw[if_neg e1,if_neg e2]at hj0;exact h.base j hj hj0
 ·rw[hg]at hj0 ⊢;split
  ·rename_i e;rw[if_pos e]at hj0;omega
  ·split
   ·rename_i e1 e2;rw[if_neg e1,if_pos e2]at hj0;omega
   ·rename_i e1 e2;rw[if_neg e1,if_neg e2]at hj0;exact h.zero j hj hj0
 ·by_cases hji:j=i
  ·subst hji;rw[hg,if_pos rfl,hnB];refine⟨fun e he=>?_,zq2 (h.entsOk hj).pw hfr⟩;rcases zns.1 he with rfl|he
   ·refine⟨hname,⟨by show (1:Int)≤(y:Int);omega,by show (y:Int)≤9;omega⟩,?_⟩;show kd (((f.set y A).set j B).getD (y:Int).toNat d0)≠0;rw[Int.toNat_natCast,hg,if_neg (fun e=>hiy e.symm),if_pos rfl];omega
   ·obtain⟨h1,h2,h3⟩:=(h.entsOk hj).all e he;exact⟨h1,h2,hkd0 _ h3⟩
  ·rw[hg,if_neg hji];split
   ·rw[hnA];exact⟨fun e he=>(List.not_mem_nil he).elim,List.Pairwise.nil⟩
   ·refine⟨fun e he=>?_,(h.entsOk hj).pw⟩;obtain⟨h1,h2,h3⟩:=(h.entsOk hj).all e he;exact⟨h1,h2,hkd0 _ h3⟩
 ·rw[hmany];rw[hg]at hj0 ⊢;split
  ·rename_i e;subst e;rw[if_neg hiy,hlB];exact h.links j hj (by omega)
  ·rename_i e1;split
   ·rename_i e;subst e;rw[hmy];rfl
   ·rename_i e2;rw[if_neg e1,if_neg e2]at hj0;exact h.links j hj hj0
 ·rw[hg]at hj1 ⊢;split
  ·rename_i e;rw[if_pos e]at hj1;omega
  ·split
   ·exact fun h2=>hlA h2.1
   ·rename_i e1 e2;rw[if_neg e1,if_neg e2]at hj1;exact h.live j hj hj1
 ·rw[hmany]
  by_cases e:x=y
  ·subst e;rw[if_pos rfl];rcases hc with ⟨h1,_⟩|⟨_,h1,_⟩
   ·rw[h.many0 h1]
   ·simp only[fold,hg,if_neg (Ne.symm hiy),if_true,decide_eq_true_eq]at hxf;omega
  ·rw[if_neg e];refine h.tr.un x hx ?_ hx0;simp only[fold,hg,decide_eq_true_eq]at hxf ⊢
   by_cases e2:x=i
   ·rw[e2];exact hki
   ·rw[if_neg e2,if_neg e]at hxf;exact hxf
 ·by_cases e:x=y
  ·subst e;obtain⟨k,hk⟩:=h.tr.wy i hi (decide_eq_true hki);exact⟨k+1,.next (hwy i k hk) (List.mem_filter.2 ⟨hyi,hxf⟩)⟩
  ·have hxf':fold f x=true:=by
    simp only[fold,hg,decide_eq_true_eq]at hxf ⊢
    by_cases e2:x=i
    ·rw[e2];exact hki
    ·rw[if_neg e2,if_neg e]at hxf;exact hxf
   obtain⟨k,hk⟩:=h.tr.wy x hx hxf';exact⟨k,hwy x k hk⟩
end Go.Proofs.Ytbjgiioppmkpiaa.Rx.Fs
namespace Go.Proofs.Ytbjgiioppmkpiaa.Rx.Gr
inductive DnR(e:Nat→List Nat)(fo:Nat→Bool)(y:Nat):Nat→Prop
 |refl:DnR e fo y y
 |step {x z:Nat}:DnR e fo y x→z∈chl e fo x→DnR e fo y z
end Go.Proofs.Ytbjgiioppmkpiaa.Rx.Gr
namespace Go.Proofs.Ytbjgiioppmkpiaa.Rx.Fs
open Go Go.Proofs.Ytbjgiioppmkpiaa.Rx.Gr
theorem zk8{es:List En}{k:Nat}(hk:k<es.length)(x:Nat):((es.eraseIdx k).map fun e=>e.2.toNat).count x+(if x=(es.getD k e0).2.toNat then 1 else 0)=(es.map fun e=>e.2.toNat).count x:=by
 have e1:es.eraseIdx k=es.take k++es.drop (k+1):=List.eraseIdx_eq_take_drop_succ es k;have e2:es=es.take k++(es[k]::es.drop (k+1)):=by rw[← List.drop_eq_getElem_cons hk,List.take_append_drop]
 have e3:(es.map fun e=>e.2.toNat).count x=((es.take k++(es[k]::es.drop (k+1))).map fun e:En=>e.2.toNat).count x:=by rw[← e2]
 rw[zb8 hk,e1,e3];simp only[List.map_append,List.map_cons,List.count_append,List.count_cons,beq_iff_eq]
 by_cases e:x=es[k].2.toNat
 ·rw[if_pos e,if_pos e.symm];omega
 ·rw[if_neg e,if_neg (fun e'=>e e'.symm)];omega
theorem zk7{es:List En}{k:Nat}(hk:k<es.length):(es.eraseIdx k).length+1=es.length:=by rw[List.length_eraseIdx,if_pos hk];omega
theorem zpi{es:List En}{k:Nat}{e:En}(h:e∈es.eraseIdx k):e∈es:=(List.eraseIdx_sublist es k).subset h
theorem zs2{es:List En}{k:Nat}(h:es.Pairwise ltE):(es.eraseIdx k).Pairwise ltE:=h.sublist (List.eraseIdx_sublist es k)
theorem OkW.drop{f:List Nd}(h:OkW f){i k y:Nat}(hi:i<10)(hki:kd (f.getD i d0)=2)(hk:k<(nm (f.getD i d0)).length)(hy:y=((nm (f.getD i d0)).getD k e0).2.toNat){A:Nd}(hnA:nm A=[])
  (hny:nm (f.getD y d0)=[]) (hc:(A=d0∧lk (f.getD y d0)=1)∨(kd A=1∧kd (f.getD y d0)=1∧lk A=lk (f.getD y d0) - 1∧zfb A∧¬ (lk A=0∧op A=0))) :
  OkW ((f.set i (zez (f.getD i d0) ((nm (f.getD i d0)).eraseIdx k))).set y A):=by
 obtain⟨_,hy9,hky⟩:=(h.entsOk hi).all _ (zbt hk e0);rw[← hy]at hky;have hy10:y<10:=by omega
 have hy0:y≠0:=by omega
 have hyi:y≠i:=fun e=>by rw[e]at hny;rw[hny]at hk;simp at hk
 generalize hB:zez (f.getD i d0) ((nm (f.getD i d0)).eraseIdx k)=B;have hkB:kd B=2:=by rw[← hB];exact hki
 have hlB:lk B=lk (f.getD i d0):=by rw[← hB];rfl
 have hnB:nm B=(nm (f.getD i d0)).eraseIdx k:=by rw[← hB];rfl
 have hel:=zk7 hk;have hnl:=h.nlen i hi;have hbB:zfb B:=by rw[← hB];exact zn5 hki (h.base i hi (by omega)) (by omega)
 have hg:=zsw h.len hy10 hi hyi B A;have hmy:many (ids f) 10 y=(lk (f.getD y d0)).toNat:=by have:=h.links y hy10 hky;omega
 have hids:∀ j,j≠i→ids ((f.set i B).set y A) j=ids f j:=fun j hj=>by
  simp only[ids,hg];split
  ·rename_i e;rw[e,hny,hnA]
  ·first|rw[if_neg hj]|rfl
 have hidi:∀ x,(ids ((f.set i B).set y A) i).count x+(if x=y then 1 else 0)=(ids f i).count x:=fun x=>by
  have:=zk8 hk x;rw[← hy]at this;simp only[ids,hg,if_neg (Ne.symm hyi),if_true,hnB];exact this
 have hsub:∀ j,∀ x∈ids f j,x≠y→x∈ids ((f.set i B).set y A) j:=fun j x hx hxy=>by
  by_cases hj:j=i
  ·subst hj;have h1:=hidi x;rw[if_neg hxy]at h1;have:=List.count_pos_iff.2 hx;exact List.count_pos_iff.1 (by omega)
  ·rw[hids j hj];exact hx
 have hmany:∀ x,many (ids ((f.set i B).set y A)) 10 x+(if x=y then 1 else 0)=many (ids f) 10 x:=fun x=>by
  have:=zjb (e:=ids f) (e':=ids ((f.set i B).set y A)) (N:=10) (x:=x) hi (fun j _ hj=>by rw[hids j hj]);have:=hidi x;omega
 have hfo:∀ x,x≠y→fold ((f.set i B).set y A) x=fold f x:=fun x hx=>by
  simp only[fold,hg,if_neg hx];split
  ·rename_i e;subst e;rw[hkB,hki]
  ·rfl
 have hfy:fold ((f.set i B).set y A) y=false:=by
  simp only[fold,hg,if_true];rcases hc with ⟨rfl,_⟩|⟨h1,_⟩
  ·rfl
  ·rw[h1];rfl
 have hwy:∀ x k,Gr.Way (ids f) (fold f) x k→x≠y→Gr.Way (ids ((f.set i B).set y A)) (fold ((f.set i B).set y A)) x k:=by
  intro x k hw
  induction hw with
  |root=>intro _;exact .root
  |next hw hz ih =>
   rename_i p z k;intro hzy;obtain⟨h1,h2⟩:=List.mem_filter.1 hz;have hpy:p≠y:=fun e=>by subst e;simp only[ids,hny]at h1;exact(List.not_mem_nil h1).elim
   exact .next (ih hpy) (List.mem_filter.2 ⟨hsub p z h1 hzy,by rw[hfo z hzy];exact h2⟩)
 have hkd0:∀ x,kd (f.getD x d0)≠0→(x=y→many (ids ((f.set i B).set y A)) 10 x≠0)→kd (((f.set i B).set y A).getD x d0)≠0:=fun x hx hxy=>by
  rw[hg];split
  ·rename_i e;subst e;rcases hc with ⟨rfl,h1⟩|⟨h1,_⟩
   ·have:=hmany x;rw[if_pos rfl,hmy,h1]at this;exact absurd (by omega) (hxy rfl)
   ·omega
  ·split
   ·omega
   ·exact hx
 have hent:∀ j,j<10→∀ es,(∀ e∈es,e∈nm (f.getD j d0))→nm (((f.set i B).set y A).getD j d0)=es→es.Pairwise ltE→EntsOk ((f.set i B).set y A) es:=fun j hj es hes hee hpw =>
  ⟨fun e he=>by
   obtain⟨h1,h2,h3⟩:=(h.entsOk hj).all e (hes e he);refine⟨h1,h2,hkd0 _ h3 (fun e1=>?_)⟩;have:=zja (f:=(f.set i B).set y A) (x:=e.2.toNat) hj (List.mem_map.2 ⟨e,by rw[hee];exact he,rfl⟩)
   omega,hpw⟩
 have hr:kd (((f.set i B).set y A).getD 0 d0)=2:=by
  rw[hg,if_neg (Ne.symm hy0)];split
  ·exact hkB
  ·exact h.root
 refine OkW.of (by rw[List.length_set,List.length_set];exact h.len) hr (fun j hj hj0=>?_) (fun j hj hj0=>?_) (fun j hj=>?_) (fun j hj hj0=>?_) (fun j hj hj1=>?_) (fun x hx hxf hx0=>?_) (fun x hx hxf=>?_)
 ·rw[hg]at hj0 ⊢
  by_cases e1:j=y
  ·rw[if_pos e1]at hj0 ⊢;rcases hc with ⟨rfl,_⟩|⟨_,_,_,h1,_⟩
   ·exact absurd rfl hj0
   ·exact h1
  ·rw[if_neg e1]at hj0 ⊢
   by_cases e2:j=i
   ·rw[if_pos e2];exact hbB
   ·rw[if_neg e2]at hj0 ⊢;exact h.base j hj hj0
 ·rw[hg]at hj0 ⊢
  by_cases e1:j=y
  ·rw[if_pos e1]at hj0 ⊢;rcases hc with ⟨rfl,_⟩|⟨h1,_⟩
   ·exact ygl
   ·omega
  ·rw[if_neg e1]at hj0 ⊢
   by_cases e2:j=i
   ·rw[if_pos e2]at hj0;omega
   ·rw[if_neg e2]at hj0 ⊢;exact h.zero j hj hj0
 ·by_cases e1:j=y
  ·have:nm (((f.set i B).set y A).getD j d0)=[]:=by rw[hg,if_pos e1,hnA]
   rw[this];exact⟨fun e he=>(List.not_mem_nil he).elim,List.Pairwise.nil⟩
  ·by_cases e2:j=i
   ·have hn:nm (((f.set i B).set y A).getD j d0)=(nm (f.getD i d0)).eraseIdx k:=by rw[hg,if_neg e1,if_pos e2,hnB]
    rw[hn];exact hent j hj _ (fun e he=>by rw[e2];exact zpi he) hn (zs2 (h.entsOk hi).pw)
   ·have hn:nm (((f.set i B).set y A).getD j d0)=nm (f.getD j d0):=by rw[hg,if_neg e1,if_neg e2]
    rw[hn];exact hent j hj _ (fun e he=>he) hn (h.entsOk hj).pw
 ·have hm:=hmany j
  by_cases e1:j=y
  ·subst e1;rw[if_pos rfl,hmy]at hm;rw[hg,if_pos rfl]at hj0 ⊢;rcases hc with ⟨rfl,_⟩|⟨_,_,h1,_⟩
   ·exact absurd rfl hj0
   ·have:=h.links j hj hky;omega
  ·rw[if_neg e1]at hm;rw[hg,if_neg e1]at hj0 ⊢
   by_cases e2:j=i
   ·rw[if_pos e2,hlB];rw[e2]at hm;have:=h.links i hi (by omega);rw[e2];omega
   ·rw[if_neg e2]at hj0 ⊢;have:=h.links j hj hj0;omega
 ·rw[hg]at hj1 ⊢
  by_cases e1:j=y
  ·rw[if_pos e1]at hj1 ⊢;rcases hc with ⟨rfl,_⟩|⟨_,_,_,_,h1⟩
   ·cases hj1
   ·exact h1
  ·rw[if_neg e1]at hj1 ⊢
   by_cases e2:j=i
   ·rw[if_pos e2]at hj1;omega
   ·rw[if_neg e2]at hj1 ⊢;exact h.live j hj hj1
 ·have hxy:x≠y:=fun e=>by subst e;rw[hfy]at hxf;cases hxf
  have hm:=hmany x;rw[if_neg hxy]at hm;rw[hfo x hxy]at hxf;have:=h.tr.un x hx hxf hx0;omega
 ·have hxy:x≠y:=fun e=>by subst e;rw[hfy]at hxf;cases hxf
  rw[hfo x hxy]at hxf;obtain⟨k',hk'⟩:=h.tr.wy x hx hxf;exact⟨k',hwy x k' hk' hxy⟩
noncomputable def movG(f:List Nd)(i k:Nat):List Nd:=f.set i (zez (f.getD i d0) ((nm (f.getD i d0)).eraseIdx k))
noncomputable def movF(f:List Nd)(i k t:Nat)(x:En):List Nd:=(movG f i k).set t (zez ((movG f i k).getD t d0) (insE x (nm ((movG f i k).getD t d0))))
theorem OkW.move{f:List Nd}(h:OkW f){i k y t:Nat}(hi:i<10)(hki:kd (f.getD i d0)=2)(hk:k<(nm (f.getD i d0)).length)(hy:(y:Int)=((nm (f.getD i d0)).getD k e0).2)(ht:t<10)(hkt:kd (f.getD t d0)=2)
  {name:ByteArray} (hname:nmOk name=true) (hfr:∀ e∈nm (f.getD t d0),e.1≠name) (hl:i≠t→(nm (f.getD t d0)).length≤5) (hdn:¬ DnR (ids f) (fold f) y t):OkW (movF f i k t (name,(y:Int))):=by
 obtain⟨_,hy9,hky⟩:=(h.entsOk hi).all _ (zbt hk e0);rw[← hy]at hky hy9;rw[Int.toNat_natCast]at hky;have hy10:y<10:=by omega
 have hel:=zk7 hk;have hnl:=h.nlen i hi
 -- in between
 have hgG:∀ j,(movG f i k).getD j d0=if j=i then zez (f.getD i d0) ((nm (f.getD i d0)).eraseIdx k) else f.getD j d0:=fun j=>zba (by rw[h.len];exact hi) _ j
 have hlG:(movG f i k).length=10:=by rw[movG,List.length_set];exact h.len
 have hkG:∀ j,kd ((movG f i k).getD j d0)=kd (f.getD j d0):=fun j=>by
  rw[hgG];split
  ·rename_i e;rw[e];rfl
  ·rfl
 have hnG:∀ j,∀ e∈nm ((movG f i k).getD j d0),e∈nm (f.getD j d0):=fun j e he=>by
  rw[hgG]at he;split at he
  ·rename_i e1;rw[e1];exact zpi he
  ·exact he
 have hpG:∀ j,j<10→(nm ((movG f i k).getD j d0)).Pairwise ltE:=fun j hj=>by
  rw[hgG];split
  ·exact zs2 (h.entsOk hi).pw
  ·exact(h.entsOk hj).pw
 have hcG:∀ j x,(ids (movG f i k) j).count x+(if x=y∧j=i then 1 else 0)=(ids f j).count x:=fun j x=>by
  simp only[ids,hgG]
  by_cases e:j=i
  ·subst e;have:=zk8 hk x;rw[← hy,Int.toNat_natCast]at this;simpa [zez] using this
  ·simp[e]
 -- behind
 generalize hF:movF f i k t (name,(y:Int))=f'
 have hg:∀ j,f'.getD j d0=if j=t then zez ((movG f i k).getD t d0) (insE (name,(y:Int)) (nm ((movG f i k).getD t d0))) else (movG f i k).getD j d0:=fun j=>by
  rw[← hF];exact zba (by rw[hlG];exact ht) _ j
 have hl':f'.length=10:=by rw[← hF,movF,List.length_set];exact hlG
 have hkd:∀ j,kd (f'.getD j d0)=kd (f.getD j d0):=fun j=>by
  rw[hg];split
  ·rename_i e;rw[e];exact hkG t
  ·exact hkG j
 have hlk:∀ j,lk (f'.getD j d0)=lk (f.getD j d0):=fun j=>by
  have hlG':∀ j,lk ((movG f i k).getD j d0)=lk (f.getD j d0):=fun j=>by
   rw[hgG];split
   ·rename_i e;rw[e];rfl
   ·rfl
  rw[hg];split
  ·rename_i e;rw[e];exact hlG' t
  ·exact hlG' j
 have hop:∀ j,op (f'.getD j d0)=op (f.getD j d0):=fun j=>by
  have hlG':∀ j,op ((movG f i k).getD j d0)=op (f.getD j d0):=fun j=>by
   rw[hgG];split
   ·rename_i e;rw[e];rfl
   ·rfl
  rw[hg];split
  ·rename_i e;rw[e];exact hlG' t
  ·exact hlG' j
 have hfold:fold f'=fold f:=by funext j;simp only[fold,hkd]
 have hc':∀ j x,(ids f' j).count x=(ids (movG f i k) j).count x+(if x=y∧j=t then 1 else 0):=fun j x=>by
  simp only[ids,hg]
  by_cases e:j=t
  ·subst e;simp only[if_true,zez];rw[((zd_ (name,(y:Int)) _).map _).count_eq,List.map_cons,List.count_cons];simp only[Int.toNat_natCast,beq_iff_eq,and_true]
   by_cases e:x=y
   ·rw[if_pos e,if_pos e.symm]
   ·rw[if_neg e,if_neg (fun e'=>e e'.symm)]
  ·simp[e]
 have hmany:∀ x,many (ids f') 10 x=many (ids f) 10 x:=fun x=>by
  have h1:=zjb (e:=ids f) (e':=ids (movG f i k)) (N:=10) (x:=x) hi (fun j _ hj=>by have:=hcG j x;rw[if_neg (fun e=>hj e.2)]at this;omega);have h2:=zjb (e:=ids (movG f i k)) (e':=ids f') (N:=10) (x:=x) ht (fun j _ hj=>by have:=hc' j x;rw[if_neg (fun e=>hj e.2)]at this;omega);have h3:=hcG i x;have h4:=hc' t x
  by_cases e:x=y
  ·rw[if_pos ⟨e,rfl⟩]at h3 h4;omega
  ·rw[if_neg (fun h=>e h.1)]at h3 h4;omega
 have hsub:∀ j,∀ x∈ids f j,x≠y→x∈ids f' j:=fun j x hx hxy=>by
  have h1:=hcG j x;have h2:=hc' j x;rw[if_neg (fun h=>hxy h.1)]at h1 h2;have:=List.count_pos_iff.2 hx;exact List.count_pos_iff.1 (by omega)
 have hyt:y∈ids f' t:=List.count_pos_iff.1 (by rw[hc',if_pos ⟨rfl,rfl⟩];omega)
 have hw1:∀ x q,Gr.Way (ids f) (fold f) x q→¬ DnR (ids f) (fold f) y x→Gr.Way (ids f') (fold f') x q:=by
  intro x q hw
  induction hw with
  |root=>intro _;exact .root
  |next hw hz ih =>
   rename_i p z q;intro hd;obtain⟨h1,h2⟩:=List.mem_filter.1 hz;have hzy:z≠y:=fun e=>by subst e;exact hd .refl
   exact .next (ih fun hp=>hd (.step hp hz)) (List.mem_filter.2 ⟨hsub p z h1 hzy,by rw[hfold];exact h2⟩)
 have hw2:∀ x q,Gr.Way (ids f) (fold f) x q→∃ q',Gr.Way (ids f') (fold f') x q':=by
  intro x q hw
  induction hw with
  |root=>exact⟨0,.root⟩
  |next hw hz ih =>
   rename_i p z q;obtain⟨h1,h2⟩:=List.mem_filter.1 hz
   by_cases e:z=y
   ·subst e;obtain⟨q0,hq0⟩:=h.tr.wy t ht (decide_eq_true hkt);exact⟨q0+1,.next (hw1 t q0 hq0 hdn) (List.mem_filter.2 ⟨hyt,by rw[hfold];exact h2⟩)⟩
   ·obtain⟨q',hq'⟩:=ih;exact⟨q'+1,.next hq' (List.mem_filter.2 ⟨hsub p z h1 e,by rw[hfold];exact h2⟩)⟩
 have hlenG:(nm ((movG f i k).getD t d0)).length≤5:=by
  rw[hgG];split
  ·show ((nm (f.getD i d0)).eraseIdx k).length≤5;omega
  ·rename_i e;exact hl (fun e1=>e e1.symm)
 have hbG:∀ j,j<10→kd (f.getD j d0)≠0→zfb ((movG f i k).getD j d0):=fun j hj hj0=>by
  rw[hgG];split
  ·exact zn5 hki (h.base i hi (by omega)) (by omega)
  ·exact h.base j hj hj0
 refine OkW.of hl' (by rw[hkd];exact h.root) (fun j hj hj0=>?_) (fun j hj hj0=>?_) (fun j hj=>?_) (fun j hj hj0=>?_) (fun j hj hj1=>?_) ?_ (fun x hx hxf=>?_)
 ·rw[hkd]at hj0;rw[hg];split
  ·rename_i e;exact zn5 (by rw[hkG];exact hkt) (hbG t ht (by omega)) (by rw[zsu];omega)
  ·exact hbG j hj hj0
 ·rw[hkd]at hj0;have e1:j≠t:=fun e=>by subst e;omega
  have e2:j≠i:=fun e=>by subst e;omega
  rw[hg,if_neg e1,hgG,if_neg e2];exact h.zero j hj hj0
 ·have key:∀ e∈nm ((movG f i k).getD j d0),nmOk e.1=true∧(1≤e.2∧e.2≤9)∧kd (f'.getD e.2.toNat d0)≠0:=fun e he=>by
   rw[hkd];exact(h.entsOk hj).all e (hnG j e he)
  rw[hg];split
  ·rename_i e;subst e;refine⟨fun e he=>?_,zq2 (hpG j hj) (fun e he=>hfr e (hnG j e he))⟩;rcases zns.1 he with rfl|he
   ·refine⟨hname,hy9,?_⟩;show kd (f'.getD (y:Int).toNat d0)≠0;rw[Int.toNat_natCast,hkd];exact hky
   ·exact key e he
  ·exact⟨key,hpG j hj⟩
 ·rw[hkd]at hj0;rw[hlk,hmany];exact h.links j hj hj0
 ·rw[hkd]at hj1;rw[hlk,hop];exact h.live j hj hj1
 ·intro x hx hxf hx0;rw[hfold]at hxf;rw[hmany];exact h.tr.un x hx hxf hx0
 ·rw[hfold]at hxf;obtain⟨q,hq⟩:=h.tr.wy x hx hxf;exact hw2 x q hq
end Go.Proofs.Ytbjgiioppmkpiaa.Rx.Fs
namespace Go.Proofs.Ytbjgiioppmkpiaa.Rx.Fs
open Go Go.Proofs.Ytbjgiioppmkpiaa.Rx.Gr
abbrev Cd:=Int×Int×List Int
def inB(l:List Int)(g:Int):Bool:=l.any fun x=>decide (x=g)
def mayV(d e:Int):Bool:=decide (Go.IntKind.i64.wrap (↑(BitVec.ofInt Go.IntKind.i64.bits d &&& BitVec.ofInt Go.IntKind.i64.bits e).toNat:Int)=e)
def mayS(c:Cd)(o g d e:Int):Bool :=
 bif decide (c.1=0) then
  (bif decide ((0:Int)<Go.IntKind.i64.wrap (Go.IntKind.i64.wrap (d.tmod 2+(Go.IntKind.i64.wrap (d.tdiv 8)).tmod 2)+(Go.IntKind.i64.wrap (d.tdiv 64)).tmod 2)) then mayV 7 e else mayV 6 e)
 else bif decide (c.1=o) then mayV (Go.IntKind.i64.wrap (d.tdiv 64)) e
 else bif inB c.2.2 g then mayV ((Go.IntKind.i64.wrap (d.tdiv 8)).tmod 8) e else mayV (d.tmod 8) e
def mayN(c:Cd)(a:Nd)(w:Int):Bool:=mayS c (ow a) (gr a) (md a) w
def inF(c:Cd)(a:Nd)(w:Int):Int:=bif !decide (kd a=2) then 4 else bif !mayN c a w then 5 else 0
def atI(s:ByteArray):List En→Nat→Int
 | [],_=>-1
 |e::es,k=>bif decide (e.1=s) then (k:Int) else atI s es (k+1)
noncomputable def putE(f:List Nd)(i:Nat)(x:En):List Nd:=f.set i (zez (f.getD i d0) (insE x (nm (f.getD i d0))))
noncomputable def zjq(f:List Nd)(i k:Nat):List Nd:=f.set i (zez (f.getD i d0) ((nm (f.getD i d0)).eraseIdx k))
def ze1:List Nd→Nat→Int
 | [],_=>-1
 |a::tl,k=>bif decide (kd a=0) then (k:Int) else ze1 tl (k+1)
noncomputable def zw4(c:Cd)(kind mode:Int):Nd:=(kind,mode,c.1,bif decide (0<(c.2.2.length:Int)) then c.2.2.getD 0 0 else c.1,1,0,false,ByteArray.empty,[])
noncomputable def ztu(f:List Nd)(c:Cd)(i:Nat)(name:ByteArray)(kind mode:Int):List Nd×Int×Int :=
 bif !decide (inF c (f.getD i d0) 3=0) then (f,-1,inF c (f.getD i d0) 3) else
 bif decide (0≤atI name (nm (f.getD i d0)) 0) then (f,-1,3) else
 bif decide (ze1 f 0<0) then (f,-1,7) else
 bif decide (6≤((nm (f.getD i d0)).length:Int)) then (f,-1,7) else
 (putE (f.set (ze1 f 0).toNat (zw4 c kind mode)) i (name,ze1 f 0),ze1 f 0,0)
noncomputable def zxp(f:List Nd)(c:Cd)(y i:Nat)(name:ByteArray):List Nd×Int :=
 bif !decide (kd (f.getD y d0)=1) then (f,4) else
 bif !decide (inF c (f.getD i d0) 3=0) then (f,inF c (f.getD i d0) 3) else
 bif decide (0≤atI name (nm (f.getD i d0)) 0) then (f,3) else
 bif decide (6≤((nm (f.getD i d0)).length:Int)) then (f,7) else
 bif decide (99≤lk (f.getD y d0)) then (f,7) else
 (putE (f.set y (zcw (f.getD y d0) (lk (f.getD y d0)+1))) i (name,(y:Int)),0)
noncomputable def ygh(f:List Nd)(i:Nat):Bool:=!decide (i=0)&&(decide (lk (f.getD i d0)=0)&&decide (op (f.getD i d0)=0))
noncomputable def yjo(f:List Nd)(i:Nat):List Nd:=bif ygh f i then f.set i d0 else f
def tgt(f:List Nd)(i:Nat)(k:Int):Nat:=((nm (f.getD i d0)).getD k.toNat e0).2.toNat
noncomputable def zyl(f:List Nd)(c:Cd)(i:Nat)(name:ByteArray):List Nd×Int :=
 bif !decide (inF c (f.getD i d0) 3=0) then (f,inF c (f.getD i d0) 3) else
 bif decide (atI name (nm (f.getD i d0)) 0<0) then (f,2) else
 bif decide (kd (f.getD (tgt f i (atI name (nm (f.getD i d0)) 0)) d0)=2)&&(decide (0<((nm (f.getD (tgt f i (atI name (nm (f.getD i d0)) 0)) d0)).length:Int)) || decide (0<op (f.getD (tgt f i (atI name (nm (f.getD i d0)) 0)) d0))) then (f,6) else
 (yjo (zjq (f.set (tgt f i (atI name (nm (f.getD i d0)) 0)) (zcw (f.getD (tgt f i (atI name (nm (f.getD i d0)) 0)) d0) (lk (f.getD (tgt f i (atI name (nm (f.getD i d0)) 0)) d0) - 1))) i (atI name (nm (f.getD i d0)) 0).toNat) (tgt f i (atI name (nm (f.getD i d0)) 0)),0)
open Classical in
noncomputable def dnB(f:List Nd)(y t:Nat):Bool:=decide (DnR (ids f) (fold f) y t)
noncomputable def zw5(f:List Nd)(c:Cd)(i:Nat)(name:ByteArray)(t:Nat)(other:ByteArray):List Nd×Int :=
 bif !decide (kd (f.getD i d0)=2) then (f,4) else bif !decide (kd (f.getD t d0)=2) then (f,4) else
 bif !mayN c (f.getD i d0) 3 then (f,5) else bif !mayN c (f.getD t d0) 3 then (f,5) else
 bif decide (atI name (nm (f.getD i d0)) 0<0) then (f,2) else
 bif decide (0≤atI other (nm (f.getD t d0)) 0) then (f,3) else
 bif decide (kd (f.getD (tgt f i (atI name (nm (f.getD i d0)) 0)) d0)=2)&&dnB f (tgt f i (atI name (nm (f.getD i d0)) 0)) t then (f,6) else
 bif !decide (i=t)&&decide (6≤((nm (f.getD t d0)).length:Int)) then (f,7) else
 (putE (zjq f i (atI name (nm (f.getD i d0)) 0).toNat) t (other,((nm (f.getD i d0)).getD (atI name (nm (f.getD i d0)) 0).toNat e0).2),0)
theorem zcp(s:ByteArray):∀ (es:List En) (k:Nat),(atI s es k = -1∧∀ e∈es,e.1≠s)∨∃ j,j<es.length∧atI s es k=((k+j:Nat):Int)∧(es.getD j e0).1=s
 | [],k=>.inl ⟨rfl,fun e he=>(List.not_mem_nil he).elim⟩
 |e::es,k=>by
  simp only[atI]
  by_cases h:e.1=s
  ·rw[decide_eq_true h];exact .inr ⟨0,by simp,rfl,h⟩
  ·rw[decide_eq_false h];simp only[cond_false];rcases zcp s es (k+1) with ⟨h1,h2⟩|⟨j,h1,h2,h3⟩
   ·exact .inl ⟨h1,fun x hx=>by
     rcases List.mem_cons.1 hx with rfl|hx
     ·exact h
     ·exact h2 x hx⟩
   ·exact .inr ⟨j+1,by simp;omega,by rw[h2];congr 1;omega,by simpa using h3⟩
theorem zhy:∀ (f:List Nd) (k:Nat),ze1 f k = -1∨∃ j,j<f.length∧ze1 f k=((k+j:Nat):Int)∧kd (f.getD j d0)=0
 | [],k=>.inl rfl
 |a::tl,k=>by
  simp only[ze1]
  by_cases h:kd a=0
  ·rw[decide_eq_true h];exact .inr ⟨0,by simp,rfl,h⟩
  ·rw[decide_eq_false h];simp only[cond_false];rcases zhy tl (k+1) with h1|⟨j,h1,h2,h3⟩
   ·exact .inl h1
   ·exact .inr ⟨j+1,by simp;omega,by rw[h2];congr 1;omega,by simpa using h3⟩
theorem zxs{c:Cd}{a:Nd}{w:Int}(h:inF c a w=0):kd a=2∧mayN c a w=true:=by
 unfold inF at h
 by_cases h1:kd a=2
 ·rw[decide_eq_true h1]at h
  cases h2:mayN c a w with
  |true=>exact⟨h1,rfl⟩
  |false=>rw[h2]at h;simp at h
 ·rw[decide_eq_false h1]at h;simp at h
theorem yc3{f:List Nd}(h:OkW f){c:Cd}{i:Nat}(hi:i<10){name:ByteArray}(hn:nmOk name=true){kind mode:Int}(hk:kind=1∨kind=2)(hm:0≤mode∧mode≤511):OkW (ztu f c i name kind mode).1:=by
 unfold ztu
 by_cases h1:inF c (f.getD i d0) 3=0
 ·rw[decide_eq_true h1];obtain⟨hki,_⟩:=zxs h1;simp only[Bool.not_true,cond_false];rcases zcp name (nm (f.getD i d0)) 0 with ⟨h2,hfr⟩|⟨j,hj,h2,_⟩
  ·rw[h2];simp only[show decide ((0:Int)≤-1)=false from rfl,cond_false];rcases zhy f 0 with h3|⟨y,hy,h3,hky⟩
   ·rw[h3];exact h
   ·rw[h3];rw[Nat.zero_add,decide_eq_false (by omega)];simp only[cond_false]
    by_cases h4:(6:Int)≤((nm (f.getD i d0)).length:Int)
    ·rw[decide_eq_true h4];exact h
    ·rw[decide_eq_false h4];simp only[cond_false,Int.toNat_natCast];rw[h.len]at hy;have hiy:i≠y:=fun e=>by subst e;omega
     have hg:(f.set y (zw4 c kind mode)).getD i d0=f.getD i d0:=by rw[zba (by rw[h.len];exact hy),if_neg hiy]
     unfold putE;rw[hg];refine h.put hi hy hki (A:=zw4 c kind mode) hk rfl ?_ (by show (1:Int)≠0;decide) (.inl ⟨hky,rfl⟩) hn hfr (by omega);exact⟨by show 1≤kind∧kind≤2;omega,hm,by show (0:Int)≤0∧(0:Int)≤99;omega,fun _=>⟨Nat.zero_le _,rfl⟩,fun _=>⟨rfl,rfl,Nat.zero_le _⟩⟩
  ·rw[h2,decide_eq_true (by omega)];exact h
 ·rw[decide_eq_false h1];exact h
theorem ydf{f:List Nd}(h:OkW f){c:Cd}{i y:Nat}(hi:i<10)(hy:y<10){name:ByteArray}(hn:nmOk name=true):OkW (zxp f c y i name).1:=by
 unfold zxp
 by_cases h0:kd (f.getD y d0)=1
 ·rw[decide_eq_true h0]
  by_cases h1:inF c (f.getD i d0) 3=0
  ·rw[decide_eq_true h1];obtain⟨hki,_⟩:=zxs h1;simp only[Bool.not_true,cond_false];rcases zcp name (nm (f.getD i d0)) 0 with ⟨h2,hfr⟩|⟨j,hj,h2,_⟩
   ·rw[h2];simp only[show decide ((0:Int)≤-1)=false from rfl,cond_false]
    by_cases h4:(6:Int)≤((nm (f.getD i d0)).length:Int)
    ·rw[decide_eq_true h4];exact h
    ·rw[decide_eq_false h4]
     by_cases h5:99≤lk (f.getD y d0)
     ·rw[decide_eq_true h5];exact h
     ·rw[decide_eq_false h5];simp only[cond_false];have hiy:i≠y:=fun e=>by subst e;omega
      have hg:(f.set y (zcw (f.getD y d0) (lk (f.getD y d0)+1))).getD i d0=f.getD i d0:=by rw[zba (by rw[h.len];exact hy),if_neg hiy]
      unfold putE;rw[hg];have hl0:=h.links y hy (by omega);exact h.put hi hy hki (A:=zcw (f.getD y d0) (lk (f.getD y d0)+1)) (.inl h0) (h.nm_file hy (by omega)) (zyx (h.base y hy (by omega)) _) (by show lk (f.getD y d0)+1≠0;omega) (.inr ⟨h0,h0,rfl⟩) hn hfr (by omega)
   ·rw[h2,decide_eq_true (by omega)];exact h
  ·rw[decide_eq_false h1];exact h
 ·rw[decide_eq_false h0];exact h
theorem zg0{f:List Nd}{i:Nat}(hi:i<f.length)(a:Nd):(f.set i a).getD i d0=a:=by rw[zba hi,if_pos rfl]
theorem OkW.opens{f:List Nd}(h:OkW f)(i:Nat)(hi:i<10):0≤op (f.getD i d0)∧op (f.getD i d0)≤99:=by
 by_cases hk:kd (f.getD i d0)=0
 ·have:=(h.zero i hi hk).2.2.2.2.2.1;omega
 ·exact(h.base i hi hk).2.2.1
theorem yev{f:List Nd}(h:OkW f){c:Cd}{i:Nat}(hi:i<10)(name:ByteArray):OkW (zyl f c i name).1:=by
 unfold zyl
 by_cases h1:inF c (f.getD i d0) 3=0
 ·rw[decide_eq_true h1];obtain⟨hki,_⟩:=zxs h1;simp only[Bool.not_true,cond_false];rcases zcp name (nm (f.getD i d0)) 0 with ⟨h2,_⟩|⟨k,hk,h2,_⟩
  ·rw[h2];exact h
  ·rw[h2,Nat.zero_add,decide_eq_false (by omega)];simp only[cond_false,Int.toNat_natCast];generalize hy:tgt f i (k:Int)=y;have hy':y=((nm (f.getD i d0)).getD k e0).2.toNat:=by rw[← hy];simp[tgt]
   obtain⟨_,hy9,hky⟩:=(h.entsOk hi).all _ (zbt hk e0);rw[← hy']at hky;have hy10:y<10:=by omega
   have hy0:y≠0:=by omega
   cases hb:decide (kd (f.getD y d0)=2)&&(decide (0<((nm (f.getD y d0)).length:Int)) || decide (0<op (f.getD y d0))) with
   |true=>exact h
   |false =>
    simp only[cond_false]
    have hny:nm (f.getD y d0)=[]:=by
     by_cases hk2:kd (f.getD y d0)=2
     ·rw[decide_eq_true hk2]at hb;simp only[Bool.true_and,Bool.or_eq_false_iff,decide_eq_false_iff_not]at hb;exact List.eq_nil_of_length_eq_zero (by omega)
     ·exact h.nm_file hy10 hk2
    have hyi:y≠i:=fun e=>by rw[e]at hny;rw[hny]at hk;simp at hk
    have hg:(f.set y (zcw (f.getD y d0) (lk (f.getD y d0) - 1))).getD i d0=f.getD i d0:=by rw[zba (by rw[h.len];exact hy10),if_neg (fun e=>hyi e.symm)]
    unfold zjq;rw[hg,List.set_comm _ _ hyi];unfold yjo ygh;rw[zg0 (by rw[List.length_set,h.len];exact hy10)];have hlky:lk (zcw (f.getD y d0) (lk (f.getD y d0) - 1))=lk (f.getD y d0) - 1:=rfl;have hopy:op (zcw (f.getD y d0) (lk (f.getD y d0) - 1))=op (f.getD y d0):=rfl;rw[hlky,hopy,decide_eq_false hy0];simp only[Bool.not_false,Bool.true_and]
    by_cases hz:lk (f.getD y d0) - 1=0∧op (f.getD y d0)=0
    ·rw[decide_eq_true hz.1,decide_eq_true hz.2];simp only[Bool.true_and,cond_true,List.set_set];exact h.drop hi hki hk hy' (A:=d0) rfl hny (.inl ⟨rfl,by omega⟩)
    ·have hz':(decide (lk (f.getD y d0) - 1=0)&&decide (op (f.getD y d0)=0))=false:=by
      by_cases h3:lk (f.getD y d0) - 1=0
      ·rw[decide_eq_false (fun h4=>hz ⟨h3,h4⟩),Bool.and_false]
      ·rw[decide_eq_false h3];rfl
     rw[hz'];simp only[cond_false];have hbs:=h.base y hy10 hky
     have hk1:kd (f.getD y d0)=1:=by
      by_cases hk2:kd (f.getD y d0)=2
      ·rw[decide_eq_true hk2]at hb;simp only[Bool.true_and,Bool.or_eq_false_iff,decide_eq_false_iff_not]at hb;have hm:=h.tr.un y hy10 (decide_eq_true hk2) hy0;have hl:=h.links y hy10 hky;have:=h.opens y hy10;exact absurd ⟨by omega,by omega⟩ hz
      ·have:=hbs.1;omega
     exact h.drop hi hki hk hy' (A:=zcw (f.getD y d0) (lk (f.getD y d0) - 1)) hny hny (.inr ⟨hk1,hk1,rfl,zyx (h.base y hy10 hky) _,fun h4=>hz ⟨h4.1,h4.2⟩⟩)
 ·rw[decide_eq_false h1];exact h
theorem yk2{f:List Nd}(h:OkW f){y t:Nat}(hy:y<10)(hk:kd (f.getD y d0)≠2)(hd:DnR (ids f) (fold f) y t):t=y:=by
 induction hd with
 |refl=>rfl
 |step hd hz ih =>
  have hid:ids f y=[]:=by unfold ids;rw[h.nm_file hy hk];rfl
  obtain⟨h1,_⟩:=List.mem_filter.1 hz;rw[ih,hid]at h1;exact(List.not_mem_nil h1).elim
theorem yc1{f:List Nd}(h:OkW f){c:Cd}{i t:Nat}(hi:i<10)(ht:t<10)(name:ByteArray){other:ByteArray}(hn:nmOk other=true):OkW (zw5 f c i name t other).1:=by
 unfold zw5
 by_cases h1:kd (f.getD i d0)=2
 ·by_cases h2:kd (f.getD t d0)=2
  ·rw[decide_eq_true h1,decide_eq_true h2];simp only[Bool.not_true,cond_false]
   cases mayN c (f.getD i d0) 3 with
   |false=>exact h
   |true =>
   cases mayN c (f.getD t d0) 3 with
   |false=>exact h
   |true =>
   simp only[Bool.not_true,cond_false];rcases zcp name (nm (f.getD i d0)) 0 with ⟨h3,_⟩|⟨k,hk,h3,_⟩
   ·rw[h3];exact h
   ·rw[h3,Nat.zero_add,decide_eq_false (by omega)];simp only[cond_false,Int.toNat_natCast];rcases zcp other (nm (f.getD t d0)) 0 with ⟨h4,hfr⟩|⟨j,hj,h4,_⟩
    ·rw[h4];simp only[show decide ((0:Int)≤-1)=false from rfl,cond_false];generalize hy:tgt f i (k:Int)=y;obtain⟨_,hy9,hky⟩:=(h.entsOk hi).all _ (zbt hk e0);have hy':(y:Int)=((nm (f.getD i d0)).getD k e0).2:=by rw[← hy];simp only[tgt,Int.toNat_natCast];omega
     have hy10:y<10:=by omega
     cases hb:decide (kd (f.getD y d0)=2)&&dnB f y t with
     |true=>exact h
     |false =>
      simp only[cond_false]
      have hdn:¬ DnR (ids f) (fold f) y t:=by
       intro hd
       by_cases hk2:kd (f.getD y d0)=2
       ·rw[decide_eq_true hk2]at hb;simp only[Bool.true_and,dnB,decide_eq_false_iff_not]at hb;exact hb hd
       ·have:=yk2 h hy10 hk2 hd;subst this;exact hk2 h2
      by_cases hit:i=t
      ·rw[decide_eq_true hit];simp only[Bool.not_true,Bool.false_and,cond_false];rw[← hy'];exact h.move hi h1 hk hy' ht h2 hn hfr (fun e=>absurd hit e) hdn
      ·rw[decide_eq_false hit];simp only[Bool.not_false,Bool.true_and]
       by_cases h6:(6:Int)≤((nm (f.getD t d0)).length:Int)
       ·rw[decide_eq_true h6];exact h
       ·rw[decide_eq_false h6];simp only[cond_false];rw[← hy'];exact h.move hi h1 hk hy' ht h2 hn hfr (fun _=>by omega) hdn
    ·rw[h4,decide_eq_true (by omega)];exact h
  ·rw[decide_eq_true h1,decide_eq_false h2];exact h
 ·rw[decide_eq_false h1];exact h
end Go.Proofs.Ytbjgiioppmkpiaa.Rx.Fs
namespace Go.Proofs.Ytbjgiioppmkpiaa.Rx.S
open Go Go.Proofs.Ytbjgiioppmkpiaa.Rx.Pu Go.Proofs.Ytbjgiioppmkpiaa.Rx.Fs
theorem zdp{k:Nat}(h:k<4611686018427387904):IntKind.i64.wrap ((k:Int)+1)=((k+1:Nat):Int):=(wr (by omega) (by omega)).trans (by omega)
theorem zc4{α:Type}{l:List α}{k:Nat}(h:k<l.length)(d:α):l.drop k=l.getD k d::l.drop (k+1):=by
 rw[List.drop_eq_getElem_cons h,List.getD_eq_getElem?_getD,List.getElem?_eq_getElem h];rfl
theorem zw_(k n:Nat)(h:n≤k):decide ((k:Int)<(n:Int))=false:=decide_eq_false (by omega)
theorem zma(n:Nat)(l:List Int)(g:Int)(hl:l.length<4611686018427387904):∀ (m k:Nat),k≤l.length→l.length - k<m→zhk n m l g (k:Int)=some ((inB (l.drop k) g,()),())
 |0,k,_,h=>by omega
 |m+1,k,hk,h=>by
  show zfk n (zhk n m) l g (k:Int)=_
  by_cases h1:k<l.length
  ·simp only[zfk,lt_t h1,ge_t,cond_true,zaa,zdp (show k<4611686018427387904 by omega)];rw[zma n l g hl m (k+1) (by omega) (by omega),zc4 h1 0];simp only[inB,List.any_cons];cases decide (l.getD k 0=g) <;> rfl
  ·simp only[zfk,zw_ k l.length (by omega),cond_false];rw[List.drop_eq_nil_of_le (by omega)];rfl
theorem yin(n:Nat)(l:List Int)(g:Int)(hl:l.length≤2000000)(hn:2000000<n):p160 n l g=some ((inB l g,()),()):=by
 show zfj n (zhk n n) l g=_;simp only[zfj];exact zma n l g (by omega) n 0 (by omega) (by omega)
theorem yio(n:Nat)(c:Cr)(o g d e:Int)(hl:c.2.2.length≤2000000)(hn:2000000<n):p154 n c o g d e=some ((mayS c o g d e,()),()):=by
 show zfl n c o g d e=_;unfold mayS;simp only[zfl,q160,yin n c.2.2 g hl hn,Option.bind_some];cases decide (c.1=0)
 ·cases decide (c.1=o)
  ·cases inB c.2.2 g <;> rfl
  ·rfl
 ·cases decide ((0:Int)<Go.IntKind.i64.wrap (Go.IntKind.i64.wrap (d.tmod 2+(Go.IntKind.i64.wrap (d.tdiv 8)).tmod 2)+(Go.IntKind.i64.wrap (d.tdiv 64)).tmod 2)) <;> rfl
theorem zqh(n:Nat)(f:List Nd)(c:Cr)(i:Nat)(w:Int)(hi:i<f.length)(hl:c.2.2.length≤2000000)(hn:2000000<n):p142 n f c (i:Int) w=some ((mayN c (f.getD i d0) w,()),()):=by
 show zfr n f c (i:Int) w=_;have e:(c.1,c.2.1,c.2.2)=c:=rfl;simp only[zfr,lt_t hi,ge_t,cond_true,zaa,q154,e,yio n c _ _ _ w hl hn,Option.bind_some];rfl
theorem zqj(n:Nat)(f:List Nd)(c:Cr)(i:Nat)(w:Int)(hi:i<f.length)(hl:c.2.2.length≤2000000)(hn:2000000<n):p125 n f c (i:Int) w=some ((inF c (f.getD i d0) w,()),()):=by
 show zfz n f c (i:Int) w=_;have e:(c.1,c.2.1,c.2.2)=c:=rfl;unfold inF;simp only[zfz,lt_t hi,ge_t,cond_true,zaa,q142,e,zqh n f c i w hi hl hn,Option.bind_some,d0];cases decide ((f.getD i ZN).1=2)
 ·rfl
 ·cases mayN c (f.getD i ZN) w <;> rfl
theorem zmf(n:Nat)(s:ByteArray)(a b c d e g:Int)(h:Bool)(t:ByteArray)(es:List En)(hl:es.length<4611686018427387904):∀ (m k:Nat),k≤es.length→es.length - k<m→zho n m s (k:Int) a b c d e g h t es=some ((atI s (es.drop k) k,()),())
 |0,k,_,hm=>by omega
 |m+1,k,hk,hm=>by
  show zfy n (zho n m) s (k:Int) a b c d e g h t es=_
  by_cases h1:k<es.length
  ·simp only[zfy,lt_t h1,ge_t,cond_true,zaa,zdp (show k<4611686018427387904 by omega),zh2];rw[zmf n s a b c d e g h t es hl m (k+1) (by omega) (by omega),zc4 h1 e0];simp only[atI];cases decide ((es.getD k (ByteArray.empty,(0:Int))).1=s) <;> rfl
  ·simp only[zfy,zw_ k es.length (by omega),cond_false];rw[List.drop_eq_nil_of_le (by omega)];rfl
theorem zkr(n:Nat)(a:Nd)(s:ByteArray)(hl:(nm a).length≤2000000)(hn:2000000<n):p126 n a s=some ((atI s (nm a) 0,()),()):=by
 show zfx n (zho n n) a s=_;simp only[zfx];exact zmf n s _ _ _ _ _ _ _ _ (nm a) (by omega) n 0 (by omega) (by omega)
theorem d24{a b:Nat}(h:a+b≤5000000):decide ((a+b)*(24:Nat)≤(140737488355328:Nat))=true:=decide_eq_true (by omega)
theorem zxq(a b:ByteArray):(!(Op.bytesLess a.toList b.toList || a.toList == b.toList))=lt b a:=by
 rw[zh2];show (!(lt a b || decide (a=b)))=lt b a;rcases zsl a b with h|h|h
 ·rw[h,zsm h];rfl
 ·subst h;rw[lt_irrefl,decide_eq_true rfl];rfl
 ·rw[h,zsm h];rw[decide_eq_false (fun e=>by subst e;rw[lt_irrefl]at h;cases h)];rfl
theorem zoy(n:Nat)(f:List Nd)(i:Nat)(hi:i<f.length)(s:ByteArray)(v:Int)(hl:(nm (f.getD i d0)).length≤2000000):∀ (m k:Nat) (out:List En),k≤(nm (f.getD i d0)).length→out.length≤k+1→(nm (f.getD i d0)).length - k<m →
  zd0 n m (i:Int) true (k:Int) s v out f=some ((f.set i (zez (f.getD i d0) (out++(nm (f.getD i d0)).drop k)),()),())
 |0,k,out,_,_,hm=>by omega
 |m+1,k,out,hk,ho,hm=>by
  show zcj n (zd0 n m) (i:Int) true (k:Int) s v out f=_;have hl':=hl;simp only[d0,nm]at hl'
  by_cases h1:k<(nm (f.getD i d0)).length
  ·have h1':=h1;simp only[d0,nm]at h1';have ih:=zoy n f i hi s v hl m (k+1) (out++[((nm (f.getD i d0)).getD k e0)]) (by omega) (by simp;omega) (by omega);simp only[d0,nm,e0]at ih;simp only[zcj,lt_t hi,ge_t,cond_true,zaa,lt_t h1',zdp (show k<4611686018427387904 by omega),Bool.not_true,cond_false,List.length_cons,List.length_nil,d24 (show out.length+(0+1)≤5000000 by omega)];refine Eq.trans ih ?_;have e:=zc4 h1 e0;simp only[d0,nm,e0]at e ⊢;rw[e,List.append_assoc];rfl
  ·have h1':(nm (f.getD i d0)).length≤k:=by omega
   simp only[d0,nm]at h1';simp only[zcj,lt_t hi,ge_t,cond_true,zaa,zw_ k _ h1',cond_false,Bool.not_true];have e:(nm (f.getD i d0)).drop k=[]:=List.drop_eq_nil_of_le (by omega);rw[e,List.append_nil];rfl
theorem zoz(n:Nat)(f:List Nd)(i:Nat)(hi:i<f.length)(s:ByteArray)(v:Int)(hl:(nm (f.getD i d0)).length≤2000000):∀ (m k:Nat) (out:List En),k≤(nm (f.getD i d0)).length→out.length≤k→(nm (f.getD i d0)).length - k<m →
  zd0 n m (i:Int) false (k:Int) s v out f=some ((f.set i (zez (f.getD i d0) (out++insE (s,v) ((nm (f.getD i d0)).drop k))),()),())
 |0,k,out,_,_,hm=>by omega
 |m+1,k,out,hk,ho,hm=>by
  show zcj n (zd0 n m) (i:Int) false (k:Int) s v out f=_;have hl':=hl;simp only[d0,nm]at hl'
  by_cases h1:k<(nm (f.getD i d0)).length
  ·have h1':=h1;simp only[d0,nm]at h1';have ih:=zoz n f i hi s v hl m (k+1) (out++[((nm (f.getD i d0)).getD k e0)]) (by omega) (by simp;omega) (by omega);have it:=zoy n f i hi s v hl m (k+1) (out++[(s,v)]++[((nm (f.getD i d0)).getD k e0)]) (by omega) (by simp;omega) (by omega);simp only[d0,nm,e0]at ih it;simp only[zcj,lt_t hi,ge_t,cond_true,zaa,lt_t h1',zdp (show k<4611686018427387904 by omega),Bool.not_false,zxq,List.length_append,List.length_cons,List.length_nil,d24 (show out.length+(0+1)≤5000000 by omega),d24 (show out.length+(0+1)+(0+1)≤5000000 by omega)];have e:=zc4 h1 e0;rw[e];simp only[insE];simp only[d0,nm,e0]at *
   cases lt s ((f.getD i ZN).2.2.2.2.2.2.2.2.getD k (ByteArray.empty,(0:Int))).1 with
   |true =>
    simp only[cond_true];refine Eq.trans it ?_;simp only[List.append_assoc,List.cons_append,List.nil_append]
   |false =>
    simp only[cond_false];refine Eq.trans ih ?_;simp only[List.append_assoc,List.cons_append,List.nil_append]
  ·have h1':(nm (f.getD i d0)).length≤k:=by omega
   simp only[d0,nm]at h1';simp only[zcj,lt_t hi,ge_t,cond_true,zaa,zw_ k _ h1',cond_false,Bool.not_false,List.length_cons,List.length_nil,d24 (show out.length+(0+1)≤5000000 by omega)];have e:(nm (f.getD i d0)).drop k=[]:=List.drop_eq_nil_of_le (by omega);rw[e];rfl
theorem zqi(n:Nat)(f:List Nd)(i:Nat)(x:En)(hi:i<f.length)(hl:(nm (f.getD i d0)).length≤2000000)(hn:2000000<n):p140 n f (i:Int) x=some ((putE f i x,()),()):=by
 show zfs n (zd0 n n) f (i:Int) x=_;simp only[zfs];have:=zoz n f i hi x.1 x.2 hl n 0 [] (by omega) (by simp) (by omega);refine Eq.trans this ?_;rfl
theorem zwk(n:Nat)(f:List Nd)(i k:Nat)(hi:i<f.length)(hk:k<(nm (f.getD i d0)).length)(hl:(nm (f.getD i d0)).length≤2000000):p128 n f (i:Int) (k:Int)=some ((zjq f i k,()),()):=by
 show zfv n f (i:Int) (k:Int)=_;unfold zjq;rw[List.eraseIdx_eq_take_drop_succ];obtain⟨es,hes⟩:∃ es,nm (f.getD i d0)=es:=⟨_,rfl⟩;rw[hes]at hk hl;have hes2:=hes;simp only[nm,d0]at hes2;have e1:decide ((k:Int)≤((es.length:Nat):Int))=true:=decide_eq_true (by omega);have e2:decide (((k+1:Nat):Int)≤((es.length:Nat):Int))=true:=decide_eq_true (by omega)
 have t1:List.take ((k:Int) - (0:Int)).toNat (List.drop ((0:Nat)+Int.toNat (0:Int)) es)=es.take k:=by
  rw[show ((k:Int) - (0:Int)).toNat=k by omega];rfl
 have t2:List.take (((es.length:Nat):Int) - ((k+1:Nat):Int)).toNat (List.drop ((0:Nat)+(k+1)) es)=es.drop (k+1):=by
  rw[Nat.zero_add];exact List.take_of_length_le (by rw[List.length_drop];omega)
 have l1:(es.take k).length≤2000000:=by rw[List.length_take];omega
 have l2:(es.drop (k+1)).length≤2000000:=by rw[List.length_drop];omega
 simp only[zfv,lt_t hi,ge_t,cond_true,zaa,zdp (show k<4611686018427387904 by omega),hes2,hes,zez,d0,e1,e2,t1,t2,d24 (show 0+(es.take k).length≤5000000 by omega),d24 (show (es.take k).length+(es.drop (k+1)).length≤5000000 by omega)]
structure SzB(f:List Nd):Prop where
 len:f.length≤1000
 nm:∀ j,(nm (f.getD j d0)).length≤1000
theorem SzB.set {f:List Nd} (h:SzB f) {i:Nat} {a:Nd} (ha:(Fs.nm a).length≤1000):SzB (f.set i a):=⟨by rw [List.length_set]; exact h.len,fun j=>by
 rw[zbh];split
 ·exact ha
 ·exact h.nm j⟩
theorem OkW.szB {f:List Nd} (h:OkW f):SzB f:=⟨by rw [h.len]; omega,fun j=>by
 by_cases hj:j<10
 ·have:=h.nlen j hj;omega
 ·rw[List.getD_eq_getElem?_getD,List.getElem?_eq_none (by rw[h.len];omega)];exact Nat.zero_le _⟩
noncomputable def zqt(f:List Nd)(c:Cr)(i:Nat)(name:ByteArray)(kind mode at_:Int):List Nd×Int×Int :=
 bif decide (at_<0) then (f,-1,7) else
 bif decide (6≤((nm (f.getD i d0)).length:Int)) then (f,-1,7) else
 (putE (f.set at_.toNat (zw4 c kind mode)) i (name,at_),at_,0)
theorem yct(n m:Nat)(f:List Nd)(c:Cr)(i:Nat)(name:ByteArray)(kind mode at_:Int)(hi:i<f.length)(h:SzB f)(hat:at_<(f.length:Int))(hn:2000000<n) :
  zd2 n (m+1) (i:Int) name kind mode at_ (-1) c.1 c.2.1 c.2.2 f=some (((zqt f c i name kind mode at_).1,((zqt f c i name kind mode at_).2.1,((zqt f c i name kind mode at_).2.2,()))),()):=by
 show zep n (zd2 n m) (i:Int) name kind mode at_ (-1) c.1 c.2.1 c.2.2 f=_;unfold zqt zw4;have e0:decide ((0:Int)≤-1)=false:=rfl;simp only[zep,e0,cond_false]
 by_cases h1:at_<0
 ·simp only[h1,decide_true,cond_true]
 ·obtain⟨a,rfl⟩:=Int.eq_ofNat_of_zero_le (show 0≤at_ by omega);have ha:a<f.length:=by omega
  have e1:decide ((a:Int)<0)=false:=decide_eq_false (by omega);have hp:=fun (nd:Nd) (hnd:(nm nd).length≤1000)=>zqi n (f.set a nd) i (name,(a:Int)) (by rw[List.length_set];exact hi) (Nat.le_trans ((h.set hnd).nm i) (by omega)) hn;simp only[e1,cond_false,lt_t hi,ge_t,cond_true,zaa,lt_t ha,q140,d0]
  cases decide ((6:Int)≤(((f.getD i ZN).2.2.2.2.2.2.2.2.length:Nat):Int)) with
  |true=>rfl
  |false =>
   simp only[cond_false]
   cases decide ((0:Int)<(c.2.2.length:Int)) with
   |true =>
    simp only[cond_true];rw[hp _ (by show (0:Nat)≤_;omega)];rfl
   |false =>
    simp only[cond_false];rw[hp _ (by show (0:Nat)≤_;omega)];rfl
theorem zmi(n:Nat)(f:List Nd)(c:Cr)(i:Nat)(name:ByteArray)(kind mode:Int)(hi:i<f.length)(h:SzB f)(hn:2000000<n):∀ (j m:Nat),j≤f.length→j<m →
  zd2 n m (i:Int) name kind mode (ze1 (f.drop j) j) ((j:Int) - 1) c.1 c.2.1 c.2.2 f=some (((zqt f c i name kind mode (ze1 f 0)).1,((zqt f c i name kind mode (ze1 f 0)).2.1,((zqt f c i name kind mode (ze1 f 0)).2.2,()))),())
 |0,m,hj,hm=>by
  obtain⟨m,rfl⟩:∃ m',m=m'+1:=⟨m - 1,by omega⟩;refine yct n m f c i name kind mode (ze1 f 0) hi h ?_ hn;rcases zhy f 0 with h1|⟨k,h1,h2,_⟩
  ·rw[h1];omega
  ·rw[h2];omega
 |j+1,m,hj,hm=>by
  obtain⟨m,rfl⟩:∃ m',m=m'+1:=⟨m - 1,by omega⟩;have hlen:=h.len;show zep n (zd2 n m) (i:Int) name kind mode (ze1 (f.drop (j+1)) (j+1)) (((j+1:Nat):Int) - 1) c.1 c.2.1 c.2.2 f=_;have e0:((j+1:Nat):Int) - 1=(j:Int):=by omega
  have e1:IntKind.i64.wrap ((j:Int) - 1)=(j:Int) - 1:=wr (by omega) (by omega);have ih:=zmi n f c i name kind mode hi h hn j m (by omega) (by omega);have hd:=zc4 (l:=f) (k:=j) (by omega) d0;rw[hd]at ih;simp only[ze1]at ih;simp only[zep,e0,e1,ge_t,lt_t (show j<f.length by omega),cond_true,zaa];simp only[kd,d0]at ih
  cases hk:decide ((f.getD j ZN).1=0) with
  |true=>simp only[hk,cond_true]at ih ⊢;exact ih
  |false=>simp only[hk,cond_false]at ih ⊢;exact ih
theorem yi2(n:Nat)(f:List Nd)(c:Cr)(i:Nat)(name:ByteArray)(kind mode:Int)(hi:i<f.length)(h:SzB f)(hl:c.2.2.length≤2000000)(hn:2000000<n) :
  p106 n f c (i:Int) name kind mode=some (((ztu f c i name kind mode).1,((ztu f c i name kind mode).2.1,((ztu f c i name kind mode).2.2,()))),()):=by
 show zf8 n (zd2 n n) f c (i:Int) name kind mode=_;unfold ztu;have e:(c.1,c.2.1,c.2.2)=c:=rfl;have hlen:=h.len;have h1:=zqj n f c i 3 hi hl hn;have h2:=zkr n (f.getD i d0) name (Nat.le_trans (h.nm i) (by omega)) hn;have h3:=zmi n f c i name kind mode hi h hn f.length n (Nat.le_refl _) (by omega);rw[List.drop_length]at h3;simp only[ze1]at h3;have e1:IntKind.i64.wrap ((f.length:Int) - 1)=(f.length:Int) - 1:=wr (by omega) (by omega);simp only[d0]at h2;simp only[zf8,q125,e,h1,Option.bind_some,lt_t hi,ge_t,cond_true,zaa,q126,h2,e1]
 cases decide (inF c (f.getD i d0) 3=0) with
 |false=>rfl
 |true =>
  simp only[Bool.not_true,cond_false,d0]
  cases decide (0≤atI name (nm (f.getD i ZN)) 0) with
  |true=>rfl
  |false =>
   simp only[cond_false];exact h3
theorem yi0(n:Nat)(f:List Nd)(c:Cr)(y i:Nat)(name:ByteArray)(hi:i<f.length)(hy:y<f.length)(h:SzB f)(hl:c.2.2.length≤2000000)(hk:0≤lk (f.getD y d0)∧lk (f.getD y d0)≤1000)(hn:2000000<n) :
  p111 n f c (y:Int) (i:Int) name=some (((zxp f c y i name).1,((zxp f c y i name).2,())),()):=by
 show zf6 n f c (y:Int) (i:Int) name=_;unfold zxp;have e:(c.1,c.2.1,c.2.2)=c:=rfl;have h1:=zqj n f c i 3 hi hl hn;have h2:=zkr n (f.getD i d0) name (Nat.le_trans (h.nm i) (by omega)) hn;have e1:IntKind.i64.wrap (lk (f.getD y d0)+1)=lk (f.getD y d0)+1:=wr (by omega) (by omega);have h4:=zqi n (f.set y (zcw (f.getD y d0) (lk (f.getD y d0)+1))) i (name,(y:Int)) (by rw[List.length_set];exact hi) (Nat.le_trans ((h.set (a:=zcw (f.getD y d0) (lk (f.getD y d0)+1)) (h.nm y)).nm i) (by omega)) hn;simp only[d0,lk,zcw]at h2 e1 h4;simp only[zf6,q125,e,h1,Option.bind_some,lt_t hi,lt_t hy,ge_t,cond_true,zaa,q126,h2,e1,q140,h4];simp only[d0,kd,lk,nm,zcw]
 cases decide ((f.getD y ZN).1=1) with
 |false=>rfl
 |true =>
 simp only[Bool.not_true,cond_false]
 cases decide (inF c (f.getD i ZN) 3=0) with
 |false=>rfl
 |true =>
 simp only[Bool.not_true,cond_false]
 cases decide (0≤atI name (f.getD i ZN).2.2.2.2.2.2.2.2 0) with
 |true=>rfl
 |false =>
 simp only[cond_false]
 cases decide ((6:Int)≤(((f.getD i ZN).2.2.2.2.2.2.2.2.length:Nat):Int)) with
 |true=>rfl
 |false =>
 simp only[cond_false];cases decide (99≤(f.getD y ZN).2.2.2.2.1) <;> rfl
end Go.Proofs.Ytbjgiioppmkpiaa.Rx.S
namespace Go.Proofs.Ytbjgiioppmkpiaa.Rx.S
open Go Go.Proofs.Ytbjgiioppmkpiaa.Rx.Pu Go.Proofs.Ytbjgiioppmkpiaa.Rx.Fs Go.Proofs.Ytbjgiioppmkpiaa.Rx.Gr
theorem yjn(f:List Nd)(i:Nat):zx1 f i=yjo f i:=rfl
theorem ynv(n:Nat)(f:List Nd)(c:Cr)(i:Nat)(name:ByteArray)(h:OkW f)(hi:i<10)(hl:c.2.2.length≤2000000)(hn:2000000<n) :
  p77 n f c (i:Int) name=some (((zyl f c i name).1,((zyl f c i name).2,())),()):=by
 show zik n f c (i:Int) name=_;unfold zyl;have hif:i<f.length:=by rw[h.len];exact hi
 have hB:=OkW.szB h;have e:(c.1,c.2.1,c.2.2)=c:=rfl;have h1:=zqj n f c i 3 hif hl hn;have h2:=zkr n (f.getD i d0) name (Nat.le_trans (hB.nm i) (by omega)) hn;simp only[d0]at h2;simp only[zik,q125,e,h1,Option.bind_some,lt_t hif,ge_t,cond_true,zaa,q126,h2]
 cases decide (inF c (f.getD i d0) 3=0) with
 |false=>rfl
 |true =>
 simp only[Bool.not_true,cond_false,d0];rcases zcp name (nm (f.getD i d0)) 0 with ⟨h3,_⟩|⟨k,hk,h3,_⟩
 ·simp only[d0]at h3;rw[h3];rfl
 ·obtain⟨_,hy9,hky⟩:=(h.entsOk hi).all _ (zbt hk e0);generalize hy:((nm (f.getD i d0)).getD k e0).2.toNat=y at hky;have hy':((nm (f.getD i d0)).getD k e0).2=(y:Int):=by omega
  have hyf:y<f.length:=by rw[h.len];omega
  have hkl:=hk;have hl0:=h.links y (by omega) hky;have hmle:=zqs (f:=f) (fun j hj=>h.nlen j hj) y;have e1:IntKind.i64.wrap (lk (f.getD y d0) - 1)=lk (f.getD y d0) - 1:=wr (by omega) (by omega);have hht:tgt f i (k:Int)=y:=hy;have hne:decide ((k:Int)<0)=false:=decide_eq_false (by omega);have hyi:y≠i→(f.set y (zcw (f.getD y d0) (lk (f.getD y d0) - 1))).getD i d0=f.getD i d0:=fun hyi=>by rw[zba hyf,if_neg (fun e=>hyi e.symm)]
  have hB2:SzB (f.set y (zcw (f.getD y d0) (lk (f.getD y d0) - 1))):=hB.set (hB.nm y)
  have hnmk:k<(nm ((f.set y (zcw (f.getD y d0) (lk (f.getD y d0) - 1))).getD i d0)).length:=by
   rw[zba hyf];split
   ·rename_i e;rw[← e];exact hk
   ·exact hk
  have h5:=zwk n (f.set y (zcw (f.getD y d0) (lk (f.getD y d0) - 1))) i k (by rw[List.length_set];exact hif) hnmk (Nat.le_trans (hB2.nm i) (by omega));have h6:=zwl n (zjq (f.set y (zcw (f.getD y d0) (lk (f.getD y d0) - 1))) i k) y (by unfold zjq;rw[List.length_set,List.length_set];exact hyf);simp only[d0,lk,zcw,nm,e0]at h3 hy' hky hkl e1 h5 h6;simp only[h3,Nat.zero_add,hne,cond_false,ge_t,lt_t hkl,zaa,hy',lt_t hyf,cond_true,e1,q128,h5,Option.bind_some,q127,h6];simp only[hht,zaa,d0,kd,nm,op,lk,zcw,yjn]
  cases decide ((f.getD y ZN).1=2) with
  |false=>rfl
  |true =>
  cases decide ((0:Int)<(((f.getD y ZN).2.2.2.2.2.2.2.2.length:Nat):Int)) with
  |true=>rfl
  |false =>
  cases decide (0<(f.getD y ZN).2.2.2.2.2.1) <;> rfl
end Go.Proofs.Ytbjgiioppmkpiaa.Rx.S
namespace Go.Proofs.Ytbjgiioppmkpiaa.Rx.S
open Go Go.Proofs.Ytbjgiioppmkpiaa.Rx.Pu Go.Proofs.Ytbjgiioppmkpiaa.Rx.Fs
def padB:Nat→ByteArray→ByteArray
 |0,s=>s
 |d+1,s=>padB d (s++ByteArray.mk #[(0:UInt8)])
theorem zoq:∀ (d:Nat) (s:ByteArray),(padB d s).size=s.size+d
 |0,s=>rfl
 |d+1,s=>by
  rw[padB,zoq d,ByteArray.size_append];have:(ByteArray.mk #[(0:UInt8)]).size=1:=rfl;omega
def endB(t:ByteArray)(k:Nat):ByteArray:=bif decide (k<t.size) then t.extract k t.size else ByteArray.mk #[]
def wtx(t:ByteArray)(at_:Nat)(s:ByteArray):ByteArray:=(t.extract 0 at_++s)++endB t (at_+s.size)
theorem yjq(t:ByteArray):t.extract t.size t.size=ByteArray.mk #[]:=by
 have h:(t.extract t.size t.size).size=0:=by rw[ByteArray.size_extract];omega
 cases hx:t.extract t.size t.size with
 |mk x =>
  congr 1;rw[hx]at h;exact Array.eq_empty_of_size_eq_zero h
theorem zero1:(List.foldl (fun (r:ByteArray) (n:Int)=>r.push (UInt8.ofNat n.toNat)) ByteArray.empty [(0:Int)])=ByteArray.mk #[(0:UInt8)]:=rfl
noncomputable def ym0(a:Nd)(t:ByteArray):Nd:=(a.1,a.2.1,a.2.2.1,a.2.2.2.1,a.2.2.2.2.1,a.2.2.2.2.2.1,a.2.2.2.2.2.2.1,t,a.2.2.2.2.2.2.2.2)
theorem yme{a b:Nat}(h:a+b<4611686018427387904):IntKind.i64.wrap ((a:Int)+(b:Int))=((a+b:Nat):Int):=(wr (x:=(a:Int)+(b:Int)) (by omega) (by omega)).trans (by omega)
theorem yob{a b:Nat}:(if ((a:Nat):Int)<(b:Int) then ((a:Nat):Int) else (b:Int))=((min a b:Nat):Int):=by
 simp only[Nat.min_def];split <;> split <;> omega
theorem zmd(n:Nat)(f:List Nd)(i:Nat)(hi:i<f.length)(k:Nat)(s:ByteArray)(hs:s.size≤2000000)(hk:k≤40):∀ (d m:Nat) (t:ByteArray),t.size≤1000→d=k - t.size→d<m →
  ze_ n m (i:Int) (k:Int) s t f=some ((f.set i (ym0 (f.getD i d0) (wtx (padB d t) k s)),(0,())),())
 |_,0,_,_,_,h=>by omega
 |d+1,m+1,t,ht,hd,hm=>by
  show zel n (ze_ n m) (i:Int) (k:Int) s t f=_;have e1:decide ((t.size:Int)<(k:Int))=true:=decide_eq_true (by omega);have hz:(ByteArray.mk #[(0:UInt8)]).size=1:=rfl;have e2:decide (t.size+(List.foldl (fun (r:ByteArray) (n:Int)=>r.push (UInt8.ofNat n.toNat)) ByteArray.empty [(0:Int)]).size≤(9223372036854775807:Nat))=true:=decide_eq_true (by rw[zero1,hz];omega);simp only[zel,e1,e2,cond_true];exact zmd n f i hi k s hs hk d m (t++ByteArray.mk #[(0:UInt8)]) (by rw[ByteArray.size_append,hz];omega) (by rw[ByteArray.size_append,hz];omega) (by omega)
 |0,m+1,t,ht,hd,hm=>by
  show zel n (ze_ n m) (i:Int) (k:Int) s t f=_;have e1:decide ((t.size:Int)<(k:Int))=false:=decide_eq_false (by omega);have e2:decide ((k:Int)≤(t.size:Int))=true:=decide_eq_true (by omega);have x1:(t.extract 0 k).size≤1000:=by rw[ByteArray.size_extract];omega
  have e3:decide ((t.extract (Int.toNat 0) k).size+s.size≤(9223372036854775807:Nat))=true:=decide_eq_true (by show (t.extract 0 k).size+_≤_;omega);have e4:decide ((0:Int)≤((min (k+s.size) t.size:Nat):Int))=true:=decide_eq_true (by omega);have e5:decide (((min (k+s.size) t.size:Nat):Int)≤(t.size:Int))=true:=decide_eq_true (by have:=Nat.min_le_right (k+s.size) t.size;omega);have x2:(t.extract (min (k+s.size) t.size) t.size).size≤1000:=by rw[ByteArray.size_extract];omega
  have e6:decide ((t.extract (Int.toNat 0) k++s).size+(t.extract (min (k+s.size) t.size) t.size).size≤(9223372036854775807:Nat))=true:=decide_eq_true (by rw[ByteArray.size_append];show (t.extract 0 k).size+_+_≤_;omega)
  have hend:t.extract (min (k+s.size) t.size) t.size=endB t (k+s.size):=by
   unfold endB
   by_cases h:k+s.size<t.size
   ·rw[decide_eq_true h,Nat.min_eq_left (by omega)];rfl
   ·rw[decide_eq_false h,Nat.min_eq_right (by omega)];exact yjq t
  simp only[zel,e1,e2,ge_t,cond_true,cond_false,zaa,e3,yme (show k+s.size<4611686018427387904 by omega),yob,e4,e5,e6,lt_t hi];rw[hend];rfl
end Go.Proofs.Ytbjgiioppmkpiaa.Rx.S
namespace Go.Proofs.Ytbjgiioppmkpiaa.Rx.Gr
theorem DnR.trans{e:Nat→List Nat}{fo:Nat→Bool}{a b c:Nat}(h:DnR e fo a b)(h':DnR e fo b c):DnR e fo a c:=by
 induction h' with
 |refl=>exact h
 |step _ hz ih=>exact .step ih hz
theorem DnR.head{e:Nat→List Nat}{fo:Nat→Bool}{a c:Nat}(h:DnR e fo a c):c=a∨∃ b,b∈chl e fo a∧DnR e fo b c:=by
 induction h with
 |refl=>exact .inl rfl
 |step hd hz ih =>
  rcases ih with rfl|⟨b,h1,h2⟩
  ·exact .inr ⟨_,hz,.refl⟩
  ·exact .inr ⟨b,h1,.step h2 hz⟩
end Go.Proofs.Ytbjgiioppmkpiaa.Rx.Gr
namespace Go.Proofs.Ytbjgiioppmkpiaa.Rx.S
open Go Go.Proofs.Ytbjgiioppmkpiaa.Rx.Pu Go.Proofs.Ytbjgiioppmkpiaa.Rx.Fs Go.Proofs.Ytbjgiioppmkpiaa.Rx.Gr
theorem zme(qr:zdj)(n:Nat)(f:List Nd)(h:OkW f)(a t:Nat)(ha:a<10)
  (hq:∀ c,c∈chl (ids f) (fold f) a→∃ b:Bool,qr n (f,((c:Nat):Int),(t:Int),())=some ((b,()),())∧(b=true↔Gr.DnR (ids f) (fold f) c t)) :
  ∀ (m k:Nat),k≤(nm (f.getD a d0)).length→(nm (f.getD a d0)).length - k<m →
  ∃ b:Bool,zhn qr n m (a:Int) (t:Int) (k:Int) f=some ((b,()),())∧(b=true↔∃ c∈((nm (f.getD a d0)).drop k).map (fun e=>e.2.toNat),fold f c=true∧Gr.DnR (ids f) (fold f) c t)
 |0,k,_,hm=>by omega
 |m+1,k,hk,hm=>by
  have haf:a<f.length:=by rw[h.len];exact ha
  show ∃ b:Bool,zfq qr n (zhn qr n m) (a:Int) (t:Int) (k:Int) f=_∧_;have hnl:=h.nlen a ha
  by_cases h1:k<(nm (f.getD a d0)).length
  ·obtain⟨_,hy9,hky⟩:=(h.entsOk ha).all _ (zbt h1 e0);generalize hy:((nm (f.getD a d0)).getD k e0).2.toNat=y at hky;have hy':((nm (f.getD a d0)).getD k e0).2=(y:Int):=by omega
   have hyf:y<f.length:=by rw[h.len];omega
   have h1':=h1;have hd:=zc4 h1 e0;obtain⟨b,hb1,hb2⟩:=zme qr n f h a t ha hq m (k+1) (by omega) (by omega);simp only[d0,nm,e0]at h1' hy';simp only[zfq,lt_t haf,ge_t,cond_true,zaa,lt_t h1',hy',lt_t hyf,zdp (show k<4611686018427387904 by omega)];rw[hd,List.map_cons,hy]
   by_cases hf:kd (f.getD y d0)=2
   ·have hff:fold f y=true:=decide_eq_true hf;have hyc:y∈chl (ids f) (fold f) a:=List.mem_filter.2 ⟨List.mem_map.2 ⟨_,zbt h1 e0,hy⟩,hff⟩;obtain⟨b',hb3,hb4⟩:=hq y hyc;have hf':=hf;simp only[d0,kd]at hf';simp only[hf',decide_true,cond_true,hb3,Option.bind_some]
    cases b' with
    |true=>exact⟨true,rfl,fun _=>⟨y,List.mem_cons_self,hff,hb4.1 rfl⟩,fun _=>rfl⟩
    |false =>
     refine⟨b,hb1,fun hb=>?_,fun ⟨c,hc,hcf,hcd⟩=>?_⟩
     ·obtain⟨c,hc,hcf⟩:=hb2.1 hb;exact⟨c,List.mem_cons_of_mem _ hc,hcf⟩
     ·rcases List.mem_cons.1 hc with rfl|hc
      ·have:=hb4.2 hcd;cases this
      ·exact hb2.2 ⟨c,hc,hcf,hcd⟩
   ·have hf':=hf;simp only[d0,kd]at hf';simp only[hf',decide_false,cond_false];refine⟨b,hb1,fun hb=>?_,fun ⟨c,hc,hcf,hcd⟩=>?_⟩
    ·obtain⟨c,hc,hcf⟩:=hb2.1 hb;exact⟨c,List.mem_cons_of_mem _ hc,hcf⟩
    ·rcases List.mem_cons.1 hc with rfl|hc
     ·exact absurd (of_decide_eq_true hcf) hf
     ·exact hb2.2 ⟨c,hc,hcf,hcd⟩
  ·have h1':(nm (f.getD a d0)).length≤k:=by omega
   simp only[d0,nm]at h1';simp only[zfq,lt_t haf,ge_t,cond_true,zaa,zw_ k _ h1',cond_false];refine⟨false,rfl,⟨(fun h=>by cases h),?_⟩⟩;rintro ⟨c,hc,_⟩;rw[List.drop_eq_nil_of_le (by omega)]at hc;exact(List.not_mem_nil hc).elim
theorem zsk(n:Nat)(hn:2000000<n)(f:List Nd)(h:OkW f)(t:Nat):∀ (k d a:Nat),Gr.Way (ids f) (fold f) a d→10≤d+k →
  ∃ b:Bool,znm k n (f,(a:Int),(t:Int),())=some ((b,()),())∧(b=true↔Gr.DnR (ids f) (fold f) a t)
 |0,d,a,hw,hk=>by have:=h.tr.bound (by omega) hw;omega
 |k+1,d,a,hw,hk=>by
  have ha:a<10:=hw.lt (by omega) h.tr.rg;show ∃ b:Bool,zdq (znm k) n (zhn (znm k) n n) f (a:Int) (t:Int)=_∧_;have hnl:=h.nlen a ha
  by_cases h1:a=t
  ·subst h1;simp only[zdq,decide_true,cond_true];exact⟨true,rfl,fun _=>.refl,fun _=>rfl⟩
  ·have e1:decide ((a:Int)=(t:Int))=false:=decide_eq_false (by omega);simp only[zdq,e1,cond_false];obtain⟨b,hb1,hb2⟩:=zme (znm k) n f h a t ha (fun c hc=>zsk n hn f h t k (d+1) c (.next hw hc) (by omega)) n 0 (by omega) (by omega);refine⟨b,hb1,fun hb=>?_,fun hd=>?_⟩
   ·obtain⟨c,hc,hcf,hcd⟩:=hb2.1 hb;exact Gr.DnR.trans (.step .refl (List.mem_filter.2 ⟨hc,hcf⟩)) hcd
   ·rcases hd.head with e|⟨c,hc,hcd⟩
    ·exact absurd e.symm h1
    ·obtain⟨h2,h3⟩:=List.mem_filter.1 hc;exact hb2.2 ⟨c,h2,h3,hcd⟩
theorem yil(n:Nat)(hn:2000000<n)(f:List Nd)(h:OkW f)(a t:Nat)(ha:a<10)(hk:kd (f.getD a d0)=2):q143 n (f,(a:Int),(t:Int),())=some ((dnB f a t,()),()):=by
 obtain⟨d,hd⟩:=h.tr.wy a ha (decide_eq_true hk);obtain⟨b,h1,h2⟩:=zsk n hn f h t n d a hd (by omega);refine Eq.trans h1 ?_
 have:b=dnB f a t:=by
  unfold dnB
  cases b with
  |true=>exact(@decide_eq_true _ (Classical.propDecidable _) (h2.1 rfl)).symm
  |false=>exact(@decide_eq_false _ (Classical.propDecidable _) (fun h'=>by have:=h2.2 h';cases this)).symm
 rw[this]
theorem yi1(n:Nat)(f:List Nd)(c:Cr)(i:Nat)(name:ByteArray)(t:Nat)(other:ByteArray)(h:OkW f)(hi:i<10)(ht:t<10)(hl:c.2.2.length≤2000000)(hn:2000000<n) :
  p110 n f c (i:Int) name (t:Int) other=some (((zw5 f c i name t other).1,((zw5 f c i name t other).2,())),()):=by
 show zf7 n f c (i:Int) name (t:Int) other=_;unfold zw5;have hif:i<f.length:=by rw[h.len];exact hi
 have htf:t<f.length:=by rw[h.len];exact ht
 have hB:=OkW.szB h;have e:(c.1,c.2.1,c.2.2)=c:=rfl;have h1:=zqh n f c i 3 hif hl hn;have h1t:=zqh n f c t 3 htf hl hn;have h2:=zkr n (f.getD i d0) name (Nat.le_trans (hB.nm i) (by omega)) hn;have h2t:=zkr n (f.getD t d0) other (Nat.le_trans (hB.nm t) (by omega)) hn
 have hit:decide ((i:Int)=(t:Int))=decide (i=t):=by
  by_cases h:i=t
  ·rw[decide_eq_true h,decide_eq_true (by omega)]
  ·rw[decide_eq_false h,decide_eq_false (by omega)]
 simp only[d0]at h2 h2t;simp only[zf7,q142,e,h1,h1t,Option.bind_some,lt_t hif,lt_t htf,ge_t,cond_true,zaa,q126,h2,h2t,hit];simp only[d0,kd]
 cases decide ((f.getD i ZN).1=2) with
 |false=>rfl
 |true =>
 simp only[Bool.not_true,cond_false]
 cases hkt:decide ((f.getD t ZN).1=2) with
 |false=>rfl
 |true =>
 simp only[Bool.not_true,cond_false]
 cases mayN c (f.getD i ZN) 3 with
 |false=>rfl
 |true =>
 simp only[Bool.not_true,cond_false]
 cases mayN c (f.getD t ZN) 3 with
 |false=>rfl
 |true =>
 simp only[Bool.not_true,cond_false];rcases zcp name (nm (f.getD i d0)) 0 with ⟨h3,_⟩|⟨k,hk,h3,_⟩
 ·simp only[d0]at h3;rw[h3];rfl
 ·obtain⟨_,hy9,hky⟩:=(h.entsOk hi).all _ (zbt hk e0);generalize hy:((nm (f.getD i d0)).getD k e0).2.toNat=y at hky;have hy':((nm (f.getD i d0)).getD k e0).2=(y:Int):=by omega
  have hyf:y<f.length:=by rw[h.len];omega
  have hkl:=hk;have hht:tgt f i (k:Int)=y:=hy;have hne:decide ((k:Int)<0)=false:=decide_eq_false (by omega);have h5:=zwk n f i k hif hk (Nat.le_trans (hB.nm i) (by omega))
  have hB2:SzB (zjq f i k):=by
   unfold zjq;refine hB.set ?_;have:=zk7 hk;have:=hB.nm i;show ((nm (f.getD i d0)).eraseIdx k).length≤1000;omega
  have h6:=zqi n (zjq f i k) t (other,(y:Int)) (by unfold zjq;rw[List.length_set];exact htf) (Nat.le_trans (hB2.nm t) (by omega)) hn;have h7:kd (f.getD y d0)=2→q143 n (f,(y:Int),(t:Int),())=some ((dnB f y t,()),()):=fun hk2=>yil n hn f h y t (by omega) hk2;have hyy:=hy';simp only[d0,nm,e0]at h3 hyy hky hkl h5;simp only[h3,Nat.zero_add,hne,cond_false,ge_t,lt_t hkl,zaa,hyy,lt_t hyf,cond_true,q128,h5,Option.bind_some,q140,h6];simp only[hht,zaa,d0,kd,nm,e0,hyy]
  cases decide (0≤atI other (f.getD t ZN).2.2.2.2.2.2.2.2 0) with
  |true=>rfl
  |false =>
  simp only[cond_false]
  by_cases hk2:kd (f.getD y d0)=2
  ·have h8:=h7 hk2;have hk2':=hk2;simp only[d0,kd]at hk2';simp only[hk2',decide_true,cond_true,h8,Option.bind_some,Bool.true_and]
   cases dnB f y t with
   |true=>rfl
   |false =>
   simp only[cond_false]
   cases decide (i=t) with
   |true=>rfl
   |false =>
   simp only[Bool.not_false,cond_true,Bool.true_and];cases decide ((6:Int)≤(((f.getD t ZN).2.2.2.2.2.2.2.2.length:Nat):Int)) <;> rfl
  ·have hk2':=hk2;simp only[d0,kd]at hk2';simp only[hk2',decide_false,cond_false,Bool.false_and]
   cases decide (i=t) with
   |true=>rfl
   |false =>
   simp only[Bool.not_false,cond_true,Bool.true_and];cases decide ((6:Int)≤(((f.getD t ZN).2.2.2.2.2.2.2.2.length:Nat):Int)) <;> rfl
end Go.Proofs.Ytbjgiioppmkpiaa.Rx.S
namespace Go.Proofs.Ytbjgiioppmkpiaa.Rx.S
open Go Go.Proofs.Ytbjgiioppmkpiaa.Rx.Pu Go.Proofs.Ytbjgiioppmkpiaa.Rx.Fs
def Bys(l:List Int):Prop:=(∀ x∈l,0≤x∧x<256)∧l.length≤2000
theorem Bys.get{l:List Int}(h:Bys l)(i:Nat):0≤l.getD i 0∧l.getD i 0<256:=by
 rw[List.getD_eq_getElem?_getD]
 cases hi:l[i]? with
 |none=>simp
 |some x=>exact h.1 x (List.mem_of_getElem? hi)
theorem zav(n:Nat){l:List Int}(hl:Bys l){pos b:Int}(hp:0≤pos∧pos<1000000)(hb:1≤b) :
  ∃ v:Int,p102 n (l,pos) b=some ((v,()),((l,pos+1),()))∧0≤v∧v<b:=by
 have e1:IntKind.i64.wrap (pos+1)=pos+1:=wr (by omega) (by omega);have e2:IntKind.i64.wrap (pos+1 - 1)=pos:=(wr (x:=pos+1 - 1) (by omega) (by omega)).trans (by omega);have e3:IntKind.i64.wrap (pos*7)=pos*7:=wr (by omega) (by omega);have e4:IntKind.i64.wrap (pos*7+3)=pos*7+3:=wr (by omega) (by omega);have e5:IntKind.i64.wrap (pos*29)=pos*29:=wr (by omega) (by omega);have hlen:=hl.2;show ∃ v:Int,zf9 n (l,pos) b=_∧_;have hb1:¬ b<1:=by omega
 have hb2:¬ b=0:=by omega
 simp only[zf9,e1,e2,e3,e4,e5,hb1,hb2,decide_false,cond_false,Bool.not_false,cond_true]
 by_cases h0:(l.length:Int)=0
 ·simp only[h0,decide_true,cond_true];exact⟨0,rfl,by omega,by omega⟩
 ·have hl1:(1:Int)≤l.length:=by omega
  simp only[h0,decide_false,cond_false,Bool.not_false,cond_true]
  by_cases h1:pos<(l.length:Int)
  ·have hp0:(0:Int)≤pos:=hp.1;simp only[h1,hp0,decide_true,cond_true];have hg:=hl.get pos.toNat;rw[wr (by omega) (by omega)];exact⟨_,rfl,zei hg.1 hb⟩
  ·simp only[h1,decide_false,cond_false];have t1:=zei (a:=pos) (b:=l.length) hp.1 hl1;have t2:=zei (a:=pos*7+3) (b:=l.length) (by omega) hl1;have t3:=zlx (a:=pos) (b:=l.length) hp.1 hl1;simp only[t1.1,t1.2,t2.1,t2.2,decide_true,cond_true];have g1:=hl.get (pos.tmod l.length).toNat;have g2:=hl.get ((pos*7+3).tmod l.length).toNat;generalize l.getD (pos.tmod l.length).toNat 0=y1 at *;generalize l.getD ((pos*7+3).tmod l.length).toNat 0=y2 at *;generalize pos.tdiv l.length=q at *;have w1:IntKind.i64.wrap y1=y1:=wr (by omega) (by omega);have w2:IntKind.i64.wrap (y1*131)=y1*131:=wr (by omega) (by omega);have w3:IntKind.i64.wrap y2=y2:=wr (by omega) (by omega);have w4:IntKind.i64.wrap (y2*1117)=y2*1117:=wr (by omega) (by omega);have w5:IntKind.i64.wrap (y1*131+y2*1117)=y1*131+y2*1117:=wr (by omega) (by omega);have w6:IntKind.i64.wrap (y1*131+y2*1117+pos*29)=y1*131+y2*1117+pos*29:=wr (by omega) (by omega);have w7:IntKind.i64.wrap q=q:=wr (by omega) (by omega);have w8:IntKind.i64.wrap (q*53)=q*53:=wr (by omega) (by omega);have w9:IntKind.i64.wrap (y1*131+y2*1117+pos*29+q*53)=y1*131+y2*1117+pos*29+q*53:=wr (by omega) (by omega);simp only[w1,w2,w3,w4,w5,w6,w7,w8,w9];have hS:0≤y1*131+y2*1117+pos*29+q*53∧y1*131+y2*1117+pos*29+q*53<1000000000000:=by omega
   generalize y1*131+y2*1117+pos*29+q*53=S at *;have hd:=zlx (a:=S) (b:=64) hS.1 (by omega);have w10:IntKind.i64.wrap (S.tdiv 64)=S.tdiv 64:=wr (by omega) (by omega);simp only[w10];exact⟨_,rfl,zei (zur hS.1 (by omega) hd.1 (by omega)) hb⟩
theorem yn2(n:Nat){l:List Int}(hl:∀ x∈l,0≤x∧x<256):∃ l',p55 n l=some (((l',0),()),())∧Bys l':=by
 show ∃ l',ziw n l=_∧_;simp only[ziw]
 by_cases h:(2000:Int)<l.length
 ·have h2:(2000:Int)≤l.length:=by omega
  simp only[h,h2,decide_true,cond_true];refine⟨_,rfl,fun x hx=>hl x (List.mem_of_mem_take hx),?_⟩;rw[List.length_take];exact Nat.min_le_left _ _
 ·simp only[h,decide_false,cond_false];exact⟨_,rfl,hl,by omega⟩
theorem d8{a:Nat}(h:a≤1000)(b:Nat)(hb:b=1):decide ((a+b)*(8:Nat)≤(140737488355328:Nat))=true:=decide_eq_true (by omega)
theorem zko(n:Nat){l:List Int}(hl:Bys l)(x3 x4 u r:Int):∀ (m k:Nat) (pos:Int) (g:List Int),k≤5→5 - k<m→0≤pos∧pos+(5 - (k:Int))<900000→g.length≤3 →
  ∃ (c:Cr) (pos':Int),zl6 n m (k:Int) l pos x3 x4 u r g=some ((c,()),((l,pos'),()))∧(pos≤pos'∧pos'≤pos+(5 - k)+2)∧c.2.2.length≤4
 |0,k,pos,g,_,h,_,_=>by omega
 |m+1,k,pos,g,hk,hm,hp,hg=>by
  show ∃ (c:Cr) (pos':Int),zm3 n (zl6 n m) (k:Int) l pos x3 x4 u r g=_∧_;obtain⟨v0,hv0,g0,g1⟩:=zav n hl (pos:=pos) (b:=4) (by omega) (by omega);obtain⟨v1,hv1,g2,g3⟩:=zav n hl (pos:=pos) (b:=30) (by omega) (by omega);obtain⟨v2,hv2,g4,g5⟩:=zav n hl (pos:=pos+1) (b:=3) (by omega) (by omega);have h03:decide (v2<((0+1+1+1:Nat):Int))=true:=decide_eq_true (by omega);have hd:=d8 (a:=g.length) (by omega) (0+1) rfl;simp only[zm3,q102,hv0,hv1,hv2,Option.bind_some,g4,decide_true,cond_true,List.length_cons,List.length_nil,h03,hd]
  have tail:∀ (b:Bool),b=b→∃ (c:Cr) (pos':Int),(bif decide (v1=0) then some ((([(-1:Int),10,9].getD v2.toNat 0,(r,g)),()),((l,pos+1+1),())) else bif decide (v1=1) then some (((u,(r,g++[[(0:Int),9,10].getD v2.toNat 0])),()),((l,pos+1+1),())) else some (((u,(r,g)),()),((l,pos+1),())))=some ((c,()),((l,pos'),()))∧(pos≤pos'∧pos'≤pos+(5 - k)+2)∧c.2.2.length≤4:=fun _ _=>by
   cases decide (v1=0) with
   |true=>exact⟨_,_,rfl,by omega,by show g.length≤4;omega⟩
   |false =>
    cases decide (v1=1) with
    |true=>exact⟨_,_,rfl,by omega,by show (g++_).length≤4;simp;omega⟩
    |false=>exact⟨_,_,rfl,by omega,by show g.length≤4;omega⟩
  by_cases h1:(k:Int)<5
  ·simp only[h1,decide_true,cond_true]
   by_cases h2:(g.length:Int)<3
   ·simp only[h2,decide_true,cond_true];rw[zdp (by omega)]
    by_cases h3:v0=0
    ·simp only[h3,decide_true,cond_true];obtain⟨c,pos',e1,e2,e3⟩:=zko n hl x3 x4 u r m (k+1) (pos+1) (g++[(k:Int)]) (by omega) (by omega) (by omega) (by simp;omega);exact⟨c,pos',e1,by omega,e3⟩
    ·simp only[h3,decide_false,cond_false];obtain⟨c,pos',e1,e2,e3⟩:=zko n hl x3 x4 u r m (k+1) (pos+1) g (by omega) (by omega) (by omega) hg;exact⟨c,pos',e1,by omega,e3⟩
   ·simp only[h2,decide_false,cond_false];exact tail true rfl
  ·simp only[h1,decide_false,cond_false];exact tail true rfl
theorem yf9(n:Nat)(hn:100<n){l:List Int}(hl:Bys l){pos:Int}(hp:0≤pos∧pos<800000):∃ (c:Cr) (pos':Int),p57 n (l,pos)=some ((c,()),((l,pos'),()))∧(pos≤pos'∧pos'≤pos+9)∧c.2.2.length≤4:=by
 show ∃ (c:Cr) (pos':Int),ziu n (zl6 n n) (l,pos)=_∧_;obtain⟨v0,hv0,g0,g1⟩:=zav n hl (pos:=pos) (b:=4) (by omega) (by omega);obtain⟨v1,hv1,g2,g3⟩:=zav n hl (pos:=pos+1) (b:=4) (by omega) (by omega);simp only[ziu,q102,hv0,hv1,Option.bind_some];obtain⟨c,pos',e1,e2,e3⟩:=zko n hl 0 0 v0 v1 n 0 (pos+1+1) [] (by omega) (by omega) (by omega) (by simp);exact⟨c,pos',e1,by omega,e3⟩
theorem zms:∀ (l:List Int) (r:ByteArray),(l.foldl (fun (r:ByteArray) (n:Int)=>r.push (UInt8.ofNat n.toNat)) r).size=r.size+l.length
 | [],r=>rfl
 |x::l,r=>by
  rw[List.foldl_cons,zms l,ByteArray.size_push,List.length_cons];omega
theorem yiz(n:Nat)(o m:Int)(ho:0≤o∧o≤9)(hm:0≤m∧m≤511):p112 n o m=some ((((List.replicate 10 d0).set 0 (2,m,o,o,0,0,false,ByteArray.empty,[])),(true,())),()):=by
 show zf5 n o m=_;simp only[zf5,q118,znf,q66,zkl,Option.bind_some,ho,hm,and_self,decide_true,Bool.not_true,cond_false];rfl
def abc:ByteArray:=ByteArray.mk #[(97:UInt8),(98:UInt8),(99:UInt8),(100:UInt8),(101:UInt8),(102:UInt8),(103:UInt8),(104:UInt8),(48:UInt8),(49:UInt8),(32:UInt8),(46:UInt8)]
theorem zmc(n:Nat){l:List Int}(hl:Bys l):∀ (m k:Nat) (pos:Int) (o:List Int),k≤1000→k<m→0≤pos∧pos+k<900000→o.length≤1000 - k →
  ∃ (s:ByteArray) (pos':Int),zhm n m (k:Int) l pos o=some ((s,()),((l,pos'),()))∧(pos≤pos'∧pos'≤pos+k)∧s.size≤o.length+k
 |0,k,pos,o,_,h,_,_=>by omega
 |m+1,k,pos,o,hk,hm,hp,ho=>by
  show ∃ (s:ByteArray) (pos':Int),zfo n (zhm n m) (k:Int) l pos o=_∧_
  cases k with
  |zero =>
   have h0:decide ((0:Int)<((0:Nat):Int))=false:=rfl;simp only[zfo,h0,cond_false];exact⟨_,_,rfl,by omega,by rw[zms];show 0+_≤_;omega⟩
  |succ k =>
   obtain⟨v0,hv0,g0,g1⟩:=zav n hl (pos:=pos) (b:=12) (by omega) (by omega);have h0:decide ((0:Int)<((k+1:Nat):Int))=true:=decide_eq_true (by omega);have e1:IntKind.i64.wrap (((k+1:Nat):Int) - 1)=(k:Int):=(wr (by omega) (by omega)).trans (by omega);have e2:decide (v0<((abc.size:Nat):Int))=true:=decide_eq_true (by have:abc.size=12:=rfl;omega);have e3:∀ x:Int,decide ((o.length+[x].length)*(1:Nat)≤(140737488355328:Nat))=true:=fun x=>decide_eq_true (by simp;omega);unfold abc at e2;simp only[zfo,h0,cond_true,q102,hv0,Option.bind_some,g0,decide_true,e2,e3,e1];obtain⟨s,pos',h1,h2,h3⟩:=zmc n hl m k (pos+1) (o++[(((ByteArray.mk #[(97:UInt8),(98:UInt8),(99:UInt8),(100:UInt8),(101:UInt8),(102:UInt8),(103:UInt8),(104:UInt8),(48:UInt8),(49:UInt8),(32:UInt8),(46:UInt8)]).data.toList.getD (Int.toNat v0) (0:UInt8)).toNat:Int)]) (by omega) (by omega) (by omega) (by simp;omega);exact⟨s,pos',h1,by omega,by simp at h3;omega⟩
theorem yiq(n:Nat)(hn:2000<n){l:List Int}(hl:Bys l){pos:Int}(hp:0≤pos∧pos<800000)(b:Nat)(hb:b≤900):∃ (s:ByteArray) (pos':Int),p145 n (l,pos) (b:Int)=some ((s,()),((l,pos'),()))∧(pos≤pos'∧pos'≤pos+b+1)∧s.size≤b:=by
 show ∃ (s:ByteArray) (pos':Int),zfn n (zhm n n) (l,pos) (b:Int)=_∧_;obtain⟨v0,hv0,g0,g1⟩:=zav n hl (pos:=pos) (b:=((b+1:Nat):Int)) (by omega) (by omega);obtain⟨k,rfl⟩:=Int.eq_ofNat_of_zero_le g0;simp only[zfn,q102,zdp (show b<4611686018427387904 by omega),hv0,Option.bind_some];obtain⟨s,pos',h1,h2,h3⟩:=zmc n hl n k (pos+1) [] (by omega) (by omega) (by omega) (by simp);exact⟨s,pos',h1,by omega,by simp at h3;omega⟩
end Go.Proofs.Ytbjgiioppmkpiaa.Rx.S
