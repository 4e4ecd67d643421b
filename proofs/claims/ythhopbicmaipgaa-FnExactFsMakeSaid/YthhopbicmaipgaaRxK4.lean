/- An evaluator over the program text, proved sound once: what a function computes on data, out of its code. No condition. -/
import Derived.ChangeArms
import Derived.ChangeOld
import Derived.Deep.Slices
import Derived.WideShapes
import Derived.DataReads
import Derived.Below
import Derived.Test.YthhopbicmaipgaaRxK3
namespace Go.Proofs.Ythhopbicmaipgaa.Rx
open Go Go.RowKit Go.Lib
set_option linter.unusedVariables false
set_option linter.unusedSimpArgs false
variable {P:Program}
def InsShift (P:Program) (f:FuncId) (sz:Nat):Prop :=
  ∀ (b off n c i vb voff m vc:Nat) (cs vs:List Value) (w:World) (hi:i < n) (hm:0 < m) (hroom:n + m≤c) (hc63:c≤9223372036854775807) (hvb:vb ≠ b)
    (hcl:cs.length=n * sz) (hvl:vs.length=m * sz)
    (hcs:∀ j v,cs[j]? = some v→w.cell? ⟨b,off + j,none⟩=some v) (hsp:∀ j,j < (n + m) * sz→(w.cell? ⟨b,off + j,none⟩).isSome=true) (hfz:∀ j,j < (n + m) * sz→w.frozen? ⟨b,off + j,none⟩=false)
    (hvs:∀ j v,vs[j]? = some v→w.cell? ⟨vb,voff + j,none⟩=some v) (h1c:∀ v ∈ cs,v.oneCell'=true) (h1v:∀ v ∈ vs,v.oneCell'=true)
    (tA tB:TypeId) (kA kB:Nat) (hsa:w.shape? vb=some (tA,kA)) (hsb:w.shape? b=some (tB,kB)) (hkB:kB ≠ 0) (hfa:w.frozen? ⟨vb,voff,none⟩=false) (hfe:w.frozen? ⟨vb,kA,none⟩=false),
    Calls P f #[.slice (some ⟨b,off,none⟩) n c,.int .i64 i,.slice (some ⟨vb,voff,none⟩) m vc] w fun e w' =>
      e = .returned (.slice (some ⟨b,off,none⟩) (n + m) c)∧w'=(w.drew.setCells b (off + (i + m) * sz) (cs.drop (i * sz))).setCells b (off + i * sz) vs
def InsEnd (P:Program) (f:FuncId) (t:TypeId):Prop :=
  ∀ (base:Option Addr) (n c m vc:Nat) (X:Option Addr) (w:World) (hm:0 < m) (hnc:n≤c) (hc63:c≤9223372036854775807) (hnil:base=none→n=0∧c=0) {v':Value} {w1:World}
    (hrun:∀ ty,(Builtin.append_ #[t,t] ty #[.slice base n c,.slice X m vc]).run P w = .ok v' w1),
    Calls P f #[.slice base n c,.int .i64 n,.slice X m vc] w fun e w'=>e = .returned v'∧w'=w1
def InsGrow (P:Program) (f:FuncId) (sz B:Nat) (e:TypeId) (z:Value):Prop :=
  ∀ (b off n c i vb voff m vc:Nat) (cs vs:List Value) (w:World) (hi:i < n) (hm:0 < m) (hnc:n≤c) (hroom:c < n + m) (hbig:(n + m) * B≤140737488355328)
    (hcl:cs.length=n * sz) (hvl:vs.length=m * sz)
    (hcs:∀ j v,cs[j]? = some v→w.cell? ⟨b,off + j,none⟩=some v)
    (hvs:∀ j v,vs[j]? = some v→w.cell? ⟨vb,voff + j,none⟩=some v) (h1c:∀ v ∈ cs,v.oneCell'=true) (h1v:∀ v ∈ vs,v.oneCell'=true),
    Calls P f #[.slice (some ⟨b,off,none⟩) n c,.int .i64 i,.slice (some ⟨vb,voff,none⟩) m vc] w fun e' w' =>
      e' = .returned (.slice (some ⟨w.heap.size,0,none⟩) (n + m) (grownCap w (n + m) c e)) ∧
      w'=(((w.alloc (.cells ((cs.take (i * sz)).toArray ++ Builtin.zeroCells z.cells (n + m - i) ++ Builtin.zeroCells z.cells (grownCap w (n + m) c e - (n + m))) e)).drew.setCells w.heap.size (i * sz) vs).drew).setCells w.heap.size ((i + m) * sz) (cs.drop (i * sz))
def insF (T:Ty) (B:Nat) (x:List T.den × Int × List T.den × Unit):Option ((List T.den × Unit) × Unit) :=
  cond (decide (0≤x.2.1)) (cond (decide (x.2.1≤x.1.length)) (cond (decide (1≤x.2.2.1.length)) (cond (decide ((x.1.length + x.2.2.1.length) * B≤140737488355328)) (some ((x.1.take x.2.1.toNat ++ x.2.2.1 ++ x.1.drop x.2.1.toNat,()),())) none) none) none) none
theorem ins_core {f:FuncId} {t e:TypeId} {ti:TI} {T:Ty} {z:Value} (hf:T.flat=true) (hti:TIok P e ti) (hty:ti.ty=some T) (ht:P.underlying t=some (.slice e)) (hby:0 < ti.bytes) (hz:z.cells.size=T.sz)
    (sh:InsShift P f T.sz) (en:InsEnd P f t) (gw:InsGrow P f T.sz ti.bytes e z) {w:World} {H H1:Path→Hd} {xs ys:List T.den} {v0 v1:Value} {F0 F1:List Nat} {i:Nat}
    (hi:i≤xs.length) (hm:1≤ys.length) (hbd:(xs.length + ys.length) * ti.bytes≤140737488355328)
    (h0:OwR w e T H xs v0 F0) (hh:∀ p,(H p).hole=false) (h1:OwR w e T H1 ys v1 F1) (hh1:∀ p,(H1 p).hole=false) (hlt:∀ k ∈ F0 ++ F1,k < w.heap.size) (hnd:(F0 ++ F1).Nodup) :
    Calls P f #[v0,.int .i64 i,v1] w (Gives e T w (F0 ++ F1) (xs.take i ++ ys ++ xs.drop i)):=by
  have hpos:=T.sz_pos
  have hmx:xs.length + ys.length≤140737488355328:=Nat.le_trans (Nat.le_mul_of_pos_right _ hby) hbd
  obtain ⟨vs,F1',rfl,hlen1,hle1,hmx1,hre1,hrd1,hX1,_,_,_,hcap1,_⟩:=OwR.elems h1 (hh1 [])
  have hfl1:Fl T ys vs:=RL.toFl hf hre1
  have hul1:=hfl1.len
  by_cases hie:i=xs.length
  · -- at the end
    subst hie
    have hb:=h0
    obtain ⟨us,F',rfl,hlen,hle,hmx0,hre,hrd,hA0,_,_,_,hcap,_⟩:=OwR.elems h0 (hh [])
    have hre1':RE w T (fun _=>⟨none,0,0,0,false⟩) ys vs []:=RL.ofFl (H:=fun _=>⟨none,0,0,0,false⟩) hf hfl1
    have key:∀ ty,∃ A c w' F' H',(Builtin.append_ #[t,t] ty #[.slice (H []).A (H []).len (H []).cap,.slice (H1 []).A ys.length (H1 []).cap]).run P w = .ok (.slice A (xs.length + ys.length) c) w'∧OwR w' e T H' (xs ++ ys) (.slice A (xs.length + ys.length) c) F' ∧
      Kp w (fun k=>k ∈ F0) w'∧F'.Nodup∧(∀ k ∈ F',k ∈ F0∨k ∈ ([]:List Nat)∨k=w.heap.size)∧(w.heap.size ∈ F'→w.heap.size < w'.heap.size)∧(∀ p,(H' p).hole=true→∃ q,q ≠ []∧((H q).hole=true∨(false:Bool)=true)) ∧
      H' []=⟨A,c,xs.length + ys.length,T.sz,false⟩:=fun ty =>
      append_run hti hty ht hb (hh []) hre1' hrd1 hX1 hbd (by unfold maxLen; omega) (fun k hk=>hlt k (by simp at hk; simp [hk])) (by simpa using (List.nodup_append.1 hnd).1)
    obtain ⟨A,c,w',F',H',hrun,ho,hK,hn',hF',hnew,hhole,_⟩:=key 0
    have hrun':∀ ty,(Builtin.append_ #[t,t] ty #[.slice (H []).A (H []).len (H []).cap,.slice (H1 []).A ys.length (H1 []).cap]).run P w = .ok (.slice A (xs.length + ys.length) c) w':=fun ty=>hrun
    rw [hlen1] at hrun'
    rw [show ((xs.length:Nat):Int)=(((H []).len:Nat):Int) by rw [hlen]]
    refine (en (H []).A (H []).len (H []).cap (H1 []).len (H1 []).cap (H1 []).A w (by omega) hle (by have:=hmx0; unfold maxLen at this; omega) (fun hn=>?_) hrun').mono ?_
    · by_cases hc:(H []).cap=0
      · omega
      · obtain ⟨g,b,cells,_,hA,_⟩:=hcap hc
        rw [hn] at hA; cases hA
    · rintro e' w2 ⟨rfl,rfl⟩
      refine ⟨_,F',rfl,⟨fun _=>H',fun _ p=>?_,rfl,_,rfl,?_⟩,hn',fun k hk=>?_,?_⟩
      · cases hp:(H' p).hole with
        | false=>rfl
        | true =>
          obtain ⟨q,_,hq | hq⟩:=hhole p hp
          · rw [hh q] at hq; cases hq
          · cases hq
      · rw [List.take_length,List.drop_length,List.append_nil,← hlen1]; exact ho
      · rcases hF' k hk with h | h | h
        · exact ⟨.inl (by simp [h]),Nat.lt_of_lt_of_le (hlt k (by simp [h])) hK.size⟩
        · cases h
        · subst h; exact ⟨.inr (Nat.le_refl _),hnew hk⟩
      · exact ⟨hK.os,hK.tape,hK.output,hK.size,fun k h1 h2=>hK.block k h1 (fun h=>h2 (by simp [h]))⟩
  · have hi:i < xs.length:=by omega
    obtain ⟨us,F',rfl,hlen,hle,hmx0,hre,hrd,_,_,_,_,hcap,_⟩:=OwR.elems h0 (hh [])
    have hc0:(H []).cap ≠ 0:=by omega
    obtain ⟨g,b,cells,hsz,hA,rfl,hg,hsize,hus⟩:=hcap hc0
    obtain ⟨g1,b1,cells1,hsz1,hA1,rfl,hg1,hsize1,hus1⟩:=hcap1 (by omega)
    have hfl:Fl T xs us:=RL.toFl hf hre
    have hul:=hfl.len
    have hgw:g < w.heap.size:=hlt g (by simp)
    have hgg:g1 ≠ g:=fun h=>by
      subst h
      have:=(List.nodup_append.1 hnd).2.2 g1 (by simp) g1 (by simp)
      exact this rfl
    rw [← hlen] at hus
    rw [← hlen1] at hus1
    have hcs:∀ j v,us[j]? = some v→w.cell? ⟨g,b + j,none⟩=some v:=fun j v hu=>by
      rw [← hus] at hu
      simp only [List.getElem?_take,List.getElem?_drop] at hu
      split at hu
      · simp only [World.cell?,hg]; simpa using hu
      · cases hu
    have hvs:∀ j v,vs[j]? = some v→w.cell? ⟨g1,b1 + j,none⟩=some v:=fun j v hu=>by
      rw [← hus1] at hu
      simp only [List.getElem?_take,List.getElem?_drop] at hu
      split at hu
      · simp only [World.cell?,hg1]; simpa using hu
      · cases hu
    have hsz0:b + xs.length * T.sz≤cells.size:=Nat.le_trans (Nat.add_le_add_left (Nat.mul_le_mul_right _ (by omega)) b) hsize
    have hi1:i * T.sz≤xs.length * T.sz:=Nat.mul_le_mul_right _ (by omega)
    have him:(i + ys.length) * T.sz=i * T.sz + ys.length * T.sz:=Nat.add_mul _ _ _
    have hnm:(xs.length + ys.length) * T.sz=xs.length * T.sz + ys.length * T.sz:=Nat.add_mul _ _ _
    have hdl:(us.drop (i * T.sz)).length=xs.length * T.sz - i * T.sz:=by rw [List.length_drop,hul]
    have hflat:Fl T (xs.take i ++ ys ++ xs.drop i) (us.take (i * T.sz) ++ vs ++ us.drop (i * T.sz)):=((hfl.take i).app hfl1).app (hfl.drop i)
    have hxl:(xs.take i ++ ys ++ xs.drop i).length=xs.length + ys.length:=by simp; omega
    by_cases hroom:xs.length + ys.length≤(H []).cap
    · have hrs:b + (xs.length + ys.length) * T.sz≤cells.size:=Nat.le_trans (Nat.add_le_add_left (Nat.mul_le_mul_right _ hroom) b) hsize
      have hk:=sh g b xs.length (H []).cap i g1 b1 ys.length (H1 []).cap us vs w hi (by omega) hroom (by have:=hmx0; unfold maxLen at this; omega) hgg hul hul1 hcs
        (fun j hj=>by simp only [World.cell?,hg]; simp; omega) (fun j hj=>by simp [World.frozen?,hg]) hvs hre.one hre1.one e e cells1.size cells.size (by simp [World.shape?,hg1]) (by simp [World.shape?,hg])
        (by have:=Nat.mul_pos (show 0 < xs.length by omega) hpos; omega) (by simp [World.frozen?,hg1]) (by simp [World.frozen?,hg1])
      rw [← hlen,hA,← hlen1,hA1]
      refine hk.mono ?_
      rintro e' w' ⟨rfl,rfl⟩
      obtain ⟨C1,hC1g,hC1,hk1,hs1⟩:=setCells_at g e (0,0) (us.drop (i * T.sz)) (b + (i + ys.length) * T.sz) w.drew cells hg (by rw [hdl]; omega)
      have hC1s:C1.size=cells.size:=by
        have:=congrArg List.length hC1
        simp only [Array.length_toList,List.length_append,List.length_take,List.length_drop,hul] at this
        omega
      obtain ⟨C2,hC2g,hC2,hk2,hs2⟩:=setCells_at g e (0,0) vs (b + i * T.sz) _ C1 hC1g (by omega)
      have hC2s:C2.size=cells.size:=by
        have:=congrArg List.length hC2
        simp only [Array.length_toList,List.length_append,List.length_take,List.length_drop] at this
        omega
      have hcut:(C2.toList.drop b).take ((xs.take i ++ ys ++ xs.drop i).length * T.sz)=us.take (i * T.sz) ++ vs ++ us.drop (i * T.sz):=by
        have a1:C1.toList.take (b + i * T.sz)=cells.toList.take (b + i * T.sz):=by
          rw [hC1,List.append_assoc,List.take_append_of_le_length (by simp; omega),List.take_take,Nat.min_eq_left (by omega)]
        have a2:(C1.toList.drop (b + i * T.sz + vs.length)).take (xs.length * T.sz - i * T.sz)=us.drop (i * T.sz):=by
          rw [hul1,show b + i * T.sz + ys.length * T.sz=b + (i + ys.length) * T.sz by omega,hC1,List.append_assoc,List.drop_append_of_le_length (by simp; omega),List.drop_of_length_le (by simp only [List.length_take,Array.length_toList]; omega),List.nil_append,List.take_append_of_le_length (by rw [hdl]; omega),
            List.take_of_length_le (by rw [hdl]; omega)]
        rw [hxl,hC2,a1,List.append_assoc,List.drop_append_of_le_length (by simp; omega),hnm]
        have l1:((cells.toList.take (b + i * T.sz)).drop b).length=i * T.sz:=by simp; omega
        have l2:(cells.toList.take (b + i * T.sz)).drop b=us.take (i * T.sz):=by
          rw [← List.take_drop,← hus,List.take_take,Nat.min_eq_left hi1]
        rw [l2,List.take_append,List.take_of_length_le (by simp; omega),List.append_assoc]
        congr 1
        rw [List.length_take,hul,Nat.min_eq_left hi1,List.take_append,List.take_of_length_le (by omega)]
        congr 1
        rw [hul1,show xs.length * T.sz + ys.length * T.sz - i * T.sz - ys.length * T.sz=xs.length * T.sz - i * T.sz by omega,← hul1]
        exact a2
      have ho:=own_row_of hf (cap:=(H []).cap) hC2g hc0 (by rw [hxl]; omega) hmx0 (by rw [hC2s]; exact hsize) hflat hcut
      rw [hxl] at ho
      have hK:Kp w (fun k=>k=g) ((w.drew.setCells g (b + (i + ys.length) * T.sz) (us.drop (i * T.sz))).setCells g (b + i * T.sz) vs):=((Kp_drew w _).trans hk1).trans hk2
      refine ⟨_,[g],rfl,ho,by simp,fun k hk=>?_,?_⟩
      · have:k=g:=by simpa using hk
        subst this
        exact ⟨.inl (by simp),Nat.lt_of_lt_of_le hgw hK.size⟩
      · exact ⟨hK.os,hK.tape,hK.output,hK.size,fun k h1 h2=>hK.block k h1 (fun h=>h2 (by subst h; simp))⟩
    · have hk:=gw g b xs.length (H []).cap i g1 b1 ys.length (H1 []).cap us vs w hi (by omega) (by omega) (by omega) hbd hul hul1 hcs hvs hre.one hre1.one
      rw [← hlen,hA,← hlen1,hA1]
      refine hk.mono ?_
      rintro e' w' ⟨rfl,rfl⟩
      obtain ⟨G,hG⟩:∃ G,G=grownCap w (xs.length + ys.length) (H []).cap e:=⟨_,rfl⟩
      have hGn:xs.length + ys.length≤G:=by rw [hG]; exact grownCap_ge w _ _ _
      have hGm:G≤maxLen:=by rw [hG]; exact grownCap_le_maxLen w _ _ e (by unfold maxLen; omega)
      rw [← hG]
      obtain ⟨R,hR⟩:∃ R:Array Value,R=(us.take (i * T.sz)).toArray ++ Builtin.zeroCells z.cells (xs.length + ys.length - i) ++ Builtin.zeroCells z.cells (G - (xs.length + ys.length)):=⟨_,rfl⟩
      rw [← hR]
      have hGs:G * T.sz=i * T.sz + ((xs.length + ys.length - i) * T.sz + (G - (xs.length + ys.length)) * T.sz):=by
        rw [← Nat.add_mul,← Nat.add_mul]; congr 1; omega
      have hRs:R.size=G * T.sz:=by
        rw [hR]
        simp only [Array.size_append,List.size_toArray,List.length_take,Builtin.zeroCells,Array.size_map,Array.size_range,hul,hz]
        omega
      have hGx:(xs.length + ys.length) * T.sz≤G * T.sz:=Nat.mul_le_mul_right _ hGn
      have hgn:(w.alloc (.cells R e)).drew.heap[w.heap.size]? = some (.cells R e (0,0)):=heap_alloc_new w _
      obtain ⟨C1,hC1g,hC1,hk1,hs1⟩:=setCells_at w.heap.size e (0,0) vs (i * T.sz) _ R hgn (by omega)
      have hC1s:C1.size=R.size:=by
        have:=congrArg List.length hC1
        simp only [Array.length_toList,List.length_append,List.length_take,List.length_drop] at this
        omega
      have hC1g':(((w.alloc (.cells R e)).drew.setCells w.heap.size (i * T.sz) vs).drew).heap[w.heap.size]? = some (.cells C1 e (0,0)):=hC1g
      obtain ⟨C2,hC2g,hC2,hk2,hs2⟩:=setCells_at w.heap.size e (0,0) (us.drop (i * T.sz)) ((i + ys.length) * T.sz) _ C1 hC1g' (by rw [hdl]; omega)
      have hC2s:C2.size=R.size:=by
        have:=congrArg List.length hC2
        simp only [Array.length_toList,List.length_append,List.length_take,List.length_drop,hul] at this
        omega
      have hcut:(C2.toList.drop 0).take ((xs.take i ++ ys ++ xs.drop i).length * T.sz)=us.take (i * T.sz) ++ vs ++ us.drop (i * T.sz):=by
        have a0:R.toList.take (i * T.sz)=us.take (i * T.sz):=by
          rw [hR]
          simp only [Array.toList_append,List.append_assoc]
          rw [List.take_append_of_le_length (by simp; omega),List.take_of_length_le (by simp; omega)]
        have a1:C1.toList.take ((i + ys.length) * T.sz)=us.take (i * T.sz) ++ vs:=by
          rw [hC1,a0,List.take_append_of_le_length (by simp; omega),List.take_of_length_le (by simp; omega)]
        rw [List.drop_zero,hxl,hC2,a1,List.take_append_of_le_length (by simp; omega),List.take_of_length_le (by simp; omega)]
      have ho:=own_row_of hf (cap:=G) hC2g (by omega) (by rw [hxl]; omega) hGm (by rw [hC2s,hRs]; omega) hflat hcut
      rw [hxl] at ho
      have hK1:Kp w (fun _=>False) (w.alloc (.cells R e)).drew:=(Kp_alloc w _ _).trans (Kp_drew _ _)
      have hK2:Kp w (fun _=>False) ((((w.alloc (.cells R e)).drew.setCells w.heap.size (i * T.sz) vs).drew).setCells w.heap.size ((i + ys.length) * T.sz) (us.drop (i * T.sz))) :=
        ((hK1.step hk1 (fun k h=>.inr (by omega))).trans (Kp_drew _ _)).step hk2 (fun k h=>.inr (by omega))
      refine ⟨_,[w.heap.size],rfl,ho,by simp,fun k hk=>?_,?_⟩
      · have:k=w.heap.size:=by simpa using hk
        subst this
        exact ⟨.inr (Nat.le_refl _),(Array.getElem?_eq_some_iff.1 hC2g).1⟩
      · exact ⟨hK2.os,hK2.tape,hK2.output,hK2.size,fun k h1 h2=>hK2.block k h1 (fun h=>h)⟩
theorem holds_ins {f:FuncId} {t e:TypeId} {ti:TI} {T:Ty} {z:Value} (hf:T.flat=true) (hti:TIok P e ti) (hty:ti.ty=some T) (ht:P.underlying t=some (.slice e)) (hby:0 < ti.bytes) (hz:z.cells.size=T.sz)
    (sh:InsShift P f T.sz) (en:InsEnd P f t) (gw:InsGrow P f T.sz ti.bytes e z) :
    Holds P f ⟨[.own (.row e T) false,.val (.int .i64) false,.own (.row e T) false],[.own (.row e T) false],false,fun _=>insF T ti.bytes⟩:=by
  rintro n w Z vs ⟨xs,i,ys,_⟩ Fs y hZ hlt hnd ha hF
  rcases vs with _ | ⟨v0,_ | ⟨v1,_ | ⟨v2,_ | ⟨v3,vs⟩⟩⟩⟩ <;> rcases Fs with _ | ⟨F0,_ | ⟨F1,_ | ⟨F2,_ | ⟨F3,Fs⟩⟩⟩⟩ <;> simp only [ArgsR,and_false] at ha
  obtain ⟨⟨H,hH,_,v0',hv0,h0⟩,⟨rfl,_,hv1⟩,⟨H1,hH1,_,v2',hv2,h1⟩,_⟩:=ha
  have hv1:[v1]=[.int .i64 i]:=hv1
  injection hv0 with hv0 _
  subst hv0
  injection hv1 with hv1 _
  injection hv2 with hv2 _
  subst hv1; subst hv2
  have hF:insF T ti.bytes (xs,i,ys,())=some y:=hF
  unfold insF at hF
  by_cases c1:0≤i
  · rw [decide_eq_true c1] at hF
    by_cases c2:i≤(List.length (α:=T.den) xs:Int)
    · rw [decide_eq_true c2] at hF
      by_cases c3:1≤List.length (α:=T.den) ys
      · rw [decide_eq_true c3] at hF
        by_cases c4:(List.length (α:=T.den) xs + List.length (α:=T.den) ys) * ti.bytes≤140737488355328
        · rw [decide_eq_true c4] at hF
          simp only [cond_true,Option.some.injEq] at hF
          subst hF
          obtain ⟨i,rfl⟩:=Int.eq_ofNat_of_zero_le c1
          have c2:i≤List.length (α:=T.den) xs:=Int.ofNat_le.1 c2
          refine (ins_core hf hti hty ht hby hz sh en gw c2 c3 c4 (H:=H 0) h0 (hH 0) (H1:=H1 0) h1 (hH1 0) (fun k hk=>hlt k (by simpa using hk)) (by simpa using hnd)).mono ?_
          rintro e' w' ⟨v',F',rfl,ho,hn1,hm,hK⟩
          refine ⟨[v'],[F'],[[],[],[]],rfl,⟨ho,trivial⟩,⟨rfl,rfl,rfl,trivial⟩,by simpa using hn1,fun k hk=>?_,?_⟩
          · have hk:k ∈ F':=by simpa using hk
            exact ⟨(hm k hk).1.imp (fun h=>by simpa using h) id,(hm k hk).2⟩
          · exact ⟨hK.os,hK.tape,hK.output,hK.size,fun k h1 h2=>hK.block k h1 (fun h=>h2 (by simpa using h))⟩
        · rw [decide_eq_false c4] at hF; cases hF
      · rw [decide_eq_false c3] at hF; cases hF
    · rw [decide_eq_false c2] at hF; cases hF
  · rw [decide_eq_false c1] at hF; cases hF
end Go.Proofs.Ythhopbicmaipgaa.Rx
namespace Go.Proofs.Ythhopbicmaipgaa.Rx
open Go Go.RowKit Go.ChangeShapes Go.WideShapes Go.Deep
set_option linter.unusedVariables false
set_option linter.unusedSimpArgs false
def WfT:(t:Ty)→t.den→Prop
  | .int k,(n:Int)=>(Lit.int k n).wf=true
  | .bool,_=>True
  | .str,(s:ByteArray)=>s.size≤9223372036854775807
  | .row _ t,xs=>xs.length≤9223372036854775807∧∀ x ∈ xs,WfT t x
  | .pair a b,x=>WfT a x.1∧WfT b x.2
def Opn {H:Type} (enc:TypeId × Value→H) (P:Program) (w:World) (tid:TypeId) (t:Ty):Prop :=
  ∀ fuel cs x,DataW.trod enc P w 0 (fun _=>true) true fuel tid cs=some x→∃ a:t.den,Cn w (fun k=>k < w.heap.size) t a cs∧WfT t a
section
variable {H:Type} {enc:TypeId × Value→H} {P:Program} {w:World} {tid e:TypeId}
theorem opn_int {k:IntKind} (ht:P.underlying tid=some (.int k)):Opn enc P w tid (.int k):=by
  intro fuel cs x h
  obtain ⟨n,rfl,_,hw⟩:=DataW.trod_int ht h
  exact ⟨n,rfl,hw⟩
theorem opn_bool (ht:P.underlying tid=some .bool):Opn enc P w tid .bool:=by
  intro fuel cs x h
  obtain ⟨n,rfl,_⟩:=DataW.trod_bool ht h
  exact ⟨n,rfl,trivial⟩
theorem opn_string (ht:P.underlying tid=some .string):Opn enc P w tid .str:=by
  intro fuel cs x h
  obtain ⟨s,rfl,_,hs⟩:=DataW.trod_string ht h
  exact ⟨s,rfl,hs⟩
theorem rl_of_at {t:Ty} {Z:Nat→Prop} {cells:List Value}:∀ (n b i0:Nat),b + n * t.sz≤cells.length→(∀ i,i < n→∃ x:t.den,Cn w Z t x ((cells.drop (b + i * t.sz)).take t.sz)∧WfT t x) →
    ∃ xs:List t.den,xs.length=n∧RL (fun _ x cs F=>Cn w Z t x cs∧F=[]) i0 xs ((cells.drop b).take (n * t.sz)) []∧∀ x ∈ xs,WfT t x
  | 0,b,i0,_,_=>⟨[],rfl,⟨by simp,rfl⟩,by simp⟩
  | n + 1,b,i0,hb,h=>by
    have hm:(n + 1) * t.sz=t.sz + n * t.sz:=by rw [Nat.add_mul,Nat.one_mul,Nat.add_comm]
    obtain ⟨x,hx,hw⟩:=h 0 (by omega)
    obtain ⟨xs,hl,hr,hws⟩:=rl_of_at (t:=t) (Z:=Z) (cells:=cells) n (b + t.sz) (i0 + 1) (by omega) (fun i hi=>by
      have:=h (i + 1) (by omega)
      rw [show b + (i + 1) * t.sz=b + t.sz + i * t.sz by rw [Nat.add_mul,Nat.one_mul]; omega] at this
      exact this)
    refine ⟨x :: xs,by simp [hl],⟨(cells.drop b).take t.sz,(cells.drop (b + t.sz)).take (n * t.sz),[],[],?_,rfl,⟨by simpa using hx,rfl⟩,hr⟩,?_⟩
    · rw [hm,List.take_add,List.drop_drop]
    · intro y hy
      rcases List.mem_cons.1 hy with rfl | hy
      · exact hw
      · exact hws y hy
theorem opn_slice {t:Ty} (ht:P.underlying tid=some (.slice e)) (hc:P.cellsOf e=t.sz) (h:Opn enc P w e t):Opn enc P w tid (.row e t):=by
  intro fuel cs x hx
  rcases open_slice ht hx with ⟨rfl,_⟩ | ⟨a,len,cap,m,n,D,Pl,rfl,hb,hl,hm,hmm,_,hi⟩
  · exact ⟨[],⟨_,rfl,CnR.nil⟩,by simp,by simp⟩
  · simp only [if_true] at hmm
    have hsz:1≤t.sz:=Ty.sz_pos t
    have hmax:cap≤9223372036854775807:=by
      have:maxLen=9223372036854775807:=rfl
      omega
    rcases Nat.eq_zero_or_pos len with h0 | h0
    · subst h0
      exact ⟨[],⟨_,rfl,some a,cap,rfl,Nat.zero_le _,by omega,.inl rfl,fun h=>by cases h⟩,by simp,by simp⟩
    · rw [hc] at hi
      have key:∀ i,i < len→∃ x:t.den,∃ c,c.length=t.sz∧Cn w (fun k=>k < w.heap.size) t x c∧WfT t x∧∀ j,j < t.sz→w.cell? ((a.add (i * t.sz)).add j)=c[j]?:=by
        intro i hil
        obtain ⟨cs',hcs,htr⟩:=hi i (by omega)
        obtain ⟨x,hK,hW⟩:=h _ _ _ htr
        obtain ⟨_,hcl,hat⟩:=World.cells?_some hcs
        exact ⟨x,cs',hcl,hK,hW,hat⟩
      obtain ⟨g,b,sp⟩:=a
      obtain ⟨x0,c0,hc0,_,_,hat0⟩:=key 0 h0
      have h1:=hat0 0 (by omega)
      rw [List.getElem?_eq_getElem (by omega)] at h1
      unfold World.cell? at h1
      have hg0:((Addr.add ⟨g,b,sp⟩ (0 * t.sz)).add 0).block=g:=by simp [Addr.add]
      rw [hg0] at h1
      cases hg:w.heap[g]? with
      | none=>simp [hg] at h1
      | some o =>
        cases o with
        | cells cells q fz =>
          have hsp:sp=none:=by
            simp only [hg] at h1
            have:((Addr.add ⟨g,b,sp⟩ (0 * t.sz)).add 0).spot=sp:=by simp [Addr.add]
            rw [this] at h1
            cases sp with
            | none=>rfl
            | some s=>simp at h1
          subst hsp
          have cellat:∀ j,w.cell? ⟨g,j,none⟩=cells[j]?:=by
            intro j
            unfold World.cell?
            simp [hg]
          have addat:∀ i j,((Addr.add ⟨g,b,none⟩ i).add j)=⟨g,b + i + j,none⟩:=by
            intro i j
            unfold Addr.add
            by_cases hi:i=0 <;> by_cases hj:j=0 <;> simp [hi,hj]
          have hlast:b + len * t.sz≤cells.size:=by
            obtain ⟨x,c,hcl,_,_,hat⟩:=key (len - 1) (by omega)
            have:=hat (t.sz - 1) (by omega)
            rw [addat,cellat,List.getElem?_eq_getElem (by omega)] at this
            have hlt:=(Array.getElem?_eq_some_iff.1 this).1
            have hm:len * t.sz=(len - 1) * t.sz + t.sz:=by
              conv=>lhs; rw [show len=(len - 1) + 1 by omega,Nat.add_mul,Nat.one_mul]
            omega
          obtain ⟨xs,hxl,hr,hws⟩:=rl_of_at (w:=w) (t:=t) (Z:=fun k=>k < w.heap.size) (cells:=cells.toList) len b 0 (by simpa using hlast) (fun i hil=>by
            obtain ⟨x,c,hcl,hK,hW,hat⟩:=key i hil
            refine ⟨x,?_,hW⟩
            have:(cells.toList.drop (b + i * t.sz)).take t.sz=c:=by
              have hm:=Nat.mul_le_mul_right t.sz (show i + 1≤len by omega)
              rw [Nat.add_mul,Nat.one_mul] at hm
              apply List.ext_getElem?
              intro j
              rcases Nat.lt_or_ge j t.sz with hj | hj
              · rw [List.getElem?_take_of_lt hj,List.getElem?_drop,Array.getElem?_toList,← hat j hj,addat,cellat]
              · rw [List.getElem?_take_eq_none hj,List.getElem?_eq_none (by omega)]
            rw [this]
            exact hK)
          refine ⟨xs,⟨_,rfl,some ⟨g,b,none⟩,cap,by rw [hxl],by rw [hxl]; omega,by omega,.inr ⟨g,b,cells,q,fz,rfl,?_,hg,by rw [hxl]; exact hlast,by rw [hxl]; exact hr⟩,fun h=>by cases h⟩,by omega,hws⟩
          exact (Array.getElem?_eq_some_iff.1 hg).1
        | _=>simp [hg] at h1
inductive OpnFs {H:Type} (enc:TypeId × Value→H) (P:Program) (w:World):List Field→Nat→Ty→Prop where
  | one (f:Field) (o:Nat) (t:Ty) (ho:f.offset=o) (hc:P.cellsOf f.type=t.sz) (h:Opn enc P w f.type t):OpnFs enc P w [f] o t
  | cons (f:Field) (fs:List Field) (o:Nat) (a b:Ty) (ho:f.offset=o) (hc:P.cellsOf f.type=a.sz) (h:Opn enc P w f.type a) (hs:OpnFs enc P w fs (o + a.sz) b):OpnFs enc P w (f :: fs) o (.pair a b)
theorem opnFs_open {fs:List Field} {o:Nat} {t:Ty} (h:OpnFs enc P w fs o t):∀ {cs:List Value} {n:Nat} {xs:List (DataW H × List MemPlace)},cs.length=o + t.sz→xs.length=fs.length →
    (∀ (i:Nat) (f:Field),fs[i]? = some f→DataW.trod enc P w 0 (fun _=>true) true n f.type ((cs.drop f.offset).take (P.cellsOf f.type))=xs[i]?)→∃ a:t.den,Cn w (fun k=>k < w.heap.size) t a (cs.drop o)∧WfT t a:=by
  induction h with
  | one f o t ho hc h =>
    intro cs n xs hl hx hf
    have h0:=hf 0 f rfl
    rw [List.getElem?_eq_getElem (by simp [hx])] at h0
    obtain ⟨a,ha,hw⟩:=h _ _ _ h0
    rw [ho,hc,List.take_of_length_le (by simp; omega)] at ha
    exact ⟨a,ha,hw⟩
  | cons f fs o a b ho hc h hs ih =>
    intro cs n xs hl hx hf
    have hl':cs.length=o + (a.sz + b.sz):=hl
    have h0:=hf 0 f rfl
    rw [List.getElem?_eq_getElem (by simp [hx])] at h0
    obtain ⟨x,hx1,hw1⟩:=h _ _ _ h0
    rw [ho,hc] at hx1
    obtain ⟨y,hy1,hw2⟩:=ih (cs:=cs) (n:=n) (xs:=xs.drop 1) (by omega) (by simp [hx]) (fun i f hi=>by
      rw [List.getElem?_drop,Nat.add_comm]
      exact hf (i + 1) f (by simpa using hi))
    exact ⟨(x,y),⟨(cs.drop o).take a.sz,cs.drop (o + a.sz),by rw [← List.drop_drop,List.take_append_drop],hx1,hy1⟩,hw1,hw2⟩
theorem opn_struct {fs:Array Field} {l:List Field} {t:Ty} (ht:P.underlying tid=some (.struct fs)) (hfs:fs.toList=l) (hc:P.cellsOf tid=t.sz) (h:OpnFs enc P w l 0 t):Opn enc P w tid t:=by
  intro fuel cs x hx
  obtain ⟨xs,n,_,_,hlen,hxs,hf⟩:=DataW.trod_struct ht hx
  have:=opnFs_open h (cs:=cs) (n:=n) (xs:=xs) (by rw [hlen,hc]; omega) (by rw [hxs,← hfs]; simp) (fun i f hi=>hf i f (by rw [← hfs] at hi; simpa using hi))
  simpa using this
variable {base:Nat} {r:Go.Reach} {v:Value} {d:DataW H} {ps:List MemPlace} {t:Ty}
theorem arg_slice (ht:P.underlying tid=some (.slice e)) (ho:Opn enc P w tid t) (hv:Value.okWide P w r base tid v) (h:DataW.Trod enc P w 0 (fun _=>true) true tid v d ps) :
    ∃ x:t.den,ArgR w (fun k=>k < w.heap.size) (.val t false) x v []∧WfT t x:=by
  obtain ⟨a,l,c,rfl⟩:=okWide_slice ht hv
  obtain ⟨fuel,hf⟩:=h
  obtain ⟨x,hx,hw⟩:=ho _ _ _ hf
  exact ⟨x,⟨rfl,rfl,hx⟩,hw⟩
theorem arg_struct {fs:Array Field} (ht:P.underlying tid=some (.struct fs)) (ho:Opn enc P w tid t) (hv:Value.okWide P w r base tid v) (h:DataW.Trod enc P w 0 (fun _=>true) true tid v d ps) :
    ∃ x:t.den,ArgR w (fun k=>k < w.heap.size) (.val t true) x v []∧WfT t x:=by
  obtain ⟨cs,rfl,_⟩:=okWide_struct ht hv
  obtain ⟨fuel,hf⟩:=h
  obtain ⟨x,hx,hw⟩:=ho _ _ _ hf
  exact ⟨x,⟨rfl,cs,rfl,hx⟩,hw⟩
theorem arg_int {k:IntKind} (ht:P.underlying tid=some (.int k)) (hv:Value.okWide P w r base tid v) (h:DataW.Trod enc P w 0 (fun _=>true) true tid v d ps) :
    ∃ x:Int,ArgR w (fun k=>k < w.heap.size) (.val (.int k) false) x v []∧(Lit.int k x).wf=true:=by
  obtain ⟨n,rfl,_,_,hw⟩:=open_int ht hv h
  exact ⟨n,⟨rfl,rfl,rfl⟩,hw⟩
theorem arg_bool (ht:P.underlying tid=some .bool) (hv:Value.okWide P w r base tid v) (h:DataW.Trod enc P w 0 (fun _=>true) true tid v d ps) :
    ∃ x:Bool,ArgR w (fun k=>k < w.heap.size) (.val .bool false) x v []:=by
  obtain ⟨n,rfl,_⟩:=open_bool ht hv h
  exact ⟨n,⟨rfl,rfl,rfl⟩⟩
theorem arg_string (ht:P.underlying tid=some .string) (ho:Opn enc P w tid .str) (hv:Value.okWide P w r base tid v) (h:DataW.Trod enc P w 0 (fun _=>true) true tid v d ps) :
    ∃ x:ByteArray,ArgR w (fun k=>k < w.heap.size) (.val .str false) x v []∧x.size≤9223372036854775807:=by
  obtain ⟨s,rfl⟩:=okWide_string ht hv
  obtain ⟨fuel,hf⟩:=h
  obtain ⟨x,hx,hw⟩:=ho _ _ _ hf
  exact ⟨x,⟨rfl,rfl,hx⟩,hw⟩
theorem call_law {f:FuncId} {ks:List PK} {st:Bool} {F:Nat→argsD ks→Option (retsD [.val .bool false] × outsD ks)} (hh:Holds P f ⟨ks,[.val .bool false],st,F⟩) {W:World} {vs:List Value} {x:argsD ks} {Fs:List (List Nat)} (hF:Fs.flatten=[])
    (ha:ArgsR W (fun k=>k < W.heap.size) ks x vs Fs) {n:Nat} {o:outsD ks} (he:F n x=some ((true,()),o)) :
    Calls P f vs.toArray W fun e W'=>e = .returned (.bool true)∧Below W.heap.size W W':=by
  refine (hh n W (fun k=>k < W.heap.size) vs x Fs _ (fun k hk=>⟨hk,by rw [hF]; simp⟩) (by rw [hF]; simp) (by rw [hF]; exact List.nodup_nil) ha he).mono ?_
  rintro e W' ⟨us,Gs,Os,rfl,hr,_,_,_,hk⟩
  cases us with
  | nil=>cases Gs <;> exact hr.elim
  | cons u us =>
  cases Gs with
  | nil=>exact hr.elim
  | cons G Gs =>
  cases us with
  | cons _ _=>cases Gs <;> exact hr.2.elim
  | nil =>
  cases Gs with
  | cons _ _=>exact hr.2.elim
  | nil =>
    obtain ⟨⟨_,_,hv⟩,_⟩:=hr
    injection hv with hv
    subst hv
    refine ⟨rfl,hk.os,hk.tape,hk.output,hk.size,fun k hlt=>hk.block k hlt (by rw [hF]; simp)⟩
end
end Go.Proofs.Ythhopbicmaipgaa.Rx
