/- Plain laws of those functions, no program in sight: the law answers true on all data. No condition. -/
import Derived.Test.YtbjgiioppmkpiaaKP0
set_option linter.unusedVariables false
set_option linter.unusedSimpArgs false
namespace Go.Proofs.Ytbjgiioppmkpiaa.Rx.S
open Go Go.Proofs.Ytbjgiioppmkpiaa.Rx Go.Proofs.Ytbjgiioppmkpiaa.Rx.Pu Go.Proofs.Ytbjgiioppmkpiaa.Rx.Fs
set_option linter.unusedVariables false
set_option linter.unusedSimpArgs false
theorem opSet_sz {B:Nat} {f:List Nd} (h:SzF B f) (i:Nat) (n:Int):SzF B (opSet f i n):=by
 by_cases hi:i < f.length
 ·refine ⟨by unfold opSet; rw [List.length_set]; exact h.len,fun a ha=>?_⟩
  rcases List.mem_or_eq_of_mem_set ha with ha | rfl
  ·exact h.nd a ha
  ·have hx:=h.nd _ (getD_mem hi d0)
   exact ⟨hx.tx,hx.nm,hx.en⟩
 ·unfold opSet
  rw [List.set_eq_of_length_le (by omega)]
  exact h
theorem setV_sz {v:Vf} (h:SzV v) (h0:0 < v.1.length) (i:Nat) (n m:Int):SzV (v.1.set 0 (opSet (v.1.getD 0 []) i n),m) :=
 ⟨by rw [List.length_set]; exact h.len,fun f hf=>by
  rcases List.mem_or_eq_of_mem_set hf with hf | rfl
  ·exact h.fs f hf
  ·exact opSet_sz (h.fs _ (memF h0)) i n⟩
theorem nilV_sz:SzV (([]:List (List Nd)),(0:Int)):=⟨by simp,fun f hf=>by cases hf⟩
theorem moR_sz {v:Vf} (h:SzV v) (c:Cr) (id:Int):SzV (moR v c id).1:=by
 unfold moR
 cases hv:vfsOk v with
 | false=>exact nilV_sz
 | true =>
 have hV:=vfsOk_V hv
 cases credOk c with
 | false=>exact nilV_sz
 | true =>
 cases hasB (v.1.getD 0 []) id with
 | false=>exact nilV_sz
 | true =>
 cases decide (c.1=0) with
 | false=>exact h
 | true =>
 cases decide (0≤v.2) with
 | true=>exact h
 | false =>
 cases decide (id=0) with
 | true=>exact h
 | false =>
 cases decide (kd ((v.1.getD 0 []).getD id.toNat d0)=2) with
 | false=>exact h
 | true =>
 cases decide (op ((v.1.getD 0 []).getD id.toNat d0)=99) with
 | true=>exact h
 | false=>exact setV_sz h (by rw [hV.len]; decide) _ _ _
theorem law8 (v:Vf) (c:Cr) (id:Int) (hw:WfV v) (hc:c.2.2.length≤9223372036854775807):p8 3000000 v c id=some ((true,()),()):=by
 obtain ⟨r,hr,hr1,hr2⟩:=p30_eq 3000000 (by omega) v hw 1048576 (by omega)
 have e:(c.1,c.2.1,c.2.2)=c:=rfl
 have ev:∀ v:Vf,(v.1,v.2)=v:=fun _=>rfl
 show st8_top 3000000 v c id=_
 simp only [st8_top,q30,ev,hr,Option.bind_some,e]
 by_cases z:r < 0
 ·simp only [z,decide_true,cond_true]
 ·obtain ⟨s,hs,hs1,hs2⟩:=p31_eq 3000000 c hc r (by omega)
  simp only [z,decide_false,cond_false,q31,hs,Option.bind_some]
  by_cases z2:s < 0
  ·simp only [z2,decide_true,cond_true]
  ·have hf:=hr2 (by omega)
   have hc0:=hs2 (by omega)
   have hR:SzV (moR v c id).1:=moR_sz hf c id
   have t1:=p32_eq 3000000 v hf (by omega)
   have t2:=p33_eq 3000000 c (by omega) (by omega)
   have t3:=p44_eq 3000000 v c id hf (by omega) (by omega) (by omega)
   have t4:=p28_eq 3000000 v c id hf (by omega) (by omega)
   have t5:=p34_refl 3000000 _ hR (by omega)
   have t6:=p34_refl 3000000 v hf (by omega)
   have t7:=p35_refl 3000000 c (by omega) (by omega)
   have t8:=p36_eq 3000000 (by omega) v hf
   have m1:=mkVS_le v.1 1 hf.fs
   have hlen:=hf.len
   obtain ⟨o,t9⟩:=p37_eq 3000000 (by omega) c (mkVS 1 v.1) (by omega) (by omega)
   have t10:=p36_eq 3000000 (by omega) _ hR
   have t11:=p38_eq 3000000 (by omega) _ hR
   have m2:=mkVS_le (moR v c id).1.1 1 hR.fs
   have z3:¬ (mkVS 1 v.1 + c.2.2.length < 0):=by omega
   have z4:¬ (mkVS 1 (moR v c id).1.1 < 0):=by omega
   simp only [z2,decide_false,cond_false,q32,t1,q33,t2,e,ev,q44,t3,q28,t4,q34,t5,t6,q35,t7,q36,t8,q37,t9,t10,q38,t11,Option.bind_some,Bool.not_true,decide_true,z3,z4]
abbrev tLV:Ty:=.pair (.row 68 tLf) i64
theorem pure8 (v:Vf) (c:Cr) (id:Int) (h:WfT tLV v) (hc:WfT tCr c) (h1:(Lit.int .i64 id).wf=true):∃ n o,q8 n (v,c,id,())=some ((true,()),o):=⟨3000000,(),law8 v c id ⟨h.1.1,fun f hf=>wfF (h.1.2 f hf)⟩ hc.2.2.1⟩
end Go.Proofs.Ytbjgiioppmkpiaa.Rx.S

