/- An evaluator over the program text, proved sound once: what a function computes on data, out of its code. No condition. -/
import Derived.Lib.SliceRun
import Derived.ChangeArms
import Derived.ChangeOld
import Derived.Deep.Slices
import Derived.WideShapes
import Derived.DataReads
import Derived.Below
import Derived.Test.YtfbdkjdockbfdaaRxK2
namespace Go.Proofs.Ytfbdkjdockbfdaa.Rx
open Go Go.RowKit
set_option linter.unusedVariables false
set_option linter.unusedSimpArgs false

section
variable {P : Program}

def keepS : Xt → St → Option St
  | .normal, S => some S
  | _, _ => none

abbrev nilOp (d s : Nat) (tid yt ty : TypeId) (pos : String) (af : Array Edge) : Oper := ⟨some d, .binOp .eql tid (.tmp s) (.const (.slice none 0 0)) yt, ty, pos, af, none⟩

theorem nilq_list {T : TB} {Γ : Gam} (hT : TBok P T) (hΓ : GamOK P Γ) {n : Nat} {o1 : Oper} {d s : Nat} {tid e yt ty : TypeId} {pos : String} {af : Array Edge} {t : Ty} {cx : Cx} (hg : o1.guard = none) (htid : P.underlying tid = some (.slice e)) {xs : List t.den}
    {S0 S1 : St} (hS1 : rgOp T Γ n [o1, nilOp d s tid yt ty pos af] o1 (fun S => some S) S0 = some S1) (hs : S1.get s = .one (.con ⟨e, t, xs⟩)) {a : Act} {w : World} (h : Rel cx S0 a w) {Q : Exit → Act → World → Prop}
    (hQ : ∀ b a' w', (b = true → xs = []) → Rel cx (S1.put (some d) (.one (.bool b))) a' w' → Q .normal a' w') :
    wpList P #[o1, nilOp d s tid yt ty pos af] Q [o1, nilOp d s tid yt ty pos af] a w := by
  have h1 := rgOp_sim (Q := Q) hT hΓ (n := n) (ops := #[o1, nilOp d s tid yt ty pos af]) (K := wpList P #[o1, nilOp d s tid yt ty pos af] Q [nilOp d s tid yt ty pos af]) (next := fun S => some S) (r := S1) ?_ h hS1
  · rw [if_pos (by simp [Region.wanted, hg])] at h1
    unfold wpList
    rw [if_pos (by simp [Region.wanted, hg])]
    exact .inl h1
  intro S a w h2 hS
  injection hS with hS
  subst hS
  have hv : ∃ A0 cap, a.tmps.getD s undef = .slice A0 xs.length cap ∧ (A0 = none → cap = 0 ∧ xs = []) := by
    obtain ⟨⟨I, FF, hH, hr⟩, _, _⟩ := id h2
    have h3 := hr s
    rw [hs] at h3
    obtain ⟨A0, cap, h4, h5, _, _, h8⟩ := h3
    refine ⟨A0, cap, h4, fun hn => ?_⟩
    have := h8 hn
    exact ⟨this, List.eq_nil_of_length_eq_zero (by have h9 : xs.length ≤ cap := h5; omega)⟩
  obtain ⟨A0, cap, hv, hn⟩ := hv
  have hrun : (execOp a.eval (nilOp d s tid yt ty pos af)).run P w = .ok (.value (.bool A0.isNone)) w := by
    have h5 := Lib.run_eql_slice_nil (P := P) w tid e A0 xs.length cap 0 0 htid
    unfold execOp
    simp only [Act.eval, hv, eqGuard, Sem.run_bind, Sem.run_pure, Result.andThen_ok, h5]
    simp [Sem.run_bind, Sem.run_pure, h5]
  have h6 : Rel cx (S.put (some d) (.one (.bool A0.isNone))) (a.put (some d) (.bool A0.isNone)) w := by
    obtain ⟨⟨I, FF, hH, hr⟩, hsz, hd⟩ := id h2
    have := rel_put (dst := some d) hsz hr (Ext.refl I (lookO S.obs)) (av := .one (.bool A0.isNone)) (v := .bool A0.isNone) rfl
    exact ⟨⟨I, FF, hH, this.2.1⟩, this.1, by rw [this.2.2]; exact hd⟩
  have h7 := hQ A0.isNone _ w (fun hb => (hn (by cases A0 with | none => rfl | some _ => cases hb)).2) h6
  unfold wpList
  rw [if_pos (by simp [Region.wanted])]
  refine .inl ?_
  unfold Oper.wp
  rw [hrun]
  exact h7

/-- a function that asks first whether the row that came in is nil, which the data alone do not tell: both ways are walked -/
theorem holds_nilq {T : TB} {Γ : Gam} (hT : TBok P T) (hΓ : GamOK P Γ) (hm : P.follows .mixedOrders = true) {an : An} {f : FuncId} {fn : Func} {r0 : Code} {i1 : Nat} {o1 : Oper} {d s : Nat} {tid e yt ty : TypeId} {pos : String} {af : Array Edge} {A B R : Code} {t : Ty} {rs : List RK} {st : Bool}
    (hf : P.funcs[f]? = some fn) (hb : fn.body = some (.seq r0 (.seq (.seq (.region i1 #[o1, nilOp d s tid yt ty pos af] false) (.cond (.tmp d) A B)) R)))
    (hg : o1.guard = none) (htid : P.underlying tid = some (.slice e)) (hln : 1 ≤ fn.ntmps)
    {F : Nat → argsD [.val (.row e t) false] → Option (retsD rs × outsD [.val (.row e t) false])}
    (S0 : Nat → List t.den → St) (hS0 : ∀ n xs, ex T Γ n an r0 keepS (initS fn.ntmps [.val (.row e t) false] (xs, ())) = some (S0 n xs))
    (S1 : Nat → List t.den → St) (hS1 : ∀ n xs, rgOp T Γ n [o1, nilOp d s tid yt ty pos af] o1 (fun S => some S) (S0 n xs) = some (S1 n xs))
    (hs : ∀ n xs, (S1 n xs).get s = .one (.con ⟨e, t, xs⟩))
    (hd : ∀ n xs b, ((S1 n xs).put (some d) (.one (.bool b))).opnd (.tmp d) = .one (.bool b))
    (hA : ∀ n y, F n ([], ()) = some y → ex T Γ n an A (seqK (ex T Γ n an R (finK T _ rs fn.results.toList)) (finK T _ rs fn.results.toList)) ((S1 n []).put (some d) (.one (.bool true))) = some y)
    (hB : ∀ n xs y, F n (xs, ()) = some y → ex T Γ n an B (seqK (ex T Γ n an R (finK T _ rs fn.results.toList)) (finK T _ rs fn.results.toList)) ((S1 n xs).put (some d) (.one (.bool false))) = some y) :
    Holds P f ⟨[.val (.row e t) false], rs, st, F⟩ := by
  refine holds_wp hT hf hb rfl (by simpa using hln) ?_
  rintro n ⟨xs, ⟨⟩⟩ y hF cx a w Q h0 hQ
  refine wp_seq (ex_sim hT hΓ hm r0 h0 (r := S0 n xs) (k := keepS) ?_ (hS0 n xs))
  intro x ee S' a' w' hx h' hk
  cases x with
  | exit i => cases hk
  | ret => cases hk
  | normal =>
    cases ee with
    | normal =>
      injection hk with hk
      subst hk
      refine wp_seq (wp_seq (wp_region_list (nilq_list hT hΓ hg htid (hS1 n xs) (hs n xs) h' ?_)))
      intro b a2 w2 hbx h2
      have hev : a2.eval (.tmp d) = .bool b := by
        obtain ⟨⟨I, FF, hH, hr⟩, _, _⟩ := id h2
        have := rel_opnd (FF := FF) hr (.tmp d)
        rw [hd] at this
        exact this
      have hX : XQ P cx (seqK (ex T Γ n an R (finK T [.val (.row e t) false] rs fn.results.toList)) (finK T [.val (.row e t) false] rs fn.results.toList)) y (Exit.then (R.wp P Q) Q) := by
        intro x e S' a' w' hx h' hk
        cases x with
        | normal =>
          cases e with
          | normal => exact ex_sim hT hΓ hm R h' hQ hk
          | _ => exact hx.elim
        | exit i =>
          cases e with
          | exit j => exact hQ _ _ _ _ _ hx h' hk
          | _ => exact hx.elim
        | ret =>
          cases e with
          | ret => exact hQ _ _ _ _ _ hx h' hk
          | _ => exact hx.elim
      cases b with
      | true =>
        have := hbx rfl
        subst this
        exact wp_cond_true hev (ex_sim hT hΓ hm A h2 hX (hA n y hF))
      | false => exact wp_cond_false hev (ex_sim hT hΓ hm B h2 hX (hB n xs y hF))
    | _ => exact hx.elim
end
end Go.Proofs.Ytfbdkjdockbfdaa.Rx
namespace Go.Proofs.Ytfbdkjdockbfdaa.Rx
open Go Go.RowKit Go.ChangeShapes Go.WideShapes Go.Deep
set_option linter.unusedVariables false
set_option linter.unusedSimpArgs false

/-! ## 30. What comes into a law, as data -/
def WfT : (t : Ty) → t.den → Prop
  | .int k, (n : Int) => (Lit.int k n).wf = true
  | .bool, _ => True
  | .str, (s : ByteArray) => s.size ≤ 9223372036854775807
  | .row _ t, xs => xs.length ≤ 9223372036854775807 ∧ ∀ x ∈ xs, WfT t x
  | .pair a b, x => WfT a x.1 ∧ WfT b x.2

def Opn {H : Type} (enc : TypeId × Value → H) (P : Program) (w : World) (tid : TypeId) (t : Ty) : Prop :=
  ∀ fuel cs x, DataW.trod enc P w 0 (fun _ => true) true fuel tid cs = some x → ∃ a : t.den, Cn w (fun k => k < w.heap.size) t a cs ∧ WfT t a

section
variable {H : Type} {enc : TypeId × Value → H} {P : Program} {w : World} {tid e : TypeId}

theorem opn_int {k : IntKind} (ht : P.underlying tid = some (.int k)) : Opn enc P w tid (.int k) := by
  intro fuel cs x h
  obtain ⟨n, rfl, _, hw⟩ := DataW.trod_int ht h
  exact ⟨n, rfl, hw⟩
theorem opn_bool (ht : P.underlying tid = some .bool) : Opn enc P w tid .bool := by
  intro fuel cs x h
  obtain ⟨n, rfl, _⟩ := DataW.trod_bool ht h
  exact ⟨n, rfl, trivial⟩
theorem opn_string (ht : P.underlying tid = some .string) : Opn enc P w tid .str := by
  intro fuel cs x h
  obtain ⟨s, rfl, _, hs⟩ := DataW.trod_string ht h
  exact ⟨s, rfl, hs⟩

theorem rl_of_at {t : Ty} {Z : Nat → Prop} {cells : List Value} : ∀ (n b i0 : Nat), b + n * t.sz ≤ cells.length → (∀ i, i < n → ∃ x : t.den, Cn w Z t x ((cells.drop (b + i * t.sz)).take t.sz) ∧ WfT t x) →
    ∃ xs : List t.den, xs.length = n ∧ RL (fun _ x cs F => Cn w Z t x cs ∧ F = []) i0 xs ((cells.drop b).take (n * t.sz)) [] ∧ ∀ x ∈ xs, WfT t x
  | 0, b, i0, _, _ => ⟨[], rfl, ⟨by simp, rfl⟩, by simp⟩
  | n + 1, b, i0, hb, h => by
    have hm : (n + 1) * t.sz = t.sz + n * t.sz := by rw [Nat.add_mul, Nat.one_mul, Nat.add_comm]
    obtain ⟨x, hx, hw⟩ := h 0 (by omega)
    obtain ⟨xs, hl, hr, hws⟩ := rl_of_at (t := t) (Z := Z) (cells := cells) n (b + t.sz) (i0 + 1) (by omega) (fun i hi => by
      have := h (i + 1) (by omega)
      rw [show b + (i + 1) * t.sz = b + t.sz + i * t.sz by rw [Nat.add_mul, Nat.one_mul]; omega] at this
      exact this)
    refine ⟨x :: xs, by simp [hl], ⟨(cells.drop b).take t.sz, (cells.drop (b + t.sz)).take (n * t.sz), [], [], ?_, rfl, ⟨by simpa using hx, rfl⟩, hr⟩, ?_⟩
    · rw [hm, List.take_add, List.drop_drop]
    · intro y hy
      rcases List.mem_cons.1 hy with rfl | hy
      · exact hw
      · exact hws y hy

theorem opn_slice {t : Ty} (ht : P.underlying tid = some (.slice e)) (hc : P.cellsOf e = t.sz) (h : Opn enc P w e t) : Opn enc P w tid (.row e t) := by
  intro fuel cs x hx
  rcases open_slice ht hx with ⟨rfl, _⟩ | ⟨a, len, cap, m, n, D, Pl, rfl, hb, hl, hm, hmm, _, hi⟩
  · exact ⟨[], ⟨_, rfl, CnR.nil⟩, by simp, by simp⟩
  · simp only [if_true] at hmm
    have hsz : 1 ≤ t.sz := Ty.sz_pos t
    have hmax : cap ≤ 9223372036854775807 := by
      have : maxLen = 9223372036854775807 := rfl
      omega
    rcases Nat.eq_zero_or_pos len with h0 | h0
    · subst h0
      exact ⟨[], ⟨_, rfl, some a, cap, rfl, Nat.zero_le _, by omega, .inl rfl, fun h => by cases h⟩, by simp, by simp⟩
    · rw [hc] at hi
      have key : ∀ i, i < len → ∃ x : t.den, ∃ c, c.length = t.sz ∧ Cn w (fun k => k < w.heap.size) t x c ∧ WfT t x ∧ ∀ j, j < t.sz → w.cell? ((a.add (i * t.sz)).add j) = c[j]? := by
        intro i hil
        obtain ⟨cs', hcs, htr⟩ := hi i (by omega)
        obtain ⟨x, hK, hW⟩ := h _ _ _ htr
        obtain ⟨_, hcl, hat⟩ := World.cells?_some hcs
        exact ⟨x, cs', hcl, hK, hW, hat⟩
      obtain ⟨g, b, sp⟩ := a
      obtain ⟨x0, c0, hc0, _, _, hat0⟩ := key 0 h0
      have h1 := hat0 0 (by omega)
      rw [List.getElem?_eq_getElem (by omega)] at h1
      unfold World.cell? at h1
      have hg0 : ((Addr.add ⟨g, b, sp⟩ (0 * t.sz)).add 0).block = g := by simp [Addr.add]
      rw [hg0] at h1
      cases hg : w.heap[g]? with
      | none => simp [hg] at h1
      | some o =>
        cases o with
        | cells cells q fz =>
          have hsp : sp = none := by
            simp only [hg] at h1
            have : ((Addr.add ⟨g, b, sp⟩ (0 * t.sz)).add 0).spot = sp := by simp [Addr.add]
            rw [this] at h1
            cases sp with
            | none => rfl
            | some s => simp at h1
          subst hsp
          have cellat : ∀ j, w.cell? ⟨g, j, none⟩ = cells[j]? := by
            intro j
            unfold World.cell?
            simp [hg]
          have addat : ∀ i j, ((Addr.add ⟨g, b, none⟩ i).add j) = ⟨g, b + i + j, none⟩ := by
            intro i j
            unfold Addr.add
            by_cases hi : i = 0 <;> by_cases hj : j = 0 <;> simp [hi, hj]
          have hlast : b + len * t.sz ≤ cells.size := by
            obtain ⟨x, c, hcl, _, _, hat⟩ := key (len - 1) (by omega)
            have := hat (t.sz - 1) (by omega)
            rw [addat, cellat, List.getElem?_eq_getElem (by omega)] at this
            have hlt := (Array.getElem?_eq_some_iff.1 this).1
            have hm : len * t.sz = (len - 1) * t.sz + t.sz := by
              conv => lhs; rw [show len = (len - 1) + 1 by omega, Nat.add_mul, Nat.one_mul]
            omega
          obtain ⟨xs, hxl, hr, hws⟩ := rl_of_at (w := w) (t := t) (Z := fun k => k < w.heap.size) (cells := cells.toList) len b 0 (by simpa using hlast) (fun i hil => by
            obtain ⟨x, c, hcl, hK, hW, hat⟩ := key i hil
            refine ⟨x, ?_, hW⟩
            have : (cells.toList.drop (b + i * t.sz)).take t.sz = c := by
              have hm := Nat.mul_le_mul_right t.sz (show i + 1 ≤ len by omega)
              rw [Nat.add_mul, Nat.one_mul] at hm
              apply List.ext_getElem?
              intro j
              rcases Nat.lt_or_ge j t.sz with hj | hj
              · rw [List.getElem?_take_of_lt hj, List.getElem?_drop, Array.getElem?_toList, ← hat j hj, addat, cellat]
              · rw [List.getElem?_take_eq_none hj, List.getElem?_eq_none (by omega)]
            rw [this]
            exact hK)
          refine ⟨xs, ⟨_, rfl, some ⟨g, b, none⟩, cap, by rw [hxl], by rw [hxl]; omega, by omega, .inr ⟨g, b, cells, q, fz, rfl, ?_, hg, by rw [hxl]; exact hlast, by rw [hxl]; exact hr⟩, fun h => by cases h⟩, by omega, hws⟩
          exact (Array.getElem?_eq_some_iff.1 hg).1
        | _ => simp [hg] at h1

/-- the fields of a struct, each at its place -/
inductive OpnFs {H : Type} (enc : TypeId × Value → H) (P : Program) (w : World) : List Field → Nat → Ty → Prop where
  | one (f : Field) (o : Nat) (t : Ty) (ho : f.offset = o) (hc : P.cellsOf f.type = t.sz) (h : Opn enc P w f.type t) : OpnFs enc P w [f] o t
  | cons (f : Field) (fs : List Field) (o : Nat) (a b : Ty) (ho : f.offset = o) (hc : P.cellsOf f.type = a.sz) (h : Opn enc P w f.type a) (hs : OpnFs enc P w fs (o + a.sz) b) : OpnFs enc P w (f :: fs) o (.pair a b)

theorem opnFs_open {fs : List Field} {o : Nat} {t : Ty} (h : OpnFs enc P w fs o t) : ∀ {cs : List Value} {n : Nat} {xs : List (DataW H × List MemPlace)}, cs.length = o + t.sz → xs.length = fs.length →
    (∀ (i : Nat) (f : Field), fs[i]? = some f → DataW.trod enc P w 0 (fun _ => true) true n f.type ((cs.drop f.offset).take (P.cellsOf f.type)) = xs[i]?) → ∃ a : t.den, Cn w (fun k => k < w.heap.size) t a (cs.drop o) ∧ WfT t a := by
  induction h with
  | one f o t ho hc h =>
    intro cs n xs hl hx hf
    have h0 := hf 0 f rfl
    rw [List.getElem?_eq_getElem (by simp [hx])] at h0
    obtain ⟨a, ha, hw⟩ := h _ _ _ h0
    rw [ho, hc, List.take_of_length_le (by simp; omega)] at ha
    exact ⟨a, ha, hw⟩
  | cons f fs o a b ho hc h hs ih =>
    intro cs n xs hl hx hf
    have hl' : cs.length = o + (a.sz + b.sz) := hl
    have h0 := hf 0 f rfl
    rw [List.getElem?_eq_getElem (by simp [hx])] at h0
    obtain ⟨x, hx1, hw1⟩ := h _ _ _ h0
    rw [ho, hc] at hx1
    obtain ⟨y, hy1, hw2⟩ := ih (cs := cs) (n := n) (xs := xs.drop 1) (by omega) (by simp [hx]) (fun i f hi => by
      rw [List.getElem?_drop, Nat.add_comm]
      exact hf (i + 1) f (by simpa using hi))
    exact ⟨(x, y), ⟨(cs.drop o).take a.sz, cs.drop (o + a.sz), by rw [← List.drop_drop, List.take_append_drop], hx1, hy1⟩, hw1, hw2⟩

theorem opn_struct {fs : Array Field} {l : List Field} {t : Ty} (ht : P.underlying tid = some (.struct fs)) (hfs : fs.toList = l) (hc : P.cellsOf tid = t.sz) (h : OpnFs enc P w l 0 t) : Opn enc P w tid t := by
  intro fuel cs x hx
  obtain ⟨xs, n, _, _, hlen, hxs, hf⟩ := DataW.trod_struct ht hx
  have := opnFs_open h (cs := cs) (n := n) (xs := xs) (by rw [hlen, hc]; omega) (by rw [hxs, ← hfs]; simp) (fun i f hi => hf i f (by rw [← hfs] at hi; simpa using hi))
  simpa using this

/-! an argument -/
variable {base : Nat} {r : Go.Reach} {v : Value} {d : DataW H} {ps : List MemPlace} {t : Ty}

theorem arg_slice (ht : P.underlying tid = some (.slice e)) (ho : Opn enc P w tid t) (hv : Value.okWide P w r base tid v) (h : DataW.Trod enc P w 0 (fun _ => true) true tid v d ps) :
    ∃ x : t.den, ArgR w (fun k => k < w.heap.size) (.val t false) x v [] ∧ WfT t x := by
  obtain ⟨a, l, c, rfl⟩ := okWide_slice ht hv
  obtain ⟨fuel, hf⟩ := h
  obtain ⟨x, hx, hw⟩ := ho _ _ _ hf
  exact ⟨x, ⟨rfl, rfl, hx⟩, hw⟩
theorem arg_struct {fs : Array Field} (ht : P.underlying tid = some (.struct fs)) (ho : Opn enc P w tid t) (hv : Value.okWide P w r base tid v) (h : DataW.Trod enc P w 0 (fun _ => true) true tid v d ps) :
    ∃ x : t.den, ArgR w (fun k => k < w.heap.size) (.val t true) x v [] ∧ WfT t x := by
  obtain ⟨cs, rfl, _⟩ := okWide_struct ht hv
  obtain ⟨fuel, hf⟩ := h
  obtain ⟨x, hx, hw⟩ := ho _ _ _ hf
  exact ⟨x, ⟨rfl, cs, rfl, hx⟩, hw⟩
theorem arg_int {k : IntKind} (ht : P.underlying tid = some (.int k)) (hv : Value.okWide P w r base tid v) (h : DataW.Trod enc P w 0 (fun _ => true) true tid v d ps) :
    ∃ x : Int, ArgR w (fun k => k < w.heap.size) (.val (.int k) false) x v [] ∧ (Lit.int k x).wf = true := by
  obtain ⟨n, rfl, _, _, hw⟩ := open_int ht hv h
  exact ⟨n, ⟨rfl, rfl, rfl⟩, hw⟩
theorem arg_bool (ht : P.underlying tid = some .bool) (hv : Value.okWide P w r base tid v) (h : DataW.Trod enc P w 0 (fun _ => true) true tid v d ps) :
    ∃ x : Bool, ArgR w (fun k => k < w.heap.size) (.val .bool false) x v [] := by
  obtain ⟨n, rfl, _⟩ := open_bool ht hv h
  exact ⟨n, ⟨rfl, rfl, rfl⟩⟩
theorem arg_string (ht : P.underlying tid = some .string) (ho : Opn enc P w tid .str) (hv : Value.okWide P w r base tid v) (h : DataW.Trod enc P w 0 (fun _ => true) true tid v d ps) :
    ∃ x : ByteArray, ArgR w (fun k => k < w.heap.size) (.val .str false) x v [] ∧ x.size ≤ 9223372036854775807 := by
  obtain ⟨s, rfl⟩ := okWide_string ht hv
  obtain ⟨fuel, hf⟩ := h
  obtain ⟨x, hx, hw⟩ := ho _ _ _ hf
  exact ⟨x, ⟨rfl, rfl, hx⟩, hw⟩

/-- the call of a law, whose arguments are read alone -/
theorem call_law {f : FuncId} {ks : List PK} {st : Bool} {F : Nat → argsD ks → Option (retsD [.val .bool false] × outsD ks)} (hh : Holds P f ⟨ks, [.val .bool false], st, F⟩) {W : World} {vs : List Value} {x : argsD ks} {Fs : List (List Nat)} (hF : Fs.flatten = [])
    (ha : ArgsR W (fun k => k < W.heap.size) ks x vs Fs) {n : Nat} {o : outsD ks} (he : F n x = some ((true, ()), o)) :
    Calls P f vs.toArray W fun e W' => e = .returned (.bool true) ∧ Below W.heap.size W W' := by
  refine (hh n W (fun k => k < W.heap.size) vs x Fs _ (fun k hk => ⟨hk, by rw [hF]; simp⟩) (by rw [hF]; simp) (by rw [hF]; exact List.nodup_nil) ha he).mono ?_
  rintro e W' ⟨us, Gs, Os, rfl, hr, _, _, _, hk⟩
  cases us with
  | nil => cases Gs <;> exact hr.elim
  | cons u us =>
  cases Gs with
  | nil => exact hr.elim
  | cons G Gs =>
  cases us with
  | cons _ _ => cases Gs <;> exact hr.2.elim
  | nil =>
  cases Gs with
  | cons _ _ => exact hr.2.elim
  | nil =>
    obtain ⟨⟨_, _, hv⟩, _⟩ := hr
    injection hv with hv
    subst hv
    refine ⟨rfl, hk.os, hk.tape, hk.output, hk.size, fun k hlt => hk.block k hlt (by rw [hF]; simp)⟩
end
end Go.Proofs.Ytfbdkjdockbfdaa.Rx
