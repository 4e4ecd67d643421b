/- What the functions of this seat compute, each as a plain function on lists and numbers, with the proof that a call answers so. No condition. -/
import Derived.Test.YthhopbicmaipgaaBF0
namespace Go.Proofs.Ythhopbicmaipgaa.Rx.S
open Go Go.RowKit Go.Proofs
set_option maxRecDepth 100000
noncomputable def c25 : Code := (Try.f25.body.getD .skip)
def an25 : An := ⟨fun _ => ⟨[], []⟩, fun _ _ => none⟩
abbrev ps25 : List PK := [.val tFs true, .val tFs true]
abbrev rs25 : List RK := [.val .bool false]
abbrev R25 := retsD rs25 × outsD ps25
noncomputable def G25 : Gam := fun f => match f with | 76 => some Sm76 | _ => none
theorem h0_25 (hg : GamOK Try.prog G25) : Holds Try.prog 25 ⟨ps25, rs25, false, runF TT G25 an25 Try.f25 c25 ps25 rs25⟩ := holds_of tt_ok hg mixed Try.func25 (by kernel_rfl) (by rfl) (by decide +kernel)
noncomputable def at25 : Nat → Pt → List Nat → St → Option R25 := atF TT G25 an25 Try.f25 c25 _ _
noncomputable def st25_top (n : Nat) (a : List (Int × Int × Int × Int × Int × Int × Bool × ByteArray × List (ByteArray × Int))) (b : List (Int × Int × Int × Int × Int × Int × Bool × ByteArray × List (ByteArray × Int))) : Option R25 :=
  (q76 n (a, b, ())).bind fun r0 => cond (!r0.fst.fst) (some ((false, ()), ())) (some ((true, ()), ()))
theorem e25_top (n : Nat) (a : List (Int × Int × Int × Int × Int × Int × Bool × ByteArray × List (ByteArray × Int))) (b : List (Int × Int × Int × Int × Int × Int × Bool × ByteArray × List (ByteArray × Int))) : runF TT G25 an25 Try.f25 c25 ps25 rs25 n (a, b, ()) = st25_top n a b := by kernel_rfl
noncomputable def p25 (n : Nat) (a : List (Int × Int × Int × Int × Int × Int × Bool × ByteArray × List (ByteArray × Int))) (b : List (Int × Int × Int × Int × Int × Int × Bool × ByteArray × List (ByteArray × Int))) : Option R25 := st25_top n a b
theorem F25_eq (n : Nat) (a : List (Int × Int × Int × Int × Int × Int × Bool × ByteArray × List (ByteArray × Int))) (b : List (Int × Int × Int × Int × Int × Int × Bool × ByteArray × List (ByteArray × Int))) : runF TT G25 an25 Try.f25 c25 ps25 rs25 n (a, b, ()) = p25 n a b := by
  rw [e25_top]
  skip
  try rfl
noncomputable def q25 (n : Nat) (x : argsD ps25) : Option R25 := p25 n x.1 x.2.1
noncomputable def Sm25 : Sm := ⟨ps25, rs25, false, q25⟩
theorem holds25 (hg : GamOK Try.prog G25) : Holds Try.prog 25 Sm25 := by
  have := h0_25 hg
  have e : (runF TT G25 an25 Try.f25 c25 ps25 rs25) = q25 := by
    funext n x
    exact F25_eq n x.1 x.2.1
  rw [e] at this
  exact this
theorem gam25 : GamOK Try.prog G25 := by
  intro f s h
  unfold G25 at h
  split at h
  · injection h with h; subst h; exact ⟨⟨Try.f76, c76, Try.func76, by kernel_rfl, by decide +kernel⟩, hh76⟩
  · cases h
theorem hh25 : Holds Try.prog 25 Sm25 := holds25 gam25
end Go.Proofs.Ythhopbicmaipgaa.Rx.S
namespace Go.Proofs.Ythhopbicmaipgaa.Rx.S
open Go Go.RowKit Go.Proofs
set_option maxRecDepth 100000
noncomputable def c109 : Code := (Try.f109.body.getD .skip)
def an109 : An := ⟨fun r => match r with | 4 => ⟨[0, 3], []⟩ | _ => ⟨[], []⟩, fun _ _ => none⟩
abbrev ps109 : List PK := [.val i64 false]
abbrev rs109 : List RK := [.val .str false]
abbrev R109 := retsD rs109 × outsD ps109
noncomputable def G109 : Gam := fun _ => none
theorem h0_109 (hg : GamOK Try.prog G109) : Holds Try.prog 109 ⟨ps109, rs109, false, runF TT G109 an109 Try.f109 c109 ps109 rs109⟩ := holds_of tt_ok hg mixed Try.func109 (by kernel_rfl) (by rfl) (by decide +kernel)
noncomputable def at109 : Nat → Pt → List Nat → St → Option R109 := atF TT G109 an109 Try.f109 c109 _ _
def sh109_L4 (x0 : Int) (x1 : ByteArray) : St := (St.mk ((AV.one (SV.int (Go.IntKind.i64) x0)) :: (AV.undef :: (AV.undef :: ((AV.one (SV.str x1)) :: (AV.undef :: (AV.undef :: (AV.undef :: (AV.undef :: (AV.undef :: (AV.undef :: (AV.undef :: (AV.undef :: (AV.undef :: (AV.undef :: (AV.undef :: (AV.undef :: (AV.undef :: (AV.undef :: (AV.undef :: (AV.undef :: [])))))))))))))))))))) [])
noncomputable def st109_top (n : Nat) (lL4 : Int → ByteArray → Option R109) (a : Int) : Option R109 :=
  cond (decide (a ≤ (0 : Int))) (some ((ByteArray.mk #[(109 : UInt8), (48 : UInt8)], ()), ())) (lL4 (a) (ByteArray.mk #[]))
noncomputable def st109_L4 (n : Nat) (lL4 : Int → ByteArray → Option R109) (x0 : Int) (x1 : ByteArray) : Option R109 :=
  cond (decide ((0 : Int) < x0)) (cond (decide ((List.foldl (fun r n => r.push (UInt8.ofNat n.toNat)) ByteArray.empty [Go.IntKind.u8.wrap (Go.IntKind.i64.wrap ((48 : Int) + x0.tmod (10 : Int)))]).size + x1.size ≤ (9223372036854775807 : Nat))) (lL4 (Go.IntKind.i64.wrap (x0.tdiv (10 : Int))) (List.foldl (fun r n => r.push (UInt8.ofNat n.toNat)) ByteArray.empty [Go.IntKind.u8.wrap (Go.IntKind.i64.wrap ((48 : Int) + x0.tmod (10 : Int)))] ++ x1)) (none)) (cond (decide ((ByteArray.mk #[(109 : UInt8)]).size + x1.size ≤ (9223372036854775807 : Nat))) (some ((ByteArray.mk #[(109 : UInt8)] ++ x1, ()), ())) (none))
theorem e109_top (n : Nat) (a : Int) : runF TT G109 an109 Try.f109 c109 ps109 rs109 n (a, ()) = st109_top n (fun x0 x1 => at109 n (.head 4) [n] (sh109_L4 x0 x1)) a := by kernel_rfl
theorem e109_L4_0 (n : Nat) (x0 : Int) (x1 : ByteArray) : at109 n (.head 4) [0] (sh109_L4 x0 x1) = none := by kernel_rfl
theorem e109_L4 (n : Nat) (m4 : Nat) (x0 : Int) (x1 : ByteArray) : at109 n (.head 4) [m4 + 1] (sh109_L4 x0 x1) = st109_L4 n (fun x0 x1 => at109 n (.head 4) [m4] (sh109_L4 x0 x1)) x0 x1 := by kernel_rfl
noncomputable def p109_L4 (n : Nat) : Nat → Int → ByteArray → Option R109
  | 0, _, _ => none
  | m + 1, x0, x1 => st109_L4 n (p109_L4 n m) x0 x1
noncomputable def p109 (n : Nat) (a : Int) : Option R109 := st109_top n (p109_L4 n n) a
theorem t109_L4 (n : Nat) : ∀ (m4 : Nat) (x0 : Int) (x1 : ByteArray), at109 n (.head 4) [m4] (sh109_L4 x0 x1) = p109_L4 n m4 x0 x1 := by
  intro m
  induction m with
  | zero => intros; rw [e109_L4_0]; rfl
  | succ m ih =>
    intros
    rw [e109_L4]
    try simp only [ih]
    rfl
theorem F109_eq (n : Nat) (a : Int) : runF TT G109 an109 Try.f109 c109 ps109 rs109 n (a, ()) = p109 n a := by
  rw [e109_top]
  simp only [t109_L4]
  try rfl
noncomputable def q109 (n : Nat) (x : argsD ps109) : Option R109 := p109 n x.1
noncomputable def Sm109 : Sm := ⟨ps109, rs109, false, q109⟩
theorem holds109 (hg : GamOK Try.prog G109) : Holds Try.prog 109 Sm109 := by
  have := h0_109 hg
  have e : (runF TT G109 an109 Try.f109 c109 ps109 rs109) = q109 := by
    funext n x
    exact F109_eq n x.1
  rw [e] at this
  exact this
theorem gam109 : GamOK Try.prog G109 := fun _ _ h => by cases h
theorem hh109 : Holds Try.prog 109 Sm109 := holds109 gam109
end Go.Proofs.Ythhopbicmaipgaa.Rx.S
namespace Go.Proofs.Ythhopbicmaipgaa.Rx.S
open Go Go.RowKit Go.Proofs
set_option maxRecDepth 100000
noncomputable def c110 : Code := (Try.f110.body.getD .skip)
def an110 : An := ⟨fun r => match r with | 2 => ⟨[0, 1, 5], []⟩ | _ => ⟨[], []⟩, fun _ _ => none⟩
abbrev ps110 : List PK := [.io (.row 95 tEn) false, .val i64 false]
abbrev rs110 : List RK := [.val i64 false]
abbrev R110 := retsD rs110 × outsD ps110
noncomputable def G110 : Gam := fun f => match f with | 109 => some Sm109 | _ => none
theorem h0_110 (hg : GamOK Try.prog G110) : Holds Try.prog 110 ⟨ps110, rs110, false, runF TT G110 an110 Try.f110 c110 ps110 rs110⟩ := holds_of tt_ok hg mixed Try.func110 (by kernel_rfl) (by rfl) (by decide +kernel)
noncomputable def at110 : Nat → Pt → List Nat → St → Option R110 := atF TT G110 an110 Try.f110 c110 _ _
def sh110_L2 (x0 : Int) (x1 : Int) (x2 : List (ByteArray × Int)) : St := (St.mk ((AV.par 0 false ((SV.ref 1000000 0 [] Option.none) :: [])) :: ((AV.one (SV.int (Go.IntKind.i64) x0)) :: (AV.undef :: (AV.undef :: (AV.undef :: ((AV.one (SV.int (Go.IntKind.i64) x1)) :: (AV.undef :: (AV.undef :: (AV.undef :: (AV.undef :: (AV.undef :: (AV.undef :: (AV.undef :: (AV.undef :: (AV.undef :: (AV.undef :: (AV.undef :: (AV.undef :: (AV.undef :: (AV.undef :: (AV.undef :: (AV.undef :: (AV.undef :: (AV.undef :: (AV.undef :: (AV.undef :: (AV.undef :: (AV.undef :: [])))))))))))))))))))))))))))) ((1000000, (Ent.row (⟨95, Ty.str.pair (Ty.int Go.IntKind.i64), x2⟩ : Rw) 0 Option.none)) :: []))
noncomputable def st110_top (n : Nat) (lL2 : Int → Int → (List (ByteArray × Int)) → Option R110) (a : List (ByteArray × Int)) (b : Int) : Option R110 :=
  lL2 (b) ((0 : Int)) (a)
noncomputable def st110_L2 (n : Nat) (lL2 : Int → Int → (List (ByteArray × Int)) → Option R110) (x0 : Int) (x1 : Int) (x2 : List (ByteArray × Int)) : Option R110 :=
  cond (decide (x1 < (↑x2.length : Int))) ((q109 n (x0, ())).bind fun r1 => cond (decide ((0 : Int) ≤ x1)) (cond (decide (x1 < (↑x2.length : Int))) (cond (decide ((0 : Int) ≤ x1)) (cond (decide (x1 < (↑(x2.set x1.toNat (r1.fst.fst, (x2.getD x1.toNat (ByteArray.empty, (0 : Int))).snd)).length : Int))) (lL2 (Go.IntKind.i64.wrap (Go.IntKind.i64.wrap (x0 + (1 : Int)) + (1 : Int))) (Go.IntKind.i64.wrap (x1 + (1 : Int))) ((x2.set x1.toNat (r1.fst.fst, (x2.getD x1.toNat (ByteArray.empty, (0 : Int))).snd)).set x1.toNat (((x2.set x1.toNat (r1.fst.fst, (x2.getD x1.toNat (ByteArray.empty, (0 : Int))).snd)).getD x1.toNat (ByteArray.empty, (0 : Int))).fst, Go.IntKind.i64.wrap (x0 + (1 : Int))))) (none)) (none)) (none)) (none)) (some ((x0, ()), (x2, ())))
theorem e110_top (n : Nat) (a : List (ByteArray × Int)) (b : Int) : runF TT G110 an110 Try.f110 c110 ps110 rs110 n (a, b, ()) = st110_top n (fun x0 x1 x2 => at110 n (.head 2) [n] (sh110_L2 x0 x1 x2)) a b := by kernel_rfl
theorem e110_L2_0 (n : Nat) (x0 : Int) (x1 : Int) (x2 : List (ByteArray × Int)) : at110 n (.head 2) [0] (sh110_L2 x0 x1 x2) = none := by kernel_rfl
theorem e110_L2 (n : Nat) (m2 : Nat) (x0 : Int) (x1 : Int) (x2 : List (ByteArray × Int)) : at110 n (.head 2) [m2 + 1] (sh110_L2 x0 x1 x2) = st110_L2 n (fun x0 x1 x2 => at110 n (.head 2) [m2] (sh110_L2 x0 x1 x2)) x0 x1 x2 := by kernel_rfl
noncomputable def p110_L2 (n : Nat) : Nat → Int → Int → (List (ByteArray × Int)) → Option R110
  | 0, _, _, _ => none
  | m + 1, x0, x1, x2 => st110_L2 n (p110_L2 n m) x0 x1 x2
noncomputable def p110 (n : Nat) (a : List (ByteArray × Int)) (b : Int) : Option R110 := st110_top n (p110_L2 n n) a b
theorem t110_L2 (n : Nat) : ∀ (m2 : Nat) (x0 : Int) (x1 : Int) (x2 : List (ByteArray × Int)), at110 n (.head 2) [m2] (sh110_L2 x0 x1 x2) = p110_L2 n m2 x0 x1 x2 := by
  intro m
  induction m with
  | zero => intros; rw [e110_L2_0]; rfl
  | succ m ih =>
    intros
    rw [e110_L2]
    try simp only [ih]
    rfl
theorem F110_eq (n : Nat) (a : List (ByteArray × Int)) (b : Int) : runF TT G110 an110 Try.f110 c110 ps110 rs110 n (a, b, ()) = p110 n a b := by
  rw [e110_top]
  simp only [t110_L2]
  try rfl
noncomputable def q110 (n : Nat) (x : argsD ps110) : Option R110 := p110 n x.1 x.2.1
noncomputable def Sm110 : Sm := ⟨ps110, rs110, false, q110⟩
theorem holds110 (hg : GamOK Try.prog G110) : Holds Try.prog 110 Sm110 := by
  have := h0_110 hg
  have e : (runF TT G110 an110 Try.f110 c110 ps110 rs110) = q110 := by
    funext n x
    exact F110_eq n x.1 x.2.1
  rw [e] at this
  exact this
theorem gam110 : GamOK Try.prog G110 := by
  intro f s h
  unfold G110 at h
  split at h
  · injection h with h; subst h; exact ⟨⟨Try.f109, c109, Try.func109, by kernel_rfl, by decide +kernel⟩, hh109⟩
  · cases h
theorem hh110 : Holds Try.prog 110 Sm110 := holds110 gam110
end Go.Proofs.Ythhopbicmaipgaa.Rx.S
namespace Go.Proofs.Ythhopbicmaipgaa.Rx.S
open Go Go.RowKit Go.Proofs
set_option maxRecDepth 100000
noncomputable def c78 : Code := (Try.f78.body.getD .skip)
def an78 : An := ⟨fun r => match r with | 2 => ⟨[0, 1, 5], []⟩ | _ => ⟨[], []⟩, fun r i => match r, i with | 6, 0 => some ⟨[0, 1, 5], []⟩ | 8, 0 => some ⟨[0, 1, 5], []⟩ | 10, 0 => some ⟨[0, 1, 5], []⟩ | 12, 0 => some ⟨[0, 1, 5], []⟩ | 14, 0 => some ⟨[0, 1, 5], []⟩ | 16, 0 => some ⟨[0, 1, 5], []⟩ | 18, 0 => some ⟨[0, 1, 5], []⟩ | 20, 0 => some ⟨[0, 1, 5], []⟩ | _, _ => none⟩
abbrev ps78 : List PK := [.io tFs false, .val i64 false]
abbrev rs78 : List RK := [.val i64 false]
abbrev R78 := retsD rs78 × outsD ps78
noncomputable def G78 : Gam := fun f => match f with | 109 => some Sm109 | 110 => some Sm110 | _ => none
theorem ateq78 {β : Type} (t : Nat) (f : St → Option β) (S : St) : at_ t f S = f S := rfl
theorem h0_78 (hg : GamOK Try.prog G78) : Holds Try.prog 78 ⟨ps78, rs78, false, runF TT G78 an78 Try.f78 c78 ps78 rs78⟩ := holds_of tt_ok hg mixed Try.func78 (by kernel_rfl) (by rfl) (by decide +kernel)
noncomputable def at78 : Nat → Pt → List Nat → St → Option R78 := atF TT G78 an78 Try.f78 c78 _ _
def sh78_C20_0 (x0 : Int) (x1 : Int) (x2 : List (Int × Int × Int × Int × Int × Int × Bool × ByteArray × List (ByteArray × Int))) : St := (St.mk ((AV.par 0 false ((SV.ref 1000000 0 [] Option.none) :: [])) :: ((AV.one (SV.int (Go.IntKind.i64) x0)) :: (AV.undef :: (AV.undef :: (AV.undef :: ((AV.one (SV.int (Go.IntKind.i64) x1)) :: (AV.undef :: (AV.undef :: (AV.undef :: (AV.undef :: (AV.undef :: (AV.undef :: (AV.undef :: (AV.undef :: (AV.undef :: (AV.undef :: (AV.undef :: (AV.undef :: (AV.undef :: (AV.undef :: (AV.undef :: (AV.undef :: (AV.undef :: (AV.undef :: (AV.undef :: (AV.undef :: (AV.undef :: (AV.undef :: (AV.undef :: (AV.undef :: (AV.undef :: (AV.undef :: (AV.undef :: (AV.undef :: (AV.undef :: (AV.undef :: (AV.undef :: (AV.undef :: (AV.undef :: (AV.undef :: (AV.undef :: (AV.undef :: (AV.undef :: (AV.undef :: (AV.undef :: (AV.undef :: (AV.undef :: (AV.undef :: (AV.undef :: (AV.undef :: (AV.undef :: (AV.undef :: (AV.undef :: (AV.undef :: (AV.undef :: (AV.undef :: (AV.undef :: (AV.undef :: (AV.undef :: (AV.undef :: (AV.undef :: (AV.undef :: (AV.undef :: (AV.undef :: (AV.undef :: (AV.undef :: (AV.undef :: (AV.undef :: (AV.undef :: (AV.undef :: (AV.undef :: (AV.undef :: (AV.undef :: (AV.undef :: (AV.undef :: (AV.undef :: (AV.undef :: (AV.undef :: (AV.undef :: []))))))))))))))))))))))))))))))))))))))))))))))))))))))))))))))))))))))))))))))) ((1000000, (Ent.row (⟨39, (Ty.int Go.IntKind.i64).pair ((Ty.int Go.IntKind.i64).pair ((Ty.int Go.IntKind.i64).pair ((Ty.int Go.IntKind.i64).pair ((Ty.int Go.IntKind.i64).pair ((Ty.int Go.IntKind.i64).pair (Ty.bool.pair (Ty.str.pair (Ty.row (nat_lit 95) (Ty.str.pair (Ty.int Go.IntKind.i64)))))))))), x2⟩ : Rw) 0 Option.none)) :: []))
def sh78_C18_0 (x0 : Int) (x1 : Int) (x2 : List (Int × Int × Int × Int × Int × Int × Bool × ByteArray × List (ByteArray × Int))) : St := (St.mk ((AV.par 0 false ((SV.ref 1000000 0 [] Option.none) :: [])) :: ((AV.one (SV.int (Go.IntKind.i64) x0)) :: (AV.undef :: (AV.undef :: (AV.undef :: ((AV.one (SV.int (Go.IntKind.i64) x1)) :: (AV.undef :: (AV.undef :: (AV.undef :: (AV.undef :: (AV.undef :: (AV.undef :: (AV.undef :: (AV.undef :: (AV.undef :: (AV.undef :: (AV.undef :: (AV.undef :: (AV.undef :: (AV.undef :: (AV.undef :: (AV.undef :: (AV.undef :: (AV.undef :: (AV.undef :: (AV.undef :: (AV.undef :: (AV.undef :: (AV.undef :: (AV.undef :: (AV.undef :: (AV.undef :: (AV.undef :: (AV.undef :: (AV.undef :: (AV.undef :: (AV.undef :: (AV.undef :: (AV.undef :: (AV.undef :: (AV.undef :: (AV.undef :: (AV.undef :: (AV.undef :: (AV.undef :: (AV.undef :: (AV.undef :: (AV.undef :: (AV.undef :: (AV.undef :: (AV.undef :: (AV.undef :: (AV.undef :: (AV.undef :: (AV.undef :: (AV.undef :: (AV.undef :: (AV.undef :: (AV.undef :: (AV.undef :: (AV.undef :: (AV.undef :: (AV.undef :: (AV.undef :: (AV.undef :: (AV.undef :: (AV.undef :: (AV.undef :: (AV.undef :: (AV.undef :: (AV.undef :: (AV.undef :: (AV.undef :: (AV.undef :: (AV.undef :: (AV.undef :: (AV.undef :: (AV.undef :: (AV.undef :: []))))))))))))))))))))))))))))))))))))))))))))))))))))))))))))))))))))))))))))))) ((1000000, (Ent.row (⟨39, (Ty.int Go.IntKind.i64).pair ((Ty.int Go.IntKind.i64).pair ((Ty.int Go.IntKind.i64).pair ((Ty.int Go.IntKind.i64).pair ((Ty.int Go.IntKind.i64).pair ((Ty.int Go.IntKind.i64).pair (Ty.bool.pair (Ty.str.pair (Ty.row (nat_lit 95) (Ty.str.pair (Ty.int Go.IntKind.i64)))))))))), x2⟩ : Rw) 0 Option.none)) :: []))
def sh78_C16_0 (x0 : Int) (x1 : Int) (x2 : List (Int × Int × Int × Int × Int × Int × Bool × ByteArray × List (ByteArray × Int))) : St := (St.mk ((AV.par 0 false ((SV.ref 1000000 0 [] Option.none) :: [])) :: ((AV.one (SV.int (Go.IntKind.i64) x0)) :: (AV.undef :: (AV.undef :: (AV.undef :: ((AV.one (SV.int (Go.IntKind.i64) x1)) :: (AV.undef :: (AV.undef :: (AV.undef :: (AV.undef :: (AV.undef :: (AV.undef :: (AV.undef :: (AV.undef :: (AV.undef :: (AV.undef :: (AV.undef :: (AV.undef :: (AV.undef :: (AV.undef :: (AV.undef :: (AV.undef :: (AV.undef :: (AV.undef :: (AV.undef :: (AV.undef :: (AV.undef :: (AV.undef :: (AV.undef :: (AV.undef :: (AV.undef :: (AV.undef :: (AV.undef :: (AV.undef :: (AV.undef :: (AV.undef :: (AV.undef :: (AV.undef :: (AV.undef :: (AV.undef :: (AV.undef :: (AV.undef :: (AV.undef :: (AV.undef :: (AV.undef :: (AV.undef :: (AV.undef :: (AV.undef :: (AV.undef :: (AV.undef :: (AV.undef :: (AV.undef :: (AV.undef :: (AV.undef :: (AV.undef :: (AV.undef :: (AV.undef :: (AV.undef :: (AV.undef :: (AV.undef :: (AV.undef :: (AV.undef :: (AV.undef :: (AV.undef :: (AV.undef :: (AV.undef :: (AV.undef :: (AV.undef :: (AV.undef :: (AV.undef :: (AV.undef :: (AV.undef :: (AV.undef :: (AV.undef :: (AV.undef :: (AV.undef :: (AV.undef :: (AV.undef :: (AV.undef :: []))))))))))))))))))))))))))))))))))))))))))))))))))))))))))))))))))))))))))))))) ((1000000, (Ent.row (⟨39, (Ty.int Go.IntKind.i64).pair ((Ty.int Go.IntKind.i64).pair ((Ty.int Go.IntKind.i64).pair ((Ty.int Go.IntKind.i64).pair ((Ty.int Go.IntKind.i64).pair ((Ty.int Go.IntKind.i64).pair (Ty.bool.pair (Ty.str.pair (Ty.row (nat_lit 95) (Ty.str.pair (Ty.int Go.IntKind.i64)))))))))), x2⟩ : Rw) 0 Option.none)) :: []))
def sh78_C14_0 (x0 : Int) (x1 : Int) (x2 : List (Int × Int × Int × Int × Int × Int × Bool × ByteArray × List (ByteArray × Int))) : St := (St.mk ((AV.par 0 false ((SV.ref 1000000 0 [] Option.none) :: [])) :: ((AV.one (SV.int (Go.IntKind.i64) x0)) :: (AV.undef :: (AV.undef :: (AV.undef :: ((AV.one (SV.int (Go.IntKind.i64) x1)) :: (AV.undef :: (AV.undef :: (AV.undef :: (AV.undef :: (AV.undef :: (AV.undef :: (AV.undef :: (AV.undef :: (AV.undef :: (AV.undef :: (AV.undef :: (AV.undef :: (AV.undef :: (AV.undef :: (AV.undef :: (AV.undef :: (AV.undef :: (AV.undef :: (AV.undef :: (AV.undef :: (AV.undef :: (AV.undef :: (AV.undef :: (AV.undef :: (AV.undef :: (AV.undef :: (AV.undef :: (AV.undef :: (AV.undef :: (AV.undef :: (AV.undef :: (AV.undef :: (AV.undef :: (AV.undef :: (AV.undef :: (AV.undef :: (AV.undef :: (AV.undef :: (AV.undef :: (AV.undef :: (AV.undef :: (AV.undef :: (AV.undef :: (AV.undef :: (AV.undef :: (AV.undef :: (AV.undef :: (AV.undef :: (AV.undef :: (AV.undef :: (AV.undef :: (AV.undef :: (AV.undef :: (AV.undef :: (AV.undef :: (AV.undef :: (AV.undef :: (AV.undef :: (AV.undef :: (AV.undef :: (AV.undef :: (AV.undef :: (AV.undef :: (AV.undef :: (AV.undef :: (AV.undef :: (AV.undef :: (AV.undef :: (AV.undef :: (AV.undef :: (AV.undef :: (AV.undef :: (AV.undef :: []))))))))))))))))))))))))))))))))))))))))))))))))))))))))))))))))))))))))))))))) ((1000000, (Ent.row (⟨39, (Ty.int Go.IntKind.i64).pair ((Ty.int Go.IntKind.i64).pair ((Ty.int Go.IntKind.i64).pair ((Ty.int Go.IntKind.i64).pair ((Ty.int Go.IntKind.i64).pair ((Ty.int Go.IntKind.i64).pair (Ty.bool.pair (Ty.str.pair (Ty.row (nat_lit 95) (Ty.str.pair (Ty.int Go.IntKind.i64)))))))))), x2⟩ : Rw) 0 Option.none)) :: []))
def sh78_C12_0 (x0 : Int) (x1 : Int) (x2 : List (Int × Int × Int × Int × Int × Int × Bool × ByteArray × List (ByteArray × Int))) : St := (St.mk ((AV.par 0 false ((SV.ref 1000000 0 [] Option.none) :: [])) :: ((AV.one (SV.int (Go.IntKind.i64) x0)) :: (AV.undef :: (AV.undef :: (AV.undef :: ((AV.one (SV.int (Go.IntKind.i64) x1)) :: (AV.undef :: (AV.undef :: (AV.undef :: (AV.undef :: (AV.undef :: (AV.undef :: (AV.undef :: (AV.undef :: (AV.undef :: (AV.undef :: (AV.undef :: (AV.undef :: (AV.undef :: (AV.undef :: (AV.undef :: (AV.undef :: (AV.undef :: (AV.undef :: (AV.undef :: (AV.undef :: (AV.undef :: (AV.undef :: (AV.undef :: (AV.undef :: (AV.undef :: (AV.undef :: (AV.undef :: (AV.undef :: (AV.undef :: (AV.undef :: (AV.undef :: (AV.undef :: (AV.undef :: (AV.undef :: (AV.undef :: (AV.undef :: (AV.undef :: (AV.undef :: (AV.undef :: (AV.undef :: (AV.undef :: (AV.undef :: (AV.undef :: (AV.undef :: (AV.undef :: (AV.undef :: (AV.undef :: (AV.undef :: (AV.undef :: (AV.undef :: (AV.undef :: (AV.undef :: (AV.undef :: (AV.undef :: (AV.undef :: (AV.undef :: (AV.undef :: (AV.undef :: (AV.undef :: (AV.undef :: (AV.undef :: (AV.undef :: (AV.undef :: (AV.undef :: (AV.undef :: (AV.undef :: (AV.undef :: (AV.undef :: (AV.undef :: (AV.undef :: (AV.undef :: (AV.undef :: (AV.undef :: []))))))))))))))))))))))))))))))))))))))))))))))))))))))))))))))))))))))))))))))) ((1000000, (Ent.row (⟨39, (Ty.int Go.IntKind.i64).pair ((Ty.int Go.IntKind.i64).pair ((Ty.int Go.IntKind.i64).pair ((Ty.int Go.IntKind.i64).pair ((Ty.int Go.IntKind.i64).pair ((Ty.int Go.IntKind.i64).pair (Ty.bool.pair (Ty.str.pair (Ty.row (nat_lit 95) (Ty.str.pair (Ty.int Go.IntKind.i64)))))))))), x2⟩ : Rw) 0 Option.none)) :: []))
def sh78_C10_0 (x0 : Int) (x1 : Int) (x2 : List (Int × Int × Int × Int × Int × Int × Bool × ByteArray × List (ByteArray × Int))) : St := (St.mk ((AV.par 0 false ((SV.ref 1000000 0 [] Option.none) :: [])) :: ((AV.one (SV.int (Go.IntKind.i64) x0)) :: (AV.undef :: (AV.undef :: (AV.undef :: ((AV.one (SV.int (Go.IntKind.i64) x1)) :: (AV.undef :: (AV.undef :: (AV.undef :: (AV.undef :: (AV.undef :: (AV.undef :: (AV.undef :: (AV.undef :: (AV.undef :: (AV.undef :: (AV.undef :: (AV.undef :: (AV.undef :: (AV.undef :: (AV.undef :: (AV.undef :: (AV.undef :: (AV.undef :: (AV.undef :: (AV.undef :: (AV.undef :: (AV.undef :: (AV.undef :: (AV.undef :: (AV.undef :: (AV.undef :: (AV.undef :: (AV.undef :: (AV.undef :: (AV.undef :: (AV.undef :: (AV.undef :: (AV.undef :: (AV.undef :: (AV.undef :: (AV.undef :: (AV.undef :: (AV.undef :: (AV.undef :: (AV.undef :: (AV.undef :: (AV.undef :: (AV.undef :: (AV.undef :: (AV.undef :: (AV.undef :: (AV.undef :: (AV.undef :: (AV.undef :: (AV.undef :: (AV.undef :: (AV.undef :: (AV.undef :: (AV.undef :: (AV.undef :: (AV.undef :: (AV.undef :: (AV.undef :: (AV.undef :: (AV.undef :: (AV.undef :: (AV.undef :: (AV.undef :: (AV.undef :: (AV.undef :: (AV.undef :: (AV.undef :: (AV.undef :: (AV.undef :: (AV.undef :: (AV.undef :: (AV.undef :: (AV.undef :: []))))))))))))))))))))))))))))))))))))))))))))))))))))))))))))))))))))))))))))))) ((1000000, (Ent.row (⟨39, (Ty.int Go.IntKind.i64).pair ((Ty.int Go.IntKind.i64).pair ((Ty.int Go.IntKind.i64).pair ((Ty.int Go.IntKind.i64).pair ((Ty.int Go.IntKind.i64).pair ((Ty.int Go.IntKind.i64).pair (Ty.bool.pair (Ty.str.pair (Ty.row (nat_lit 95) (Ty.str.pair (Ty.int Go.IntKind.i64)))))))))), x2⟩ : Rw) 0 Option.none)) :: []))
def sh78_C8_0 (x0 : Int) (x1 : Int) (x2 : List (Int × Int × Int × Int × Int × Int × Bool × ByteArray × List (ByteArray × Int))) : St := (St.mk ((AV.par 0 false ((SV.ref 1000000 0 [] Option.none) :: [])) :: ((AV.one (SV.int (Go.IntKind.i64) x0)) :: (AV.undef :: (AV.undef :: (AV.undef :: ((AV.one (SV.int (Go.IntKind.i64) x1)) :: (AV.undef :: (AV.undef :: (AV.undef :: (AV.undef :: (AV.undef :: (AV.undef :: (AV.undef :: (AV.undef :: (AV.undef :: (AV.undef :: (AV.undef :: (AV.undef :: (AV.undef :: (AV.undef :: (AV.undef :: (AV.undef :: (AV.undef :: (AV.undef :: (AV.undef :: (AV.undef :: (AV.undef :: (AV.undef :: (AV.undef :: (AV.undef :: (AV.undef :: (AV.undef :: (AV.undef :: (AV.undef :: (AV.undef :: (AV.undef :: (AV.undef :: (AV.undef :: (AV.undef :: (AV.undef :: (AV.undef :: (AV.undef :: (AV.undef :: (AV.undef :: (AV.undef :: (AV.undef :: (AV.undef :: (AV.undef :: (AV.undef :: (AV.undef :: (AV.undef :: (AV.undef :: (AV.undef :: (AV.undef :: (AV.undef :: (AV.undef :: (AV.undef :: (AV.undef :: (AV.undef :: (AV.undef :: (AV.undef :: (AV.undef :: (AV.undef :: (AV.undef :: (AV.undef :: (AV.undef :: (AV.undef :: (AV.undef :: (AV.undef :: (AV.undef :: (AV.undef :: (AV.undef :: (AV.undef :: (AV.undef :: (AV.undef :: (AV.undef :: (AV.undef :: (AV.undef :: (AV.undef :: []))))))))))))))))))))))))))))))))))))))))))))))))))))))))))))))))))))))))))))))) ((1000000, (Ent.row (⟨39, (Ty.int Go.IntKind.i64).pair ((Ty.int Go.IntKind.i64).pair ((Ty.int Go.IntKind.i64).pair ((Ty.int Go.IntKind.i64).pair ((Ty.int Go.IntKind.i64).pair ((Ty.int Go.IntKind.i64).pair (Ty.bool.pair (Ty.str.pair (Ty.row (nat_lit 95) (Ty.str.pair (Ty.int Go.IntKind.i64)))))))))), x2⟩ : Rw) 0 Option.none)) :: []))
def sh78_C6_0 (x0 : Int) (x1 : Int) (x2 : List (Int × Int × Int × Int × Int × Int × Bool × ByteArray × List (ByteArray × Int))) : St := (St.mk ((AV.par 0 false ((SV.ref 1000000 0 [] Option.none) :: [])) :: ((AV.one (SV.int (Go.IntKind.i64) x0)) :: (AV.undef :: (AV.undef :: (AV.undef :: ((AV.one (SV.int (Go.IntKind.i64) x1)) :: (AV.undef :: (AV.undef :: (AV.undef :: (AV.undef :: (AV.undef :: (AV.undef :: (AV.undef :: (AV.undef :: (AV.undef :: (AV.undef :: (AV.undef :: (AV.undef :: (AV.undef :: (AV.undef :: (AV.undef :: (AV.undef :: (AV.undef :: (AV.undef :: (AV.undef :: (AV.undef :: (AV.undef :: (AV.undef :: (AV.undef :: (AV.undef :: (AV.undef :: (AV.undef :: (AV.undef :: (AV.undef :: (AV.undef :: (AV.undef :: (AV.undef :: (AV.undef :: (AV.undef :: (AV.undef :: (AV.undef :: (AV.undef :: (AV.undef :: (AV.undef :: (AV.undef :: (AV.undef :: (AV.undef :: (AV.undef :: (AV.undef :: (AV.undef :: (AV.undef :: (AV.undef :: (AV.undef :: (AV.undef :: (AV.undef :: (AV.undef :: (AV.undef :: (AV.undef :: (AV.undef :: (AV.undef :: (AV.undef :: (AV.undef :: (AV.undef :: (AV.undef :: (AV.undef :: (AV.undef :: (AV.undef :: (AV.undef :: (AV.undef :: (AV.undef :: (AV.undef :: (AV.undef :: (AV.undef :: (AV.undef :: (AV.undef :: (AV.undef :: (AV.undef :: (AV.undef :: (AV.undef :: []))))))))))))))))))))))))))))))))))))))))))))))))))))))))))))))))))))))))))))))) ((1000000, (Ent.row (⟨39, (Ty.int Go.IntKind.i64).pair ((Ty.int Go.IntKind.i64).pair ((Ty.int Go.IntKind.i64).pair ((Ty.int Go.IntKind.i64).pair ((Ty.int Go.IntKind.i64).pair ((Ty.int Go.IntKind.i64).pair (Ty.bool.pair (Ty.str.pair (Ty.row (nat_lit 95) (Ty.str.pair (Ty.int Go.IntKind.i64)))))))))), x2⟩ : Rw) 0 Option.none)) :: []))
def sh78_L2 (x0 : Int) (x1 : Int) (x2 : List (Int × Int × Int × Int × Int × Int × Bool × ByteArray × List (ByteArray × Int))) : St := (St.mk ((AV.par 0 false ((SV.ref 1000000 0 [] Option.none) :: [])) :: ((AV.one (SV.int (Go.IntKind.i64) x0)) :: (AV.undef :: (AV.undef :: (AV.undef :: ((AV.one (SV.int (Go.IntKind.i64) x1)) :: (AV.undef :: (AV.undef :: (AV.undef :: (AV.undef :: (AV.undef :: (AV.undef :: (AV.undef :: (AV.undef :: (AV.undef :: (AV.undef :: (AV.undef :: (AV.undef :: (AV.undef :: (AV.undef :: (AV.undef :: (AV.undef :: (AV.undef :: (AV.undef :: (AV.undef :: (AV.undef :: (AV.undef :: (AV.undef :: (AV.undef :: (AV.undef :: (AV.undef :: (AV.undef :: (AV.undef :: (AV.undef :: (AV.undef :: (AV.undef :: (AV.undef :: (AV.undef :: (AV.undef :: (AV.undef :: (AV.undef :: (AV.undef :: (AV.undef :: (AV.undef :: (AV.undef :: (AV.undef :: (AV.undef :: (AV.undef :: (AV.undef :: (AV.undef :: (AV.undef :: (AV.undef :: (AV.undef :: (AV.undef :: (AV.undef :: (AV.undef :: (AV.undef :: (AV.undef :: (AV.undef :: (AV.undef :: (AV.undef :: (AV.undef :: (AV.undef :: (AV.undef :: (AV.undef :: (AV.undef :: (AV.undef :: (AV.undef :: (AV.undef :: (AV.undef :: (AV.undef :: (AV.undef :: (AV.undef :: (AV.undef :: (AV.undef :: (AV.undef :: (AV.undef :: (AV.undef :: (AV.undef :: []))))))))))))))))))))))))))))))))))))))))))))))))))))))))))))))))))))))))))))))) ((1000000, (Ent.row (⟨39, (Ty.int Go.IntKind.i64).pair ((Ty.int Go.IntKind.i64).pair ((Ty.int Go.IntKind.i64).pair ((Ty.int Go.IntKind.i64).pair ((Ty.int Go.IntKind.i64).pair ((Ty.int Go.IntKind.i64).pair (Ty.bool.pair (Ty.str.pair (Ty.row (nat_lit 95) (Ty.str.pair (Ty.int Go.IntKind.i64)))))))))), x2⟩ : Rw) 0 Option.none)) :: []))
noncomputable def st78_top (n : Nat) (lL2 : Int → Int → (List (Int × Int × Int × Int × Int × Int × Bool × ByteArray × List (ByteArray × Int))) → Option R78) (a : List (Int × Int × Int × Int × Int × Int × Bool × ByteArray × List (ByteArray × Int))) (b : Int) : Option R78 :=
  lL2 (b) ((0 : Int)) (a)
noncomputable def st78_C20_0 (n : Nat) (lL2 : Int → Int → (List (Int × Int × Int × Int × Int × Int × Bool × ByteArray × List (ByteArray × Int))) → Option R78) (x0 : Int) (x1 : Int) (x2 : List (Int × Int × Int × Int × Int × Int × Bool × ByteArray × List (ByteArray × Int))) : Option R78 :=
  cond (decide ((0 : Int) ≤ x1)) (cond (decide (x1 < (↑x2.length : Int))) ((q110 n ((x2.getD x1.toNat ((0 : Int), (0 : Int), (0 : Int), (0 : Int), (0 : Int), (0 : Int), false, ByteArray.empty, [])).snd.snd.snd.snd.snd.snd.snd.snd, x0, ())).bind fun r10 => lL2 (r10.fst.fst) (Go.IntKind.i64.wrap (x1 + (1 : Int))) (x2.set x1.toNat ((x2.getD x1.toNat ((0 : Int), (0 : Int), (0 : Int), (0 : Int), (0 : Int), (0 : Int), false, ByteArray.empty, [])).fst, (x2.getD x1.toNat ((0 : Int), (0 : Int), (0 : Int), (0 : Int), (0 : Int), (0 : Int), false, ByteArray.empty, [])).snd.fst, (x2.getD x1.toNat ((0 : Int), (0 : Int), (0 : Int), (0 : Int), (0 : Int), (0 : Int), false, ByteArray.empty, [])).snd.snd.fst, (x2.getD x1.toNat ((0 : Int), (0 : Int), (0 : Int), (0 : Int), (0 : Int), (0 : Int), false, ByteArray.empty, [])).snd.snd.snd.fst, (x2.getD x1.toNat ((0 : Int), (0 : Int), (0 : Int), (0 : Int), (0 : Int), (0 : Int), false, ByteArray.empty, [])).snd.snd.snd.snd.fst, (x2.getD x1.toNat ((0 : Int), (0 : Int), (0 : Int), (0 : Int), (0 : Int), (0 : Int), false, ByteArray.empty, [])).snd.snd.snd.snd.snd.fst, (x2.getD x1.toNat ((0 : Int), (0 : Int), (0 : Int), (0 : Int), (0 : Int), (0 : Int), false, ByteArray.empty, [])).snd.snd.snd.snd.snd.snd.fst, (x2.getD x1.toNat ((0 : Int), (0 : Int), (0 : Int), (0 : Int), (0 : Int), (0 : Int), false, ByteArray.empty, [])).snd.snd.snd.snd.snd.snd.snd.fst, r10.snd.fst))) (none)) (none)
noncomputable def st78_C18_0 (n : Nat) (lC20_0 : Int → Int → (List (Int × Int × Int × Int × Int × Int × Bool × ByteArray × List (ByteArray × Int))) → Option R78) (x0 : Int) (x1 : Int) (x2 : List (Int × Int × Int × Int × Int × Int × Bool × ByteArray × List (ByteArray × Int))) : Option R78 :=
  (q109 n (x0, ())).bind fun r8 => cond (decide ((0 : Int) ≤ x1)) (cond (decide (x1 < (↑x2.length : Int))) (lC20_0 (Go.IntKind.i64.wrap (x0 + (1 : Int))) (x1) (x2.set x1.toNat ((x2.getD x1.toNat ((0 : Int), (0 : Int), (0 : Int), (0 : Int), (0 : Int), (0 : Int), false, ByteArray.empty, [])).fst, (x2.getD x1.toNat ((0 : Int), (0 : Int), (0 : Int), (0 : Int), (0 : Int), (0 : Int), false, ByteArray.empty, [])).snd.fst, (x2.getD x1.toNat ((0 : Int), (0 : Int), (0 : Int), (0 : Int), (0 : Int), (0 : Int), false, ByteArray.empty, [])).snd.snd.fst, (x2.getD x1.toNat ((0 : Int), (0 : Int), (0 : Int), (0 : Int), (0 : Int), (0 : Int), false, ByteArray.empty, [])).snd.snd.snd.fst, (x2.getD x1.toNat ((0 : Int), (0 : Int), (0 : Int), (0 : Int), (0 : Int), (0 : Int), false, ByteArray.empty, [])).snd.snd.snd.snd.fst, (x2.getD x1.toNat ((0 : Int), (0 : Int), (0 : Int), (0 : Int), (0 : Int), (0 : Int), false, ByteArray.empty, [])).snd.snd.snd.snd.snd.fst, (x2.getD x1.toNat ((0 : Int), (0 : Int), (0 : Int), (0 : Int), (0 : Int), (0 : Int), false, ByteArray.empty, [])).snd.snd.snd.snd.snd.snd.fst, r8.fst.fst, (x2.getD x1.toNat ((0 : Int), (0 : Int), (0 : Int), (0 : Int), (0 : Int), (0 : Int), false, ByteArray.empty, [])).snd.snd.snd.snd.snd.snd.snd.snd))) (none)) (none)
noncomputable def st78_C16_0 (n : Nat) (lC18_0 : Int → Int → (List (Int × Int × Int × Int × Int × Int × Bool × ByteArray × List (ByteArray × Int))) → Option R78) (x0 : Int) (x1 : Int) (x2 : List (Int × Int × Int × Int × Int × Int × Bool × ByteArray × List (ByteArray × Int))) : Option R78 :=
  cond (decide ((0 : Int) ≤ x1)) (cond (decide (x1 < (↑x2.length : Int))) (lC18_0 (Go.IntKind.i64.wrap (x0 + (1 : Int))) (x1) (x2.set x1.toNat ((x2.getD x1.toNat ((0 : Int), (0 : Int), (0 : Int), (0 : Int), (0 : Int), (0 : Int), false, ByteArray.empty, [])).fst, (x2.getD x1.toNat ((0 : Int), (0 : Int), (0 : Int), (0 : Int), (0 : Int), (0 : Int), false, ByteArray.empty, [])).snd.fst, (x2.getD x1.toNat ((0 : Int), (0 : Int), (0 : Int), (0 : Int), (0 : Int), (0 : Int), false, ByteArray.empty, [])).snd.snd.fst, (x2.getD x1.toNat ((0 : Int), (0 : Int), (0 : Int), (0 : Int), (0 : Int), (0 : Int), false, ByteArray.empty, [])).snd.snd.snd.fst, (x2.getD x1.toNat ((0 : Int), (0 : Int), (0 : Int), (0 : Int), (0 : Int), (0 : Int), false, ByteArray.empty, [])).snd.snd.snd.snd.fst, (x2.getD x1.toNat ((0 : Int), (0 : Int), (0 : Int), (0 : Int), (0 : Int), (0 : Int), false, ByteArray.empty, [])).snd.snd.snd.snd.snd.fst, decide (x0.tmod (3 : Int) = (0 : Int)), (x2.getD x1.toNat ((0 : Int), (0 : Int), (0 : Int), (0 : Int), (0 : Int), (0 : Int), false, ByteArray.empty, [])).snd.snd.snd.snd.snd.snd.snd))) (none)) (none)
noncomputable def st78_C14_0 (n : Nat) (lC16_0 : Int → Int → (List (Int × Int × Int × Int × Int × Int × Bool × ByteArray × List (ByteArray × Int))) → Option R78) (x0 : Int) (x1 : Int) (x2 : List (Int × Int × Int × Int × Int × Int × Bool × ByteArray × List (ByteArray × Int))) : Option R78 :=
  cond (decide ((0 : Int) ≤ x1)) (cond (decide (x1 < (↑x2.length : Int))) (lC16_0 (Go.IntKind.i64.wrap (x0 + (1 : Int))) (x1) (x2.set x1.toNat ((x2.getD x1.toNat ((0 : Int), (0 : Int), (0 : Int), (0 : Int), (0 : Int), (0 : Int), false, ByteArray.empty, [])).fst, (x2.getD x1.toNat ((0 : Int), (0 : Int), (0 : Int), (0 : Int), (0 : Int), (0 : Int), false, ByteArray.empty, [])).snd.fst, (x2.getD x1.toNat ((0 : Int), (0 : Int), (0 : Int), (0 : Int), (0 : Int), (0 : Int), false, ByteArray.empty, [])).snd.snd.fst, (x2.getD x1.toNat ((0 : Int), (0 : Int), (0 : Int), (0 : Int), (0 : Int), (0 : Int), false, ByteArray.empty, [])).snd.snd.snd.fst, (x2.getD x1.toNat ((0 : Int), (0 : Int), (0 : Int), (0 : Int), (0 : Int), (0 : Int), false, ByteArray.empty, [])).snd.snd.snd.snd.fst, x0, (x2.getD x1.toNat ((0 : Int), (0 : Int), (0 : Int), (0 : Int), (0 : Int), (0 : Int), false, ByteArray.empty, [])).snd.snd.snd.snd.snd.snd))) (none)) (none)
noncomputable def st78_C12_0 (n : Nat) (lC14_0 : Int → Int → (List (Int × Int × Int × Int × Int × Int × Bool × ByteArray × List (ByteArray × Int))) → Option R78) (x0 : Int) (x1 : Int) (x2 : List (Int × Int × Int × Int × Int × Int × Bool × ByteArray × List (ByteArray × Int))) : Option R78 :=
  cond (decide ((0 : Int) ≤ x1)) (cond (decide (x1 < (↑x2.length : Int))) (lC14_0 (Go.IntKind.i64.wrap (x0 + (1 : Int))) (x1) (x2.set x1.toNat ((x2.getD x1.toNat ((0 : Int), (0 : Int), (0 : Int), (0 : Int), (0 : Int), (0 : Int), false, ByteArray.empty, [])).fst, (x2.getD x1.toNat ((0 : Int), (0 : Int), (0 : Int), (0 : Int), (0 : Int), (0 : Int), false, ByteArray.empty, [])).snd.fst, (x2.getD x1.toNat ((0 : Int), (0 : Int), (0 : Int), (0 : Int), (0 : Int), (0 : Int), false, ByteArray.empty, [])).snd.snd.fst, (x2.getD x1.toNat ((0 : Int), (0 : Int), (0 : Int), (0 : Int), (0 : Int), (0 : Int), false, ByteArray.empty, [])).snd.snd.snd.fst, x0, (x2.getD x1.toNat ((0 : Int), (0 : Int), (0 : Int), (0 : Int), (0 : Int), (0 : Int), false, ByteArray.empty, [])).snd.snd.snd.snd.snd))) (none)) (none)
noncomputable def st78_C10_0 (n : Nat) (lC12_0 : Int → Int → (List (Int × Int × Int × Int × Int × Int × Bool × ByteArray × List (ByteArray × Int))) → Option R78) (x0 : Int) (x1 : Int) (x2 : List (Int × Int × Int × Int × Int × Int × Bool × ByteArray × List (ByteArray × Int))) : Option R78 :=
  cond (decide ((0 : Int) ≤ x1)) (cond (decide (x1 < (↑x2.length : Int))) (lC12_0 (Go.IntKind.i64.wrap (x0 + (1 : Int))) (x1) (x2.set x1.toNat ((x2.getD x1.toNat ((0 : Int), (0 : Int), (0 : Int), (0 : Int), (0 : Int), (0 : Int), false, ByteArray.empty, [])).fst, (x2.getD x1.toNat ((0 : Int), (0 : Int), (0 : Int), (0 : Int), (0 : Int), (0 : Int), false, ByteArray.empty, [])).snd.fst, (x2.getD x1.toNat ((0 : Int), (0 : Int), (0 : Int), (0 : Int), (0 : Int), (0 : Int), false, ByteArray.empty, [])).snd.snd.fst, x0, (x2.getD x1.toNat ((0 : Int), (0 : Int), (0 : Int), (0 : Int), (0 : Int), (0 : Int), false, ByteArray.empty, [])).snd.snd.snd.snd))) (none)) (none)
noncomputable def st78_C8_0 (n : Nat) (lC10_0 : Int → Int → (List (Int × Int × Int × Int × Int × Int × Bool × ByteArray × List (ByteArray × Int))) → Option R78) (x0 : Int) (x1 : Int) (x2 : List (Int × Int × Int × Int × Int × Int × Bool × ByteArray × List (ByteArray × Int))) : Option R78 :=
  cond (decide ((0 : Int) ≤ x1)) (cond (decide (x1 < (↑x2.length : Int))) (lC10_0 (Go.IntKind.i64.wrap (x0 + (1 : Int))) (x1) (x2.set x1.toNat ((x2.getD x1.toNat ((0 : Int), (0 : Int), (0 : Int), (0 : Int), (0 : Int), (0 : Int), false, ByteArray.empty, [])).fst, (x2.getD x1.toNat ((0 : Int), (0 : Int), (0 : Int), (0 : Int), (0 : Int), (0 : Int), false, ByteArray.empty, [])).snd.fst, x0, (x2.getD x1.toNat ((0 : Int), (0 : Int), (0 : Int), (0 : Int), (0 : Int), (0 : Int), false, ByteArray.empty, [])).snd.snd.snd))) (none)) (none)
noncomputable def st78_C6_0 (n : Nat) (lC8_0 : Int → Int → (List (Int × Int × Int × Int × Int × Int × Bool × ByteArray × List (ByteArray × Int))) → Option R78) (x0 : Int) (x1 : Int) (x2 : List (Int × Int × Int × Int × Int × Int × Bool × ByteArray × List (ByteArray × Int))) : Option R78 :=
  cond (decide ((0 : Int) ≤ x1)) (cond (decide (x1 < (↑x2.length : Int))) (lC8_0 (Go.IntKind.i64.wrap (x0 + (1 : Int))) (x1) (x2.set x1.toNat ((x2.getD x1.toNat ((0 : Int), (0 : Int), (0 : Int), (0 : Int), (0 : Int), (0 : Int), false, ByteArray.empty, [])).fst, x0, (x2.getD x1.toNat ((0 : Int), (0 : Int), (0 : Int), (0 : Int), (0 : Int), (0 : Int), false, ByteArray.empty, [])).snd.snd))) (none)) (none)
noncomputable def st78_L2 (n : Nat) (lC6_0 : Int → Int → (List (Int × Int × Int × Int × Int × Int × Bool × ByteArray × List (ByteArray × Int))) → Option R78) (x0 : Int) (x1 : Int) (x2 : List (Int × Int × Int × Int × Int × Int × Bool × ByteArray × List (ByteArray × Int))) : Option R78 :=
  cond (decide (x1 < (↑x2.length : Int))) (cond (decide ((0 : Int) ≤ x1)) (cond (decide (x1 < (↑x2.length : Int))) (lC6_0 (Go.IntKind.i64.wrap (x0 + (1 : Int))) (x1) (x2.set x1.toNat (x0, (x2.getD x1.toNat ((0 : Int), (0 : Int), (0 : Int), (0 : Int), (0 : Int), (0 : Int), false, ByteArray.empty, [])).snd))) (none)) (none)) (some ((x0, ()), (x2, ())))
theorem e78_top (n : Nat) (a : List (Int × Int × Int × Int × Int × Int × Bool × ByteArray × List (ByteArray × Int))) (b : Int) : runF TT G78 an78 Try.f78 c78 ps78 rs78 n (a, b, ()) = st78_top n (fun x0 x1 x2 => at78 n (.head 2) [n] (sh78_L2 x0 x1 x2)) a b := by kernel_rfl
theorem e78_C20_0 (n : Nat) (m2 : Nat) (x0 : Int) (x1 : Int) (x2 : List (Int × Int × Int × Int × Int × Int × Bool × ByteArray × List (ByteArray × Int))) : at78 n (.op 20 0) [m2] (sh78_C20_0 x0 x1 x2) = st78_C20_0 n (fun x0 x1 x2 => at78 n (.head 2) [m2] (sh78_L2 x0 x1 x2)) x0 x1 x2 := by kernel_rfl
theorem e78_C18_0 (n : Nat) (m2 : Nat) (x0 : Int) (x1 : Int) (x2 : List (Int × Int × Int × Int × Int × Int × Bool × ByteArray × List (ByteArray × Int))) : at78 n (.op 18 0) [m2] (sh78_C18_0 x0 x1 x2) = st78_C18_0 n (fun x0 x1 x2 => at_ 20000 (at78 n (.op 20 0) [m2]) (sh78_C20_0 x0 x1 x2)) x0 x1 x2 := by kernel_rfl
theorem e78_C16_0 (n : Nat) (m2 : Nat) (x0 : Int) (x1 : Int) (x2 : List (Int × Int × Int × Int × Int × Int × Bool × ByteArray × List (ByteArray × Int))) : at78 n (.op 16 0) [m2] (sh78_C16_0 x0 x1 x2) = st78_C16_0 n (fun x0 x1 x2 => at_ 18000 (at78 n (.op 18 0) [m2]) (sh78_C18_0 x0 x1 x2)) x0 x1 x2 := by kernel_rfl
theorem e78_C14_0 (n : Nat) (m2 : Nat) (x0 : Int) (x1 : Int) (x2 : List (Int × Int × Int × Int × Int × Int × Bool × ByteArray × List (ByteArray × Int))) : at78 n (.op 14 0) [m2] (sh78_C14_0 x0 x1 x2) = st78_C14_0 n (fun x0 x1 x2 => at_ 16000 (at78 n (.op 16 0) [m2]) (sh78_C16_0 x0 x1 x2)) x0 x1 x2 := by kernel_rfl
theorem e78_C12_0 (n : Nat) (m2 : Nat) (x0 : Int) (x1 : Int) (x2 : List (Int × Int × Int × Int × Int × Int × Bool × ByteArray × List (ByteArray × Int))) : at78 n (.op 12 0) [m2] (sh78_C12_0 x0 x1 x2) = st78_C12_0 n (fun x0 x1 x2 => at_ 14000 (at78 n (.op 14 0) [m2]) (sh78_C14_0 x0 x1 x2)) x0 x1 x2 := by kernel_rfl
theorem e78_C10_0 (n : Nat) (m2 : Nat) (x0 : Int) (x1 : Int) (x2 : List (Int × Int × Int × Int × Int × Int × Bool × ByteArray × List (ByteArray × Int))) : at78 n (.op 10 0) [m2] (sh78_C10_0 x0 x1 x2) = st78_C10_0 n (fun x0 x1 x2 => at_ 12000 (at78 n (.op 12 0) [m2]) (sh78_C12_0 x0 x1 x2)) x0 x1 x2 := by kernel_rfl
theorem e78_C8_0 (n : Nat) (m2 : Nat) (x0 : Int) (x1 : Int) (x2 : List (Int × Int × Int × Int × Int × Int × Bool × ByteArray × List (ByteArray × Int))) : at78 n (.op 8 0) [m2] (sh78_C8_0 x0 x1 x2) = st78_C8_0 n (fun x0 x1 x2 => at_ 10000 (at78 n (.op 10 0) [m2]) (sh78_C10_0 x0 x1 x2)) x0 x1 x2 := by kernel_rfl
theorem e78_C6_0 (n : Nat) (m2 : Nat) (x0 : Int) (x1 : Int) (x2 : List (Int × Int × Int × Int × Int × Int × Bool × ByteArray × List (ByteArray × Int))) : at78 n (.op 6 0) [m2] (sh78_C6_0 x0 x1 x2) = st78_C6_0 n (fun x0 x1 x2 => at_ 8000 (at78 n (.op 8 0) [m2]) (sh78_C8_0 x0 x1 x2)) x0 x1 x2 := by kernel_rfl
theorem e78_L2_0 (n : Nat) (x0 : Int) (x1 : Int) (x2 : List (Int × Int × Int × Int × Int × Int × Bool × ByteArray × List (ByteArray × Int))) : at78 n (.head 2) [0] (sh78_L2 x0 x1 x2) = none := by kernel_rfl
theorem e78_L2 (n : Nat) (m2 : Nat) (x0 : Int) (x1 : Int) (x2 : List (Int × Int × Int × Int × Int × Int × Bool × ByteArray × List (ByteArray × Int))) : at78 n (.head 2) [m2 + 1] (sh78_L2 x0 x1 x2) = st78_L2 n (fun x0 x1 x2 => at_ 6000 (at78 n (.op 6 0) [m2]) (sh78_C6_0 x0 x1 x2)) x0 x1 x2 := by kernel_rfl
noncomputable def p78_C20_0 (g2 : Int → Int → (List (Int × Int × Int × Int × Int × Int × Bool × ByteArray × List (ByteArray × Int))) → Option R78) (n : Nat) (x0 : Int) (x1 : Int) (x2 : List (Int × Int × Int × Int × Int × Int × Bool × ByteArray × List (ByteArray × Int))) : Option R78 := st78_C20_0 n g2 x0 x1 x2
noncomputable def p78_C18_0 (g2 : Int → Int → (List (Int × Int × Int × Int × Int × Int × Bool × ByteArray × List (ByteArray × Int))) → Option R78) (n : Nat) (x0 : Int) (x1 : Int) (x2 : List (Int × Int × Int × Int × Int × Int × Bool × ByteArray × List (ByteArray × Int))) : Option R78 := st78_C18_0 n (p78_C20_0 g2 n) x0 x1 x2
noncomputable def p78_C16_0 (g2 : Int → Int → (List (Int × Int × Int × Int × Int × Int × Bool × ByteArray × List (ByteArray × Int))) → Option R78) (n : Nat) (x0 : Int) (x1 : Int) (x2 : List (Int × Int × Int × Int × Int × Int × Bool × ByteArray × List (ByteArray × Int))) : Option R78 := st78_C16_0 n (p78_C18_0 g2 n) x0 x1 x2
noncomputable def p78_C14_0 (g2 : Int → Int → (List (Int × Int × Int × Int × Int × Int × Bool × ByteArray × List (ByteArray × Int))) → Option R78) (n : Nat) (x0 : Int) (x1 : Int) (x2 : List (Int × Int × Int × Int × Int × Int × Bool × ByteArray × List (ByteArray × Int))) : Option R78 := st78_C14_0 n (p78_C16_0 g2 n) x0 x1 x2
noncomputable def p78_C12_0 (g2 : Int → Int → (List (Int × Int × Int × Int × Int × Int × Bool × ByteArray × List (ByteArray × Int))) → Option R78) (n : Nat) (x0 : Int) (x1 : Int) (x2 : List (Int × Int × Int × Int × Int × Int × Bool × ByteArray × List (ByteArray × Int))) : Option R78 := st78_C12_0 n (p78_C14_0 g2 n) x0 x1 x2
noncomputable def p78_C10_0 (g2 : Int → Int → (List (Int × Int × Int × Int × Int × Int × Bool × ByteArray × List (ByteArray × Int))) → Option R78) (n : Nat) (x0 : Int) (x1 : Int) (x2 : List (Int × Int × Int × Int × Int × Int × Bool × ByteArray × List (ByteArray × Int))) : Option R78 := st78_C10_0 n (p78_C12_0 g2 n) x0 x1 x2
noncomputable def p78_C8_0 (g2 : Int → Int → (List (Int × Int × Int × Int × Int × Int × Bool × ByteArray × List (ByteArray × Int))) → Option R78) (n : Nat) (x0 : Int) (x1 : Int) (x2 : List (Int × Int × Int × Int × Int × Int × Bool × ByteArray × List (ByteArray × Int))) : Option R78 := st78_C8_0 n (p78_C10_0 g2 n) x0 x1 x2
noncomputable def p78_C6_0 (g2 : Int → Int → (List (Int × Int × Int × Int × Int × Int × Bool × ByteArray × List (ByteArray × Int))) → Option R78) (n : Nat) (x0 : Int) (x1 : Int) (x2 : List (Int × Int × Int × Int × Int × Int × Bool × ByteArray × List (ByteArray × Int))) : Option R78 := st78_C6_0 n (p78_C8_0 g2 n) x0 x1 x2
noncomputable def p78_L2 (n : Nat) : Nat → Int → Int → (List (Int × Int × Int × Int × Int × Int × Bool × ByteArray × List (ByteArray × Int))) → Option R78
  | 0, _, _, _ => none
  | m + 1, x0, x1, x2 => st78_L2 n (p78_C6_0 (p78_L2 n m) n) x0 x1 x2
noncomputable def p78 (n : Nat) (a : List (Int × Int × Int × Int × Int × Int × Bool × ByteArray × List (ByteArray × Int))) (b : Int) : Option R78 := st78_top n (p78_L2 n n) a b
theorem t78_C20_0 (n : Nat) (m2 : Nat) (x0 : Int) (x1 : Int) (x2 : List (Int × Int × Int × Int × Int × Int × Bool × ByteArray × List (ByteArray × Int))) : at78 n (.op 20 0) [m2] (sh78_C20_0 x0 x1 x2) = p78_C20_0 (fun x0 x1 x2 => at78 n (.head 2) [m2] (sh78_L2 x0 x1 x2)) n x0 x1 x2 := by
  rw [e78_C20_0]
  skip
  try rfl
theorem t78_C18_0 (n : Nat) (m2 : Nat) (x0 : Int) (x1 : Int) (x2 : List (Int × Int × Int × Int × Int × Int × Bool × ByteArray × List (ByteArray × Int))) : at78 n (.op 18 0) [m2] (sh78_C18_0 x0 x1 x2) = p78_C18_0 (fun x0 x1 x2 => at78 n (.head 2) [m2] (sh78_L2 x0 x1 x2)) n x0 x1 x2 := by
  rw [e78_C18_0]
  simp only [ateq78, t78_C20_0]
  try rfl
theorem t78_C16_0 (n : Nat) (m2 : Nat) (x0 : Int) (x1 : Int) (x2 : List (Int × Int × Int × Int × Int × Int × Bool × ByteArray × List (ByteArray × Int))) : at78 n (.op 16 0) [m2] (sh78_C16_0 x0 x1 x2) = p78_C16_0 (fun x0 x1 x2 => at78 n (.head 2) [m2] (sh78_L2 x0 x1 x2)) n x0 x1 x2 := by
  rw [e78_C16_0]
  simp only [ateq78, t78_C18_0]
  try rfl
theorem t78_C14_0 (n : Nat) (m2 : Nat) (x0 : Int) (x1 : Int) (x2 : List (Int × Int × Int × Int × Int × Int × Bool × ByteArray × List (ByteArray × Int))) : at78 n (.op 14 0) [m2] (sh78_C14_0 x0 x1 x2) = p78_C14_0 (fun x0 x1 x2 => at78 n (.head 2) [m2] (sh78_L2 x0 x1 x2)) n x0 x1 x2 := by
  rw [e78_C14_0]
  simp only [ateq78, t78_C16_0]
  try rfl
theorem t78_C12_0 (n : Nat) (m2 : Nat) (x0 : Int) (x1 : Int) (x2 : List (Int × Int × Int × Int × Int × Int × Bool × ByteArray × List (ByteArray × Int))) : at78 n (.op 12 0) [m2] (sh78_C12_0 x0 x1 x2) = p78_C12_0 (fun x0 x1 x2 => at78 n (.head 2) [m2] (sh78_L2 x0 x1 x2)) n x0 x1 x2 := by
  rw [e78_C12_0]
  simp only [ateq78, t78_C14_0]
  try rfl
theorem t78_C10_0 (n : Nat) (m2 : Nat) (x0 : Int) (x1 : Int) (x2 : List (Int × Int × Int × Int × Int × Int × Bool × ByteArray × List (ByteArray × Int))) : at78 n (.op 10 0) [m2] (sh78_C10_0 x0 x1 x2) = p78_C10_0 (fun x0 x1 x2 => at78 n (.head 2) [m2] (sh78_L2 x0 x1 x2)) n x0 x1 x2 := by
  rw [e78_C10_0]
  simp only [ateq78, t78_C12_0]
  try rfl
theorem t78_C8_0 (n : Nat) (m2 : Nat) (x0 : Int) (x1 : Int) (x2 : List (Int × Int × Int × Int × Int × Int × Bool × ByteArray × List (ByteArray × Int))) : at78 n (.op 8 0) [m2] (sh78_C8_0 x0 x1 x2) = p78_C8_0 (fun x0 x1 x2 => at78 n (.head 2) [m2] (sh78_L2 x0 x1 x2)) n x0 x1 x2 := by
  rw [e78_C8_0]
  simp only [ateq78, t78_C10_0]
  try rfl
theorem t78_C6_0 (n : Nat) (m2 : Nat) (x0 : Int) (x1 : Int) (x2 : List (Int × Int × Int × Int × Int × Int × Bool × ByteArray × List (ByteArray × Int))) : at78 n (.op 6 0) [m2] (sh78_C6_0 x0 x1 x2) = p78_C6_0 (fun x0 x1 x2 => at78 n (.head 2) [m2] (sh78_L2 x0 x1 x2)) n x0 x1 x2 := by
  rw [e78_C6_0]
  simp only [ateq78, t78_C8_0]
  try rfl
theorem t78_L2 (n : Nat) : ∀ (m2 : Nat) (x0 : Int) (x1 : Int) (x2 : List (Int × Int × Int × Int × Int × Int × Bool × ByteArray × List (ByteArray × Int))), at78 n (.head 2) [m2] (sh78_L2 x0 x1 x2) = p78_L2 n m2 x0 x1 x2 := by
  intro m
  induction m with
  | zero => intros; rw [e78_L2_0]; rfl
  | succ m ih =>
    intros
    rw [e78_L2]
    try simp only [ateq78, t78_C6_0, ih]
    rfl
theorem F78_eq (n : Nat) (a : List (Int × Int × Int × Int × Int × Int × Bool × ByteArray × List (ByteArray × Int))) (b : Int) : runF TT G78 an78 Try.f78 c78 ps78 rs78 n (a, b, ()) = p78 n a b := by
  rw [e78_top]
  simp only [t78_L2]
  try rfl
noncomputable def q78 (n : Nat) (x : argsD ps78) : Option R78 := p78 n x.1 x.2.1
noncomputable def Sm78 : Sm := ⟨ps78, rs78, false, q78⟩
theorem holds78 (hg : GamOK Try.prog G78) : Holds Try.prog 78 Sm78 := by
  have := h0_78 hg
  have e : (runF TT G78 an78 Try.f78 c78 ps78 rs78) = q78 := by
    funext n x
    exact F78_eq n x.1 x.2.1
  rw [e] at this
  exact this
theorem gam78 : GamOK Try.prog G78 := by
  intro f s h
  unfold G78 at h
  split at h
  · injection h with h; subst h; exact ⟨⟨Try.f109, c109, Try.func109, by kernel_rfl, by decide +kernel⟩, hh109⟩
  · injection h with h; subst h; exact ⟨⟨Try.f110, c110, Try.func110, by kernel_rfl, by decide +kernel⟩, hh110⟩
  · cases h
theorem hh78 : Holds Try.prog 78 Sm78 := holds78 gam78
end Go.Proofs.Ythhopbicmaipgaa.Rx.S
namespace Go.Proofs.Ythhopbicmaipgaa.Rx.S
open Go Go.RowKit Go.Proofs
set_option maxRecDepth 100000
noncomputable def c27 : Code := (Try.f27.body.getD .skip)
def an27 : An := ⟨fun _ => ⟨[], []⟩, fun _ _ => none⟩
abbrev ps27 : List PK := [.io tFs true, .val i64 false]
abbrev rs27 : List RK := [.val i64 false]
abbrev R27 := retsD rs27 × outsD ps27
noncomputable def G27 : Gam := fun f => match f with | 78 => some Sm78 | _ => none
theorem h0_27 (hg : GamOK Try.prog G27) : Holds Try.prog 27 ⟨ps27, rs27, false, runF TT G27 an27 Try.f27 c27 ps27 rs27⟩ := holds_of tt_ok hg mixed Try.func27 (by kernel_rfl) (by rfl) (by decide +kernel)
noncomputable def at27 : Nat → Pt → List Nat → St → Option R27 := atF TT G27 an27 Try.f27 c27 _ _
noncomputable def st27_top (n : Nat) (a : List (Int × Int × Int × Int × Int × Int × Bool × ByteArray × List (ByteArray × Int))) (b : Int) : Option R27 :=
  (q78 n (a, b, ())).bind fun r0 => some ((r0.fst.fst, ()), (r0.snd.fst, ()))
theorem e27_top (n : Nat) (a : List (Int × Int × Int × Int × Int × Int × Bool × ByteArray × List (ByteArray × Int))) (b : Int) : runF TT G27 an27 Try.f27 c27 ps27 rs27 n (a, b, ()) = st27_top n a b := by kernel_rfl
noncomputable def p27 (n : Nat) (a : List (Int × Int × Int × Int × Int × Int × Bool × ByteArray × List (ByteArray × Int))) (b : Int) : Option R27 := st27_top n a b
theorem F27_eq (n : Nat) (a : List (Int × Int × Int × Int × Int × Int × Bool × ByteArray × List (ByteArray × Int))) (b : Int) : runF TT G27 an27 Try.f27 c27 ps27 rs27 n (a, b, ()) = p27 n a b := by
  rw [e27_top]
  skip
  try rfl
noncomputable def q27 (n : Nat) (x : argsD ps27) : Option R27 := p27 n x.1 x.2.1
noncomputable def Sm27 : Sm := ⟨ps27, rs27, false, q27⟩
theorem holds27 (hg : GamOK Try.prog G27) : Holds Try.prog 27 Sm27 := by
  have := h0_27 hg
  have e : (runF TT G27 an27 Try.f27 c27 ps27 rs27) = q27 := by
    funext n x
    exact F27_eq n x.1 x.2.1
  rw [e] at this
  exact this
theorem gam27 : GamOK Try.prog G27 := by
  intro f s h
  unfold G27 at h
  split at h
  · injection h with h; subst h; exact ⟨⟨Try.f78, c78, Try.func78, by kernel_rfl, by decide +kernel⟩, hh78⟩
  · cases h
theorem hh27 : Holds Try.prog 27 Sm27 := holds27 gam27
end Go.Proofs.Ythhopbicmaipgaa.Rx.S
namespace Go.Proofs.Ythhopbicmaipgaa.Rx.S
open Go Go.RowKit Go.Proofs
set_option maxRecDepth 100000
noncomputable def c111 : Code := (Try.f111.body.getD .skip)
def an111 : An := ⟨fun r => match r with | 2 => ⟨[0, 1, 5], []⟩ | _ => ⟨[], []⟩, fun _ _ => none⟩
abbrev ps111 : List PK := [.val (.row 95 tEn) false, .val i64 false]
abbrev rs111 : List RK := [.val i64 false]
abbrev R111 := retsD rs111 × outsD ps111
noncomputable def G111 : Gam := fun f => match f with | 109 => some Sm109 | _ => none
theorem h0_111 (hg : GamOK Try.prog G111) : Holds Try.prog 111 ⟨ps111, rs111, false, runF TT G111 an111 Try.f111 c111 ps111 rs111⟩ := holds_of tt_ok hg mixed Try.func111 (by kernel_rfl) (by rfl) (by decide +kernel)
noncomputable def at111 : Nat → Pt → List Nat → St → Option R111 := atF TT G111 an111 Try.f111 c111 _ _
def sh111_L2 (x0 : List (ByteArray × Int)) (x1 : Int) (x2 : Int) : St := (St.mk ((AV.one (SV.con (⟨95, Ty.str.pair (Ty.int Go.IntKind.i64), x0⟩ : Rw))) :: ((AV.one (SV.int (Go.IntKind.i64) x1)) :: (AV.undef :: (AV.undef :: (AV.undef :: ((AV.one (SV.int (Go.IntKind.i64) x2)) :: (AV.undef :: (AV.undef :: (AV.undef :: (AV.undef :: (AV.undef :: (AV.undef :: (AV.undef :: (AV.undef :: (AV.undef :: (AV.undef :: (AV.undef :: (AV.undef :: (AV.undef :: (AV.undef :: (AV.undef :: (AV.undef :: (AV.undef :: (AV.undef :: (AV.undef :: (AV.undef :: (AV.undef :: (AV.undef :: (AV.undef :: (AV.undef :: (AV.undef :: (AV.undef :: [])))))))))))))))))))))))))))))))) [])
noncomputable def st111_top (n : Nat) (lL2 : (List (ByteArray × Int)) → Int → Int → Option R111) (a : List (ByteArray × Int)) (b : Int) : Option R111 :=
  lL2 (a) (b) ((0 : Int))
noncomputable def st111_L2 (n : Nat) (lL2 : (List (ByteArray × Int)) → Int → Int → Option R111) (x0 : List (ByteArray × Int)) (x1 : Int) (x2 : Int) : Option R111 :=
  cond (decide (x2 < (↑x0.length : Int))) (cond (decide ((0 : Int) ≤ x2)) (cond (decide (x2 < (↑x0.length : Int))) ((q109 n (x1, ())).bind fun r1 => cond (!ByteArray.toList (x0.getD x2.toNat (ByteArray.empty, (0 : Int))).fst == ByteArray.toList r1.fst.fst) (some (((-1 : Int), ()), ())) (cond (decide ((0 : Int) ≤ x2)) (cond (decide (x2 < (↑x0.length : Int))) (cond (!decide ((x0.getD x2.toNat (ByteArray.empty, (0 : Int))).snd = Go.IntKind.i64.wrap (x1 + (1 : Int)))) (some (((-1 : Int), ()), ())) (lL2 (x0) (Go.IntKind.i64.wrap (Go.IntKind.i64.wrap (x1 + (1 : Int)) + (1 : Int))) (Go.IntKind.i64.wrap (x2 + (1 : Int))))) (none)) (none))) (none)) (none)) (some ((x1, ()), ()))
theorem e111_top (n : Nat) (a : List (ByteArray × Int)) (b : Int) : runF TT G111 an111 Try.f111 c111 ps111 rs111 n (a, b, ()) = st111_top n (fun x0 x1 x2 => at111 n (.head 2) [n] (sh111_L2 x0 x1 x2)) a b := by kernel_rfl
theorem e111_L2_0 (n : Nat) (x0 : List (ByteArray × Int)) (x1 : Int) (x2 : Int) : at111 n (.head 2) [0] (sh111_L2 x0 x1 x2) = none := by kernel_rfl
theorem e111_L2 (n : Nat) (m2 : Nat) (x0 : List (ByteArray × Int)) (x1 : Int) (x2 : Int) : at111 n (.head 2) [m2 + 1] (sh111_L2 x0 x1 x2) = st111_L2 n (fun x0 x1 x2 => at111 n (.head 2) [m2] (sh111_L2 x0 x1 x2)) x0 x1 x2 := by kernel_rfl
noncomputable def p111_L2 (n : Nat) : Nat → (List (ByteArray × Int)) → Int → Int → Option R111
  | 0, _, _, _ => none
  | m + 1, x0, x1, x2 => st111_L2 n (p111_L2 n m) x0 x1 x2
noncomputable def p111 (n : Nat) (a : List (ByteArray × Int)) (b : Int) : Option R111 := st111_top n (p111_L2 n n) a b
theorem t111_L2 (n : Nat) : ∀ (m2 : Nat) (x0 : List (ByteArray × Int)) (x1 : Int) (x2 : Int), at111 n (.head 2) [m2] (sh111_L2 x0 x1 x2) = p111_L2 n m2 x0 x1 x2 := by
  intro m
  induction m with
  | zero => intros; rw [e111_L2_0]; rfl
  | succ m ih =>
    intros
    rw [e111_L2]
    try simp only [ih]
    rfl
theorem F111_eq (n : Nat) (a : List (ByteArray × Int)) (b : Int) : runF TT G111 an111 Try.f111 c111 ps111 rs111 n (a, b, ()) = p111 n a b := by
  rw [e111_top]
  simp only [t111_L2]
  try rfl
noncomputable def q111 (n : Nat) (x : argsD ps111) : Option R111 := p111 n x.1 x.2.1
noncomputable def Sm111 : Sm := ⟨ps111, rs111, false, q111⟩
theorem holds111 (hg : GamOK Try.prog G111) : Holds Try.prog 111 Sm111 := by
  have := h0_111 hg
  have e : (runF TT G111 an111 Try.f111 c111 ps111 rs111) = q111 := by
    funext n x
    exact F111_eq n x.1 x.2.1
  rw [e] at this
  exact this
theorem gam111 : GamOK Try.prog G111 := by
  intro f s h
  unfold G111 at h
  split at h
  · injection h with h; subst h; exact ⟨⟨Try.f109, c109, Try.func109, by kernel_rfl, by decide +kernel⟩, hh109⟩
  · cases h
theorem hh111 : Holds Try.prog 111 Sm111 := holds111 gam111
end Go.Proofs.Ythhopbicmaipgaa.Rx.S
namespace Go.Proofs.Ythhopbicmaipgaa.Rx.S
open Go Go.RowKit Go.Proofs
set_option maxRecDepth 100000
noncomputable def c80 : Code := (Try.f80.body.getD .skip)
def an80 : An := ⟨fun r => match r with | 2 => ⟨[0, 1, 5], []⟩ | _ => ⟨[], []⟩, fun _ _ => none⟩
abbrev ps80 : List PK := [.val tFs false, .val i64 false]
abbrev rs80 : List RK := [.val i64 false]
abbrev R80 := retsD rs80 × outsD ps80
noncomputable def G80 : Gam := fun f => match f with | 109 => some Sm109 | 111 => some Sm111 | _ => none
theorem h0_80 (hg : GamOK Try.prog G80) : Holds Try.prog 80 ⟨ps80, rs80, false, runF TT G80 an80 Try.f80 c80 ps80 rs80⟩ := holds_of tt_ok hg mixed Try.func80 (by kernel_rfl) (by rfl) (by decide +kernel)
noncomputable def at80 : Nat → Pt → List Nat → St → Option R80 := atF TT G80 an80 Try.f80 c80 _ _
def sh80_L2 (x0 : List (Int × Int × Int × Int × Int × Int × Bool × ByteArray × List (ByteArray × Int))) (x1 : Int) (x2 : Int) : St := (St.mk ((AV.one (SV.con (⟨39, (Ty.int Go.IntKind.i64).pair ((Ty.int Go.IntKind.i64).pair ((Ty.int Go.IntKind.i64).pair ((Ty.int Go.IntKind.i64).pair ((Ty.int Go.IntKind.i64).pair ((Ty.int Go.IntKind.i64).pair (Ty.bool.pair (Ty.str.pair (Ty.row (nat_lit 95) (Ty.str.pair (Ty.int Go.IntKind.i64)))))))))), x0⟩ : Rw))) :: ((AV.one (SV.int (Go.IntKind.i64) x1)) :: (AV.undef :: (AV.undef :: (AV.undef :: ((AV.one (SV.int (Go.IntKind.i64) x2)) :: (AV.undef :: (AV.undef :: (AV.undef :: (AV.undef :: (AV.undef :: (AV.undef :: (AV.undef :: (AV.undef :: (AV.undef :: (AV.undef :: (AV.undef :: (AV.undef :: (AV.undef :: (AV.undef :: (AV.undef :: (AV.undef :: (AV.undef :: (AV.undef :: (AV.undef :: (AV.undef :: (AV.undef :: (AV.undef :: (AV.undef :: (AV.undef :: (AV.undef :: (AV.undef :: (AV.undef :: (AV.undef :: (AV.undef :: (AV.undef :: (AV.undef :: (AV.undef :: (AV.undef :: (AV.undef :: (AV.undef :: (AV.undef :: (AV.undef :: (AV.undef :: (AV.undef :: (AV.undef :: (AV.undef :: (AV.undef :: (AV.undef :: (AV.undef :: (AV.undef :: (AV.undef :: (AV.undef :: (AV.undef :: (AV.undef :: (AV.undef :: (AV.undef :: (AV.undef :: (AV.undef :: (AV.undef :: (AV.undef :: (AV.undef :: (AV.undef :: (AV.undef :: (AV.undef :: (AV.undef :: (AV.undef :: (AV.undef :: (AV.undef :: (AV.undef :: (AV.undef :: (AV.undef :: (AV.undef :: (AV.undef :: (AV.undef :: (AV.undef :: (AV.undef :: (AV.undef :: (AV.undef :: (AV.undef :: (AV.undef :: (AV.undef :: (AV.undef :: (AV.undef :: (AV.undef :: (AV.undef :: (AV.undef :: (AV.undef :: (AV.undef :: (AV.undef :: (AV.undef :: (AV.undef :: (AV.undef :: (AV.undef :: (AV.undef :: (AV.undef :: (AV.undef :: []))))))))))))))))))))))))))))))))))))))))))))))))))))))))))))))))))))))))))))))))))))))))))))))))) [])
noncomputable def st80_top (n : Nat) (lL2 : (List (Int × Int × Int × Int × Int × Int × Bool × ByteArray × List (ByteArray × Int))) → Int → Int → Option R80) (a : List (Int × Int × Int × Int × Int × Int × Bool × ByteArray × List (ByteArray × Int))) (b : Int) : Option R80 :=
  lL2 (a) (b) ((0 : Int))
noncomputable def st80_L2 (n : Nat) (lL2 : (List (Int × Int × Int × Int × Int × Int × Bool × ByteArray × List (ByteArray × Int))) → Int → Int → Option R80) (x0 : List (Int × Int × Int × Int × Int × Int × Bool × ByteArray × List (ByteArray × Int))) (x1 : Int) (x2 : Int) : Option R80 :=
  cond (decide (x2 < (↑x0.length : Int))) (cond (decide ((0 : Int) ≤ x2)) (cond (decide (x2 < (↑x0.length : Int))) (cond (!decide ((x0.getD x2.toNat ((0 : Int), (0 : Int), (0 : Int), (0 : Int), (0 : Int), (0 : Int), false, ByteArray.empty, [])).fst = x1)) (some (((-1 : Int), ()), ())) (cond (decide ((0 : Int) ≤ x2)) (cond (decide (x2 < (↑x0.length : Int))) (cond (!decide ((x0.getD x2.toNat ((0 : Int), (0 : Int), (0 : Int), (0 : Int), (0 : Int), (0 : Int), false, ByteArray.empty, [])).snd.fst = Go.IntKind.i64.wrap (x1 + (1 : Int)))) (some (((-1 : Int), ()), ())) (cond (decide ((0 : Int) ≤ x2)) (cond (decide (x2 < (↑x0.length : Int))) (cond (!decide ((x0.getD x2.toNat ((0 : Int), (0 : Int), (0 : Int), (0 : Int), (0 : Int), (0 : Int), false, ByteArray.empty, [])).snd.snd.fst = Go.IntKind.i64.wrap (Go.IntKind.i64.wrap (x1 + (1 : Int)) + (1 : Int)))) (some (((-1 : Int), ()), ())) (cond (decide ((0 : Int) ≤ x2)) (cond (decide (x2 < (↑x0.length : Int))) (cond (!decide ((x0.getD x2.toNat ((0 : Int), (0 : Int), (0 : Int), (0 : Int), (0 : Int), (0 : Int), false, ByteArray.empty, [])).snd.snd.snd.fst = Go.IntKind.i64.wrap (Go.IntKind.i64.wrap (Go.IntKind.i64.wrap (x1 + (1 : Int)) + (1 : Int)) + (1 : Int)))) (some (((-1 : Int), ()), ())) (cond (decide ((0 : Int) ≤ x2)) (cond (decide (x2 < (↑x0.length : Int))) (cond (!decide ((x0.getD x2.toNat ((0 : Int), (0 : Int), (0 : Int), (0 : Int), (0 : Int), (0 : Int), false, ByteArray.empty, [])).snd.snd.snd.snd.fst = Go.IntKind.i64.wrap (Go.IntKind.i64.wrap (Go.IntKind.i64.wrap (Go.IntKind.i64.wrap (x1 + (1 : Int)) + (1 : Int)) + (1 : Int)) + (1 : Int)))) (some (((-1 : Int), ()), ())) (cond (decide ((0 : Int) ≤ x2)) (cond (decide (x2 < (↑x0.length : Int))) (cond (!decide ((x0.getD x2.toNat ((0 : Int), (0 : Int), (0 : Int), (0 : Int), (0 : Int), (0 : Int), false, ByteArray.empty, [])).snd.snd.snd.snd.snd.fst = Go.IntKind.i64.wrap (Go.IntKind.i64.wrap (Go.IntKind.i64.wrap (Go.IntKind.i64.wrap (Go.IntKind.i64.wrap (x1 + (1 : Int)) + (1 : Int)) + (1 : Int)) + (1 : Int)) + (1 : Int)))) (some (((-1 : Int), ()), ())) (cond (decide ((0 : Int) ≤ x2)) (cond (decide (x2 < (↑x0.length : Int))) (cond (!(x0.getD x2.toNat ((0 : Int), (0 : Int), (0 : Int), (0 : Int), (0 : Int), (0 : Int), false, ByteArray.empty, [])).snd.snd.snd.snd.snd.snd.fst == decide ((Go.IntKind.i64.wrap (Go.IntKind.i64.wrap (Go.IntKind.i64.wrap (Go.IntKind.i64.wrap (Go.IntKind.i64.wrap (Go.IntKind.i64.wrap (x1 + (1 : Int)) + (1 : Int)) + (1 : Int)) + (1 : Int)) + (1 : Int)) + (1 : Int))).tmod (3 : Int) = (0 : Int))) (some (((-1 : Int), ()), ())) (cond (decide ((0 : Int) ≤ x2)) (cond (decide (x2 < (↑x0.length : Int))) ((q109 n (Go.IntKind.i64.wrap (Go.IntKind.i64.wrap (Go.IntKind.i64.wrap (Go.IntKind.i64.wrap (Go.IntKind.i64.wrap (Go.IntKind.i64.wrap (Go.IntKind.i64.wrap (x1 + (1 : Int)) + (1 : Int)) + (1 : Int)) + (1 : Int)) + (1 : Int)) + (1 : Int)) + (1 : Int)), ())).bind fun r1 => cond (!ByteArray.toList (x0.getD x2.toNat ((0 : Int), (0 : Int), (0 : Int), (0 : Int), (0 : Int), (0 : Int), false, ByteArray.empty, [])).snd.snd.snd.snd.snd.snd.snd.fst == ByteArray.toList r1.fst.fst) (some (((-1 : Int), ()), ())) (cond (decide ((0 : Int) ≤ x2)) (cond (decide (x2 < (↑x0.length : Int))) ((q111 n ((x0.getD x2.toNat ((0 : Int), (0 : Int), (0 : Int), (0 : Int), (0 : Int), (0 : Int), false, ByteArray.empty, [])).snd.snd.snd.snd.snd.snd.snd.snd, Go.IntKind.i64.wrap (Go.IntKind.i64.wrap (Go.IntKind.i64.wrap (Go.IntKind.i64.wrap (Go.IntKind.i64.wrap (Go.IntKind.i64.wrap (Go.IntKind.i64.wrap (Go.IntKind.i64.wrap (x1 + (1 : Int)) + (1 : Int)) + (1 : Int)) + (1 : Int)) + (1 : Int)) + (1 : Int)) + (1 : Int)) + (1 : Int)), ())).bind fun r2 => cond (decide (r2.fst.fst < (0 : Int))) (some (((-1 : Int), ()), ())) (lL2 (x0) (r2.fst.fst) (Go.IntKind.i64.wrap (x2 + (1 : Int))))) (none)) (none))) (none)) (none))) (none)) (none))) (none)) (none))) (none)) (none))) (none)) (none))) (none)) (none))) (none)) (none))) (none)) (none)) (some ((x1, ()), ()))
theorem e80_top (n : Nat) (a : List (Int × Int × Int × Int × Int × Int × Bool × ByteArray × List (ByteArray × Int))) (b : Int) : runF TT G80 an80 Try.f80 c80 ps80 rs80 n (a, b, ()) = st80_top n (fun x0 x1 x2 => at80 n (.head 2) [n] (sh80_L2 x0 x1 x2)) a b := by kernel_rfl
theorem e80_L2_0 (n : Nat) (x0 : List (Int × Int × Int × Int × Int × Int × Bool × ByteArray × List (ByteArray × Int))) (x1 : Int) (x2 : Int) : at80 n (.head 2) [0] (sh80_L2 x0 x1 x2) = none := by kernel_rfl
theorem e80_L2 (n : Nat) (m2 : Nat) (x0 : List (Int × Int × Int × Int × Int × Int × Bool × ByteArray × List (ByteArray × Int))) (x1 : Int) (x2 : Int) : at80 n (.head 2) [m2 + 1] (sh80_L2 x0 x1 x2) = st80_L2 n (fun x0 x1 x2 => at80 n (.head 2) [m2] (sh80_L2 x0 x1 x2)) x0 x1 x2 := by kernel_rfl
noncomputable def p80_L2 (n : Nat) : Nat → (List (Int × Int × Int × Int × Int × Int × Bool × ByteArray × List (ByteArray × Int))) → Int → Int → Option R80
  | 0, _, _, _ => none
  | m + 1, x0, x1, x2 => st80_L2 n (p80_L2 n m) x0 x1 x2
noncomputable def p80 (n : Nat) (a : List (Int × Int × Int × Int × Int × Int × Bool × ByteArray × List (ByteArray × Int))) (b : Int) : Option R80 := st80_top n (p80_L2 n n) a b
theorem t80_L2 (n : Nat) : ∀ (m2 : Nat) (x0 : List (Int × Int × Int × Int × Int × Int × Bool × ByteArray × List (ByteArray × Int))) (x1 : Int) (x2 : Int), at80 n (.head 2) [m2] (sh80_L2 x0 x1 x2) = p80_L2 n m2 x0 x1 x2 := by
  intro m
  induction m with
  | zero => intros; rw [e80_L2_0]; rfl
  | succ m ih =>
    intros
    rw [e80_L2]
    try simp only [ih]
    rfl
theorem F80_eq (n : Nat) (a : List (Int × Int × Int × Int × Int × Int × Bool × ByteArray × List (ByteArray × Int))) (b : Int) : runF TT G80 an80 Try.f80 c80 ps80 rs80 n (a, b, ()) = p80 n a b := by
  rw [e80_top]
  simp only [t80_L2]
  try rfl
noncomputable def q80 (n : Nat) (x : argsD ps80) : Option R80 := p80 n x.1 x.2.1
noncomputable def Sm80 : Sm := ⟨ps80, rs80, false, q80⟩
theorem holds80 (hg : GamOK Try.prog G80) : Holds Try.prog 80 Sm80 := by
  have := h0_80 hg
  have e : (runF TT G80 an80 Try.f80 c80 ps80 rs80) = q80 := by
    funext n x
    exact F80_eq n x.1 x.2.1
  rw [e] at this
  exact this
theorem gam80 : GamOK Try.prog G80 := by
  intro f s h
  unfold G80 at h
  split at h
  · injection h with h; subst h; exact ⟨⟨Try.f109, c109, Try.func109, by kernel_rfl, by decide +kernel⟩, hh109⟩
  · injection h with h; subst h; exact ⟨⟨Try.f111, c111, Try.func111, by kernel_rfl, by decide +kernel⟩, hh111⟩
  · cases h
theorem hh80 : Holds Try.prog 80 Sm80 := holds80 gam80
end Go.Proofs.Ythhopbicmaipgaa.Rx.S
namespace Go.Proofs.Ythhopbicmaipgaa.Rx.S
open Go Go.RowKit Go.Proofs
set_option maxRecDepth 100000
noncomputable def c29 : Code := (Try.f29.body.getD .skip)
def an29 : An := ⟨fun _ => ⟨[], []⟩, fun _ _ => none⟩
abbrev ps29 : List PK := [.val tFs true, .val i64 false]
abbrev rs29 : List RK := [.val i64 false]
abbrev R29 := retsD rs29 × outsD ps29
noncomputable def G29 : Gam := fun f => match f with | 80 => some Sm80 | _ => none
theorem h0_29 (hg : GamOK Try.prog G29) : Holds Try.prog 29 ⟨ps29, rs29, false, runF TT G29 an29 Try.f29 c29 ps29 rs29⟩ := holds_of tt_ok hg mixed Try.func29 (by kernel_rfl) (by rfl) (by decide +kernel)
noncomputable def at29 : Nat → Pt → List Nat → St → Option R29 := atF TT G29 an29 Try.f29 c29 _ _
noncomputable def st29_top (n : Nat) (a : List (Int × Int × Int × Int × Int × Int × Bool × ByteArray × List (ByteArray × Int))) (b : Int) : Option R29 :=
  (q80 n (a, b, ())).bind fun r0 => cond (decide (r0.fst.fst < (0 : Int))) (some (((-1 : Int), ()), ())) (some ((r0.fst.fst, ()), ()))
theorem e29_top (n : Nat) (a : List (Int × Int × Int × Int × Int × Int × Bool × ByteArray × List (ByteArray × Int))) (b : Int) : runF TT G29 an29 Try.f29 c29 ps29 rs29 n (a, b, ()) = st29_top n a b := by kernel_rfl
noncomputable def p29 (n : Nat) (a : List (Int × Int × Int × Int × Int × Int × Bool × ByteArray × List (ByteArray × Int))) (b : Int) : Option R29 := st29_top n a b
theorem F29_eq (n : Nat) (a : List (Int × Int × Int × Int × Int × Int × Bool × ByteArray × List (ByteArray × Int))) (b : Int) : runF TT G29 an29 Try.f29 c29 ps29 rs29 n (a, b, ()) = p29 n a b := by
  rw [e29_top]
  skip
  try rfl
noncomputable def q29 (n : Nat) (x : argsD ps29) : Option R29 := p29 n x.1 x.2.1
noncomputable def Sm29 : Sm := ⟨ps29, rs29, false, q29⟩
theorem holds29 (hg : GamOK Try.prog G29) : Holds Try.prog 29 Sm29 := by
  have := h0_29 hg
  have e : (runF TT G29 an29 Try.f29 c29 ps29 rs29) = q29 := by
    funext n x
    exact F29_eq n x.1 x.2.1
  rw [e] at this
  exact this
theorem gam29 : GamOK Try.prog G29 := by
  intro f s h
  unfold G29 at h
  split at h
  · injection h with h; subst h; exact ⟨⟨Try.f80, c80, Try.func80, by kernel_rfl, by decide +kernel⟩, hh80⟩
  · cases h
theorem hh29 : Holds Try.prog 29 Sm29 := holds29 gam29
end Go.Proofs.Ythhopbicmaipgaa.Rx.S
namespace Go.Proofs.Ythhopbicmaipgaa.Rx.S
open Go Go.RowKit Go.Proofs
set_option maxRecDepth 100000
noncomputable def c64 : Code := (Try.f64.body.getD .skip)
def an64 : An := ⟨fun _ => ⟨[], []⟩, fun _ _ => none⟩
abbrev ps64 : List PK := [.val tFs true, .val i64 false]
abbrev rs64 : List RK := [.val .bool false]
abbrev R64 := retsD rs64 × outsD ps64
noncomputable def G64 : Gam := fun f => match f with | 66 => some Sm66 | _ => none
theorem h0_64 (hg : GamOK Try.prog G64) : Holds Try.prog 64 ⟨ps64, rs64, false, runF TT G64 an64 Try.f64 c64 ps64 rs64⟩ := holds_of tt_ok hg mixed Try.func64 (by kernel_rfl) (by rfl) (by decide +kernel)
noncomputable def at64 : Nat → Pt → List Nat → St → Option R64 := atF TT G64 an64 Try.f64 c64 _ _
noncomputable def st64_top (n : Nat) (a : List (Int × Int × Int × Int × Int × Int × Bool × ByteArray × List (ByteArray × Int))) (b : Int) : Option R64 :=
  (q66 n (b, (0 : Int), Go.IntKind.i64.wrap ((↑a.length : Int) - (1 : Int)), ())).bind fun r0 => cond (r0.fst.fst) (cond (decide ((0 : Int) ≤ b)) (cond (decide (b < (↑a.length : Int))) (some ((!decide ((a.getD b.toNat ((0 : Int), (0 : Int), (0 : Int), (0 : Int), (0 : Int), (0 : Int), false, ByteArray.empty, [])).fst = (0 : Int)), ()), ())) (none)) (none)) (some ((false, ()), ()))
theorem e64_top (n : Nat) (a : List (Int × Int × Int × Int × Int × Int × Bool × ByteArray × List (ByteArray × Int))) (b : Int) : runF TT G64 an64 Try.f64 c64 ps64 rs64 n (a, b, ()) = st64_top n a b := by kernel_rfl
noncomputable def p64 (n : Nat) (a : List (Int × Int × Int × Int × Int × Int × Bool × ByteArray × List (ByteArray × Int))) (b : Int) : Option R64 := st64_top n a b
theorem F64_eq (n : Nat) (a : List (Int × Int × Int × Int × Int × Int × Bool × ByteArray × List (ByteArray × Int))) (b : Int) : runF TT G64 an64 Try.f64 c64 ps64 rs64 n (a, b, ()) = p64 n a b := by
  rw [e64_top]
  skip
  try rfl
noncomputable def q64 (n : Nat) (x : argsD ps64) : Option R64 := p64 n x.1 x.2.1
noncomputable def Sm64 : Sm := ⟨ps64, rs64, false, q64⟩
theorem holds64 (hg : GamOK Try.prog G64) : Holds Try.prog 64 Sm64 := by
  have := h0_64 hg
  have e : (runF TT G64 an64 Try.f64 c64 ps64 rs64) = q64 := by
    funext n x
    exact F64_eq n x.1 x.2.1
  rw [e] at this
  exact this
theorem gam64 : GamOK Try.prog G64 := by
  intro f s h
  unfold G64 at h
  split at h
  · injection h with h; subst h; exact ⟨⟨Try.f66, c66, Try.func66, by kernel_rfl, by decide +kernel⟩, hh66⟩
  · cases h
theorem hh64 : Holds Try.prog 64 Sm64 := holds64 gam64
end Go.Proofs.Ythhopbicmaipgaa.Rx.S
namespace Go.Proofs.Ythhopbicmaipgaa.Rx.S
open Go Go.RowKit Go.Proofs
set_option maxRecDepth 100000
noncomputable def c68 : Code := (Try.f68.body.getD .skip)
def an68 : An := ⟨fun r => match r with | 3 => ⟨[1, 2, 3, 4], []⟩ | _ => ⟨[], []⟩, fun _ _ => none⟩
abbrev ps68 : List PK := [.val tFs true]
abbrev rs68 : List RK := [.own tFs true]
abbrev R68 := retsD rs68 × outsD ps68
noncomputable def G68 : Gam := fun _ => none
theorem h0_68 (hg : GamOK Try.prog G68) : Holds Try.prog 68 ⟨ps68, rs68, false, runF TT G68 an68 Try.f68 c68 ps68 rs68⟩ := holds_of tt_ok hg mixed Try.func68 (by kernel_rfl) (by rfl) (by decide +kernel)
noncomputable def at68 : Nat → Pt → List Nat → St → Option R68 := atF TT G68 an68 Try.f68 c68 _ _
def sh68_L3 (x0 : Int) (x1 : List (Int × Int × Int × Int × Int × Int × Bool × ByteArray × List (ByteArray × Int))) (x2 : List (Int × Int × Int × Int × Int × Int × Bool × ByteArray × List (ByteArray × Int))) : St := (St.mk (AV.undef :: ((AV.one (SV.bptr 1000000 0)) :: ((AV.one (SV.bptr 1000001 0)) :: ((AV.one (SV.bptr 1000002 0)) :: ((AV.one (SV.int (Go.IntKind.i64) x0)) :: (AV.undef :: (AV.undef :: (AV.undef :: (AV.undef :: (AV.undef :: (AV.undef :: (AV.undef :: (AV.undef :: (AV.undef :: (AV.undef :: (AV.undef :: (AV.undef :: (AV.undef :: (AV.undef :: (AV.undef :: (AV.undef :: (AV.undef :: (AV.undef :: (AV.undef :: (AV.undef :: (AV.undef :: (AV.undef :: (AV.undef :: (AV.undef :: (AV.undef :: (AV.undef :: (AV.undef :: [])))))))))))))))))))))))))))))))) ((1000000, (Ent.box ((SV.con (⟨39, (Ty.int Go.IntKind.i64).pair ((Ty.int Go.IntKind.i64).pair ((Ty.int Go.IntKind.i64).pair ((Ty.int Go.IntKind.i64).pair ((Ty.int Go.IntKind.i64).pair ((Ty.int Go.IntKind.i64).pair (Ty.bool.pair (Ty.str.pair (Ty.row (nat_lit 95) (Ty.str.pair (Ty.int Go.IntKind.i64)))))))))), x1⟩ : Rw)) :: []))) :: ((1000001, (Ent.box (SV.nil :: []))) :: ((1000002, (Ent.box ((SV.ref 1000003 0 [] Option.none) :: []))) :: ((1000003, (Ent.row (⟨39, (Ty.int Go.IntKind.i64).pair ((Ty.int Go.IntKind.i64).pair ((Ty.int Go.IntKind.i64).pair ((Ty.int Go.IntKind.i64).pair ((Ty.int Go.IntKind.i64).pair ((Ty.int Go.IntKind.i64).pair (Ty.bool.pair (Ty.str.pair (Ty.row (nat_lit 95) (Ty.str.pair (Ty.int Go.IntKind.i64)))))))))), x2⟩ : Rw) 0 Option.none)) :: [])))))
noncomputable def st68_top (n : Nat) (lL3 : Int → (List (Int × Int × Int × Int × Int × Int × Bool × ByteArray × List (ByteArray × Int))) → (List (Int × Int × Int × Int × Int × Int × Bool × ByteArray × List (ByteArray × Int))) → Option R68) (a : List (Int × Int × Int × Int × Int × Int × Bool × ByteArray × List (ByteArray × Int))) : Option R68 :=
  lL3 ((0 : Int)) (a) ([])
noncomputable def st68_L3 (n : Nat) (lL3 : Int → (List (Int × Int × Int × Int × Int × Int × Bool × ByteArray × List (ByteArray × Int))) → (List (Int × Int × Int × Int × Int × Int × Bool × ByteArray × List (ByteArray × Int))) → Option R68) (x0 : Int) (x1 : List (Int × Int × Int × Int × Int × Int × Bool × ByteArray × List (ByteArray × Int))) (x2 : List (Int × Int × Int × Int × Int × Int × Bool × ByteArray × List (ByteArray × Int))) : Option R68 :=
  cond (decide (x0 < (↑x1.length : Int))) (cond (decide ((0 : Int) ≤ x0)) (cond (decide (x0 < (↑x1.length : Int))) (cond (decide (((0 : Nat) + List.length (x1.getD x0.toNat ((0 : Int), (0 : Int), (0 : Int), (0 : Int), (0 : Int), (0 : Int), false, ByteArray.empty, [])).snd.snd.snd.snd.snd.snd.snd.snd) * (24 : Nat) ≤ (140737488355328 : Nat))) (cond (decide ((x2.length + [((x1.getD x0.toNat ((0 : Int), (0 : Int), (0 : Int), (0 : Int), (0 : Int), (0 : Int), false, ByteArray.empty, [])).fst, (x1.getD x0.toNat ((0 : Int), (0 : Int), (0 : Int), (0 : Int), (0 : Int), (0 : Int), false, ByteArray.empty, [])).snd.fst, (x1.getD x0.toNat ((0 : Int), (0 : Int), (0 : Int), (0 : Int), (0 : Int), (0 : Int), false, ByteArray.empty, [])).snd.snd.fst, (x1.getD x0.toNat ((0 : Int), (0 : Int), (0 : Int), (0 : Int), (0 : Int), (0 : Int), false, ByteArray.empty, [])).snd.snd.snd.fst, (x1.getD x0.toNat ((0 : Int), (0 : Int), (0 : Int), (0 : Int), (0 : Int), (0 : Int), false, ByteArray.empty, [])).snd.snd.snd.snd.fst, (x1.getD x0.toNat ((0 : Int), (0 : Int), (0 : Int), (0 : Int), (0 : Int), (0 : Int), false, ByteArray.empty, [])).snd.snd.snd.snd.snd.fst, (x1.getD x0.toNat ((0 : Int), (0 : Int), (0 : Int), (0 : Int), (0 : Int), (0 : Int), false, ByteArray.empty, [])).snd.snd.snd.snd.snd.snd.fst, (x1.getD x0.toNat ((0 : Int), (0 : Int), (0 : Int), (0 : Int), (0 : Int), (0 : Int), false, ByteArray.empty, [])).snd.snd.snd.snd.snd.snd.snd.fst, (x1.getD x0.toNat ((0 : Int), (0 : Int), (0 : Int), (0 : Int), (0 : Int), (0 : Int), false, ByteArray.empty, [])).snd.snd.snd.snd.snd.snd.snd.snd)].length) * (96 : Nat) ≤ (140737488355328 : Nat))) (lL3 (Go.IntKind.i64.wrap (x0 + (1 : Int))) (x1) (x2 ++ [((x1.getD x0.toNat ((0 : Int), (0 : Int), (0 : Int), (0 : Int), (0 : Int), (0 : Int), false, ByteArray.empty, [])).fst, (x1.getD x0.toNat ((0 : Int), (0 : Int), (0 : Int), (0 : Int), (0 : Int), (0 : Int), false, ByteArray.empty, [])).snd.fst, (x1.getD x0.toNat ((0 : Int), (0 : Int), (0 : Int), (0 : Int), (0 : Int), (0 : Int), false, ByteArray.empty, [])).snd.snd.fst, (x1.getD x0.toNat ((0 : Int), (0 : Int), (0 : Int), (0 : Int), (0 : Int), (0 : Int), false, ByteArray.empty, [])).snd.snd.snd.fst, (x1.getD x0.toNat ((0 : Int), (0 : Int), (0 : Int), (0 : Int), (0 : Int), (0 : Int), false, ByteArray.empty, [])).snd.snd.snd.snd.fst, (x1.getD x0.toNat ((0 : Int), (0 : Int), (0 : Int), (0 : Int), (0 : Int), (0 : Int), false, ByteArray.empty, [])).snd.snd.snd.snd.snd.fst, (x1.getD x0.toNat ((0 : Int), (0 : Int), (0 : Int), (0 : Int), (0 : Int), (0 : Int), false, ByteArray.empty, [])).snd.snd.snd.snd.snd.snd.fst, (x1.getD x0.toNat ((0 : Int), (0 : Int), (0 : Int), (0 : Int), (0 : Int), (0 : Int), false, ByteArray.empty, [])).snd.snd.snd.snd.snd.snd.snd.fst, (x1.getD x0.toNat ((0 : Int), (0 : Int), (0 : Int), (0 : Int), (0 : Int), (0 : Int), false, ByteArray.empty, [])).snd.snd.snd.snd.snd.snd.snd.snd)])) (none)) (none)) (none)) (none)) (some ((x2, ()), ()))
theorem e68_top (n : Nat) (a : List (Int × Int × Int × Int × Int × Int × Bool × ByteArray × List (ByteArray × Int))) : runF TT G68 an68 Try.f68 c68 ps68 rs68 n (a, ()) = st68_top n (fun x0 x1 x2 => at68 n (.head 3) [n] (sh68_L3 x0 x1 x2)) a := by kernel_rfl
theorem e68_L3_0 (n : Nat) (x0 : Int) (x1 : List (Int × Int × Int × Int × Int × Int × Bool × ByteArray × List (ByteArray × Int))) (x2 : List (Int × Int × Int × Int × Int × Int × Bool × ByteArray × List (ByteArray × Int))) : at68 n (.head 3) [0] (sh68_L3 x0 x1 x2) = none := by kernel_rfl
theorem e68_L3 (n : Nat) (m3 : Nat) (x0 : Int) (x1 : List (Int × Int × Int × Int × Int × Int × Bool × ByteArray × List (ByteArray × Int))) (x2 : List (Int × Int × Int × Int × Int × Int × Bool × ByteArray × List (ByteArray × Int))) : at68 n (.head 3) [m3 + 1] (sh68_L3 x0 x1 x2) = st68_L3 n (fun x0 x1 x2 => at68 n (.head 3) [m3] (sh68_L3 x0 x1 x2)) x0 x1 x2 := by kernel_rfl
noncomputable def p68_L3 (n : Nat) : Nat → Int → (List (Int × Int × Int × Int × Int × Int × Bool × ByteArray × List (ByteArray × Int))) → (List (Int × Int × Int × Int × Int × Int × Bool × ByteArray × List (ByteArray × Int))) → Option R68
  | 0, _, _, _ => none
  | m + 1, x0, x1, x2 => st68_L3 n (p68_L3 n m) x0 x1 x2
noncomputable def p68 (n : Nat) (a : List (Int × Int × Int × Int × Int × Int × Bool × ByteArray × List (ByteArray × Int))) : Option R68 := st68_top n (p68_L3 n n) a
theorem t68_L3 (n : Nat) : ∀ (m3 : Nat) (x0 : Int) (x1 : List (Int × Int × Int × Int × Int × Int × Bool × ByteArray × List (ByteArray × Int))) (x2 : List (Int × Int × Int × Int × Int × Int × Bool × ByteArray × List (ByteArray × Int))), at68 n (.head 3) [m3] (sh68_L3 x0 x1 x2) = p68_L3 n m3 x0 x1 x2 := by
  intro m
  induction m with
  | zero => intros; rw [e68_L3_0]; rfl
  | succ m ih =>
    intros
    rw [e68_L3]
    try simp only [ih]
    rfl
theorem F68_eq (n : Nat) (a : List (Int × Int × Int × Int × Int × Int × Bool × ByteArray × List (ByteArray × Int))) : runF TT G68 an68 Try.f68 c68 ps68 rs68 n (a, ()) = p68 n a := by
  rw [e68_top]
  simp only [t68_L3]
  try rfl
noncomputable def q68 (n : Nat) (x : argsD ps68) : Option R68 := p68 n x.1
noncomputable def Sm68 : Sm := ⟨ps68, rs68, false, q68⟩
theorem holds68 (hg : GamOK Try.prog G68) : Holds Try.prog 68 Sm68 := by
  have := h0_68 hg
  have e : (runF TT G68 an68 Try.f68 c68 ps68 rs68) = q68 := by
    funext n x
    exact F68_eq n x.1
  rw [e] at this
  exact this
theorem gam68 : GamOK Try.prog G68 := fun _ _ h => by cases h
theorem hh68 : Holds Try.prog 68 Sm68 := holds68 gam68
end Go.Proofs.Ythhopbicmaipgaa.Rx.S
namespace Go.Proofs.Ythhopbicmaipgaa.Rx.S
open Go Go.RowKit Go.Proofs
set_option maxRecDepth 100000
noncomputable def c81 : Code := (Try.f81.body.getD .skip)
def an81 : An := ⟨fun r => match r with | 8 => ⟨[1, 2, 3, 4, 8, 10], []⟩ | _ => ⟨[], []⟩, fun _ _ => none⟩
abbrev ps81 : List PK := [.own tFs true, .val i64 false, .val i64 false, .val .str false]
abbrev rs81 : List RK := [.own tFs true, .val i64 false]
abbrev R81 := retsD rs81 × outsD ps81
noncomputable def G81 : Gam := fun _ => none
theorem h0_81 (hg : GamOK Try.prog G81) : Holds Try.prog 81 ⟨ps81, rs81, false, runF TT G81 an81 Try.f81 c81 ps81 rs81⟩ := holds_of tt_ok hg mixed Try.func81 (by kernel_rfl) (by rfl) (by decide +kernel)
noncomputable def at81 : Nat → Pt → List Nat → St → Option R81 := atF TT G81 an81 Try.f81 c81 _ _
def sh81_L8 (x0 : Int) (x1 : Int) (x2 : ByteArray) (x3 : ByteArray) (x4 : List (Int × Int × Int × Int × Int × Int × Bool × ByteArray × List (ByteArray × Int))) : St := (St.mk (AV.undef :: ((AV.one (SV.int (Go.IntKind.i64) x0)) :: ((AV.one (SV.int (Go.IntKind.i64) x1)) :: ((AV.one (SV.str x2)) :: ((AV.one (SV.bptr 1000000 0)) :: (AV.undef :: (AV.undef :: (AV.undef :: ((AV.one (SV.bptr 1000001 0)) :: (AV.undef :: ((AV.one (SV.str x3)) :: (AV.undef :: (AV.undef :: (AV.undef :: (AV.undef :: (AV.undef :: (AV.undef :: (AV.undef :: (AV.undef :: (AV.undef :: (AV.undef :: (AV.undef :: (AV.undef :: (AV.undef :: (AV.undef :: (AV.undef :: (AV.undef :: (AV.undef :: (AV.undef :: (AV.undef :: (AV.undef :: (AV.undef :: (AV.undef :: (AV.undef :: (AV.undef :: (AV.undef :: (AV.undef :: (AV.undef :: (AV.undef :: (AV.undef :: (AV.undef :: (AV.undef :: (AV.undef :: (AV.undef :: (AV.undef :: (AV.undef :: (AV.undef :: (AV.undef :: (AV.undef :: (AV.undef :: (AV.undef :: (AV.undef :: (AV.undef :: (AV.undef :: (AV.undef :: (AV.undef :: (AV.undef :: (AV.undef :: (AV.undef :: (AV.undef :: (AV.undef :: (AV.undef :: (AV.undef :: (AV.undef :: (AV.undef :: (AV.undef :: (AV.undef :: (AV.undef :: (AV.undef :: (AV.undef :: [])))))))))))))))))))))))))))))))))))))))))))))))))))))))))))))))))))))) ((1000000, (Ent.box ((SV.ref 1000002 0 [] Option.none) :: []))) :: ((1000001, (Ent.box (SV.nil :: []))) :: ((1000002, (Ent.row (⟨39, (Ty.int Go.IntKind.i64).pair ((Ty.int Go.IntKind.i64).pair ((Ty.int Go.IntKind.i64).pair ((Ty.int Go.IntKind.i64).pair ((Ty.int Go.IntKind.i64).pair ((Ty.int Go.IntKind.i64).pair (Ty.bool.pair (Ty.str.pair (Ty.row (nat_lit 95) (Ty.str.pair (Ty.int Go.IntKind.i64)))))))))), x4⟩ : Rw) 0 Option.none)) :: []))))
noncomputable def st81_top (n : Nat) (lL8 : Int → Int → ByteArray → ByteArray → (List (Int × Int × Int × Int × Int × Int × Bool × ByteArray × List (ByteArray × Int))) → Option R81) (a : List (Int × Int × Int × Int × Int × Int × Bool × ByteArray × List (ByteArray × Int))) (b : Int) (c : Int) (d : ByteArray) : Option R81 :=
  cond (decide ((0 : Int) ≤ b)) (cond (decide (b < (↑a.length : Int))) (cond (decide ((0 : Int) ≤ b)) (cond (decide (b < (↑a.length : Int))) (cond (!decide ((a.getD b.toNat ((0 : Int), (0 : Int), (0 : Int), (0 : Int), (0 : Int), (0 : Int), false, ByteArray.empty, [])).fst = (1 : Int))) (some ((a, ((4 : Int), ())), ())) (cond (decide ((40 : Int) < c)) (some ((a, ((7 : Int), ())), ())) (cond (decide ((40 : Int) < Go.IntKind.i64.wrap (c + (↑d.size : Int)))) (some ((a, ((7 : Int), ())), ())) (cond (d.toList == (ByteArray.mk #[]).toList) (some ((a, ((0 : Int), ())), ())) (lL8 (b) (c) (d) ((a.getD b.toNat ((0 : Int), (0 : Int), (0 : Int), (0 : Int), (0 : Int), (0 : Int), false, ByteArray.empty, [])).snd.snd.snd.snd.snd.snd.snd.fst) (a)))))) (none)) (none)) (none)) (none)
noncomputable def st81_L8 (n : Nat) (lL8 : Int → Int → ByteArray → ByteArray → (List (Int × Int × Int × Int × Int × Int × Bool × ByteArray × List (ByteArray × Int))) → Option R81) (x0 : Int) (x1 : Int) (x2 : ByteArray) (x3 : ByteArray) (x4 : List (Int × Int × Int × Int × Int × Int × Bool × ByteArray × List (ByteArray × Int))) : Option R81 :=
  cond (decide ((↑x3.size : Int) < x1)) (cond (decide (x3.size + (List.foldl (fun r n => r.push (UInt8.ofNat n.toNat)) ByteArray.empty [(0 : Int)]).size ≤ (9223372036854775807 : Nat))) (lL8 (x0) (x1) (x2) (x3 ++ List.foldl (fun r n => r.push (UInt8.ofNat n.toNat)) ByteArray.empty [(0 : Int)]) (x4)) (none)) (cond (decide ((0 : Int) ≤ x1)) (cond (decide (x1 ≤ (↑x3.size : Int))) (cond (decide ((x3.extract (Int.toNat (0 : Int)) x1.toNat).size + x2.size ≤ (9223372036854775807 : Nat))) (cond (decide ((0 : Int) ≤ if Go.IntKind.i64.wrap (x1 + (↑x2.size : Int)) < (↑x3.size : Int) then Go.IntKind.i64.wrap (x1 + (↑x2.size : Int)) else (↑x3.size : Int))) (cond (decide ((if Go.IntKind.i64.wrap (x1 + (↑x2.size : Int)) < (↑x3.size : Int) then Go.IntKind.i64.wrap (x1 + (↑x2.size : Int)) else (↑x3.size : Int)) ≤ (↑x3.size : Int))) (cond (decide ((x3.extract (Int.toNat (0 : Int)) x1.toNat ++ x2).size + (x3.extract (if Go.IntKind.i64.wrap (x1 + (↑x2.size : Int)) < (↑x3.size : Int) then Go.IntKind.i64.wrap (x1 + (↑x2.size : Int)) else (↑x3.size : Int)).toNat (↑x3.size : Int).toNat).size ≤ (9223372036854775807 : Nat))) (cond (decide ((0 : Int) ≤ x0)) (cond (decide (x0 < (↑x4.length : Int))) (some ((x4.set x0.toNat ((x4.getD x0.toNat ((0 : Int), (0 : Int), (0 : Int), (0 : Int), (0 : Int), (0 : Int), false, ByteArray.empty, [])).fst, (x4.getD x0.toNat ((0 : Int), (0 : Int), (0 : Int), (0 : Int), (0 : Int), (0 : Int), false, ByteArray.empty, [])).snd.fst, (x4.getD x0.toNat ((0 : Int), (0 : Int), (0 : Int), (0 : Int), (0 : Int), (0 : Int), false, ByteArray.empty, [])).snd.snd.fst, (x4.getD x0.toNat ((0 : Int), (0 : Int), (0 : Int), (0 : Int), (0 : Int), (0 : Int), false, ByteArray.empty, [])).snd.snd.snd.fst, (x4.getD x0.toNat ((0 : Int), (0 : Int), (0 : Int), (0 : Int), (0 : Int), (0 : Int), false, ByteArray.empty, [])).snd.snd.snd.snd.fst, (x4.getD x0.toNat ((0 : Int), (0 : Int), (0 : Int), (0 : Int), (0 : Int), (0 : Int), false, ByteArray.empty, [])).snd.snd.snd.snd.snd.fst, (x4.getD x0.toNat ((0 : Int), (0 : Int), (0 : Int), (0 : Int), (0 : Int), (0 : Int), false, ByteArray.empty, [])).snd.snd.snd.snd.snd.snd.fst, x3.extract (Int.toNat (0 : Int)) x1.toNat ++ x2 ++ x3.extract (if Go.IntKind.i64.wrap (x1 + (↑x2.size : Int)) < (↑x3.size : Int) then Go.IntKind.i64.wrap (x1 + (↑x2.size : Int)) else (↑x3.size : Int)).toNat (↑x3.size : Int).toNat, (x4.getD x0.toNat ((0 : Int), (0 : Int), (0 : Int), (0 : Int), (0 : Int), (0 : Int), false, ByteArray.empty, [])).snd.snd.snd.snd.snd.snd.snd.snd), ((0 : Int), ())), ())) (none)) (none)) (none)) (none)) (none)) (none)) (none)) (none))
theorem e81_top (n : Nat) (a : List (Int × Int × Int × Int × Int × Int × Bool × ByteArray × List (ByteArray × Int))) (b : Int) (c : Int) (d : ByteArray) : runF TT G81 an81 Try.f81 c81 ps81 rs81 n (a, b, c, d, ()) = st81_top n (fun x0 x1 x2 x3 x4 => at81 n (.head 8) [n] (sh81_L8 x0 x1 x2 x3 x4)) a b c d := by kernel_rfl
theorem e81_L8_0 (n : Nat) (x0 : Int) (x1 : Int) (x2 : ByteArray) (x3 : ByteArray) (x4 : List (Int × Int × Int × Int × Int × Int × Bool × ByteArray × List (ByteArray × Int))) : at81 n (.head 8) [0] (sh81_L8 x0 x1 x2 x3 x4) = none := by kernel_rfl
theorem e81_L8 (n : Nat) (m8 : Nat) (x0 : Int) (x1 : Int) (x2 : ByteArray) (x3 : ByteArray) (x4 : List (Int × Int × Int × Int × Int × Int × Bool × ByteArray × List (ByteArray × Int))) : at81 n (.head 8) [m8 + 1] (sh81_L8 x0 x1 x2 x3 x4) = st81_L8 n (fun x0 x1 x2 x3 x4 => at81 n (.head 8) [m8] (sh81_L8 x0 x1 x2 x3 x4)) x0 x1 x2 x3 x4 := by kernel_rfl
noncomputable def p81_L8 (n : Nat) : Nat → Int → Int → ByteArray → ByteArray → (List (Int × Int × Int × Int × Int × Int × Bool × ByteArray × List (ByteArray × Int))) → Option R81
  | 0, _, _, _, _, _ => none
  | m + 1, x0, x1, x2, x3, x4 => st81_L8 n (p81_L8 n m) x0 x1 x2 x3 x4
noncomputable def p81 (n : Nat) (a : List (Int × Int × Int × Int × Int × Int × Bool × ByteArray × List (ByteArray × Int))) (b : Int) (c : Int) (d : ByteArray) : Option R81 := st81_top n (p81_L8 n n) a b c d
theorem t81_L8 (n : Nat) : ∀ (m8 : Nat) (x0 : Int) (x1 : Int) (x2 : ByteArray) (x3 : ByteArray) (x4 : List (Int × Int × Int × Int × Int × Int × Bool × ByteArray × List (ByteArray × Int))), at81 n (.head 8) [m8] (sh81_L8 x0 x1 x2 x3 x4) = p81_L8 n m8 x0 x1 x2 x3 x4 := by
  intro m
  induction m with
  | zero => intros; rw [e81_L8_0]; rfl
  | succ m ih =>
    intros
    rw [e81_L8]
    try simp only [ih]
    rfl
theorem F81_eq (n : Nat) (a : List (Int × Int × Int × Int × Int × Int × Bool × ByteArray × List (ByteArray × Int))) (b : Int) (c : Int) (d : ByteArray) : runF TT G81 an81 Try.f81 c81 ps81 rs81 n (a, b, c, d, ()) = p81 n a b c d := by
  rw [e81_top]
  simp only [t81_L8]
  try rfl
noncomputable def q81 (n : Nat) (x : argsD ps81) : Option R81 := p81 n x.1 x.2.1 x.2.2.1 x.2.2.2.1
noncomputable def Sm81 : Sm := ⟨ps81, rs81, false, q81⟩
theorem holds81 (hg : GamOK Try.prog G81) : Holds Try.prog 81 Sm81 := by
  have := h0_81 hg
  have e : (runF TT G81 an81 Try.f81 c81 ps81 rs81) = q81 := by
    funext n x
    exact F81_eq n x.1 x.2.1 x.2.2.1 x.2.2.2.1
  rw [e] at this
  exact this
theorem gam81 : GamOK Try.prog G81 := fun _ _ h => by cases h
theorem hh81 : Holds Try.prog 81 Sm81 := holds81 gam81
end Go.Proofs.Ythhopbicmaipgaa.Rx.S
namespace Go.Proofs.Ythhopbicmaipgaa.Rx.S
open Go Go.RowKit Go.Proofs
set_option maxRecDepth 100000
noncomputable def c30 : Code := (Try.f30.body.getD .skip)
def an30 : An := ⟨fun _ => ⟨[], []⟩, fun _ _ => none⟩
abbrev ps30 : List PK := [.val tFs true, .val i64 false, .val i64 false, .val .str false]
abbrev rs30 : List RK := [.own tFs true, .val i64 false]
abbrev R30 := retsD rs30 × outsD ps30
noncomputable def G30 : Gam := fun f => match f with | 62 => some Sm62 | 64 => some Sm64 | 68 => some Sm68 | 81 => some Sm81 | _ => none
theorem h0_30 (hg : GamOK Try.prog G30) : Holds Try.prog 30 ⟨ps30, rs30, false, runF TT G30 an30 Try.f30 c30 ps30 rs30⟩ := holds_of tt_ok hg mixed Try.func30 (by kernel_rfl) (by rfl) (by decide +kernel)
noncomputable def at30 : Nat → Pt → List Nat → St → Option R30 := atF TT G30 an30 Try.f30 c30 _ _
noncomputable def st30_top (n : Nat) (a : List (Int × Int × Int × Int × Int × Int × Bool × ByteArray × List (ByteArray × Int))) (b : Int) (c : Int) (d : ByteArray) : Option R30 :=
  (q62 n (a, ())).bind fun r0 => cond (!r0.fst.fst) (some (([], ((1 : Int), ())), ())) ((q64 n (a, b, ())).bind fun r1 => cond (!r1.fst.fst) (some (([], ((1 : Int), ())), ())) (cond (decide (c < (0 : Int))) (some (([], ((1 : Int), ())), ())) ((q68 n (a, ())).bind fun r2 => (q81 n (r2.fst.fst, b, c, d, ())).bind fun r3 => some ((r3.fst.fst, (r3.fst.snd.fst, ())), ()))))
theorem e30_top (n : Nat) (a : List (Int × Int × Int × Int × Int × Int × Bool × ByteArray × List (ByteArray × Int))) (b : Int) (c : Int) (d : ByteArray) : runF TT G30 an30 Try.f30 c30 ps30 rs30 n (a, b, c, d, ()) = st30_top n a b c d := by kernel_rfl
noncomputable def p30 (n : Nat) (a : List (Int × Int × Int × Int × Int × Int × Bool × ByteArray × List (ByteArray × Int))) (b : Int) (c : Int) (d : ByteArray) : Option R30 := st30_top n a b c d
theorem F30_eq (n : Nat) (a : List (Int × Int × Int × Int × Int × Int × Bool × ByteArray × List (ByteArray × Int))) (b : Int) (c : Int) (d : ByteArray) : runF TT G30 an30 Try.f30 c30 ps30 rs30 n (a, b, c, d, ()) = p30 n a b c d := by
  rw [e30_top]
  skip
  try rfl
noncomputable def q30 (n : Nat) (x : argsD ps30) : Option R30 := p30 n x.1 x.2.1 x.2.2.1 x.2.2.2.1
noncomputable def Sm30 : Sm := ⟨ps30, rs30, false, q30⟩
theorem holds30 (hg : GamOK Try.prog G30) : Holds Try.prog 30 Sm30 := by
  have := h0_30 hg
  have e : (runF TT G30 an30 Try.f30 c30 ps30 rs30) = q30 := by
    funext n x
    exact F30_eq n x.1 x.2.1 x.2.2.1 x.2.2.2.1
  rw [e] at this
  exact this
theorem gam30 : GamOK Try.prog G30 := by
  intro f s h
  unfold G30 at h
  split at h
  · injection h with h; subst h; exact ⟨⟨Try.f62, c62, Try.func62, by kernel_rfl, by decide +kernel⟩, hh62⟩
  · injection h with h; subst h; exact ⟨⟨Try.f64, c64, Try.func64, by kernel_rfl, by decide +kernel⟩, hh64⟩
  · injection h with h; subst h; exact ⟨⟨Try.f68, c68, Try.func68, by kernel_rfl, by decide +kernel⟩, hh68⟩
  · injection h with h; subst h; exact ⟨⟨Try.f81, c81, Try.func81, by kernel_rfl, by decide +kernel⟩, hh81⟩
  · cases h
theorem hh30 : Holds Try.prog 30 Sm30 := holds30 gam30
end Go.Proofs.Ythhopbicmaipgaa.Rx.S
namespace Go.Proofs.Ythhopbicmaipgaa.Rx.S
open Go Go.RowKit Go.Proofs
set_option maxRecDepth 100000
noncomputable def c93 : Code := (Try.f93.body.getD .skip)
abbrev ps93 : List PK := [.val (.row 39 (tIn 95)) false]
abbrev rs93 : List RK := [.half 39 (tIn 95) 8]
abbrev R93 := retsD rs93 × outsD ps93
noncomputable def p93 (n : Nat) (a : List (Int × Int × Int × Int × Int × Int × Bool × ByteArray × List (ByteArray × Int))) : Option R93 := cond (decide (a.length * (96 : Nat) ≤ (140737488355328 : Nat))) (some ((a, ()), ())) none
noncomputable def q93 (n : Nat) (x : argsD ps93) : Option R93 := p93 n x.1
noncomputable def Sm93 : Sm := ⟨ps93, rs93, true, q93⟩
noncomputable def S0_93 (n : Nat) (xs : List (Int × Int × Int × Int × Int × Int × Bool × ByteArray × List (ByteArray × Int))) : St := (initS Try.f93.ntmps ps93 (xs, ())).put (some 2) (.one .nil)
noncomputable def S1_93 (n : Nat) (xs : List (Int × Int × Int × Int × Int × Int × Bool × ByteArray × List (ByteArray × Int))) : St := (S0_93 n xs).put (some 3) (.one (.con ⟨39, (tIn 95), xs⟩))
theorem gam0_93 : GamOK Try.prog (fun _ => none) := fun f s h => by cases h
theorem hh93 : Holds Try.prog 93 Sm93 := by
  refine holds_nilq tt_ok gam0_93 mixed (an := ⟨fun _ => ⟨[], []⟩, fun _ _ => none⟩) Try.func93 (by rfl) rfl (by first | exact Try.underlying23 | kernel_rfl) (by decide +kernel) S0_93 (fun n xs => by kernel_rfl) S1_93 (fun n xs => by kernel_rfl) (fun n xs => rfl) (fun n xs b => by kernel_rfl) (fun n y h => ?_) (fun n xs y h => ?_)
  · have h' : some (([], ()), ()) = some y := h
    refine Eq.trans ?_ h'
    kernel_rfl
  · have h' : cond (decide (xs.length * (96 : Nat) ≤ (140737488355328 : Nat))) (some ((xs, ()), ())) none = some y := h
    refine Eq.trans ?_ h'
    kernel_rfl
end Go.Proofs.Ythhopbicmaipgaa.Rx.S
namespace Go.Proofs.Ythhopbicmaipgaa.Rx.S
open Go Go.RowKit Go.Proofs
set_option maxRecDepth 100000
noncomputable def c94 : Code := (Try.f94.body.getD .skip)
abbrev ps94 : List PK := [.val (.row 95 tEn) false]
abbrev rs94 : List RK := [.own (.row 95 tEn) false]
abbrev R94 := retsD rs94 × outsD ps94
noncomputable def p94 (n : Nat) (a : List (ByteArray × Int)) : Option R94 := cond (decide ((0 + a.length) * (24 : Nat) ≤ (140737488355328 : Nat))) (some ((a, ()), ())) none
noncomputable def q94 (n : Nat) (x : argsD ps94) : Option R94 := p94 n x.1
noncomputable def Sm94 : Sm := ⟨ps94, rs94, false, q94⟩
noncomputable def S0_94 (n : Nat) (xs : List (ByteArray × Int)) : St := (initS Try.f94.ntmps ps94 (xs, ())).put (some 2) (.one .nil)
noncomputable def S1_94 (n : Nat) (xs : List (ByteArray × Int)) : St := (S0_94 n xs).put (some 3) (.one (.con ⟨95, tEn, xs⟩))
theorem gam0_94 : GamOK Try.prog (fun _ => none) := fun f s h => by cases h
theorem hh94 : Holds Try.prog 94 Sm94 := by
  refine holds_nilq tt_ok gam0_94 mixed (an := ⟨fun _ => ⟨[], []⟩, fun _ _ => none⟩) Try.func94 (by rfl) rfl (by first | exact Try.underlying37 | kernel_rfl) (by decide +kernel) S0_94 (fun n xs => by kernel_rfl) S1_94 (fun n xs => by kernel_rfl) (fun n xs => rfl) (fun n xs b => by kernel_rfl) (fun n y h => ?_) (fun n xs y h => ?_)
  · have h' : some (([], ()), ()) = some y := h
    refine Eq.trans ?_ h'
    kernel_rfl
  · have h' : cond (decide ((0 + xs.length) * (24 : Nat) ≤ (140737488355328 : Nat))) (some ((xs, ()), ())) none = some y := h
    refine Eq.trans ?_ h'
    kernel_rfl
end Go.Proofs.Ythhopbicmaipgaa.Rx.S
namespace Go.Proofs.Ythhopbicmaipgaa.Rx.S
open Go Go.RowKit Go.Proofs
set_option maxRecDepth 100000
noncomputable def c56 : Code := (Try.f56.body.getD .skip)
def an56 : An := ⟨fun r => match r with | 3 => ⟨[2, 3, 11, 12], []⟩ | _ => ⟨[], []⟩, fun _ _ => none⟩
abbrev ps56 : List PK := [.val tFs true]
abbrev rs56 : List RK := [.own tFs true]
abbrev R56 := retsD rs56 × outsD ps56
noncomputable def G56 : Gam := fun f => match f with | 93 => some Sm93 | 94 => some Sm94 | _ => none
theorem h0_56 (hg : GamOK Try.prog G56) : Holds Try.prog 56 ⟨ps56, rs56, false, runF TT G56 an56 Try.f56 c56 ps56 rs56⟩ := holds_of tt_ok hg mixed Try.func56 (by kernel_rfl) (by rfl) (by decide +kernel)
noncomputable def at56 : Nat → Pt → List Nat → St → Option R56 := atF TT G56 an56 Try.f56 c56 _ _
def sh56_L3 (x0 : Int) (x1 : Int) (x2 : List (Int × Int × Int × Int × Int × Int × Bool × ByteArray × List (ByteArray × Int))) (x3 : Int) : St := (St.mk (AV.undef :: (AV.undef :: ((AV.one (SV.bptr 1000000 0)) :: ((AV.one (SV.bptr 1000001 0)) :: (AV.undef :: (AV.undef :: (AV.undef :: (AV.undef :: (AV.undef :: (AV.undef :: (AV.undef :: ((AV.one (SV.int (Go.IntKind.i64) x0)) :: ((AV.one (SV.int (Go.IntKind.i64) x1)) :: (AV.undef :: (AV.undef :: (AV.undef :: (AV.undef :: (AV.undef :: (AV.undef :: (AV.undef :: (AV.undef :: (AV.undef :: (AV.undef :: (AV.undef :: (AV.undef :: (AV.undef :: (AV.undef :: (AV.undef :: (AV.undef :: []))))))))))))))))))))))))))))) ((1000000, (Ent.box (SV.nil :: []))) :: ((1000001, (Ent.box ((SV.ref 1000002 0 [] Option.none) :: []))) :: ((1000002, (Ent.half (⟨39, (Ty.int Go.IntKind.i64).pair ((Ty.int Go.IntKind.i64).pair ((Ty.int Go.IntKind.i64).pair ((Ty.int Go.IntKind.i64).pair ((Ty.int Go.IntKind.i64).pair ((Ty.int Go.IntKind.i64).pair (Ty.bool.pair (Ty.str.pair (Ty.row (nat_lit 95) (Ty.str.pair (Ty.int Go.IntKind.i64)))))))))), x2⟩ : Rw) x3 8)) :: []))))
noncomputable def st56_top (n : Nat) (lL3 : Int → Int → (List (Int × Int × Int × Int × Int × Int × Bool × ByteArray × List (ByteArray × Int))) → Int → Option R56) (a : List (Int × Int × Int × Int × Int × Int × Bool × ByteArray × List (ByteArray × Int))) : Option R56 :=
  (q93 n (a, ())).bind fun r0 => lL3 ((↑(List.length r0.fst.fst) : Int)) ((0 : Int)) (r0.fst.fst) ((0 : Int))
noncomputable def st56_L3 (n : Nat) (lL3 : Int → Int → (List (Int × Int × Int × Int × Int × Int × Bool × ByteArray × List (ByteArray × Int))) → Int → Option R56) (x0 : Int) (x1 : Int) (x2 : List (Int × Int × Int × Int × Int × Int × Bool × ByteArray × List (ByteArray × Int))) (x3 : Int) : Option R56 :=
  cond (decide (x1 < x0)) (cond (decide ((0 : Int) ≤ x1)) (cond (decide (x1 < (↑x2.length : Int))) (cond (decide (x3 ≤ (↑x1.toNat : Int))) ((q94 n ((x2.getD x1.toNat ((0 : Int), (0 : Int), (0 : Int), (0 : Int), (0 : Int), (0 : Int), false, ByteArray.empty, [])).snd.snd.snd.snd.snd.snd.snd.snd, ())).bind fun r2 => cond (decide ((0 : Int) ≤ x1)) (cond (decide (x1 < (↑x2.length : Int))) (cond (decide (x3 = (↑x1.toNat : Int))) (lL3 (x0) (Go.IntKind.i64.wrap (x1 + (1 : Int))) (x2.set x1.toNat ((x2.getD x1.toNat ((0 : Int), (0 : Int), (0 : Int), (0 : Int), (0 : Int), (0 : Int), false, ByteArray.empty, [])).fst, (x2.getD x1.toNat ((0 : Int), (0 : Int), (0 : Int), (0 : Int), (0 : Int), (0 : Int), false, ByteArray.empty, [])).snd.fst, (x2.getD x1.toNat ((0 : Int), (0 : Int), (0 : Int), (0 : Int), (0 : Int), (0 : Int), false, ByteArray.empty, [])).snd.snd.fst, (x2.getD x1.toNat ((0 : Int), (0 : Int), (0 : Int), (0 : Int), (0 : Int), (0 : Int), false, ByteArray.empty, [])).snd.snd.snd.fst, (x2.getD x1.toNat ((0 : Int), (0 : Int), (0 : Int), (0 : Int), (0 : Int), (0 : Int), false, ByteArray.empty, [])).snd.snd.snd.snd.fst, (x2.getD x1.toNat ((0 : Int), (0 : Int), (0 : Int), (0 : Int), (0 : Int), (0 : Int), false, ByteArray.empty, [])).snd.snd.snd.snd.snd.fst, (x2.getD x1.toNat ((0 : Int), (0 : Int), (0 : Int), (0 : Int), (0 : Int), (0 : Int), false, ByteArray.empty, [])).snd.snd.snd.snd.snd.snd.fst, (x2.getD x1.toNat ((0 : Int), (0 : Int), (0 : Int), (0 : Int), (0 : Int), (0 : Int), false, ByteArray.empty, [])).snd.snd.snd.snd.snd.snd.snd.fst, r2.fst.fst)) (x3 + (1 : Int))) (none)) (none)) (none)) (none)) (none)) (none)) (cond (decide ((↑x2.length : Int) ≤ x3)) (some ((x2, ()), ())) (none))
theorem e56_top (n : Nat) (a : List (Int × Int × Int × Int × Int × Int × Bool × ByteArray × List (ByteArray × Int))) : runF TT G56 an56 Try.f56 c56 ps56 rs56 n (a, ()) = st56_top n (fun x0 x1 x2 x3 => at56 n (.head 3) [n] (sh56_L3 x0 x1 x2 x3)) a := by kernel_rfl
theorem e56_L3_0 (n : Nat) (x0 : Int) (x1 : Int) (x2 : List (Int × Int × Int × Int × Int × Int × Bool × ByteArray × List (ByteArray × Int))) (x3 : Int) : at56 n (.head 3) [0] (sh56_L3 x0 x1 x2 x3) = none := by kernel_rfl
theorem e56_L3 (n : Nat) (m3 : Nat) (x0 : Int) (x1 : Int) (x2 : List (Int × Int × Int × Int × Int × Int × Bool × ByteArray × List (ByteArray × Int))) (x3 : Int) : at56 n (.head 3) [m3 + 1] (sh56_L3 x0 x1 x2 x3) = st56_L3 n (fun x0 x1 x2 x3 => at56 n (.head 3) [m3] (sh56_L3 x0 x1 x2 x3)) x0 x1 x2 x3 := by kernel_rfl
noncomputable def p56_L3 (n : Nat) : Nat → Int → Int → (List (Int × Int × Int × Int × Int × Int × Bool × ByteArray × List (ByteArray × Int))) → Int → Option R56
  | 0, _, _, _, _ => none
  | m + 1, x0, x1, x2, x3 => st56_L3 n (p56_L3 n m) x0 x1 x2 x3
noncomputable def p56 (n : Nat) (a : List (Int × Int × Int × Int × Int × Int × Bool × ByteArray × List (ByteArray × Int))) : Option R56 := st56_top n (p56_L3 n n) a
theorem t56_L3 (n : Nat) : ∀ (m3 : Nat) (x0 : Int) (x1 : Int) (x2 : List (Int × Int × Int × Int × Int × Int × Bool × ByteArray × List (ByteArray × Int))) (x3 : Int), at56 n (.head 3) [m3] (sh56_L3 x0 x1 x2 x3) = p56_L3 n m3 x0 x1 x2 x3 := by
  intro m
  induction m with
  | zero => intros; rw [e56_L3_0]; rfl
  | succ m ih =>
    intros
    rw [e56_L3]
    try simp only [ih]
    rfl
theorem F56_eq (n : Nat) (a : List (Int × Int × Int × Int × Int × Int × Bool × ByteArray × List (ByteArray × Int))) : runF TT G56 an56 Try.f56 c56 ps56 rs56 n (a, ()) = p56 n a := by
  rw [e56_top]
  simp only [t56_L3]
  try rfl
noncomputable def q56 (n : Nat) (x : argsD ps56) : Option R56 := p56 n x.1
noncomputable def Sm56 : Sm := ⟨ps56, rs56, false, q56⟩
theorem holds56 (hg : GamOK Try.prog G56) : Holds Try.prog 56 Sm56 := by
  have := h0_56 hg
  have e : (runF TT G56 an56 Try.f56 c56 ps56 rs56) = q56 := by
    funext n x
    exact F56_eq n x.1
  rw [e] at this
  exact this
theorem gam56 : GamOK Try.prog G56 := by
  intro f s h
  unfold G56 at h
  split at h
  · injection h with h; subst h; exact ⟨⟨Try.f93, c93, Try.func93, by kernel_rfl, by decide +kernel⟩, hh93⟩
  · injection h with h; subst h; exact ⟨⟨Try.f94, c94, Try.func94, by kernel_rfl, by decide +kernel⟩, hh94⟩
  · cases h
theorem hh56 : Holds Try.prog 56 Sm56 := holds56 gam56
end Go.Proofs.Ythhopbicmaipgaa.Rx.S
namespace Go.Proofs.Ythhopbicmaipgaa.Rx.S
open Go Go.RowKit Go.Proofs
set_option maxRecDepth 100000
noncomputable def c82 : Code := (Try.f82.body.getD .skip)
def an82 : An := ⟨fun _ => ⟨[], []⟩, fun _ _ => none⟩
abbrev ps82 : List PK := [.val tFs true, .val i64 false]
abbrev rs82 : List RK := [.val .bool false]
abbrev R82 := retsD rs82 × outsD ps82
noncomputable def G82 : Gam := fun f => match f with | 55 => some Sm55 | _ => none
theorem h0_82 (hg : GamOK Try.prog G82) : Holds Try.prog 82 ⟨ps82, rs82, false, runF TT G82 an82 Try.f82 c82 ps82 rs82⟩ := holds_of tt_ok hg mixed Try.func82 (by kernel_rfl) (by rfl) (by decide +kernel)
noncomputable def at82 : Nat → Pt → List Nat → St → Option R82 := atF TT G82 an82 Try.f82 c82 _ _
noncomputable def st82_top (n : Nat) (a : List (Int × Int × Int × Int × Int × Int × Bool × ByteArray × List (ByteArray × Int))) (b : Int) : Option R82 :=
  (q55 n (b, (0 : Int), Go.IntKind.i64.wrap ((↑a.length : Int) - (1 : Int)), ())).bind fun r0 => cond (r0.fst.fst) (cond (decide ((0 : Int) ≤ b)) (cond (decide (b < (↑a.length : Int))) (some ((!decide ((a.getD b.toNat ((0 : Int), (0 : Int), (0 : Int), (0 : Int), (0 : Int), (0 : Int), false, ByteArray.empty, [])).fst = (0 : Int)), ()), ())) (none)) (none)) (some ((false, ()), ()))
theorem e82_top (n : Nat) (a : List (Int × Int × Int × Int × Int × Int × Bool × ByteArray × List (ByteArray × Int))) (b : Int) : runF TT G82 an82 Try.f82 c82 ps82 rs82 n (a, b, ()) = st82_top n a b := by kernel_rfl
noncomputable def p82 (n : Nat) (a : List (Int × Int × Int × Int × Int × Int × Bool × ByteArray × List (ByteArray × Int))) (b : Int) : Option R82 := st82_top n a b
theorem F82_eq (n : Nat) (a : List (Int × Int × Int × Int × Int × Int × Bool × ByteArray × List (ByteArray × Int))) (b : Int) : runF TT G82 an82 Try.f82 c82 ps82 rs82 n (a, b, ()) = p82 n a b := by
  rw [e82_top]
  skip
  try rfl
noncomputable def q82 (n : Nat) (x : argsD ps82) : Option R82 := p82 n x.1 x.2.1
noncomputable def Sm82 : Sm := ⟨ps82, rs82, false, q82⟩
theorem holds82 (hg : GamOK Try.prog G82) : Holds Try.prog 82 Sm82 := by
  have := h0_82 hg
  have e : (runF TT G82 an82 Try.f82 c82 ps82 rs82) = q82 := by
    funext n x
    exact F82_eq n x.1 x.2.1
  rw [e] at this
  exact this
theorem gam82 : GamOK Try.prog G82 := by
  intro f s h
  unfold G82 at h
  split at h
  · injection h with h; subst h; exact ⟨⟨Try.f55, c55, Try.func55, by kernel_rfl, by decide +kernel⟩, hh55⟩
  · cases h
theorem hh82 : Holds Try.prog 82 Sm82 := holds82 gam82
end Go.Proofs.Ythhopbicmaipgaa.Rx.S
namespace Go.Proofs.Ythhopbicmaipgaa.Rx.S
open Go Go.RowKit Go.Proofs
set_option maxRecDepth 100000
noncomputable def c31 : Code := (Try.f31.body.getD .skip)
def an31 : An := ⟨fun r => match r with | 11 => ⟨[2, 3, 8, 10, 11], []⟩ | _ => ⟨[], []⟩, fun _ _ => none⟩
abbrev ps31 : List PK := [.val tFs true, .val i64 false, .val i64 false, .val .str false]
abbrev rs31 : List RK := [.own tFs true, .val i64 false]
abbrev R31 := retsD rs31 × outsD ps31
noncomputable def G31 : Gam := fun f => match f with | 36 => some Sm36 | 56 => some Sm56 | 82 => some Sm82 | _ => none
theorem h0_31 (hg : GamOK Try.prog G31) : Holds Try.prog 31 ⟨ps31, rs31, false, runF TT G31 an31 Try.f31 c31 ps31 rs31⟩ := holds_of tt_ok hg mixed Try.func31 (by kernel_rfl) (by rfl) (by decide +kernel)
noncomputable def at31 : Nat → Pt → List Nat → St → Option R31 := atF TT G31 an31 Try.f31 c31 _ _
def sh31_L11 (x0 : Int) (x1 : ByteArray) (x2 : Nat) (x3 : List (Int × Int × Int × Int × Int × Int × Bool × ByteArray × List (ByteArray × Int))) : St := (St.mk (AV.undef :: (AV.undef :: ((AV.one (SV.int (Go.IntKind.i64) x0)) :: ((AV.one (SV.str x1)) :: (AV.undef :: (AV.undef :: (AV.undef :: (AV.undef :: ((AV.one (SV.bptr 1000000 0)) :: (AV.undef :: ((AV.one (SV.bptr 1000001 0)) :: ((AV.one (SV.ptr 1000002 0 [] x2 0)) :: (AV.undef :: (AV.undef :: (AV.undef :: (AV.undef :: (AV.undef :: (AV.undef :: (AV.undef :: (AV.undef :: (AV.undef :: (AV.undef :: (AV.undef :: (AV.undef :: (AV.undef :: (AV.undef :: (AV.undef :: (AV.undef :: (AV.undef :: (AV.undef :: (AV.undef :: (AV.undef :: (AV.undef :: (AV.undef :: (AV.undef :: (AV.undef :: (AV.undef :: (AV.undef :: (AV.undef :: (AV.undef :: (AV.undef :: (AV.undef :: (AV.undef :: (AV.undef :: (AV.undef :: (AV.undef :: (AV.undef :: (AV.undef :: (AV.undef :: (AV.undef :: (AV.undef :: (AV.undef :: (AV.undef :: (AV.undef :: (AV.undef :: (AV.undef :: (AV.undef :: (AV.undef :: (AV.undef :: (AV.undef :: (AV.undef :: (AV.undef :: (AV.undef :: (AV.undef :: (AV.undef :: (AV.undef :: (AV.undef :: (AV.undef :: (AV.undef :: (AV.undef :: (AV.undef :: (AV.undef :: (AV.undef :: (AV.undef :: (AV.undef :: (AV.undef :: (AV.undef :: (AV.undef :: (AV.undef :: (AV.undef :: (AV.undef :: (AV.undef :: (AV.undef :: (AV.undef :: (AV.undef :: (AV.undef :: (AV.undef :: (AV.undef :: (AV.undef :: (AV.undef :: (AV.undef :: (AV.undef :: (AV.undef :: (AV.undef :: (AV.undef :: (AV.undef :: (AV.undef :: (AV.undef :: (AV.undef :: (AV.undef :: (AV.undef :: (AV.undef :: [])))))))))))))))))))))))))))))))))))))))))))))))))))))))))))))))))))))))))))))))))))))))))))))))))))))) ((1000000, (Ent.box (SV.nil :: []))) :: ((1000001, (Ent.box ((SV.ref 1000002 0 [] Option.none) :: []))) :: ((1000002, (Ent.row (⟨39, (Ty.int Go.IntKind.i64).pair ((Ty.int Go.IntKind.i64).pair ((Ty.int Go.IntKind.i64).pair ((Ty.int Go.IntKind.i64).pair ((Ty.int Go.IntKind.i64).pair ((Ty.int Go.IntKind.i64).pair (Ty.bool.pair (Ty.str.pair (Ty.row (nat_lit 95) (Ty.str.pair (Ty.int Go.IntKind.i64)))))))))), x3⟩ : Rw) 0 Option.none)) :: []))))
noncomputable def st31_top (n : Nat) (lL11 : Int → ByteArray → Nat → (List (Int × Int × Int × Int × Int × Int × Bool × ByteArray × List (ByteArray × Int))) → Option R31) (a : List (Int × Int × Int × Int × Int × Int × Bool × ByteArray × List (ByteArray × Int))) (b : Int) (c : Int) (d : ByteArray) : Option R31 :=
  (q36 n (a, ())).bind fun r0 => cond (!r0.fst.fst) (some (([], ((1 : Int), ())), ())) ((q82 n (a, b, ())).bind fun r1 => cond (!r1.fst.fst) (some (([], ((1 : Int), ())), ())) (cond (decide (c < (0 : Int))) (some (([], ((1 : Int), ())), ())) ((q56 n (a, ())).bind fun r2 => cond (decide ((0 : Int) ≤ b)) (cond (decide (b < (↑(List.length r2.fst.fst) : Int))) (cond (!decide ((List.getD r2.fst.fst b.toNat ((0 : Int), (0 : Int), (0 : Int), (0 : Int), (0 : Int), (0 : Int), false, ByteArray.empty, [])).fst = (1 : Int))) (some ((r2.fst.fst, ((4 : Int), ())), ())) (cond (decide ((40 : Int) < c)) (some ((r2.fst.fst, ((7 : Int), ())), ())) (cond (decide ((40 : Int) < Go.IntKind.i64.wrap (c + (↑d.size : Int)))) (some ((r2.fst.fst, ((7 : Int), ())), ())) (cond (d.toList == (ByteArray.mk #[]).toList) (some ((r2.fst.fst, ((0 : Int), ())), ())) (lL11 (c) (d) (b.toNat) (r2.fst.fst)))))) (none)) (none))))
noncomputable def st31_L11 (n : Nat) (lL11 : Int → ByteArray → Nat → (List (Int × Int × Int × Int × Int × Int × Bool × ByteArray × List (ByteArray × Int))) → Option R31) (x0 : Int) (x1 : ByteArray) (x2 : Nat) (x3 : List (Int × Int × Int × Int × Int × Int × Bool × ByteArray × List (ByteArray × Int))) : Option R31 :=
  cond (decide ((↑(ByteArray.size (x3.getD x2 ((0 : Int), (0 : Int), (0 : Int), (0 : Int), (0 : Int), (0 : Int), false, ByteArray.empty, [])).snd.snd.snd.snd.snd.snd.snd.fst) : Int) < x0)) (cond (decide (ByteArray.size (x3.getD x2 ((0 : Int), (0 : Int), (0 : Int), (0 : Int), (0 : Int), (0 : Int), false, ByteArray.empty, [])).snd.snd.snd.snd.snd.snd.snd.fst + (ByteArray.mk #[(0 : UInt8)]).size ≤ (9223372036854775807 : Nat))) (lL11 (x0) (x1) (x2) (x3.set x2 ((x3.getD x2 ((0 : Int), (0 : Int), (0 : Int), (0 : Int), (0 : Int), (0 : Int), false, ByteArray.empty, [])).fst, (x3.getD x2 ((0 : Int), (0 : Int), (0 : Int), (0 : Int), (0 : Int), (0 : Int), false, ByteArray.empty, [])).snd.fst, (x3.getD x2 ((0 : Int), (0 : Int), (0 : Int), (0 : Int), (0 : Int), (0 : Int), false, ByteArray.empty, [])).snd.snd.fst, (x3.getD x2 ((0 : Int), (0 : Int), (0 : Int), (0 : Int), (0 : Int), (0 : Int), false, ByteArray.empty, [])).snd.snd.snd.fst, (x3.getD x2 ((0 : Int), (0 : Int), (0 : Int), (0 : Int), (0 : Int), (0 : Int), false, ByteArray.empty, [])).snd.snd.snd.snd.fst, (x3.getD x2 ((0 : Int), (0 : Int), (0 : Int), (0 : Int), (0 : Int), (0 : Int), false, ByteArray.empty, [])).snd.snd.snd.snd.snd.fst, (x3.getD x2 ((0 : Int), (0 : Int), (0 : Int), (0 : Int), (0 : Int), (0 : Int), false, ByteArray.empty, [])).snd.snd.snd.snd.snd.snd.fst, (x3.getD x2 ((0 : Int), (0 : Int), (0 : Int), (0 : Int), (0 : Int), (0 : Int), false, ByteArray.empty, [])).snd.snd.snd.snd.snd.snd.snd.fst ++ ByteArray.mk #[(0 : UInt8)], (x3.getD x2 ((0 : Int), (0 : Int), (0 : Int), (0 : Int), (0 : Int), (0 : Int), false, ByteArray.empty, [])).snd.snd.snd.snd.snd.snd.snd.snd))) (none)) (cond (decide (Go.IntKind.i64.wrap (x0 + (↑x1.size : Int)) < (↑(ByteArray.size (x3.getD x2 ((0 : Int), (0 : Int), (0 : Int), (0 : Int), (0 : Int), (0 : Int), false, ByteArray.empty, [])).snd.snd.snd.snd.snd.snd.snd.fst) : Int))) (cond (decide ((0 : Int) ≤ Go.IntKind.i64.wrap (x0 + (↑x1.size : Int)))) (cond (decide (Go.IntKind.i64.wrap (x0 + (↑x1.size : Int)) ≤ (↑(ByteArray.size (x3.getD x2 ((0 : Int), (0 : Int), (0 : Int), (0 : Int), (0 : Int), (0 : Int), false, ByteArray.empty, [])).snd.snd.snd.snd.snd.snd.snd.fst) : Int))) (cond (decide ((0 : Int) ≤ x0)) (cond (decide (x0 ≤ (↑(ByteArray.size (x3.getD x2 ((0 : Int), (0 : Int), (0 : Int), (0 : Int), (0 : Int), (0 : Int), false, ByteArray.empty, [])).snd.snd.snd.snd.snd.snd.snd.fst) : Int))) (cond (decide ((ByteArray.extract (x3.getD x2 ((0 : Int), (0 : Int), (0 : Int), (0 : Int), (0 : Int), (0 : Int), false, ByteArray.empty, [])).snd.snd.snd.snd.snd.snd.snd.fst (Int.toNat (0 : Int)) x0.toNat).size + x1.size ≤ (9223372036854775807 : Nat))) (cond (decide ((ByteArray.extract (x3.getD x2 ((0 : Int), (0 : Int), (0 : Int), (0 : Int), (0 : Int), (0 : Int), false, ByteArray.empty, [])).snd.snd.snd.snd.snd.snd.snd.fst (Int.toNat (0 : Int)) x0.toNat ++ x1).size + (ByteArray.extract (x3.getD x2 ((0 : Int), (0 : Int), (0 : Int), (0 : Int), (0 : Int), (0 : Int), false, ByteArray.empty, [])).snd.snd.snd.snd.snd.snd.snd.fst (Go.IntKind.i64.wrap (x0 + (↑x1.size : Int))).toNat (↑(ByteArray.size (x3.getD x2 ((0 : Int), (0 : Int), (0 : Int), (0 : Int), (0 : Int), (0 : Int), false, ByteArray.empty, [])).snd.snd.snd.snd.snd.snd.snd.fst) : Int).toNat).size ≤ (9223372036854775807 : Nat))) (some ((x3.set x2 ((x3.getD x2 ((0 : Int), (0 : Int), (0 : Int), (0 : Int), (0 : Int), (0 : Int), false, ByteArray.empty, [])).fst, (x3.getD x2 ((0 : Int), (0 : Int), (0 : Int), (0 : Int), (0 : Int), (0 : Int), false, ByteArray.empty, [])).snd.fst, (x3.getD x2 ((0 : Int), (0 : Int), (0 : Int), (0 : Int), (0 : Int), (0 : Int), false, ByteArray.empty, [])).snd.snd.fst, (x3.getD x2 ((0 : Int), (0 : Int), (0 : Int), (0 : Int), (0 : Int), (0 : Int), false, ByteArray.empty, [])).snd.snd.snd.fst, (x3.getD x2 ((0 : Int), (0 : Int), (0 : Int), (0 : Int), (0 : Int), (0 : Int), false, ByteArray.empty, [])).snd.snd.snd.snd.fst, (x3.getD x2 ((0 : Int), (0 : Int), (0 : Int), (0 : Int), (0 : Int), (0 : Int), false, ByteArray.empty, [])).snd.snd.snd.snd.snd.fst, (x3.getD x2 ((0 : Int), (0 : Int), (0 : Int), (0 : Int), (0 : Int), (0 : Int), false, ByteArray.empty, [])).snd.snd.snd.snd.snd.snd.fst, ByteArray.extract (x3.getD x2 ((0 : Int), (0 : Int), (0 : Int), (0 : Int), (0 : Int), (0 : Int), false, ByteArray.empty, [])).snd.snd.snd.snd.snd.snd.snd.fst (Int.toNat (0 : Int)) x0.toNat ++ x1 ++ ByteArray.extract (x3.getD x2 ((0 : Int), (0 : Int), (0 : Int), (0 : Int), (0 : Int), (0 : Int), false, ByteArray.empty, [])).snd.snd.snd.snd.snd.snd.snd.fst (Go.IntKind.i64.wrap (x0 + (↑x1.size : Int))).toNat (↑(ByteArray.size (x3.getD x2 ((0 : Int), (0 : Int), (0 : Int), (0 : Int), (0 : Int), (0 : Int), false, ByteArray.empty, [])).snd.snd.snd.snd.snd.snd.snd.fst) : Int).toNat, (x3.getD x2 ((0 : Int), (0 : Int), (0 : Int), (0 : Int), (0 : Int), (0 : Int), false, ByteArray.empty, [])).snd.snd.snd.snd.snd.snd.snd.snd), ((0 : Int), ())), ())) (none)) (none)) (none)) (none)) (none)) (none)) (cond (decide ((0 : Int) ≤ x0)) (cond (decide (x0 ≤ (↑(ByteArray.size (x3.getD x2 ((0 : Int), (0 : Int), (0 : Int), (0 : Int), (0 : Int), (0 : Int), false, ByteArray.empty, [])).snd.snd.snd.snd.snd.snd.snd.fst) : Int))) (cond (decide ((ByteArray.extract (x3.getD x2 ((0 : Int), (0 : Int), (0 : Int), (0 : Int), (0 : Int), (0 : Int), false, ByteArray.empty, [])).snd.snd.snd.snd.snd.snd.snd.fst (Int.toNat (0 : Int)) x0.toNat).size + x1.size ≤ (9223372036854775807 : Nat))) (cond (decide ((ByteArray.extract (x3.getD x2 ((0 : Int), (0 : Int), (0 : Int), (0 : Int), (0 : Int), (0 : Int), false, ByteArray.empty, [])).snd.snd.snd.snd.snd.snd.snd.fst (Int.toNat (0 : Int)) x0.toNat ++ x1).size + (ByteArray.mk #[]).size ≤ (9223372036854775807 : Nat))) (some ((x3.set x2 ((x3.getD x2 ((0 : Int), (0 : Int), (0 : Int), (0 : Int), (0 : Int), (0 : Int), false, ByteArray.empty, [])).fst, (x3.getD x2 ((0 : Int), (0 : Int), (0 : Int), (0 : Int), (0 : Int), (0 : Int), false, ByteArray.empty, [])).snd.fst, (x3.getD x2 ((0 : Int), (0 : Int), (0 : Int), (0 : Int), (0 : Int), (0 : Int), false, ByteArray.empty, [])).snd.snd.fst, (x3.getD x2 ((0 : Int), (0 : Int), (0 : Int), (0 : Int), (0 : Int), (0 : Int), false, ByteArray.empty, [])).snd.snd.snd.fst, (x3.getD x2 ((0 : Int), (0 : Int), (0 : Int), (0 : Int), (0 : Int), (0 : Int), false, ByteArray.empty, [])).snd.snd.snd.snd.fst, (x3.getD x2 ((0 : Int), (0 : Int), (0 : Int), (0 : Int), (0 : Int), (0 : Int), false, ByteArray.empty, [])).snd.snd.snd.snd.snd.fst, (x3.getD x2 ((0 : Int), (0 : Int), (0 : Int), (0 : Int), (0 : Int), (0 : Int), false, ByteArray.empty, [])).snd.snd.snd.snd.snd.snd.fst, ByteArray.extract (x3.getD x2 ((0 : Int), (0 : Int), (0 : Int), (0 : Int), (0 : Int), (0 : Int), false, ByteArray.empty, [])).snd.snd.snd.snd.snd.snd.snd.fst (Int.toNat (0 : Int)) x0.toNat ++ x1 ++ ByteArray.mk #[], (x3.getD x2 ((0 : Int), (0 : Int), (0 : Int), (0 : Int), (0 : Int), (0 : Int), false, ByteArray.empty, [])).snd.snd.snd.snd.snd.snd.snd.snd), ((0 : Int), ())), ())) (none)) (none)) (none)) (none)))
theorem e31_top (n : Nat) (a : List (Int × Int × Int × Int × Int × Int × Bool × ByteArray × List (ByteArray × Int))) (b : Int) (c : Int) (d : ByteArray) : runF TT G31 an31 Try.f31 c31 ps31 rs31 n (a, b, c, d, ()) = st31_top n (fun x0 x1 x2 x3 => at31 n (.head 11) [n] (sh31_L11 x0 x1 x2 x3)) a b c d := by kernel_rfl
theorem e31_L11_0 (n : Nat) (x0 : Int) (x1 : ByteArray) (x2 : Nat) (x3 : List (Int × Int × Int × Int × Int × Int × Bool × ByteArray × List (ByteArray × Int))) : at31 n (.head 11) [0] (sh31_L11 x0 x1 x2 x3) = none := by kernel_rfl
theorem e31_L11 (n : Nat) (m11 : Nat) (x0 : Int) (x1 : ByteArray) (x2 : Nat) (x3 : List (Int × Int × Int × Int × Int × Int × Bool × ByteArray × List (ByteArray × Int))) : at31 n (.head 11) [m11 + 1] (sh31_L11 x0 x1 x2 x3) = st31_L11 n (fun x0 x1 x2 x3 => at31 n (.head 11) [m11] (sh31_L11 x0 x1 x2 x3)) x0 x1 x2 x3 := by kernel_rfl
noncomputable def p31_L11 (n : Nat) : Nat → Int → ByteArray → Nat → (List (Int × Int × Int × Int × Int × Int × Bool × ByteArray × List (ByteArray × Int))) → Option R31
  | 0, _, _, _, _ => none
  | m + 1, x0, x1, x2, x3 => st31_L11 n (p31_L11 n m) x0 x1 x2 x3
noncomputable def p31 (n : Nat) (a : List (Int × Int × Int × Int × Int × Int × Bool × ByteArray × List (ByteArray × Int))) (b : Int) (c : Int) (d : ByteArray) : Option R31 := st31_top n (p31_L11 n n) a b c d
theorem t31_L11 (n : Nat) : ∀ (m11 : Nat) (x0 : Int) (x1 : ByteArray) (x2 : Nat) (x3 : List (Int × Int × Int × Int × Int × Int × Bool × ByteArray × List (ByteArray × Int))), at31 n (.head 11) [m11] (sh31_L11 x0 x1 x2 x3) = p31_L11 n m11 x0 x1 x2 x3 := by
  intro m
  induction m with
  | zero => intros; rw [e31_L11_0]; rfl
  | succ m ih =>
    intros
    rw [e31_L11]
    try simp only [ih]
    rfl
theorem F31_eq (n : Nat) (a : List (Int × Int × Int × Int × Int × Int × Bool × ByteArray × List (ByteArray × Int))) (b : Int) (c : Int) (d : ByteArray) : runF TT G31 an31 Try.f31 c31 ps31 rs31 n (a, b, c, d, ()) = p31 n a b c d := by
  rw [e31_top]
  simp only [t31_L11]
  try rfl
noncomputable def q31 (n : Nat) (x : argsD ps31) : Option R31 := p31 n x.1 x.2.1 x.2.2.1 x.2.2.2.1
noncomputable def Sm31 : Sm := ⟨ps31, rs31, false, q31⟩
theorem holds31 (hg : GamOK Try.prog G31) : Holds Try.prog 31 Sm31 := by
  have := h0_31 hg
  have e : (runF TT G31 an31 Try.f31 c31 ps31 rs31) = q31 := by
    funext n x
    exact F31_eq n x.1 x.2.1 x.2.2.1 x.2.2.2.1
  rw [e] at this
  exact this
theorem gam31 : GamOK Try.prog G31 := by
  intro f s h
  unfold G31 at h
  split at h
  · injection h with h; subst h; exact ⟨⟨Try.f36, c36, Try.func36, by kernel_rfl, by decide +kernel⟩, hh36⟩
  · injection h with h; subst h; exact ⟨⟨Try.f56, c56, Try.func56, by kernel_rfl, by decide +kernel⟩, hh56⟩
  · injection h with h; subst h; exact ⟨⟨Try.f82, c82, Try.func82, by kernel_rfl, by decide +kernel⟩, hh82⟩
  · cases h
theorem hh31 : Holds Try.prog 31 Sm31 := holds31 gam31
end Go.Proofs.Ythhopbicmaipgaa.Rx.S
namespace Go.Proofs.Ythhopbicmaipgaa.Rx.S
open Go Go.RowKit Go.Proofs
set_option maxRecDepth 100000
noncomputable def c5 : Code := (Try.f5.body.getD .skip)
def an5 : An := ⟨fun _ => ⟨[], []⟩, fun _ _ => none⟩
abbrev ps5 : List PK := [.val tLf true, .val i64 false, .val i64 false, .val .str false]
abbrev rs5 : List RK := [.val .bool false]
abbrev R5 := retsD rs5 × outsD ps5
noncomputable def G5 : Gam := fun f => match f with | 21 => some Sm21 | 23 => some Sm23 | 25 => some Sm25 | 27 => some Sm27 | 29 => some Sm29 | 30 => some Sm30 | 31 => some Sm31 | _ => none
theorem h0_5 (hg : GamOK Try.prog G5) : Holds Try.prog 5 ⟨ps5, rs5, false, runF TT G5 an5 Try.f5 c5 ps5 rs5⟩ := holds_of tt_ok hg mixed Try.func5 (by kernel_rfl) (by rfl) (by decide +kernel)
noncomputable def at5 : Nat → Pt → List Nat → St → Option R5 := atF TT G5 an5 Try.f5 c5 _ _
noncomputable def st5_top (n : Nat) (a : List (Int × Int × Int × Int × Int × Int × Bool × ByteArray × List (ByteArray × Int))) (b : Int) (c : Int) (d : ByteArray) : Option R5 :=
  cond (decide ((1048576 : Int) < (↑d.size : Int))) (some ((true, ()), ())) ((q21 n (a, (1048576 : Int), ())).bind fun r0 => cond (decide (r0.fst.fst < (0 : Int))) (some ((true, ()), ())) ((q23 n (a, ())).bind fun r1 => (q30 n (r1.fst.fst, b, c, d, ())).bind fun r2 => (q23 n (a, ())).bind fun r3 => (q31 n (r3.fst.fst, b, c, d, ())).bind fun r4 => (q25 n (r4.fst.fst, r2.fst.fst, ())).bind fun r5 => cond (!r5.fst.fst) (some ((false, ()), ())) (cond (!decide (r4.fst.snd.fst = r2.fst.snd.fst)) (some ((false, ()), ())) ((q23 n (a, ())).bind fun r6 => (q25 n (r3.fst.fst, r6.fst.fst, ())).bind fun r7 => cond (!r7.fst.fst) (some ((false, ()), ())) ((q27 n (r3.fst.fst, (1 : Int), ())).bind fun r8 => cond (decide (r8.fst.fst < (0 : Int))) (some ((false, ()), ())) ((q25 n (r4.fst.fst, r2.fst.fst, ())).bind fun r9 => cond (!r9.fst.fst) (some ((false, ()), ())) (cond (!decide (r4.fst.snd.fst = r2.fst.snd.fst)) (some ((false, ()), ())) ((q27 n (r4.fst.fst, (1 : Int), ())).bind fun r10 => (q29 n (r10.snd.fst, (1 : Int), ())).bind fun r11 => cond (decide (r11.fst.fst < (0 : Int))) (some ((false, ()), ())) (cond (!decide (r11.fst.fst = r10.fst.fst)) (some ((false, ()), ())) ((q23 n (a, ())).bind fun r12 => (q31 n (r12.fst.fst, b, c, d, ())).bind fun r13 => (q25 n (r13.fst.fst, r2.fst.fst, ())).bind fun r14 => cond (!r14.fst.fst) (some ((false, ()), ())) (cond (!decide (r13.fst.snd.fst = r2.fst.snd.fst)) (some ((false, ()), ())) ((q29 n (r10.snd.fst, (1 : Int), ())).bind fun r15 => cond (decide (r15.fst.fst < (0 : Int))) (some ((false, ()), ())) (cond (!decide (r15.fst.fst = r10.fst.fst)) (some ((false, ()), ())) (some ((true, ()), ())))))))))))))))
theorem e5_top (n : Nat) (a : List (Int × Int × Int × Int × Int × Int × Bool × ByteArray × List (ByteArray × Int))) (b : Int) (c : Int) (d : ByteArray) : runF TT G5 an5 Try.f5 c5 ps5 rs5 n (a, b, c, d, ()) = st5_top n a b c d := by kernel_rfl
noncomputable def p5 (n : Nat) (a : List (Int × Int × Int × Int × Int × Int × Bool × ByteArray × List (ByteArray × Int))) (b : Int) (c : Int) (d : ByteArray) : Option R5 := st5_top n a b c d
theorem F5_eq (n : Nat) (a : List (Int × Int × Int × Int × Int × Int × Bool × ByteArray × List (ByteArray × Int))) (b : Int) (c : Int) (d : ByteArray) : runF TT G5 an5 Try.f5 c5 ps5 rs5 n (a, b, c, d, ()) = p5 n a b c d := by
  rw [e5_top]
  skip
  try rfl
noncomputable def q5 (n : Nat) (x : argsD ps5) : Option R5 := p5 n x.1 x.2.1 x.2.2.1 x.2.2.2.1
noncomputable def Sm5 : Sm := ⟨ps5, rs5, false, q5⟩
theorem holds5 (hg : GamOK Try.prog G5) : Holds Try.prog 5 Sm5 := by
  have := h0_5 hg
  have e : (runF TT G5 an5 Try.f5 c5 ps5 rs5) = q5 := by
    funext n x
    exact F5_eq n x.1 x.2.1 x.2.2.1 x.2.2.2.1
  rw [e] at this
  exact this
theorem gam5 : GamOK Try.prog G5 := by
  intro f s h
  unfold G5 at h
  split at h
  · injection h with h; subst h; exact ⟨⟨Try.f21, c21, Try.func21, by kernel_rfl, by decide +kernel⟩, hh21⟩
  · injection h with h; subst h; exact ⟨⟨Try.f23, c23, Try.func23, by kernel_rfl, by decide +kernel⟩, hh23⟩
  · injection h with h; subst h; exact ⟨⟨Try.f25, c25, Try.func25, by kernel_rfl, by decide +kernel⟩, hh25⟩
  · injection h with h; subst h; exact ⟨⟨Try.f27, c27, Try.func27, by kernel_rfl, by decide +kernel⟩, hh27⟩
  · injection h with h; subst h; exact ⟨⟨Try.f29, c29, Try.func29, by kernel_rfl, by decide +kernel⟩, hh29⟩
  · injection h with h; subst h; exact ⟨⟨Try.f30, c30, Try.func30, by kernel_rfl, by decide +kernel⟩, hh30⟩
  · injection h with h; subst h; exact ⟨⟨Try.f31, c31, Try.func31, by kernel_rfl, by decide +kernel⟩, hh31⟩
  · cases h
theorem hh5 : Holds Try.prog 5 Sm5 := holds5 gam5
end Go.Proofs.Ythhopbicmaipgaa.Rx.S
namespace Go.Proofs.Ythhopbicmaipgaa.Rx.S
open Go Go.RowKit Go.Proofs
set_option maxRecDepth 100000
noncomputable def c73 : Code := (Try.f73.body.getD .skip)
def an73 : An := ⟨fun _ => ⟨[], []⟩, fun _ _ => none⟩
abbrev ps73 : List PK := [.val (.row 3 i64) false, .val i64 false]
abbrev rs73 : List RK := [.val i64 false]
abbrev R73 := retsD rs73 × outsD ps73
noncomputable def G73 : Gam := fun _ => none
theorem h0_73 (hg : GamOK Try.prog G73) : Holds Try.prog 73 ⟨ps73, rs73, false, runF TT G73 an73 Try.f73 c73 ps73 rs73⟩ := holds_of tt_ok hg mixed Try.func73 (by kernel_rfl) (by rfl) (by decide +kernel)
noncomputable def at73 : Nat → Pt → List Nat → St → Option R73 := atF TT G73 an73 Try.f73 c73 _ _
noncomputable def st73_top (n : Nat) (a : List Int) (b : Int) : Option R73 :=
  cond (decide (Go.IntKind.i64.wrap (b - (↑a.length : Int)) < (0 : Int))) (some (((-1 : Int), ()), ())) (some ((Go.IntKind.i64.wrap (b - (↑a.length : Int)), ()), ()))
theorem e73_top (n : Nat) (a : List Int) (b : Int) : runF TT G73 an73 Try.f73 c73 ps73 rs73 n (a, b, ()) = st73_top n a b := by kernel_rfl
noncomputable def p73 (n : Nat) (a : List Int) (b : Int) : Option R73 := st73_top n a b
theorem F73_eq (n : Nat) (a : List Int) (b : Int) : runF TT G73 an73 Try.f73 c73 ps73 rs73 n (a, b, ()) = p73 n a b := by
  rw [e73_top]
  skip
  try rfl
noncomputable def q73 (n : Nat) (x : argsD ps73) : Option R73 := p73 n x.1 x.2.1
noncomputable def Sm73 : Sm := ⟨ps73, rs73, false, q73⟩
theorem holds73 (hg : GamOK Try.prog G73) : Holds Try.prog 73 Sm73 := by
  have := h0_73 hg
  have e : (runF TT G73 an73 Try.f73 c73 ps73 rs73) = q73 := by
    funext n x
    exact F73_eq n x.1 x.2.1
  rw [e] at this
  exact this
theorem gam73 : GamOK Try.prog G73 := fun _ _ h => by cases h
theorem hh73 : Holds Try.prog 73 Sm73 := holds73 gam73
end Go.Proofs.Ythhopbicmaipgaa.Rx.S
namespace Go.Proofs.Ythhopbicmaipgaa.Rx.S
open Go Go.RowKit Go.Proofs
set_option maxRecDepth 100000
noncomputable def c22 : Code := (Try.f22.body.getD .skip)
def an22 : An := ⟨fun _ => ⟨[], []⟩, fun _ _ => none⟩
abbrev ps22 : List PK := [.val tCr true, .val i64 false]
abbrev rs22 : List RK := [.val i64 false]
abbrev R22 := retsD rs22 × outsD ps22
noncomputable def G22 : Gam := fun f => match f with | 73 => some Sm73 | _ => none
theorem h0_22 (hg : GamOK Try.prog G22) : Holds Try.prog 22 ⟨ps22, rs22, false, runF TT G22 an22 Try.f22 c22 ps22 rs22⟩ := holds_of tt_ok hg mixed Try.func22 (by kernel_rfl) (by rfl) (by decide +kernel)
noncomputable def at22 : Nat → Pt → List Nat → St → Option R22 := atF TT G22 an22 Try.f22 c22 _ _
noncomputable def st22_top (n : Nat) (a : Int × Int × List Int) (b : Int) : Option R22 :=
  (q73 n (a.snd.snd, b, ())).bind fun r0 => cond (decide (r0.fst.fst < (0 : Int))) (some (((-1 : Int), ()), ())) (some ((r0.fst.fst, ()), ()))
theorem e22_top (n : Nat) (a : Int × Int × List Int) (b : Int) : runF TT G22 an22 Try.f22 c22 ps22 rs22 n (a, b, ()) = st22_top n a b := by kernel_rfl
noncomputable def p22 (n : Nat) (a : Int × Int × List Int) (b : Int) : Option R22 := st22_top n a b
theorem F22_eq (n : Nat) (a : Int × Int × List Int) (b : Int) : runF TT G22 an22 Try.f22 c22 ps22 rs22 n (a, b, ()) = p22 n a b := by
  rw [e22_top]
  skip
  try rfl
noncomputable def q22 (n : Nat) (x : argsD ps22) : Option R22 := p22 n x.1 x.2.1
noncomputable def Sm22 : Sm := ⟨ps22, rs22, false, q22⟩
theorem holds22 (hg : GamOK Try.prog G22) : Holds Try.prog 22 Sm22 := by
  have := h0_22 hg
  have e : (runF TT G22 an22 Try.f22 c22 ps22 rs22) = q22 := by
    funext n x
    exact F22_eq n x.1 x.2.1
  rw [e] at this
  exact this
theorem gam22 : GamOK Try.prog G22 := by
  intro f s h
  unfold G22 at h
  split at h
  · injection h with h; subst h; exact ⟨⟨Try.f73, c73, Try.func73, by kernel_rfl, by decide +kernel⟩, hh73⟩
  · cases h
theorem hh22 : Holds Try.prog 22 Sm22 := holds22 gam22
end Go.Proofs.Ythhopbicmaipgaa.Rx.S
namespace Go.Proofs.Ythhopbicmaipgaa.Rx.S
open Go Go.RowKit Go.Proofs
set_option maxRecDepth 100000
noncomputable def c75 : Code := (Try.f75.body.getD .skip)
def an75 : An := ⟨fun r => match r with | 3 => ⟨[0, 3, 4], []⟩ | _ => ⟨[], []⟩, fun _ _ => none⟩
abbrev ps75 : List PK := [.val (.row 3 i64) false]
abbrev rs75 : List RK := [.own (.row 3 i64) false]
abbrev R75 := retsD rs75 × outsD ps75
noncomputable def G75 : Gam := fun _ => none
theorem h0_75 (hg : GamOK Try.prog G75) : Holds Try.prog 75 ⟨ps75, rs75, false, runF TT G75 an75 Try.f75 c75 ps75 rs75⟩ := holds_of tt_ok hg mixed Try.func75 (by kernel_rfl) (by rfl) (by decide +kernel)
noncomputable def at75 : Nat → Pt → List Nat → St → Option R75 := atF TT G75 an75 Try.f75 c75 _ _
def sh75_L3 (x0 : List Int) (x1 : Int) (x2 : List Int) : St := (St.mk ((AV.one (SV.con (⟨3, Ty.int Go.IntKind.i64, x0⟩ : Rw))) :: (AV.undef :: (AV.undef :: ((AV.one (SV.ref 1000000 0 [] Option.none)) :: ((AV.one (SV.int (Go.IntKind.i64) x1)) :: (AV.undef :: (AV.undef :: (AV.undef :: (AV.undef :: (AV.undef :: (AV.undef :: (AV.undef :: (AV.undef :: (AV.undef :: (AV.undef :: (AV.undef :: (AV.undef :: (AV.undef :: (AV.undef :: (AV.undef :: (AV.undef :: (AV.undef :: [])))))))))))))))))))))) ((1000000, (Ent.row (⟨3, Ty.int Go.IntKind.i64, x2⟩ : Rw) 0 Option.none)) :: []))
noncomputable def st75_top (n : Nat) (lL3 : (List Int) → Int → (List Int) → Option R75) (a : List Int) : Option R75 :=
  cond (decide ((↑a.length : Int) * (↑(8 : Nat) : Int) ≤ (140737488355328 : Int))) (lL3 (a) ((0 : Int)) (List.replicate (↑a.length : Int).toNat (0 : Int))) (none)
noncomputable def st75_L3 (n : Nat) (lL3 : (List Int) → Int → (List Int) → Option R75) (x0 : List Int) (x1 : Int) (x2 : List Int) : Option R75 :=
  cond (decide (x1 < (↑x0.length : Int))) (cond (decide ((0 : Int) ≤ x1)) (cond (decide (x1 < (↑x0.length : Int))) (cond (decide ((0 : Int) ≤ x1)) (cond (decide (x1 < (↑x2.length : Int))) (lL3 (x0) (Go.IntKind.i64.wrap (x1 + (1 : Int))) (x2.set x1.toNat (x0.getD x1.toNat (0 : Int)))) (none)) (none)) (none)) (none)) (some ((x2, ()), ()))
theorem e75_top (n : Nat) (a : List Int) : runF TT G75 an75 Try.f75 c75 ps75 rs75 n (a, ()) = st75_top n (fun x0 x1 x2 => at75 n (.head 3) [n] (sh75_L3 x0 x1 x2)) a := by kernel_rfl
theorem e75_L3_0 (n : Nat) (x0 : List Int) (x1 : Int) (x2 : List Int) : at75 n (.head 3) [0] (sh75_L3 x0 x1 x2) = none := by kernel_rfl
theorem e75_L3 (n : Nat) (m3 : Nat) (x0 : List Int) (x1 : Int) (x2 : List Int) : at75 n (.head 3) [m3 + 1] (sh75_L3 x0 x1 x2) = st75_L3 n (fun x0 x1 x2 => at75 n (.head 3) [m3] (sh75_L3 x0 x1 x2)) x0 x1 x2 := by kernel_rfl
noncomputable def p75_L3 (n : Nat) : Nat → (List Int) → Int → (List Int) → Option R75
  | 0, _, _, _ => none
  | m + 1, x0, x1, x2 => st75_L3 n (p75_L3 n m) x0 x1 x2
noncomputable def p75 (n : Nat) (a : List Int) : Option R75 := st75_top n (p75_L3 n n) a
theorem t75_L3 (n : Nat) : ∀ (m3 : Nat) (x0 : List Int) (x1 : Int) (x2 : List Int), at75 n (.head 3) [m3] (sh75_L3 x0 x1 x2) = p75_L3 n m3 x0 x1 x2 := by
  intro m
  induction m with
  | zero => intros; rw [e75_L3_0]; rfl
  | succ m ih =>
    intros
    rw [e75_L3]
    try simp only [ih]
    rfl
theorem F75_eq (n : Nat) (a : List Int) : runF TT G75 an75 Try.f75 c75 ps75 rs75 n (a, ()) = p75 n a := by
  rw [e75_top]
  simp only [t75_L3]
  try rfl
noncomputable def q75 (n : Nat) (x : argsD ps75) : Option R75 := p75 n x.1
noncomputable def Sm75 : Sm := ⟨ps75, rs75, false, q75⟩
theorem holds75 (hg : GamOK Try.prog G75) : Holds Try.prog 75 Sm75 := by
  have := h0_75 hg
  have e : (runF TT G75 an75 Try.f75 c75 ps75 rs75) = q75 := by
    funext n x
    exact F75_eq n x.1
  rw [e] at this
  exact this
theorem gam75 : GamOK Try.prog G75 := fun _ _ h => by cases h
theorem hh75 : Holds Try.prog 75 Sm75 := holds75 gam75
end Go.Proofs.Ythhopbicmaipgaa.Rx.S
namespace Go.Proofs.Ythhopbicmaipgaa.Rx.S
open Go Go.RowKit Go.Proofs
set_option maxRecDepth 100000
noncomputable def c24 : Code := (Try.f24.body.getD .skip)
def an24 : An := ⟨fun _ => ⟨[], []⟩, fun _ _ => none⟩
abbrev ps24 : List PK := [.val tCr true]
abbrev rs24 : List RK := [.own tCr true]
abbrev R24 := retsD rs24 × outsD ps24
noncomputable def G24 : Gam := fun f => match f with | 75 => some Sm75 | _ => none
theorem h0_24 (hg : GamOK Try.prog G24) : Holds Try.prog 24 ⟨ps24, rs24, false, runF TT G24 an24 Try.f24 c24 ps24 rs24⟩ := holds_of tt_ok hg mixed Try.func24 (by kernel_rfl) (by rfl) (by decide +kernel)
noncomputable def at24 : Nat → Pt → List Nat → St → Option R24 := atF TT G24 an24 Try.f24 c24 _ _
noncomputable def st24_top (n : Nat) (a : Int × Int × List Int) : Option R24 :=
  (q75 n (a.snd.snd, ())).bind fun r0 => some (((a.fst, (a.snd.fst, r0.fst.fst)), ()), ())
theorem e24_top (n : Nat) (a : Int × Int × List Int) : runF TT G24 an24 Try.f24 c24 ps24 rs24 n (a, ()) = st24_top n a := by kernel_rfl
noncomputable def p24 (n : Nat) (a : Int × Int × List Int) : Option R24 := st24_top n a
theorem F24_eq (n : Nat) (a : Int × Int × List Int) : runF TT G24 an24 Try.f24 c24 ps24 rs24 n (a, ()) = p24 n a := by
  rw [e24_top]
  skip
  try rfl
noncomputable def q24 (n : Nat) (x : argsD ps24) : Option R24 := p24 n x.1
noncomputable def Sm24 : Sm := ⟨ps24, rs24, false, q24⟩
theorem holds24 (hg : GamOK Try.prog G24) : Holds Try.prog 24 Sm24 := by
  have := h0_24 hg
  have e : (runF TT G24 an24 Try.f24 c24 ps24 rs24) = q24 := by
    funext n x
    exact F24_eq n x.1
  rw [e] at this
  exact this
theorem gam24 : GamOK Try.prog G24 := by
  intro f s h
  unfold G24 at h
  split at h
  · injection h with h; subst h; exact ⟨⟨Try.f75, c75, Try.func75, by kernel_rfl, by decide +kernel⟩, hh75⟩
  · cases h
theorem hh24 : Holds Try.prog 24 Sm24 := holds24 gam24
end Go.Proofs.Ythhopbicmaipgaa.Rx.S
namespace Go.Proofs.Ythhopbicmaipgaa.Rx.S
open Go Go.RowKit Go.Proofs
set_option maxRecDepth 100000
noncomputable def c77 : Code := (Try.f77.body.getD .skip)
def an77 : An := ⟨fun r => match r with | 4 => ⟨[0, 1, 5], []⟩ | _ => ⟨[], []⟩, fun _ _ => none⟩
abbrev ps77 : List PK := [.val (.row 3 i64) false, .val (.row 3 i64) false]
abbrev rs77 : List RK := [.val .bool false]
abbrev R77 := retsD rs77 × outsD ps77
noncomputable def G77 : Gam := fun _ => none
theorem h0_77 (hg : GamOK Try.prog G77) : Holds Try.prog 77 ⟨ps77, rs77, false, runF TT G77 an77 Try.f77 c77 ps77 rs77⟩ := holds_of tt_ok hg mixed Try.func77 (by kernel_rfl) (by rfl) (by decide +kernel)
noncomputable def at77 : Nat → Pt → List Nat → St → Option R77 := atF TT G77 an77 Try.f77 c77 _ _
def sh77_L4 (x0 : List Int) (x1 : List Int) (x2 : Int) : St := (St.mk ((AV.one (SV.con (⟨3, Ty.int Go.IntKind.i64, x0⟩ : Rw))) :: ((AV.one (SV.con (⟨3, Ty.int Go.IntKind.i64, x1⟩ : Rw))) :: (AV.undef :: (AV.undef :: (AV.undef :: ((AV.one (SV.int (Go.IntKind.i64) x2)) :: (AV.undef :: (AV.undef :: (AV.undef :: (AV.undef :: (AV.undef :: (AV.undef :: (AV.undef :: (AV.undef :: (AV.undef :: (AV.undef :: (AV.undef :: (AV.undef :: (AV.undef :: (AV.undef :: (AV.undef :: (AV.undef :: (AV.undef :: (AV.undef :: (AV.undef :: (AV.undef :: [])))))))))))))))))))))))))) [])
noncomputable def st77_top (n : Nat) (lL4 : (List Int) → (List Int) → Int → Option R77) (a : List Int) (b : List Int) : Option R77 :=
  cond (!decide ((↑a.length : Int) = (↑b.length : Int))) (some ((false, ()), ())) (lL4 (a) (b) ((0 : Int)))
noncomputable def st77_L4 (n : Nat) (lL4 : (List Int) → (List Int) → Int → Option R77) (x0 : List Int) (x1 : List Int) (x2 : Int) : Option R77 :=
  cond (decide (x2 < (↑x0.length : Int))) (cond (decide ((0 : Int) ≤ x2)) (cond (decide (x2 < (↑x0.length : Int))) (cond (decide ((0 : Int) ≤ x2)) (cond (decide (x2 < (↑x1.length : Int))) (cond (!decide (x0.getD x2.toNat (0 : Int) = x1.getD x2.toNat (0 : Int))) (some ((false, ()), ())) (lL4 (x0) (x1) (Go.IntKind.i64.wrap (x2 + (1 : Int))))) (none)) (none)) (none)) (none)) (some ((true, ()), ()))
theorem e77_top (n : Nat) (a : List Int) (b : List Int) : runF TT G77 an77 Try.f77 c77 ps77 rs77 n (a, b, ()) = st77_top n (fun x0 x1 x2 => at77 n (.head 4) [n] (sh77_L4 x0 x1 x2)) a b := by kernel_rfl
theorem e77_L4_0 (n : Nat) (x0 : List Int) (x1 : List Int) (x2 : Int) : at77 n (.head 4) [0] (sh77_L4 x0 x1 x2) = none := by kernel_rfl
theorem e77_L4 (n : Nat) (m4 : Nat) (x0 : List Int) (x1 : List Int) (x2 : Int) : at77 n (.head 4) [m4 + 1] (sh77_L4 x0 x1 x2) = st77_L4 n (fun x0 x1 x2 => at77 n (.head 4) [m4] (sh77_L4 x0 x1 x2)) x0 x1 x2 := by kernel_rfl
noncomputable def p77_L4 (n : Nat) : Nat → (List Int) → (List Int) → Int → Option R77
  | 0, _, _, _ => none
  | m + 1, x0, x1, x2 => st77_L4 n (p77_L4 n m) x0 x1 x2
noncomputable def p77 (n : Nat) (a : List Int) (b : List Int) : Option R77 := st77_top n (p77_L4 n n) a b
theorem t77_L4 (n : Nat) : ∀ (m4 : Nat) (x0 : List Int) (x1 : List Int) (x2 : Int), at77 n (.head 4) [m4] (sh77_L4 x0 x1 x2) = p77_L4 n m4 x0 x1 x2 := by
  intro m
  induction m with
  | zero => intros; rw [e77_L4_0]; rfl
  | succ m ih =>
    intros
    rw [e77_L4]
    try simp only [ih]
    rfl
theorem F77_eq (n : Nat) (a : List Int) (b : List Int) : runF TT G77 an77 Try.f77 c77 ps77 rs77 n (a, b, ()) = p77 n a b := by
  rw [e77_top]
  simp only [t77_L4]
  try rfl
noncomputable def q77 (n : Nat) (x : argsD ps77) : Option R77 := p77 n x.1 x.2.1
noncomputable def Sm77 : Sm := ⟨ps77, rs77, false, q77⟩
theorem holds77 (hg : GamOK Try.prog G77) : Holds Try.prog 77 Sm77 := by
  have := h0_77 hg
  have e : (runF TT G77 an77 Try.f77 c77 ps77 rs77) = q77 := by
    funext n x
    exact F77_eq n x.1 x.2.1
  rw [e] at this
  exact this
theorem gam77 : GamOK Try.prog G77 := fun _ _ h => by cases h
theorem hh77 : Holds Try.prog 77 Sm77 := holds77 gam77
end Go.Proofs.Ythhopbicmaipgaa.Rx.S
namespace Go.Proofs.Ythhopbicmaipgaa.Rx.S
open Go Go.RowKit Go.Proofs
set_option maxRecDepth 100000
noncomputable def c26 : Code := (Try.f26.body.getD .skip)
def an26 : An := ⟨fun _ => ⟨[], []⟩, fun _ _ => none⟩
abbrev ps26 : List PK := [.val tCr true, .val tCr true]
abbrev rs26 : List RK := [.val .bool false]
abbrev R26 := retsD rs26 × outsD ps26
noncomputable def G26 : Gam := fun f => match f with | 77 => some Sm77 | _ => none
theorem h0_26 (hg : GamOK Try.prog G26) : Holds Try.prog 26 ⟨ps26, rs26, false, runF TT G26 an26 Try.f26 c26 ps26 rs26⟩ := holds_of tt_ok hg mixed Try.func26 (by kernel_rfl) (by rfl) (by decide +kernel)
noncomputable def at26 : Nat → Pt → List Nat → St → Option R26 := atF TT G26 an26 Try.f26 c26 _ _
noncomputable def st26_top (n : Nat) (a : Int × Int × List Int) (b : Int × Int × List Int) : Option R26 :=
  cond (!decide (a.fst = b.fst)) (some ((false, ()), ())) (cond (!decide (a.snd.fst = b.snd.fst)) (some ((false, ()), ())) ((q77 n (a.snd.snd, b.snd.snd, ())).bind fun r0 => cond (!r0.fst.fst) (some ((false, ()), ())) (some ((true, ()), ()))))
theorem e26_top (n : Nat) (a : Int × Int × List Int) (b : Int × Int × List Int) : runF TT G26 an26 Try.f26 c26 ps26 rs26 n (a, b, ()) = st26_top n a b := by kernel_rfl
noncomputable def p26 (n : Nat) (a : Int × Int × List Int) (b : Int × Int × List Int) : Option R26 := st26_top n a b
theorem F26_eq (n : Nat) (a : Int × Int × List Int) (b : Int × Int × List Int) : runF TT G26 an26 Try.f26 c26 ps26 rs26 n (a, b, ()) = p26 n a b := by
  rw [e26_top]
  skip
  try rfl
noncomputable def q26 (n : Nat) (x : argsD ps26) : Option R26 := p26 n x.1 x.2.1
noncomputable def Sm26 : Sm := ⟨ps26, rs26, false, q26⟩
theorem holds26 (hg : GamOK Try.prog G26) : Holds Try.prog 26 Sm26 := by
  have := h0_26 hg
  have e : (runF TT G26 an26 Try.f26 c26 ps26 rs26) = q26 := by
    funext n x
    exact F26_eq n x.1 x.2.1
  rw [e] at this
  exact this
theorem gam26 : GamOK Try.prog G26 := by
  intro f s h
  unfold G26 at h
  split at h
  · injection h with h; subst h; exact ⟨⟨Try.f77, c77, Try.func77, by kernel_rfl, by decide +kernel⟩, hh77⟩
  · cases h
theorem hh26 : Holds Try.prog 26 Sm26 := holds26 gam26
end Go.Proofs.Ythhopbicmaipgaa.Rx.S
namespace Go.Proofs.Ythhopbicmaipgaa.Rx.S
open Go Go.RowKit Go.Proofs
set_option maxRecDepth 100000
noncomputable def c79 : Code := (Try.f79.body.getD .skip)
def an79 : An := ⟨fun r => match r with | 2 => ⟨[0, 1, 5], []⟩ | _ => ⟨[], []⟩, fun _ _ => none⟩
abbrev ps79 : List PK := [.io (.row 3 i64) false, .val i64 false]
abbrev rs79 : List RK := [.val i64 false]
abbrev R79 := retsD rs79 × outsD ps79
noncomputable def G79 : Gam := fun _ => none
theorem h0_79 (hg : GamOK Try.prog G79) : Holds Try.prog 79 ⟨ps79, rs79, false, runF TT G79 an79 Try.f79 c79 ps79 rs79⟩ := holds_of tt_ok hg mixed Try.func79 (by kernel_rfl) (by rfl) (by decide +kernel)
noncomputable def at79 : Nat → Pt → List Nat → St → Option R79 := atF TT G79 an79 Try.f79 c79 _ _
def sh79_L2 (x0 : Int) (x1 : Int) (x2 : List Int) : St := (St.mk ((AV.par 0 false ((SV.ref 1000000 0 [] Option.none) :: [])) :: ((AV.one (SV.int (Go.IntKind.i64) x0)) :: (AV.undef :: (AV.undef :: (AV.undef :: ((AV.one (SV.int (Go.IntKind.i64) x1)) :: (AV.undef :: (AV.undef :: (AV.undef :: (AV.undef :: (AV.undef :: (AV.undef :: (AV.undef :: (AV.undef :: (AV.undef :: (AV.undef :: (AV.undef :: (AV.undef :: (AV.undef :: []))))))))))))))))))) ((1000000, (Ent.row (⟨3, Ty.int Go.IntKind.i64, x2⟩ : Rw) 0 Option.none)) :: []))
noncomputable def st79_top (n : Nat) (lL2 : Int → Int → (List Int) → Option R79) (a : List Int) (b : Int) : Option R79 :=
  lL2 (b) ((0 : Int)) (a)
noncomputable def st79_L2 (n : Nat) (lL2 : Int → Int → (List Int) → Option R79) (x0 : Int) (x1 : Int) (x2 : List Int) : Option R79 :=
  cond (decide (x1 < (↑x2.length : Int))) (cond (decide ((0 : Int) ≤ x1)) (cond (decide (x1 < (↑x2.length : Int))) (lL2 (Go.IntKind.i64.wrap (x0 + (1 : Int))) (Go.IntKind.i64.wrap (x1 + (1 : Int))) (x2.set x1.toNat x0)) (none)) (none)) (some ((x0, ()), (x2, ())))
theorem e79_top (n : Nat) (a : List Int) (b : Int) : runF TT G79 an79 Try.f79 c79 ps79 rs79 n (a, b, ()) = st79_top n (fun x0 x1 x2 => at79 n (.head 2) [n] (sh79_L2 x0 x1 x2)) a b := by kernel_rfl
theorem e79_L2_0 (n : Nat) (x0 : Int) (x1 : Int) (x2 : List Int) : at79 n (.head 2) [0] (sh79_L2 x0 x1 x2) = none := by kernel_rfl
theorem e79_L2 (n : Nat) (m2 : Nat) (x0 : Int) (x1 : Int) (x2 : List Int) : at79 n (.head 2) [m2 + 1] (sh79_L2 x0 x1 x2) = st79_L2 n (fun x0 x1 x2 => at79 n (.head 2) [m2] (sh79_L2 x0 x1 x2)) x0 x1 x2 := by kernel_rfl
noncomputable def p79_L2 (n : Nat) : Nat → Int → Int → (List Int) → Option R79
  | 0, _, _, _ => none
  | m + 1, x0, x1, x2 => st79_L2 n (p79_L2 n m) x0 x1 x2
noncomputable def p79 (n : Nat) (a : List Int) (b : Int) : Option R79 := st79_top n (p79_L2 n n) a b
theorem t79_L2 (n : Nat) : ∀ (m2 : Nat) (x0 : Int) (x1 : Int) (x2 : List Int), at79 n (.head 2) [m2] (sh79_L2 x0 x1 x2) = p79_L2 n m2 x0 x1 x2 := by
  intro m
  induction m with
  | zero => intros; rw [e79_L2_0]; rfl
  | succ m ih =>
    intros
    rw [e79_L2]
    try simp only [ih]
    rfl
theorem F79_eq (n : Nat) (a : List Int) (b : Int) : runF TT G79 an79 Try.f79 c79 ps79 rs79 n (a, b, ()) = p79 n a b := by
  rw [e79_top]
  simp only [t79_L2]
  try rfl
noncomputable def q79 (n : Nat) (x : argsD ps79) : Option R79 := p79 n x.1 x.2.1
noncomputable def Sm79 : Sm := ⟨ps79, rs79, false, q79⟩
theorem holds79 (hg : GamOK Try.prog G79) : Holds Try.prog 79 Sm79 := by
  have := h0_79 hg
  have e : (runF TT G79 an79 Try.f79 c79 ps79 rs79) = q79 := by
    funext n x
    exact F79_eq n x.1 x.2.1
  rw [e] at this
  exact this
theorem gam79 : GamOK Try.prog G79 := fun _ _ h => by cases h
theorem hh79 : Holds Try.prog 79 Sm79 := holds79 gam79
end Go.Proofs.Ythhopbicmaipgaa.Rx.S
namespace Go.Proofs.Ythhopbicmaipgaa.Rx.S
open Go Go.RowKit Go.Proofs
set_option maxRecDepth 100000
noncomputable def c28 : Code := (Try.f28.body.getD .skip)
def an28 : An := ⟨fun _ => ⟨[], []⟩, fun _ _ => none⟩
abbrev ps28 : List PK := [.io tCr true, .val i64 false]
abbrev rs28 : List RK := [.val i64 false]
abbrev R28 := retsD rs28 × outsD ps28
noncomputable def G28 : Gam := fun f => match f with | 79 => some Sm79 | _ => none
theorem h0_28 (hg : GamOK Try.prog G28) : Holds Try.prog 28 ⟨ps28, rs28, false, runF TT G28 an28 Try.f28 c28 ps28 rs28⟩ := holds_of tt_ok hg mixed Try.func28 (by kernel_rfl) (by rfl) (by decide +kernel)
noncomputable def at28 : Nat → Pt → List Nat → St → Option R28 := atF TT G28 an28 Try.f28 c28 _ _
noncomputable def st28_top (n : Nat) (a : Int × Int × List Int) (b : Int) : Option R28 :=
  (q79 n (a.snd.snd, b, ())).bind fun r0 => some ((r0.fst.fst, ()), ((a.fst, (a.snd.fst, r0.snd.fst)), ()))
theorem e28_top (n : Nat) (a : Int × Int × List Int) (b : Int) : runF TT G28 an28 Try.f28 c28 ps28 rs28 n (a, b, ()) = st28_top n a b := by kernel_rfl
noncomputable def p28 (n : Nat) (a : Int × Int × List Int) (b : Int) : Option R28 := st28_top n a b
theorem F28_eq (n : Nat) (a : Int × Int × List Int) (b : Int) : runF TT G28 an28 Try.f28 c28 ps28 rs28 n (a, b, ()) = p28 n a b := by
  rw [e28_top]
  skip
  try rfl
noncomputable def q28 (n : Nat) (x : argsD ps28) : Option R28 := p28 n x.1 x.2.1
noncomputable def Sm28 : Sm := ⟨ps28, rs28, false, q28⟩
theorem holds28 (hg : GamOK Try.prog G28) : Holds Try.prog 28 Sm28 := by
  have := h0_28 hg
  have e : (runF TT G28 an28 Try.f28 c28 ps28 rs28) = q28 := by
    funext n x
    exact F28_eq n x.1 x.2.1
  rw [e] at this
  exact this
theorem gam28 : GamOK Try.prog G28 := by
  intro f s h
  unfold G28 at h
  split at h
  · injection h with h; subst h; exact ⟨⟨Try.f79, c79, Try.func79, by kernel_rfl, by decide +kernel⟩, hh79⟩
  · cases h
theorem hh28 : Holds Try.prog 28 Sm28 := holds28 gam28
end Go.Proofs.Ythhopbicmaipgaa.Rx.S
namespace Go.Proofs.Ythhopbicmaipgaa.Rx.S
open Go Go.RowKit Go.Proofs
set_option maxRecDepth 100000
noncomputable def c63 : Code := (Try.f63.body.getD .skip)
def an63 : An := ⟨fun r => match r with | 2 => ⟨[1, 3], []⟩ | _ => ⟨[], []⟩, fun _ _ => none⟩
abbrev ps63 : List PK := [.val tCr true]
abbrev rs63 : List RK := [.val .bool false]
abbrev R63 := retsD rs63 × outsD ps63
noncomputable def G63 : Gam := fun f => match f with | 87 => some Sm87 | _ => none
theorem h0_63 (hg : GamOK Try.prog G63) : Holds Try.prog 63 ⟨ps63, rs63, false, runF TT G63 an63 Try.f63 c63 ps63 rs63⟩ := holds_of tt_ok hg mixed Try.func63 (by kernel_rfl) (by rfl) (by decide +kernel)
noncomputable def at63 : Nat → Pt → List Nat → St → Option R63 := atF TT G63 an63 Try.f63 c63 _ _
def sh63_L2 (x0 : Int) (x1 : Int) (x2 : Int) (x3 : List Int) : St := (St.mk (AV.undef :: ((AV.one (SV.bptr 1000000 0)) :: (AV.undef :: ((AV.one (SV.int (Go.IntKind.i64) x0)) :: (AV.undef :: (AV.undef :: (AV.undef :: (AV.undef :: (AV.undef :: (AV.undef :: (AV.undef :: (AV.undef :: (AV.undef :: (AV.undef :: (AV.undef :: (AV.undef :: (AV.undef :: (AV.undef :: (AV.undef :: (AV.undef :: (AV.undef :: (AV.undef :: (AV.undef :: (AV.undef :: (AV.undef :: (AV.undef :: (AV.undef :: (AV.undef :: (AV.undef :: (AV.undef :: (AV.undef :: (AV.undef :: (AV.undef :: (AV.undef :: (AV.undef :: (AV.undef :: (AV.undef :: (AV.undef :: (AV.undef :: (AV.undef :: (AV.undef :: (AV.undef :: (AV.undef :: (AV.undef :: (AV.undef :: (AV.undef :: (AV.undef :: (AV.undef :: (AV.undef :: (AV.undef :: [])))))))))))))))))))))))))))))))))))))))))))))))))) ((1000000, (Ent.box ((SV.int (Go.IntKind.i64) x1) :: ((SV.int (Go.IntKind.i64) x2) :: ((SV.con (⟨3, Ty.int Go.IntKind.i64, x3⟩ : Rw)) :: []))))) :: []))
noncomputable def st63_top (n : Nat) (lL2 : Int → Int → Int → (List Int) → Option R63) (a : Int × Int × List Int) : Option R63 :=
  lL2 ((0 : Int)) (a.fst) (a.snd.fst) (a.snd.snd)
noncomputable def st63_L2 (n : Nat) (lL2 : Int → Int → Int → (List Int) → Option R63) (x0 : Int) (x1 : Int) (x2 : Int) (x3 : List Int) : Option R63 :=
  cond (decide (x0 < (↑x3.length : Int))) (cond (decide ((0 : Int) ≤ x0)) (cond (decide (x0 < (↑x3.length : Int))) ((q87 n (x3.getD x0.toNat (0 : Int), ())).bind fun r1 => cond (!r1.fst.fst) (some ((false, ()), ())) (cond (decide ((0 : Int) < x0)) (cond (decide ((0 : Int) ≤ Go.IntKind.i64.wrap (x0 - (1 : Int)))) (cond (decide (Go.IntKind.i64.wrap (x0 - (1 : Int)) < (↑x3.length : Int))) (cond (decide ((0 : Int) ≤ x0)) (cond (decide (x0 < (↑x3.length : Int))) (cond (decide (x3.getD x0.toNat (0 : Int) ≤ x3.getD (Go.IntKind.i64.wrap (x0 - (1 : Int))).toNat (0 : Int))) (some ((false, ()), ())) (lL2 (Go.IntKind.i64.wrap (x0 + (1 : Int))) (x1) (x2) (x3))) (none)) (none)) (none)) (none)) (lL2 (Go.IntKind.i64.wrap (x0 + (1 : Int))) (x1) (x2) (x3)))) (none)) (none)) ((q87 n (x1, ())).bind fun r2 => cond (r2.fst.fst) ((q87 n (x2, ())).bind fun r3 => cond (r3.fst.fst) (some ((decide ((↑x3.length : Int) ≤ (3 : Int)), ()), ())) (some ((false, ()), ()))) (some ((false, ()), ())))
theorem e63_top (n : Nat) (a : Int × Int × List Int) : runF TT G63 an63 Try.f63 c63 ps63 rs63 n (a, ()) = st63_top n (fun x0 x1 x2 x3 => at63 n (.head 2) [n] (sh63_L2 x0 x1 x2 x3)) a := by kernel_rfl
theorem e63_L2_0 (n : Nat) (x0 : Int) (x1 : Int) (x2 : Int) (x3 : List Int) : at63 n (.head 2) [0] (sh63_L2 x0 x1 x2 x3) = none := by kernel_rfl
theorem e63_L2 (n : Nat) (m2 : Nat) (x0 : Int) (x1 : Int) (x2 : Int) (x3 : List Int) : at63 n (.head 2) [m2 + 1] (sh63_L2 x0 x1 x2 x3) = st63_L2 n (fun x0 x1 x2 x3 => at63 n (.head 2) [m2] (sh63_L2 x0 x1 x2 x3)) x0 x1 x2 x3 := by kernel_rfl
noncomputable def p63_L2 (n : Nat) : Nat → Int → Int → Int → (List Int) → Option R63
  | 0, _, _, _, _ => none
  | m + 1, x0, x1, x2, x3 => st63_L2 n (p63_L2 n m) x0 x1 x2 x3
noncomputable def p63 (n : Nat) (a : Int × Int × List Int) : Option R63 := st63_top n (p63_L2 n n) a
theorem t63_L2 (n : Nat) : ∀ (m2 : Nat) (x0 : Int) (x1 : Int) (x2 : Int) (x3 : List Int), at63 n (.head 2) [m2] (sh63_L2 x0 x1 x2 x3) = p63_L2 n m2 x0 x1 x2 x3 := by
  intro m
  induction m with
  | zero => intros; rw [e63_L2_0]; rfl
  | succ m ih =>
    intros
    rw [e63_L2]
    try simp only [ih]
    rfl
theorem F63_eq (n : Nat) (a : Int × Int × List Int) : runF TT G63 an63 Try.f63 c63 ps63 rs63 n (a, ()) = p63 n a := by
  rw [e63_top]
  simp only [t63_L2]
  try rfl
noncomputable def q63 (n : Nat) (x : argsD ps63) : Option R63 := p63 n x.1
noncomputable def Sm63 : Sm := ⟨ps63, rs63, false, q63⟩
theorem holds63 (hg : GamOK Try.prog G63) : Holds Try.prog 63 Sm63 := by
  have := h0_63 hg
  have e : (runF TT G63 an63 Try.f63 c63 ps63 rs63) = q63 := by
    funext n x
    exact F63_eq n x.1
  rw [e] at this
  exact this
theorem gam63 : GamOK Try.prog G63 := by
  intro f s h
  unfold G63 at h
  split at h
  · injection h with h; subst h; exact ⟨⟨Try.f87, c87, Try.func87, by kernel_rfl, by decide +kernel⟩, hh87⟩
  · cases h
theorem hh63 : Holds Try.prog 63 Sm63 := holds63 gam63
end Go.Proofs.Ythhopbicmaipgaa.Rx.S
namespace Go.Proofs.Ythhopbicmaipgaa.Rx.S
open Go Go.RowKit Go.Proofs
set_option maxRecDepth 100000
noncomputable def c38 : Code := (Try.f38.body.getD .skip)
def an38 : An := ⟨fun _ => ⟨[], []⟩, fun _ _ => none⟩
abbrev ps38 : List PK := [.val tFs true, .val tCr true, .val i64 false, .val i64 false]
abbrev rs38 : List RK := [.own tFs true, .val i64 false]
abbrev R38 := retsD rs38 × outsD ps38
noncomputable def G38 : Gam := fun f => match f with | 62 => some Sm62 | 63 => some Sm63 | 64 => some Sm64 | 66 => some Sm66 | 68 => some Sm68 | _ => none
theorem h0_38 (hg : GamOK Try.prog G38) : Holds Try.prog 38 ⟨ps38, rs38, false, runF TT G38 an38 Try.f38 c38 ps38 rs38⟩ := holds_of tt_ok hg mixed Try.func38 (by kernel_rfl) (by rfl) (by decide +kernel)
noncomputable def at38 : Nat → Pt → List Nat → St → Option R38 := atF TT G38 an38 Try.f38 c38 _ _
noncomputable def st38_top (n : Nat) (a : List (Int × Int × Int × Int × Int × Int × Bool × ByteArray × List (ByteArray × Int))) (b : Int × Int × List Int) (c : Int) (d : Int) : Option R38 :=
  (q62 n (a, ())).bind fun r0 => cond (!r0.fst.fst) (some (([], ((1 : Int), ())), ())) ((q63 n ((b.fst, b.snd.fst, b.snd.snd), ())).bind fun r1 => cond (!r1.fst.fst) (some (([], ((1 : Int), ())), ())) ((q64 n (a, c, ())).bind fun r2 => cond (!r2.fst.fst) (some (([], ((1 : Int), ())), ())) ((q66 n (d, (0 : Int), (511 : Int), ())).bind fun r3 => cond (!r3.fst.fst) (some (([], ((1 : Int), ())), ())) ((q68 n (a, ())).bind fun r4 => cond (!decide (b.fst = (0 : Int))) (cond (decide ((0 : Int) ≤ c)) (cond (decide (c < (↑a.length : Int))) (cond (!decide (b.fst = (a.getD c.toNat ((0 : Int), (0 : Int), (0 : Int), (0 : Int), (0 : Int), (0 : Int), false, ByteArray.empty, [])).snd.snd.fst)) (some ((r4.fst.fst, ((5 : Int), ())), ())) (cond (decide ((0 : Int) ≤ c)) (cond (decide (c < (↑(List.length r4.fst.fst) : Int))) (some ((List.set r4.fst.fst c.toNat ((List.getD r4.fst.fst c.toNat ((0 : Int), (0 : Int), (0 : Int), (0 : Int), (0 : Int), (0 : Int), false, ByteArray.empty, [])).fst, d, (List.getD r4.fst.fst c.toNat ((0 : Int), (0 : Int), (0 : Int), (0 : Int), (0 : Int), (0 : Int), false, ByteArray.empty, [])).snd.snd), ((0 : Int), ())), ())) (none)) (none))) (none)) (none)) (cond (decide ((0 : Int) ≤ c)) (cond (decide (c < (↑(List.length r4.fst.fst) : Int))) (some ((List.set r4.fst.fst c.toNat ((List.getD r4.fst.fst c.toNat ((0 : Int), (0 : Int), (0 : Int), (0 : Int), (0 : Int), (0 : Int), false, ByteArray.empty, [])).fst, d, (List.getD r4.fst.fst c.toNat ((0 : Int), (0 : Int), (0 : Int), (0 : Int), (0 : Int), (0 : Int), false, ByteArray.empty, [])).snd.snd), ((0 : Int), ())), ())) (none)) (none))))))
theorem e38_top (n : Nat) (a : List (Int × Int × Int × Int × Int × Int × Bool × ByteArray × List (ByteArray × Int))) (b : Int × Int × List Int) (c : Int) (d : Int) : runF TT G38 an38 Try.f38 c38 ps38 rs38 n (a, b, c, d, ()) = st38_top n a b c d := by kernel_rfl
noncomputable def p38 (n : Nat) (a : List (Int × Int × Int × Int × Int × Int × Bool × ByteArray × List (ByteArray × Int))) (b : Int × Int × List Int) (c : Int) (d : Int) : Option R38 := st38_top n a b c d
theorem F38_eq (n : Nat) (a : List (Int × Int × Int × Int × Int × Int × Bool × ByteArray × List (ByteArray × Int))) (b : Int × Int × List Int) (c : Int) (d : Int) : runF TT G38 an38 Try.f38 c38 ps38 rs38 n (a, b, c, d, ()) = p38 n a b c d := by
  rw [e38_top]
  skip
  try rfl
noncomputable def q38 (n : Nat) (x : argsD ps38) : Option R38 := p38 n x.1 x.2.1 x.2.2.1 x.2.2.2.1
noncomputable def Sm38 : Sm := ⟨ps38, rs38, false, q38⟩
theorem holds38 (hg : GamOK Try.prog G38) : Holds Try.prog 38 Sm38 := by
  have := h0_38 hg
  have e : (runF TT G38 an38 Try.f38 c38 ps38 rs38) = q38 := by
    funext n x
    exact F38_eq n x.1 x.2.1 x.2.2.1 x.2.2.2.1
  rw [e] at this
  exact this
theorem gam38 : GamOK Try.prog G38 := by
  intro f s h
  unfold G38 at h
  split at h
  · injection h with h; subst h; exact ⟨⟨Try.f62, c62, Try.func62, by kernel_rfl, by decide +kernel⟩, hh62⟩
  · injection h with h; subst h; exact ⟨⟨Try.f63, c63, Try.func63, by kernel_rfl, by decide +kernel⟩, hh63⟩
  · injection h with h; subst h; exact ⟨⟨Try.f64, c64, Try.func64, by kernel_rfl, by decide +kernel⟩, hh64⟩
  · injection h with h; subst h; exact ⟨⟨Try.f66, c66, Try.func66, by kernel_rfl, by decide +kernel⟩, hh66⟩
  · injection h with h; subst h; exact ⟨⟨Try.f68, c68, Try.func68, by kernel_rfl, by decide +kernel⟩, hh68⟩
  · cases h
theorem hh38 : Holds Try.prog 38 Sm38 := holds38 gam38
end Go.Proofs.Ythhopbicmaipgaa.Rx.S
namespace Go.Proofs.Ythhopbicmaipgaa.Rx.S
open Go Go.RowKit Go.Proofs
set_option maxRecDepth 100000
noncomputable def c90 : Code := (Try.f90.body.getD .skip)
def an90 : An := ⟨fun r => match r with | 2 => ⟨[1, 6, 7, 8], []⟩ | _ => ⟨[], []⟩, fun _ _ => none⟩
abbrev ps90 : List PK := [.val tCr true]
abbrev rs90 : List RK := [.val .bool false]
abbrev R90 := retsD rs90 × outsD ps90
noncomputable def G90 : Gam := fun f => match f with | 55 => some Sm55 | _ => none
theorem h0_90 (hg : GamOK Try.prog G90) : Holds Try.prog 90 ⟨ps90, rs90, false, runF TT G90 an90 Try.f90 c90 ps90 rs90⟩ := holds_of tt_ok hg mixed Try.func90 (by kernel_rfl) (by rfl) (by decide +kernel)
noncomputable def at90 : Nat → Pt → List Nat → St → Option R90 := atF TT G90 an90 Try.f90 c90 _ _
def sh90_L2 (x0 : List Int) (x1 : Int) (x2 : Int) (x3 : Int) (x4 : Int) (x5 : List Int) : St := (St.mk (AV.undef :: ((AV.one (SV.bptr 1000000 0)) :: (AV.undef :: (AV.undef :: (AV.undef :: (AV.undef :: ((AV.one (SV.con (⟨3, Ty.int Go.IntKind.i64, x0⟩ : Rw))) :: ((AV.one (SV.int (Go.IntKind.i64) x1)) :: ((AV.one (SV.int (Go.IntKind.i64) x2)) :: (AV.undef :: (AV.undef :: (AV.undef :: (AV.undef :: (AV.undef :: (AV.undef :: (AV.undef :: (AV.undef :: (AV.undef :: (AV.undef :: (AV.undef :: (AV.undef :: (AV.undef :: (AV.undef :: (AV.undef :: (AV.undef :: (AV.undef :: (AV.undef :: (AV.undef :: (AV.undef :: (AV.undef :: (AV.undef :: (AV.undef :: (AV.undef :: (AV.undef :: (AV.undef :: (AV.undef :: (AV.undef :: (AV.undef :: (AV.undef :: (AV.undef :: (AV.undef :: (AV.undef :: (AV.undef :: (AV.undef :: (AV.undef :: []))))))))))))))))))))))))))))))))))))))))))))) ((1000000, (Ent.box ((SV.int (Go.IntKind.i64) x3) :: ((SV.int (Go.IntKind.i64) x4) :: ((SV.con (⟨3, Ty.int Go.IntKind.i64, x5⟩ : Rw)) :: []))))) :: []))
noncomputable def st90_top (n : Nat) (lL2 : (List Int) → Int → Int → Int → Int → (List Int) → Option R90) (a : Int × Int × List Int) : Option R90 :=
  lL2 (a.snd.snd) ((↑(List.length a.snd.snd) : Int)) ((0 : Int)) (a.fst) (a.snd.fst) (a.snd.snd)
noncomputable def st90_L2 (n : Nat) (lL2 : (List Int) → Int → Int → Int → Int → (List Int) → Option R90) (x0 : List Int) (x1 : Int) (x2 : Int) (x3 : Int) (x4 : Int) (x5 : List Int) : Option R90 :=
  cond (decide (x2 < x1)) (cond (decide ((0 : Int) ≤ x2)) (cond (decide (x2 < (↑x0.length : Int))) ((q55 n (x0.getD x2.toNat (0 : Int), (0 : Int), (9 : Int), ())).bind fun r1 => cond (!r1.fst.fst) (some ((false, ()), ())) (cond (decide ((0 : Int) < x2)) (cond (decide ((0 : Int) ≤ Go.IntKind.i64.wrap (x2 - (1 : Int)))) (cond (decide (Go.IntKind.i64.wrap (x2 - (1 : Int)) < (↑x5.length : Int))) (cond (decide (x0.getD x2.toNat (0 : Int) ≤ x5.getD (Go.IntKind.i64.wrap (x2 - (1 : Int))).toNat (0 : Int))) (some ((false, ()), ())) (lL2 (x0) (x1) (Go.IntKind.i64.wrap (x2 + (1 : Int))) (x3) (x4) (x5))) (none)) (none)) (lL2 (x0) (x1) (Go.IntKind.i64.wrap (x2 + (1 : Int))) (x3) (x4) (x5)))) (none)) (none)) ((q55 n (x3, (0 : Int), (9 : Int), ())).bind fun r2 => cond (r2.fst.fst) ((q55 n (x4, (0 : Int), (9 : Int), ())).bind fun r3 => cond (r3.fst.fst) (some ((decide ((↑x5.length : Int) ≤ (3 : Int)), ()), ())) (some ((false, ()), ()))) (some ((false, ()), ())))
theorem e90_top (n : Nat) (a : Int × Int × List Int) : runF TT G90 an90 Try.f90 c90 ps90 rs90 n (a, ()) = st90_top n (fun x0 x1 x2 x3 x4 x5 => at90 n (.head 2) [n] (sh90_L2 x0 x1 x2 x3 x4 x5)) a := by kernel_rfl
theorem e90_L2_0 (n : Nat) (x0 : List Int) (x1 : Int) (x2 : Int) (x3 : Int) (x4 : Int) (x5 : List Int) : at90 n (.head 2) [0] (sh90_L2 x0 x1 x2 x3 x4 x5) = none := by kernel_rfl
theorem e90_L2 (n : Nat) (m2 : Nat) (x0 : List Int) (x1 : Int) (x2 : Int) (x3 : Int) (x4 : Int) (x5 : List Int) : at90 n (.head 2) [m2 + 1] (sh90_L2 x0 x1 x2 x3 x4 x5) = st90_L2 n (fun x0 x1 x2 x3 x4 x5 => at90 n (.head 2) [m2] (sh90_L2 x0 x1 x2 x3 x4 x5)) x0 x1 x2 x3 x4 x5 := by kernel_rfl
noncomputable def p90_L2 (n : Nat) : Nat → (List Int) → Int → Int → Int → Int → (List Int) → Option R90
  | 0, _, _, _, _, _, _ => none
  | m + 1, x0, x1, x2, x3, x4, x5 => st90_L2 n (p90_L2 n m) x0 x1 x2 x3 x4 x5
noncomputable def p90 (n : Nat) (a : Int × Int × List Int) : Option R90 := st90_top n (p90_L2 n n) a
theorem t90_L2 (n : Nat) : ∀ (m2 : Nat) (x0 : List Int) (x1 : Int) (x2 : Int) (x3 : Int) (x4 : Int) (x5 : List Int), at90 n (.head 2) [m2] (sh90_L2 x0 x1 x2 x3 x4 x5) = p90_L2 n m2 x0 x1 x2 x3 x4 x5 := by
  intro m
  induction m with
  | zero => intros; rw [e90_L2_0]; rfl
  | succ m ih =>
    intros
    rw [e90_L2]
    try simp only [ih]
    rfl
theorem F90_eq (n : Nat) (a : Int × Int × List Int) : runF TT G90 an90 Try.f90 c90 ps90 rs90 n (a, ()) = p90 n a := by
  rw [e90_top]
  simp only [t90_L2]
  try rfl
noncomputable def q90 (n : Nat) (x : argsD ps90) : Option R90 := p90 n x.1
noncomputable def Sm90 : Sm := ⟨ps90, rs90, false, q90⟩
theorem holds90 (hg : GamOK Try.prog G90) : Holds Try.prog 90 Sm90 := by
  have := h0_90 hg
  have e : (runF TT G90 an90 Try.f90 c90 ps90 rs90) = q90 := by
    funext n x
    exact F90_eq n x.1
  rw [e] at this
  exact this
theorem gam90 : GamOK Try.prog G90 := by
  intro f s h
  unfold G90 at h
  split at h
  · injection h with h; subst h; exact ⟨⟨Try.f55, c55, Try.func55, by kernel_rfl, by decide +kernel⟩, hh55⟩
  · cases h
theorem hh90 : Holds Try.prog 90 Sm90 := holds90 gam90
end Go.Proofs.Ythhopbicmaipgaa.Rx.S
namespace Go.Proofs.Ythhopbicmaipgaa.Rx.S
open Go Go.RowKit Go.Proofs
set_option maxRecDepth 100000
noncomputable def c53 : Code := (Try.f53.body.getD .skip)
def an53 : An := ⟨fun r => match r with | 4 => ⟨[3, 17, 18, 19], []⟩ | _ => ⟨[], []⟩, fun _ _ => none⟩
abbrev ps53 : List PK := [.val tFs true, .val tCr true, .val (.row 3 i64) false]
abbrev rs53 : List RK := [.val .bool false]
abbrev R53 := retsD rs53 × outsD ps53
noncomputable def G53 : Gam := fun f => match f with | 36 => some Sm36 | 82 => some Sm82 | 90 => some Sm90 | _ => none
theorem h0_53 (hg : GamOK Try.prog G53) : Holds Try.prog 53 ⟨ps53, rs53, false, runF TT G53 an53 Try.f53 c53 ps53 rs53⟩ := holds_of tt_ok hg mixed Try.func53 (by kernel_rfl) (by rfl) (by decide +kernel)
noncomputable def at53 : Nat → Pt → List Nat → St → Option R53 := atF TT G53 an53 Try.f53 c53 _ _
def sh53_L4 (x0 : List Int) (x1 : Int) (x2 : Int) (x3 : List (Int × Int × Int × Int × Int × Int × Bool × ByteArray × List (ByteArray × Int))) : St := (St.mk (AV.undef :: (AV.undef :: (AV.undef :: ((AV.one (SV.bptr 1000000 0)) :: (AV.undef :: (AV.undef :: (AV.undef :: (AV.undef :: (AV.undef :: (AV.undef :: (AV.undef :: (AV.undef :: (AV.undef :: (AV.undef :: (AV.undef :: (AV.undef :: (AV.undef :: ((AV.one (SV.con (⟨3, Ty.int Go.IntKind.i64, x0⟩ : Rw))) :: ((AV.one (SV.int (Go.IntKind.i64) x1)) :: ((AV.one (SV.int (Go.IntKind.i64) x2)) :: (AV.undef :: (AV.undef :: (AV.undef :: (AV.undef :: (AV.undef :: (AV.undef :: (AV.undef :: (AV.undef :: [])))))))))))))))))))))))))))) ((1000000, (Ent.box ((SV.con (⟨39, (Ty.int Go.IntKind.i64).pair ((Ty.int Go.IntKind.i64).pair ((Ty.int Go.IntKind.i64).pair ((Ty.int Go.IntKind.i64).pair ((Ty.int Go.IntKind.i64).pair ((Ty.int Go.IntKind.i64).pair (Ty.bool.pair (Ty.str.pair (Ty.row (nat_lit 95) (Ty.str.pair (Ty.int Go.IntKind.i64)))))))))), x3⟩ : Rw)) :: []))) :: []))
noncomputable def st53_top (n : Nat) (lL4 : (List Int) → Int → Int → (List (Int × Int × Int × Int × Int × Int × Bool × ByteArray × List (ByteArray × Int))) → Option R53) (a : List (Int × Int × Int × Int × Int × Int × Bool × ByteArray × List (ByteArray × Int))) (b : Int × Int × List Int) (c : List Int) : Option R53 :=
  (q36 n (a, ())).bind fun r0 => cond (!r0.fst.fst) (some ((false, ()), ())) ((q90 n ((b.fst, b.snd.fst, b.snd.snd), ())).bind fun r1 => cond (!r1.fst.fst) (some ((false, ()), ())) (lL4 (c) ((↑c.length : Int)) ((0 : Int)) (a)))
noncomputable def st53_L4 (n : Nat) (lL4 : (List Int) → Int → Int → (List (Int × Int × Int × Int × Int × Int × Bool × ByteArray × List (ByteArray × Int))) → Option R53) (x0 : List Int) (x1 : Int) (x2 : Int) (x3 : List (Int × Int × Int × Int × Int × Int × Bool × ByteArray × List (ByteArray × Int))) : Option R53 :=
  cond (decide (x2 < x1)) (cond (decide ((0 : Int) ≤ x2)) (cond (decide (x2 < (↑x0.length : Int))) ((q82 n (x3, x0.getD x2.toNat (0 : Int), ())).bind fun r3 => cond (!r3.fst.fst) (some ((false, ()), ())) (lL4 (x0) (x1) (Go.IntKind.i64.wrap (x2 + (1 : Int))) (x3))) (none)) (none)) (some ((true, ()), ()))
theorem e53_top (n : Nat) (a : List (Int × Int × Int × Int × Int × Int × Bool × ByteArray × List (ByteArray × Int))) (b : Int × Int × List Int) (c : List Int) : runF TT G53 an53 Try.f53 c53 ps53 rs53 n (a, b, c, ()) = st53_top n (fun x0 x1 x2 x3 => at53 n (.head 4) [n] (sh53_L4 x0 x1 x2 x3)) a b c := by kernel_rfl
theorem e53_L4_0 (n : Nat) (x0 : List Int) (x1 : Int) (x2 : Int) (x3 : List (Int × Int × Int × Int × Int × Int × Bool × ByteArray × List (ByteArray × Int))) : at53 n (.head 4) [0] (sh53_L4 x0 x1 x2 x3) = none := by kernel_rfl
theorem e53_L4 (n : Nat) (m4 : Nat) (x0 : List Int) (x1 : Int) (x2 : Int) (x3 : List (Int × Int × Int × Int × Int × Int × Bool × ByteArray × List (ByteArray × Int))) : at53 n (.head 4) [m4 + 1] (sh53_L4 x0 x1 x2 x3) = st53_L4 n (fun x0 x1 x2 x3 => at53 n (.head 4) [m4] (sh53_L4 x0 x1 x2 x3)) x0 x1 x2 x3 := by kernel_rfl
noncomputable def p53_L4 (n : Nat) : Nat → (List Int) → Int → Int → (List (Int × Int × Int × Int × Int × Int × Bool × ByteArray × List (ByteArray × Int))) → Option R53
  | 0, _, _, _, _ => none
  | m + 1, x0, x1, x2, x3 => st53_L4 n (p53_L4 n m) x0 x1 x2 x3
noncomputable def p53 (n : Nat) (a : List (Int × Int × Int × Int × Int × Int × Bool × ByteArray × List (ByteArray × Int))) (b : Int × Int × List Int) (c : List Int) : Option R53 := st53_top n (p53_L4 n n) a b c
theorem t53_L4 (n : Nat) : ∀ (m4 : Nat) (x0 : List Int) (x1 : Int) (x2 : Int) (x3 : List (Int × Int × Int × Int × Int × Int × Bool × ByteArray × List (ByteArray × Int))), at53 n (.head 4) [m4] (sh53_L4 x0 x1 x2 x3) = p53_L4 n m4 x0 x1 x2 x3 := by
  intro m
  induction m with
  | zero => intros; rw [e53_L4_0]; rfl
  | succ m ih =>
    intros
    rw [e53_L4]
    try simp only [ih]
    rfl
theorem F53_eq (n : Nat) (a : List (Int × Int × Int × Int × Int × Int × Bool × ByteArray × List (ByteArray × Int))) (b : Int × Int × List Int) (c : List Int) : runF TT G53 an53 Try.f53 c53 ps53 rs53 n (a, b, c, ()) = p53 n a b c := by
  rw [e53_top]
  simp only [t53_L4]
  try rfl
noncomputable def q53 (n : Nat) (x : argsD ps53) : Option R53 := p53 n x.1 x.2.1 x.2.2.1
noncomputable def Sm53 : Sm := ⟨ps53, rs53, false, q53⟩
theorem holds53 (hg : GamOK Try.prog G53) : Holds Try.prog 53 Sm53 := by
  have := h0_53 hg
  have e : (runF TT G53 an53 Try.f53 c53 ps53 rs53) = q53 := by
    funext n x
    exact F53_eq n x.1 x.2.1 x.2.2.1
  rw [e] at this
  exact this
theorem gam53 : GamOK Try.prog G53 := by
  intro f s h
  unfold G53 at h
  split at h
  · injection h with h; subst h; exact ⟨⟨Try.f36, c36, Try.func36, by kernel_rfl, by decide +kernel⟩, hh36⟩
  · injection h with h; subst h; exact ⟨⟨Try.f82, c82, Try.func82, by kernel_rfl, by decide +kernel⟩, hh82⟩
  · injection h with h; subst h; exact ⟨⟨Try.f90, c90, Try.func90, by kernel_rfl, by decide +kernel⟩, hh90⟩
  · cases h
theorem hh53 : Holds Try.prog 53 Sm53 := holds53 gam53
end Go.Proofs.Ythhopbicmaipgaa.Rx.S
namespace Go.Proofs.Ythhopbicmaipgaa.Rx.S
open Go Go.RowKit Go.Proofs
set_option maxRecDepth 100000
noncomputable def c39 : Code := (Try.f39.body.getD .skip)
def an39 : An := ⟨fun _ => ⟨[], []⟩, fun _ _ => none⟩
abbrev ps39 : List PK := [.val tFs true, .val tCr true, .val i64 false, .val i64 false]
abbrev rs39 : List RK := [.own tFs true, .val i64 false]
abbrev R39 := retsD rs39 × outsD ps39
noncomputable def G39 : Gam := fun f => match f with | 53 => some Sm53 | 55 => some Sm55 | 56 => some Sm56 | _ => none
theorem h0_39 (hg : GamOK Try.prog G39) : Holds Try.prog 39 ⟨ps39, rs39, false, runF TT G39 an39 Try.f39 c39 ps39 rs39⟩ := holds_of tt_ok hg mixed Try.func39 (by kernel_rfl) (by rfl) (by decide +kernel)
noncomputable def at39 : Nat → Pt → List Nat → St → Option R39 := atF TT G39 an39 Try.f39 c39 _ _
noncomputable def st39_top (n : Nat) (a : List (Int × Int × Int × Int × Int × Int × Bool × ByteArray × List (ByteArray × Int))) (b : Int × Int × List Int) (c : Int) (d : Int) : Option R39 :=
  (q53 n (a, (b.fst, b.snd.fst, b.snd.snd), [c], ())).bind fun r0 => cond (!r0.fst.fst) (some (([], ((1 : Int), ())), ())) ((q55 n (d, (0 : Int), (511 : Int), ())).bind fun r1 => cond (!r1.fst.fst) (some (([], ((1 : Int), ())), ())) ((q56 n (a, ())).bind fun r2 => cond (!decide (b.fst = (0 : Int))) (cond (decide ((0 : Int) ≤ c)) (cond (decide (c < (↑a.length : Int))) (cond (!decide (b.fst = (a.getD c.toNat ((0 : Int), (0 : Int), (0 : Int), (0 : Int), (0 : Int), (0 : Int), false, ByteArray.empty, [])).snd.snd.fst)) (some ((r2.fst.fst, ((5 : Int), ())), ())) (cond (decide ((0 : Int) ≤ c)) (cond (decide (c < (↑(List.length r2.fst.fst) : Int))) (some ((List.set r2.fst.fst c.toNat ((List.getD r2.fst.fst c.toNat ((0 : Int), (0 : Int), (0 : Int), (0 : Int), (0 : Int), (0 : Int), false, ByteArray.empty, [])).fst, d, (List.getD r2.fst.fst c.toNat ((0 : Int), (0 : Int), (0 : Int), (0 : Int), (0 : Int), (0 : Int), false, ByteArray.empty, [])).snd.snd), ((0 : Int), ())), ())) (none)) (none))) (none)) (none)) (cond (decide ((0 : Int) ≤ c)) (cond (decide (c < (↑(List.length r2.fst.fst) : Int))) (some ((List.set r2.fst.fst c.toNat ((List.getD r2.fst.fst c.toNat ((0 : Int), (0 : Int), (0 : Int), (0 : Int), (0 : Int), (0 : Int), false, ByteArray.empty, [])).fst, d, (List.getD r2.fst.fst c.toNat ((0 : Int), (0 : Int), (0 : Int), (0 : Int), (0 : Int), (0 : Int), false, ByteArray.empty, [])).snd.snd), ((0 : Int), ())), ())) (none)) (none))))
theorem e39_top (n : Nat) (a : List (Int × Int × Int × Int × Int × Int × Bool × ByteArray × List (ByteArray × Int))) (b : Int × Int × List Int) (c : Int) (d : Int) : runF TT G39 an39 Try.f39 c39 ps39 rs39 n (a, b, c, d, ()) = st39_top n a b c d := by kernel_rfl
noncomputable def p39 (n : Nat) (a : List (Int × Int × Int × Int × Int × Int × Bool × ByteArray × List (ByteArray × Int))) (b : Int × Int × List Int) (c : Int) (d : Int) : Option R39 := st39_top n a b c d
theorem F39_eq (n : Nat) (a : List (Int × Int × Int × Int × Int × Int × Bool × ByteArray × List (ByteArray × Int))) (b : Int × Int × List Int) (c : Int) (d : Int) : runF TT G39 an39 Try.f39 c39 ps39 rs39 n (a, b, c, d, ()) = p39 n a b c d := by
  rw [e39_top]
  skip
  try rfl
noncomputable def q39 (n : Nat) (x : argsD ps39) : Option R39 := p39 n x.1 x.2.1 x.2.2.1 x.2.2.2.1
noncomputable def Sm39 : Sm := ⟨ps39, rs39, false, q39⟩
theorem holds39 (hg : GamOK Try.prog G39) : Holds Try.prog 39 Sm39 := by
  have := h0_39 hg
  have e : (runF TT G39 an39 Try.f39 c39 ps39 rs39) = q39 := by
    funext n x
    exact F39_eq n x.1 x.2.1 x.2.2.1 x.2.2.2.1
  rw [e] at this
  exact this
theorem gam39 : GamOK Try.prog G39 := by
  intro f s h
  unfold G39 at h
  split at h
  · injection h with h; subst h; exact ⟨⟨Try.f53, c53, Try.func53, by kernel_rfl, by decide +kernel⟩, hh53⟩
  · injection h with h; subst h; exact ⟨⟨Try.f55, c55, Try.func55, by kernel_rfl, by decide +kernel⟩, hh55⟩
  · injection h with h; subst h; exact ⟨⟨Try.f56, c56, Try.func56, by kernel_rfl, by decide +kernel⟩, hh56⟩
  · cases h
theorem hh39 : Holds Try.prog 39 Sm39 := holds39 gam39
end Go.Proofs.Ythhopbicmaipgaa.Rx.S
namespace Go.Proofs.Ythhopbicmaipgaa.Rx.S
open Go Go.RowKit Go.Proofs
set_option maxRecDepth 100000
noncomputable def c10 : Code := (Try.f10.body.getD .skip)
def an10 : An := ⟨fun _ => ⟨[], []⟩, fun _ _ => none⟩
abbrev ps10 : List PK := [.val tLf true, .val tCr true, .val i64 false, .val i64 false]
abbrev rs10 : List RK := [.val .bool false]
abbrev R10 := retsD rs10 × outsD ps10
noncomputable def G10 : Gam := fun f => match f with | 21 => some Sm21 | 22 => some Sm22 | 23 => some Sm23 | 24 => some Sm24 | 25 => some Sm25 | 26 => some Sm26 | 27 => some Sm27 | 28 => some Sm28 | 29 => some Sm29 | 38 => some Sm38 | 39 => some Sm39 | _ => none
theorem h0_10 (hg : GamOK Try.prog G10) : Holds Try.prog 10 ⟨ps10, rs10, false, runF TT G10 an10 Try.f10 c10 ps10 rs10⟩ := holds_of tt_ok hg mixed Try.func10 (by kernel_rfl) (by rfl) (by decide +kernel)
noncomputable def at10 : Nat → Pt → List Nat → St → Option R10 := atF TT G10 an10 Try.f10 c10 _ _
noncomputable def st10_top (n : Nat) (a : List (Int × Int × Int × Int × Int × Int × Bool × ByteArray × List (ByteArray × Int))) (b : Int × Int × List Int) (c : Int) (d : Int) : Option R10 :=
  (q21 n (a, (1048576 : Int), ())).bind fun r0 => cond (decide (r0.fst.fst < (0 : Int))) (some ((true, ()), ())) ((q22 n ((b.fst, b.snd.fst, b.snd.snd), r0.fst.fst, ())).bind fun r1 => cond (decide (r1.fst.fst < (0 : Int))) (some ((true, ()), ())) ((q23 n (a, ())).bind fun r2 => (q24 n ((b.fst, b.snd.fst, b.snd.snd), ())).bind fun r3 => (q38 n (r2.fst.fst, (r3.fst.fst.fst, r3.fst.fst.snd.fst, r3.fst.fst.snd.snd), c, d, ())).bind fun r4 => (q23 n (a, ())).bind fun r5 => (q24 n ((b.fst, b.snd.fst, b.snd.snd), ())).bind fun r6 => (q39 n (r5.fst.fst, (r6.fst.fst.fst, r6.fst.fst.snd.fst, r6.fst.fst.snd.snd), c, d, ())).bind fun r7 => (q25 n (r7.fst.fst, r4.fst.fst, ())).bind fun r8 => cond (!r8.fst.fst) (some ((false, ()), ())) (cond (!decide (r7.fst.snd.fst = r4.fst.snd.fst)) (some ((false, ()), ())) ((q23 n (a, ())).bind fun r9 => (q25 n (r5.fst.fst, r9.fst.fst, ())).bind fun r10 => cond (!r10.fst.fst) (some ((false, ()), ())) ((q24 n ((b.fst, b.snd.fst, b.snd.snd), ())).bind fun r11 => (q26 n ((r6.fst.fst.fst, r6.fst.fst.snd.fst, r6.fst.fst.snd.snd), (r11.fst.fst.fst, r11.fst.fst.snd.fst, r11.fst.fst.snd.snd), ())).bind fun r12 => cond (!r12.fst.fst) (some ((false, ()), ())) ((q27 n (r5.fst.fst, (1 : Int), ())).bind fun r13 => (q28 n ((r6.fst.fst.fst, r6.fst.fst.snd.fst, r6.fst.fst.snd.snd), r13.fst.fst, ())).bind fun r14 => cond (decide (r14.fst.fst < (0 : Int))) (some ((false, ()), ())) ((q25 n (r7.fst.fst, r4.fst.fst, ())).bind fun r15 => cond (!r15.fst.fst) (some ((false, ()), ())) (cond (!decide (r7.fst.snd.fst = r4.fst.snd.fst)) (some ((false, ()), ())) ((q27 n (r7.fst.fst, (1 : Int), ())).bind fun r16 => (q29 n (r16.snd.fst, (1 : Int), ())).bind fun r17 => cond (decide (r17.fst.fst < (0 : Int))) (some ((false, ()), ())) (cond (!decide (r17.fst.fst = r16.fst.fst)) (some ((false, ()), ())) ((q23 n (a, ())).bind fun r18 => (q24 n ((b.fst, b.snd.fst, b.snd.snd), ())).bind fun r19 => (q39 n (r18.fst.fst, (r19.fst.fst.fst, r19.fst.fst.snd.fst, r19.fst.fst.snd.snd), c, d, ())).bind fun r20 => (q25 n (r20.fst.fst, r4.fst.fst, ())).bind fun r21 => cond (!r21.fst.fst) (some ((false, ()), ())) (cond (!decide (r20.fst.snd.fst = r4.fst.snd.fst)) (some ((false, ()), ())) ((q29 n (r16.snd.fst, (1 : Int), ())).bind fun r22 => cond (decide (r22.fst.fst < (0 : Int))) (some ((false, ()), ())) (cond (!decide (r22.fst.fst = r16.fst.fst)) (some ((false, ()), ())) (some ((true, ()), ()))))))))))))))))
theorem e10_top (n : Nat) (a : List (Int × Int × Int × Int × Int × Int × Bool × ByteArray × List (ByteArray × Int))) (b : Int × Int × List Int) (c : Int) (d : Int) : runF TT G10 an10 Try.f10 c10 ps10 rs10 n (a, b, c, d, ()) = st10_top n a b c d := by kernel_rfl
noncomputable def p10 (n : Nat) (a : List (Int × Int × Int × Int × Int × Int × Bool × ByteArray × List (ByteArray × Int))) (b : Int × Int × List Int) (c : Int) (d : Int) : Option R10 := st10_top n a b c d
theorem F10_eq (n : Nat) (a : List (Int × Int × Int × Int × Int × Int × Bool × ByteArray × List (ByteArray × Int))) (b : Int × Int × List Int) (c : Int) (d : Int) : runF TT G10 an10 Try.f10 c10 ps10 rs10 n (a, b, c, d, ()) = p10 n a b c d := by
  rw [e10_top]
  skip
  try rfl
noncomputable def q10 (n : Nat) (x : argsD ps10) : Option R10 := p10 n x.1 x.2.1 x.2.2.1 x.2.2.2.1
noncomputable def Sm10 : Sm := ⟨ps10, rs10, false, q10⟩
theorem holds10 (hg : GamOK Try.prog G10) : Holds Try.prog 10 Sm10 := by
  have := h0_10 hg
  have e : (runF TT G10 an10 Try.f10 c10 ps10 rs10) = q10 := by
    funext n x
    exact F10_eq n x.1 x.2.1 x.2.2.1 x.2.2.2.1
  rw [e] at this
  exact this
theorem gam10 : GamOK Try.prog G10 := by
  intro f s h
  unfold G10 at h
  split at h
  · injection h with h; subst h; exact ⟨⟨Try.f21, c21, Try.func21, by kernel_rfl, by decide +kernel⟩, hh21⟩
  · injection h with h; subst h; exact ⟨⟨Try.f22, c22, Try.func22, by kernel_rfl, by decide +kernel⟩, hh22⟩
  · injection h with h; subst h; exact ⟨⟨Try.f23, c23, Try.func23, by kernel_rfl, by decide +kernel⟩, hh23⟩
  · injection h with h; subst h; exact ⟨⟨Try.f24, c24, Try.func24, by kernel_rfl, by decide +kernel⟩, hh24⟩
  · injection h with h; subst h; exact ⟨⟨Try.f25, c25, Try.func25, by kernel_rfl, by decide +kernel⟩, hh25⟩
  · injection h with h; subst h; exact ⟨⟨Try.f26, c26, Try.func26, by kernel_rfl, by decide +kernel⟩, hh26⟩
  · injection h with h; subst h; exact ⟨⟨Try.f27, c27, Try.func27, by kernel_rfl, by decide +kernel⟩, hh27⟩
  · injection h with h; subst h; exact ⟨⟨Try.f28, c28, Try.func28, by kernel_rfl, by decide +kernel⟩, hh28⟩
  · injection h with h; subst h; exact ⟨⟨Try.f29, c29, Try.func29, by kernel_rfl, by decide +kernel⟩, hh29⟩
  · injection h with h; subst h; exact ⟨⟨Try.f38, c38, Try.func38, by kernel_rfl, by decide +kernel⟩, hh38⟩
  · injection h with h; subst h; exact ⟨⟨Try.f39, c39, Try.func39, by kernel_rfl, by decide +kernel⟩, hh39⟩
  · cases h
theorem hh10 : Holds Try.prog 10 Sm10 := holds10 gam10
end Go.Proofs.Ythhopbicmaipgaa.Rx.S
namespace Go.Proofs.Ythhopbicmaipgaa.Rx.S
open Go Go.RowKit Go.Proofs
set_option maxRecDepth 100000
noncomputable def c40 : Code := (Try.f40.body.getD .skip)
def an40 : An := ⟨fun _ => ⟨[], []⟩, fun _ _ => none⟩
abbrev ps40 : List PK := [.val tFs true, .val tCr true, .val i64 false, .val i64 false]
abbrev rs40 : List RK := [.own tFs true, .val i64 false]
abbrev R40 := retsD rs40 × outsD ps40
noncomputable def G40 : Gam := fun f => match f with | 62 => some Sm62 | 63 => some Sm63 | 64 => some Sm64 | 68 => some Sm68 | 87 => some Sm87 | _ => none
theorem h0_40 (hg : GamOK Try.prog G40) : Holds Try.prog 40 ⟨ps40, rs40, false, runF TT G40 an40 Try.f40 c40 ps40 rs40⟩ := holds_of tt_ok hg mixed Try.func40 (by kernel_rfl) (by rfl) (by decide +kernel)
noncomputable def at40 : Nat → Pt → List Nat → St → Option R40 := atF TT G40 an40 Try.f40 c40 _ _
noncomputable def st40_top (n : Nat) (a : List (Int × Int × Int × Int × Int × Int × Bool × ByteArray × List (ByteArray × Int))) (b : Int × Int × List Int) (c : Int) (d : Int) : Option R40 :=
  (q62 n (a, ())).bind fun r0 => cond (!r0.fst.fst) (some (([], ((1 : Int), ())), ())) ((q63 n ((b.fst, b.snd.fst, b.snd.snd), ())).bind fun r1 => cond (!r1.fst.fst) (some (([], ((1 : Int), ())), ())) ((q64 n (a, c, ())).bind fun r2 => cond (!r2.fst.fst) (some (([], ((1 : Int), ())), ())) ((q87 n (d, ())).bind fun r3 => cond (!r3.fst.fst) (some (([], ((1 : Int), ())), ())) ((q68 n (a, ())).bind fun r4 => cond (!decide (b.fst = (0 : Int))) (some ((r4.fst.fst, ((5 : Int), ())), ())) (cond (decide ((0 : Int) ≤ c)) (cond (decide (c < (↑(List.length r4.fst.fst) : Int))) (cond (decide ((0 : Int) ≤ c)) (cond (decide (c < (↑(List.set r4.fst.fst c.toNat ((List.getD r4.fst.fst c.toNat ((0 : Int), (0 : Int), (0 : Int), (0 : Int), (0 : Int), (0 : Int), false, ByteArray.empty, [])).fst, (List.getD r4.fst.fst c.toNat ((0 : Int), (0 : Int), (0 : Int), (0 : Int), (0 : Int), (0 : Int), false, ByteArray.empty, [])).snd.fst, d, (List.getD r4.fst.fst c.toNat ((0 : Int), (0 : Int), (0 : Int), (0 : Int), (0 : Int), (0 : Int), false, ByteArray.empty, [])).snd.snd.snd)).length : Int))) (some (((List.set r4.fst.fst c.toNat ((List.getD r4.fst.fst c.toNat ((0 : Int), (0 : Int), (0 : Int), (0 : Int), (0 : Int), (0 : Int), false, ByteArray.empty, [])).fst, (List.getD r4.fst.fst c.toNat ((0 : Int), (0 : Int), (0 : Int), (0 : Int), (0 : Int), (0 : Int), false, ByteArray.empty, [])).snd.fst, d, (List.getD r4.fst.fst c.toNat ((0 : Int), (0 : Int), (0 : Int), (0 : Int), (0 : Int), (0 : Int), false, ByteArray.empty, [])).snd.snd.snd)).set c.toNat (((List.set r4.fst.fst c.toNat ((List.getD r4.fst.fst c.toNat ((0 : Int), (0 : Int), (0 : Int), (0 : Int), (0 : Int), (0 : Int), false, ByteArray.empty, [])).fst, (List.getD r4.fst.fst c.toNat ((0 : Int), (0 : Int), (0 : Int), (0 : Int), (0 : Int), (0 : Int), false, ByteArray.empty, [])).snd.fst, d, (List.getD r4.fst.fst c.toNat ((0 : Int), (0 : Int), (0 : Int), (0 : Int), (0 : Int), (0 : Int), false, ByteArray.empty, [])).snd.snd.snd)).getD c.toNat ((0 : Int), (0 : Int), (0 : Int), (0 : Int), (0 : Int), (0 : Int), false, ByteArray.empty, [])).fst, ((List.set r4.fst.fst c.toNat ((List.getD r4.fst.fst c.toNat ((0 : Int), (0 : Int), (0 : Int), (0 : Int), (0 : Int), (0 : Int), false, ByteArray.empty, [])).fst, (List.getD r4.fst.fst c.toNat ((0 : Int), (0 : Int), (0 : Int), (0 : Int), (0 : Int), (0 : Int), false, ByteArray.empty, [])).snd.fst, d, (List.getD r4.fst.fst c.toNat ((0 : Int), (0 : Int), (0 : Int), (0 : Int), (0 : Int), (0 : Int), false, ByteArray.empty, [])).snd.snd.snd)).getD c.toNat ((0 : Int), (0 : Int), (0 : Int), (0 : Int), (0 : Int), (0 : Int), false, ByteArray.empty, [])).snd.fst, ((List.set r4.fst.fst c.toNat ((List.getD r4.fst.fst c.toNat ((0 : Int), (0 : Int), (0 : Int), (0 : Int), (0 : Int), (0 : Int), false, ByteArray.empty, [])).fst, (List.getD r4.fst.fst c.toNat ((0 : Int), (0 : Int), (0 : Int), (0 : Int), (0 : Int), (0 : Int), false, ByteArray.empty, [])).snd.fst, d, (List.getD r4.fst.fst c.toNat ((0 : Int), (0 : Int), (0 : Int), (0 : Int), (0 : Int), (0 : Int), false, ByteArray.empty, [])).snd.snd.snd)).getD c.toNat ((0 : Int), (0 : Int), (0 : Int), (0 : Int), (0 : Int), (0 : Int), false, ByteArray.empty, [])).snd.snd.fst, ((List.set r4.fst.fst c.toNat ((List.getD r4.fst.fst c.toNat ((0 : Int), (0 : Int), (0 : Int), (0 : Int), (0 : Int), (0 : Int), false, ByteArray.empty, [])).fst, (List.getD r4.fst.fst c.toNat ((0 : Int), (0 : Int), (0 : Int), (0 : Int), (0 : Int), (0 : Int), false, ByteArray.empty, [])).snd.fst, d, (List.getD r4.fst.fst c.toNat ((0 : Int), (0 : Int), (0 : Int), (0 : Int), (0 : Int), (0 : Int), false, ByteArray.empty, [])).snd.snd.snd)).getD c.toNat ((0 : Int), (0 : Int), (0 : Int), (0 : Int), (0 : Int), (0 : Int), false, ByteArray.empty, [])).snd.snd.snd.fst, ((List.set r4.fst.fst c.toNat ((List.getD r4.fst.fst c.toNat ((0 : Int), (0 : Int), (0 : Int), (0 : Int), (0 : Int), (0 : Int), false, ByteArray.empty, [])).fst, (List.getD r4.fst.fst c.toNat ((0 : Int), (0 : Int), (0 : Int), (0 : Int), (0 : Int), (0 : Int), false, ByteArray.empty, [])).snd.fst, d, (List.getD r4.fst.fst c.toNat ((0 : Int), (0 : Int), (0 : Int), (0 : Int), (0 : Int), (0 : Int), false, ByteArray.empty, [])).snd.snd.snd)).getD c.toNat ((0 : Int), (0 : Int), (0 : Int), (0 : Int), (0 : Int), (0 : Int), false, ByteArray.empty, [])).snd.snd.snd.snd.fst, ((List.set r4.fst.fst c.toNat ((List.getD r4.fst.fst c.toNat ((0 : Int), (0 : Int), (0 : Int), (0 : Int), (0 : Int), (0 : Int), false, ByteArray.empty, [])).fst, (List.getD r4.fst.fst c.toNat ((0 : Int), (0 : Int), (0 : Int), (0 : Int), (0 : Int), (0 : Int), false, ByteArray.empty, [])).snd.fst, d, (List.getD r4.fst.fst c.toNat ((0 : Int), (0 : Int), (0 : Int), (0 : Int), (0 : Int), (0 : Int), false, ByteArray.empty, [])).snd.snd.snd)).getD c.toNat ((0 : Int), (0 : Int), (0 : Int), (0 : Int), (0 : Int), (0 : Int), false, ByteArray.empty, [])).snd.snd.snd.snd.snd.fst, false, ((List.set r4.fst.fst c.toNat ((List.getD r4.fst.fst c.toNat ((0 : Int), (0 : Int), (0 : Int), (0 : Int), (0 : Int), (0 : Int), false, ByteArray.empty, [])).fst, (List.getD r4.fst.fst c.toNat ((0 : Int), (0 : Int), (0 : Int), (0 : Int), (0 : Int), (0 : Int), false, ByteArray.empty, [])).snd.fst, d, (List.getD r4.fst.fst c.toNat ((0 : Int), (0 : Int), (0 : Int), (0 : Int), (0 : Int), (0 : Int), false, ByteArray.empty, [])).snd.snd.snd)).getD c.toNat ((0 : Int), (0 : Int), (0 : Int), (0 : Int), (0 : Int), (0 : Int), false, ByteArray.empty, [])).snd.snd.snd.snd.snd.snd.snd), ((0 : Int), ())), ())) (none)) (none)) (none)) (none))))))
theorem e40_top (n : Nat) (a : List (Int × Int × Int × Int × Int × Int × Bool × ByteArray × List (ByteArray × Int))) (b : Int × Int × List Int) (c : Int) (d : Int) : runF TT G40 an40 Try.f40 c40 ps40 rs40 n (a, b, c, d, ()) = st40_top n a b c d := by kernel_rfl
noncomputable def p40 (n : Nat) (a : List (Int × Int × Int × Int × Int × Int × Bool × ByteArray × List (ByteArray × Int))) (b : Int × Int × List Int) (c : Int) (d : Int) : Option R40 := st40_top n a b c d
theorem F40_eq (n : Nat) (a : List (Int × Int × Int × Int × Int × Int × Bool × ByteArray × List (ByteArray × Int))) (b : Int × Int × List Int) (c : Int) (d : Int) : runF TT G40 an40 Try.f40 c40 ps40 rs40 n (a, b, c, d, ()) = p40 n a b c d := by
  rw [e40_top]
  skip
  try rfl
noncomputable def q40 (n : Nat) (x : argsD ps40) : Option R40 := p40 n x.1 x.2.1 x.2.2.1 x.2.2.2.1
noncomputable def Sm40 : Sm := ⟨ps40, rs40, false, q40⟩
theorem holds40 (hg : GamOK Try.prog G40) : Holds Try.prog 40 Sm40 := by
  have := h0_40 hg
  have e : (runF TT G40 an40 Try.f40 c40 ps40 rs40) = q40 := by
    funext n x
    exact F40_eq n x.1 x.2.1 x.2.2.1 x.2.2.2.1
  rw [e] at this
  exact this
theorem gam40 : GamOK Try.prog G40 := by
  intro f s h
  unfold G40 at h
  split at h
  · injection h with h; subst h; exact ⟨⟨Try.f62, c62, Try.func62, by kernel_rfl, by decide +kernel⟩, hh62⟩
  · injection h with h; subst h; exact ⟨⟨Try.f63, c63, Try.func63, by kernel_rfl, by decide +kernel⟩, hh63⟩
  · injection h with h; subst h; exact ⟨⟨Try.f64, c64, Try.func64, by kernel_rfl, by decide +kernel⟩, hh64⟩
  · injection h with h; subst h; exact ⟨⟨Try.f68, c68, Try.func68, by kernel_rfl, by decide +kernel⟩, hh68⟩
  · injection h with h; subst h; exact ⟨⟨Try.f87, c87, Try.func87, by kernel_rfl, by decide +kernel⟩, hh87⟩
  · cases h
theorem hh40 : Holds Try.prog 40 Sm40 := holds40 gam40
end Go.Proofs.Ythhopbicmaipgaa.Rx.S
namespace Go.Proofs.Ythhopbicmaipgaa.Rx.S
open Go Go.RowKit Go.Proofs
set_option maxRecDepth 100000
noncomputable def c41 : Code := (Try.f41.body.getD .skip)
def an41 : An := ⟨fun _ => ⟨[], []⟩, fun _ _ => none⟩
abbrev ps41 : List PK := [.val tFs true, .val tCr true, .val i64 false, .val i64 false]
abbrev rs41 : List RK := [.own tFs true, .val i64 false]
abbrev R41 := retsD rs41 × outsD ps41
noncomputable def G41 : Gam := fun f => match f with | 53 => some Sm53 | 55 => some Sm55 | 56 => some Sm56 | _ => none
theorem h0_41 (hg : GamOK Try.prog G41) : Holds Try.prog 41 ⟨ps41, rs41, false, runF TT G41 an41 Try.f41 c41 ps41 rs41⟩ := holds_of tt_ok hg mixed Try.func41 (by kernel_rfl) (by rfl) (by decide +kernel)
noncomputable def at41 : Nat → Pt → List Nat → St → Option R41 := atF TT G41 an41 Try.f41 c41 _ _
noncomputable def st41_top (n : Nat) (a : List (Int × Int × Int × Int × Int × Int × Bool × ByteArray × List (ByteArray × Int))) (b : Int × Int × List Int) (c : Int) (d : Int) : Option R41 :=
  (q53 n (a, (b.fst, b.snd.fst, b.snd.snd), [c], ())).bind fun r0 => cond (!r0.fst.fst) (some (([], ((1 : Int), ())), ())) ((q55 n (d, (0 : Int), (9 : Int), ())).bind fun r1 => cond (!r1.fst.fst) (some (([], ((1 : Int), ())), ())) ((q56 n (a, ())).bind fun r2 => cond (!decide (b.fst = (0 : Int))) (some ((r2.fst.fst, ((5 : Int), ())), ())) (cond (decide ((0 : Int) ≤ c)) (cond (decide (c < (↑(List.length r2.fst.fst) : Int))) (cond (decide ((0 : Int) ≤ c)) (cond (decide (c < (↑(List.set r2.fst.fst c.toNat ((List.getD r2.fst.fst c.toNat ((0 : Int), (0 : Int), (0 : Int), (0 : Int), (0 : Int), (0 : Int), false, ByteArray.empty, [])).fst, (List.getD r2.fst.fst c.toNat ((0 : Int), (0 : Int), (0 : Int), (0 : Int), (0 : Int), (0 : Int), false, ByteArray.empty, [])).snd.fst, d, (List.getD r2.fst.fst c.toNat ((0 : Int), (0 : Int), (0 : Int), (0 : Int), (0 : Int), (0 : Int), false, ByteArray.empty, [])).snd.snd.snd)).length : Int))) (some (((List.set r2.fst.fst c.toNat ((List.getD r2.fst.fst c.toNat ((0 : Int), (0 : Int), (0 : Int), (0 : Int), (0 : Int), (0 : Int), false, ByteArray.empty, [])).fst, (List.getD r2.fst.fst c.toNat ((0 : Int), (0 : Int), (0 : Int), (0 : Int), (0 : Int), (0 : Int), false, ByteArray.empty, [])).snd.fst, d, (List.getD r2.fst.fst c.toNat ((0 : Int), (0 : Int), (0 : Int), (0 : Int), (0 : Int), (0 : Int), false, ByteArray.empty, [])).snd.snd.snd)).set c.toNat (((List.set r2.fst.fst c.toNat ((List.getD r2.fst.fst c.toNat ((0 : Int), (0 : Int), (0 : Int), (0 : Int), (0 : Int), (0 : Int), false, ByteArray.empty, [])).fst, (List.getD r2.fst.fst c.toNat ((0 : Int), (0 : Int), (0 : Int), (0 : Int), (0 : Int), (0 : Int), false, ByteArray.empty, [])).snd.fst, d, (List.getD r2.fst.fst c.toNat ((0 : Int), (0 : Int), (0 : Int), (0 : Int), (0 : Int), (0 : Int), false, ByteArray.empty, [])).snd.snd.snd)).getD c.toNat ((0 : Int), (0 : Int), (0 : Int), (0 : Int), (0 : Int), (0 : Int), false, ByteArray.empty, [])).fst, ((List.set r2.fst.fst c.toNat ((List.getD r2.fst.fst c.toNat ((0 : Int), (0 : Int), (0 : Int), (0 : Int), (0 : Int), (0 : Int), false, ByteArray.empty, [])).fst, (List.getD r2.fst.fst c.toNat ((0 : Int), (0 : Int), (0 : Int), (0 : Int), (0 : Int), (0 : Int), false, ByteArray.empty, [])).snd.fst, d, (List.getD r2.fst.fst c.toNat ((0 : Int), (0 : Int), (0 : Int), (0 : Int), (0 : Int), (0 : Int), false, ByteArray.empty, [])).snd.snd.snd)).getD c.toNat ((0 : Int), (0 : Int), (0 : Int), (0 : Int), (0 : Int), (0 : Int), false, ByteArray.empty, [])).snd.fst, ((List.set r2.fst.fst c.toNat ((List.getD r2.fst.fst c.toNat ((0 : Int), (0 : Int), (0 : Int), (0 : Int), (0 : Int), (0 : Int), false, ByteArray.empty, [])).fst, (List.getD r2.fst.fst c.toNat ((0 : Int), (0 : Int), (0 : Int), (0 : Int), (0 : Int), (0 : Int), false, ByteArray.empty, [])).snd.fst, d, (List.getD r2.fst.fst c.toNat ((0 : Int), (0 : Int), (0 : Int), (0 : Int), (0 : Int), (0 : Int), false, ByteArray.empty, [])).snd.snd.snd)).getD c.toNat ((0 : Int), (0 : Int), (0 : Int), (0 : Int), (0 : Int), (0 : Int), false, ByteArray.empty, [])).snd.snd.fst, ((List.set r2.fst.fst c.toNat ((List.getD r2.fst.fst c.toNat ((0 : Int), (0 : Int), (0 : Int), (0 : Int), (0 : Int), (0 : Int), false, ByteArray.empty, [])).fst, (List.getD r2.fst.fst c.toNat ((0 : Int), (0 : Int), (0 : Int), (0 : Int), (0 : Int), (0 : Int), false, ByteArray.empty, [])).snd.fst, d, (List.getD r2.fst.fst c.toNat ((0 : Int), (0 : Int), (0 : Int), (0 : Int), (0 : Int), (0 : Int), false, ByteArray.empty, [])).snd.snd.snd)).getD c.toNat ((0 : Int), (0 : Int), (0 : Int), (0 : Int), (0 : Int), (0 : Int), false, ByteArray.empty, [])).snd.snd.snd.fst, ((List.set r2.fst.fst c.toNat ((List.getD r2.fst.fst c.toNat ((0 : Int), (0 : Int), (0 : Int), (0 : Int), (0 : Int), (0 : Int), false, ByteArray.empty, [])).fst, (List.getD r2.fst.fst c.toNat ((0 : Int), (0 : Int), (0 : Int), (0 : Int), (0 : Int), (0 : Int), false, ByteArray.empty, [])).snd.fst, d, (List.getD r2.fst.fst c.toNat ((0 : Int), (0 : Int), (0 : Int), (0 : Int), (0 : Int), (0 : Int), false, ByteArray.empty, [])).snd.snd.snd)).getD c.toNat ((0 : Int), (0 : Int), (0 : Int), (0 : Int), (0 : Int), (0 : Int), false, ByteArray.empty, [])).snd.snd.snd.snd.fst, ((List.set r2.fst.fst c.toNat ((List.getD r2.fst.fst c.toNat ((0 : Int), (0 : Int), (0 : Int), (0 : Int), (0 : Int), (0 : Int), false, ByteArray.empty, [])).fst, (List.getD r2.fst.fst c.toNat ((0 : Int), (0 : Int), (0 : Int), (0 : Int), (0 : Int), (0 : Int), false, ByteArray.empty, [])).snd.fst, d, (List.getD r2.fst.fst c.toNat ((0 : Int), (0 : Int), (0 : Int), (0 : Int), (0 : Int), (0 : Int), false, ByteArray.empty, [])).snd.snd.snd)).getD c.toNat ((0 : Int), (0 : Int), (0 : Int), (0 : Int), (0 : Int), (0 : Int), false, ByteArray.empty, [])).snd.snd.snd.snd.snd.fst, false, ((List.set r2.fst.fst c.toNat ((List.getD r2.fst.fst c.toNat ((0 : Int), (0 : Int), (0 : Int), (0 : Int), (0 : Int), (0 : Int), false, ByteArray.empty, [])).fst, (List.getD r2.fst.fst c.toNat ((0 : Int), (0 : Int), (0 : Int), (0 : Int), (0 : Int), (0 : Int), false, ByteArray.empty, [])).snd.fst, d, (List.getD r2.fst.fst c.toNat ((0 : Int), (0 : Int), (0 : Int), (0 : Int), (0 : Int), (0 : Int), false, ByteArray.empty, [])).snd.snd.snd)).getD c.toNat ((0 : Int), (0 : Int), (0 : Int), (0 : Int), (0 : Int), (0 : Int), false, ByteArray.empty, [])).snd.snd.snd.snd.snd.snd.snd), ((0 : Int), ())), ())) (none)) (none)) (none)) (none))))
theorem e41_top (n : Nat) (a : List (Int × Int × Int × Int × Int × Int × Bool × ByteArray × List (ByteArray × Int))) (b : Int × Int × List Int) (c : Int) (d : Int) : runF TT G41 an41 Try.f41 c41 ps41 rs41 n (a, b, c, d, ()) = st41_top n a b c d := by kernel_rfl
noncomputable def p41 (n : Nat) (a : List (Int × Int × Int × Int × Int × Int × Bool × ByteArray × List (ByteArray × Int))) (b : Int × Int × List Int) (c : Int) (d : Int) : Option R41 := st41_top n a b c d
theorem F41_eq (n : Nat) (a : List (Int × Int × Int × Int × Int × Int × Bool × ByteArray × List (ByteArray × Int))) (b : Int × Int × List Int) (c : Int) (d : Int) : runF TT G41 an41 Try.f41 c41 ps41 rs41 n (a, b, c, d, ()) = p41 n a b c d := by
  rw [e41_top]
  skip
  try rfl
noncomputable def q41 (n : Nat) (x : argsD ps41) : Option R41 := p41 n x.1 x.2.1 x.2.2.1 x.2.2.2.1
noncomputable def Sm41 : Sm := ⟨ps41, rs41, false, q41⟩
theorem holds41 (hg : GamOK Try.prog G41) : Holds Try.prog 41 Sm41 := by
  have := h0_41 hg
  have e : (runF TT G41 an41 Try.f41 c41 ps41 rs41) = q41 := by
    funext n x
    exact F41_eq n x.1 x.2.1 x.2.2.1 x.2.2.2.1
  rw [e] at this
  exact this
theorem gam41 : GamOK Try.prog G41 := by
  intro f s h
  unfold G41 at h
  split at h
  · injection h with h; subst h; exact ⟨⟨Try.f53, c53, Try.func53, by kernel_rfl, by decide +kernel⟩, hh53⟩
  · injection h with h; subst h; exact ⟨⟨Try.f55, c55, Try.func55, by kernel_rfl, by decide +kernel⟩, hh55⟩
  · injection h with h; subst h; exact ⟨⟨Try.f56, c56, Try.func56, by kernel_rfl, by decide +kernel⟩, hh56⟩
  · cases h
theorem hh41 : Holds Try.prog 41 Sm41 := holds41 gam41
end Go.Proofs.Ythhopbicmaipgaa.Rx.S
