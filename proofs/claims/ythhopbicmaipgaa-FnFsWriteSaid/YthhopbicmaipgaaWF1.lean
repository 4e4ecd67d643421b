/- What the functions of this seat compute, each as a plain function on lists and numbers, with the proof that a call answers so. No condition. -/
import Derived.Test.YthhopbicmaipgaaWF0
set_option linter.unusedVariables false
set_option linter.unusedSimpArgs false
namespace Go.Proofs.Ythhopbicmaipgaa.Rx.S
open Go Go.RowKit Go.Proofs
set_option maxRecDepth 100000
noncomputable def c137:Code:=(Try.f137.body.getD .skip)
def an137:An:=⟨fun r=>match r with | 2=>⟨[0,1,5],[]⟩ | _=>⟨[],[]⟩,fun _ _=>none⟩
abbrev ps137:List PK:=[.val (.row 3 i64) false,.val i64 false]
abbrev rs137:List RK:=[.val .bool false]
abbrev R137:=retsD rs137 × outsD ps137
noncomputable def G137:Gam:=fun _=>none
theorem h0_137 (hg:GamOK Try.prog G137):Holds Try.prog 137 ⟨ps137,rs137,false,runF TT G137 an137 Try.f137 c137 ps137 rs137⟩:=holds_of tt_ok hg mixed Try.func137 (by kernel_rfl) (by rfl) (by decide +kernel)
noncomputable def at137:Nat→Pt→List Nat→St→Option R137:=atF TT G137 an137 Try.f137 c137 _ _
def sh137_L2 (x0:List Int) (x1:Int) (x2:Int):St:=(St.mk ((AV.one (SV.con (⟨3,Ty.int Go.IntKind.i64,x0⟩:Rw))) :: ((AV.one (SV.int (Go.IntKind.i64) x1)) :: (AV.undef :: (AV.undef :: (AV.undef :: ((AV.one (SV.int (Go.IntKind.i64) x2)) :: (AV.undef :: (AV.undef :: (AV.undef :: (AV.undef :: (AV.undef :: (AV.undef :: (AV.undef :: (AV.undef :: (AV.undef :: (AV.undef :: (AV.undef :: (AV.undef :: [])))))))))))))))))) [])
noncomputable def st137_top (n:Nat) (lL2:(List Int)→Int→Int→Option R137) (a:List Int) (b:Int):Option R137 :=
 lL2 (a) (b) ((0:Int))
noncomputable def st137_L2 (n:Nat) (lL2:(List Int)→Int→Int→Option R137) (x0:List Int) (x1:Int) (x2:Int):Option R137 :=
 cond (decide (x2 < (↑x0.length:Int))) (cond (decide ((0:Int)≤x2)) (cond (decide (x2 < (↑x0.length:Int))) (cond (decide (x0.getD x2.toNat (0:Int)=x1)) (some ((true,()),())) (lL2 (x0) (x1) (Go.IntKind.i64.wrap (x2 + (1:Int))))) (none)) (none)) (some ((false,()),()))
theorem e137_top (n:Nat) (a:List Int) (b:Int):runF TT G137 an137 Try.f137 c137 ps137 rs137 n (a,b,())=st137_top n (fun x0 x1 x2=>at137 n (.head 2) [n] (sh137_L2 x0 x1 x2)) a b:=by kernel_rfl
theorem e137_L2_0 (n:Nat) (x0:List Int) (x1:Int) (x2:Int):at137 n (.head 2) [0] (sh137_L2 x0 x1 x2)=none:=by kernel_rfl
theorem e137_L2 (n:Nat) (m2:Nat) (x0:List Int) (x1:Int) (x2:Int):at137 n (.head 2) [m2 + 1] (sh137_L2 x0 x1 x2)=st137_L2 n (fun x0 x1 x2=>at137 n (.head 2) [m2] (sh137_L2 x0 x1 x2)) x0 x1 x2:=by kernel_rfl
noncomputable def p137_L2 (n:Nat):Nat→(List Int)→Int→Int→Option R137
 | 0,_,_,_=>none
 | m + 1,x0,x1,x2=>st137_L2 n (p137_L2 n m) x0 x1 x2
noncomputable def p137 (n:Nat) (a:List Int) (b:Int):Option R137:=st137_top n (p137_L2 n n) a b
theorem t137_L2 (n:Nat):∀ (m2:Nat) (x0:List Int) (x1:Int) (x2:Int),at137 n (.head 2) [m2] (sh137_L2 x0 x1 x2)=p137_L2 n m2 x0 x1 x2:=by
 intro m
 induction m with
 | zero=>intros; rw [e137_L2_0]; rfl
 | succ m ih =>
  intros
  rw [e137_L2]
  try simp only [ih]
  rfl
theorem F137_eq (n:Nat) (a:List Int) (b:Int):runF TT G137 an137 Try.f137 c137 ps137 rs137 n (a,b,())=p137 n a b:=by
 rw [e137_top]
 simp only [t137_L2]
 try rfl
noncomputable def q137 (n:Nat) (x:argsD ps137):Option R137:=p137 n x.1 x.2.1
noncomputable def Sm137:Sm:=⟨ps137,rs137,false,q137⟩
theorem holds137 (hg:GamOK Try.prog G137):Holds Try.prog 137 Sm137:=by
 have:=h0_137 hg
 have e:(runF TT G137 an137 Try.f137 c137 ps137 rs137)=q137:=by
  funext n x
  exact F137_eq n x.1 x.2.1
 rw [e] at this
 exact this
theorem gam137:GamOK Try.prog G137:=fun _ _ h=>by cases h
theorem hh137:Holds Try.prog 137 Sm137:=holds137 gam137
end Go.Proofs.Ythhopbicmaipgaa.Rx.S

namespace Go.Proofs.Ythhopbicmaipgaa.Rx.S
open Go Go.RowKit Go.Proofs
set_option maxRecDepth 100000
noncomputable def c132:Code:=(Try.f132.body.getD .skip)
def an132:An:=⟨fun _=>⟨[],[]⟩,fun _ _=>none⟩
abbrev ps132:List PK:=[.val tCr true,.val i64 false,.val i64 false,.val i64 false,.val i64 false]
abbrev rs132:List RK:=[.val .bool false]
abbrev R132:=retsD rs132 × outsD ps132
noncomputable def G132:Gam:=fun f=>match f with | 137=>some Sm137 | _=>none
theorem h0_132 (hg:GamOK Try.prog G132):Holds Try.prog 132 ⟨ps132,rs132,false,runF TT G132 an132 Try.f132 c132 ps132 rs132⟩:=holds_of tt_ok hg mixed Try.func132 (by kernel_rfl) (by rfl) (by decide +kernel)
noncomputable def st132_top (n:Nat) (a:Int × Int × List Int) (b:Int) (c:Int) (d:Int) (e:Int):Option R132 :=
 cond (decide (a.1=(0:Int))) (cond (decide ((0:Int) < Go.IntKind.i64.wrap (Go.IntKind.i64.wrap (d.tmod (2:Int) + (Go.IntKind.i64.wrap (d.tdiv (8:Int))).tmod (2:Int)) + (Go.IntKind.i64.wrap (d.tdiv (64:Int))).tmod (2:Int)))) (some ((decide (Go.IntKind.i64.wrap (↑(BitVec.ofInt Go.IntKind.i64.bits (7:Int) &&& BitVec.ofInt Go.IntKind.i64.bits e).toNat:Int)=e),()),())) (some ((decide (Go.IntKind.i64.wrap (↑(BitVec.ofInt Go.IntKind.i64.bits (6:Int) &&& BitVec.ofInt Go.IntKind.i64.bits e).toNat:Int)=e),()),()))) (cond (decide (a.1=b)) (some ((decide (Go.IntKind.i64.wrap (↑(BitVec.ofInt Go.IntKind.i64.bits (Go.IntKind.i64.wrap (d.tdiv (64:Int))) &&& BitVec.ofInt Go.IntKind.i64.bits e).toNat:Int)=e),()),())) ((q137 n (a.2.2,c,())).bind fun r0=>cond (r0.1.1) (some ((decide (Go.IntKind.i64.wrap (↑(BitVec.ofInt Go.IntKind.i64.bits ((Go.IntKind.i64.wrap (d.tdiv (8:Int))).tmod (8:Int)) &&& BitVec.ofInt Go.IntKind.i64.bits e).toNat:Int)=e),()),())) (some ((decide (Go.IntKind.i64.wrap (↑(BitVec.ofInt Go.IntKind.i64.bits (d.tmod (8:Int)) &&& BitVec.ofInt Go.IntKind.i64.bits e).toNat:Int)=e),()),()))))
theorem e132_top (n:Nat) (a:Int × Int × List Int) (b:Int) (c:Int) (d:Int) (e:Int):runF TT G132 an132 Try.f132 c132 ps132 rs132 n (a,b,c,d,e,())=st132_top n a b c d e:=by kernel_rfl
noncomputable def p132 (n:Nat) (a:Int × Int × List Int) (b:Int) (c:Int) (d:Int) (e:Int):Option R132:=st132_top n a b c d e
theorem F132_eq (n:Nat) (a:Int × Int × List Int) (b:Int) (c:Int) (d:Int) (e:Int):runF TT G132 an132 Try.f132 c132 ps132 rs132 n (a,b,c,d,e,())=p132 n a b c d e:=by
 rw [e132_top]
 skip
 try rfl
noncomputable def q132 (n:Nat) (x:argsD ps132):Option R132:=p132 n x.1 x.2.1 x.2.2.1 x.2.2.2.1 x.2.2.2.2.1
noncomputable def Sm132:Sm:=⟨ps132,rs132,false,q132⟩
theorem holds132 (hg:GamOK Try.prog G132):Holds Try.prog 132 Sm132:=by
 have:=h0_132 hg
 have e:(runF TT G132 an132 Try.f132 c132 ps132 rs132)=q132:=by
  funext n x
  exact F132_eq n x.1 x.2.1 x.2.2.1 x.2.2.2.1 x.2.2.2.2.1
 rw [e] at this
 exact this
theorem gam132:GamOK Try.prog G132:=by
 intro f s h
 unfold G132 at h
 split at h
 ·injection h with h; subst h; exact ⟨⟨Try.f137,c137,Try.func137,by kernel_rfl,by decide +kernel⟩,hh137⟩
 ·cases h
theorem hh132:Holds Try.prog 132 Sm132:=holds132 gam132
end Go.Proofs.Ythhopbicmaipgaa.Rx.S

namespace Go.Proofs.Ythhopbicmaipgaa.Rx.S
open Go Go.RowKit Go.Proofs
set_option maxRecDepth 100000
noncomputable def c123:Code:=(Try.f123.body.getD .skip)
def an123:An:=⟨fun _=>⟨[],[]⟩,fun _ _=>none⟩
abbrev ps123:List PK:=[.val tFs true,.val tCr true,.val i64 false,.val i64 false]
abbrev rs123:List RK:=[.val .bool false]
abbrev R123:=retsD rs123 × outsD ps123
noncomputable def G123:Gam:=fun f=>match f with | 132=>some Sm132 | _=>none
theorem h0_123 (hg:GamOK Try.prog G123):Holds Try.prog 123 ⟨ps123,rs123,false,runF TT G123 an123 Try.f123 c123 ps123 rs123⟩:=holds_of tt_ok hg mixed Try.func123 (by kernel_rfl) (by rfl) (by decide +kernel)
noncomputable def st123_top (n:Nat) (a:List NT) (b:Int × Int × List Int) (c:Int) (d:Int):Option R123 :=
 cond (decide ((0:Int)≤c)) (cond (decide (c < (↑a.length:Int))) ((q132 n ((b.1,b.2.1,b.2.2),(a.getD c.toNat ZN).2.2.1,(a.getD c.toNat ZN).2.2.2.1,(a.getD c.toNat ZN).2.1,d,())).bind fun r0=>some ((r0.1.1,()),())) (none)) (none)
theorem e123_top (n:Nat) (a:List NT) (b:Int × Int × List Int) (c:Int) (d:Int):runF TT G123 an123 Try.f123 c123 ps123 rs123 n (a,b,c,d,())=st123_top n a b c d:=by kernel_rfl
noncomputable def p123 (n:Nat) (a:List NT) (b:Int × Int × List Int) (c:Int) (d:Int):Option R123:=st123_top n a b c d
theorem F123_eq (n:Nat) (a:List NT) (b:Int × Int × List Int) (c:Int) (d:Int):runF TT G123 an123 Try.f123 c123 ps123 rs123 n (a,b,c,d,())=p123 n a b c d:=by
 rw [e123_top]
 skip
 try rfl
noncomputable def q123 (n:Nat) (x:argsD ps123):Option R123:=p123 n x.1 x.2.1 x.2.2.1 x.2.2.2.1
noncomputable def Sm123:Sm:=⟨ps123,rs123,false,q123⟩
theorem holds123 (hg:GamOK Try.prog G123):Holds Try.prog 123 Sm123:=by
 have:=h0_123 hg
 have e:(runF TT G123 an123 Try.f123 c123 ps123 rs123)=q123:=by
  funext n x
  exact F123_eq n x.1 x.2.1 x.2.2.1 x.2.2.2.1
 rw [e] at this
 exact this
theorem gam123:GamOK Try.prog G123:=by
 intro f s h
 unfold G123 at h
 split at h
 ·injection h with h; subst h; exact ⟨⟨Try.f132,c132,Try.func132,by kernel_rfl,by decide +kernel⟩,hh132⟩
 ·cases h
theorem hh123:Holds Try.prog 123 Sm123:=holds123 gam123
end Go.Proofs.Ythhopbicmaipgaa.Rx.S

namespace Go.Proofs.Ythhopbicmaipgaa.Rx.S
open Go Go.RowKit Go.Proofs
set_option maxRecDepth 100000
noncomputable def c127:Code:=(Try.f127.body.getD .skip)
def an127:An:=⟨fun _=>⟨[],[]⟩,fun _ _=>none⟩
abbrev ps127:List PK:=[.own tFs true,.val i64 false,.val i64 false]
abbrev rs127:List RK:=[.own tFs true]
abbrev R127:=retsD rs127 × outsD ps127
noncomputable def G127:Gam:=fun _=>none
theorem h0_127 (hg:GamOK Try.prog G127):Holds Try.prog 127 ⟨ps127,rs127,false,runF TT G127 an127 Try.f127 c127 ps127 rs127⟩:=holds_of tt_ok hg mixed Try.func127 (by kernel_rfl) (by rfl) (by decide +kernel)
noncomputable def st127_top (n:Nat) (a:List NT) (b:Int) (c:Int):Option R127 :=
 cond (decide ((0:Int)≤b)) (cond (decide (b < (↑a.length:Int))) (cond (decide ((0:Int)≤c)) (cond (decide (c≤(↑(List.length (a.getD b.toNat ZN).2.2.2.2.2.2.2.2):Int))) (cond (decide (((0:Nat) + (List.take (c - (0:Int)).toNat (List.drop ((0:Nat) + Int.toNat (0:Int)) (a.getD b.toNat ZN).2.2.2.2.2.2.2.2)).length) * (24:Nat)≤(140737488355328:Nat))) (cond (decide ((0:Int)≤Go.IntKind.i64.wrap (c + (1:Int)))) (cond (decide (Go.IntKind.i64.wrap (c + (1:Int))≤(↑(List.length (a.getD b.toNat ZN).2.2.2.2.2.2.2.2):Int))) (cond (decide (((List.take (c - (0:Int)).toNat (List.drop ((0:Nat) + Int.toNat (0:Int)) (a.getD b.toNat ZN).2.2.2.2.2.2.2.2)).length + (List.take ((↑(List.length (a.getD b.toNat ZN).2.2.2.2.2.2.2.2):Int) - Go.IntKind.i64.wrap (c + (1:Int))).toNat (List.drop ((0:Nat) + (Go.IntKind.i64.wrap (c + (1:Int))).toNat) (a.getD b.toNat ZN).2.2.2.2.2.2.2.2)).length) * (24:Nat)≤(140737488355328:Nat))) (cond (decide ((0:Int)≤b)) (cond (decide (b < (↑a.length:Int))) (some ((a.set b.toNat ((a.getD b.toNat ZN).1,(a.getD b.toNat ZN).2.1,(a.getD b.toNat ZN).2.2.1,(a.getD b.toNat ZN).2.2.2.1,(a.getD b.toNat ZN).2.2.2.2.1,(a.getD b.toNat ZN).2.2.2.2.2.1,(a.getD b.toNat ZN).2.2.2.2.2.2.1,(a.getD b.toNat ZN).2.2.2.2.2.2.2.1,List.take (c - (0:Int)).toNat (List.drop ((0:Nat) + Int.toNat (0:Int)) (a.getD b.toNat ZN).2.2.2.2.2.2.2.2) ++ List.take ((↑(List.length (a.getD b.toNat ZN).2.2.2.2.2.2.2.2):Int) - Go.IntKind.i64.wrap (c + (1:Int))).toNat (List.drop ((0:Nat) + (Go.IntKind.i64.wrap (c + (1:Int))).toNat) (a.getD b.toNat ZN).2.2.2.2.2.2.2.2)),()),())) (none)) (none)) (none)) (none)) (none)) (none)) (none)) (none)) (none)) (none)
theorem e127_top (n:Nat) (a:List NT) (b:Int) (c:Int):runF TT G127 an127 Try.f127 c127 ps127 rs127 n (a,b,c,())=st127_top n a b c:=by kernel_rfl
noncomputable def p127 (n:Nat) (a:List NT) (b:Int) (c:Int):Option R127:=st127_top n a b c
theorem F127_eq (n:Nat) (a:List NT) (b:Int) (c:Int):runF TT G127 an127 Try.f127 c127 ps127 rs127 n (a,b,c,())=p127 n a b c:=by
 rw [e127_top]
 skip
 try rfl
noncomputable def q127 (n:Nat) (x:argsD ps127):Option R127:=p127 n x.1 x.2.1 x.2.2.1
noncomputable def Sm127:Sm:=⟨ps127,rs127,false,q127⟩
theorem holds127 (hg:GamOK Try.prog G127):Holds Try.prog 127 Sm127:=by
 have:=h0_127 hg
 have e:(runF TT G127 an127 Try.f127 c127 ps127 rs127)=q127:=by
  funext n x
  exact F127_eq n x.1 x.2.1 x.2.2.1
 rw [e] at this
 exact this
theorem gam127:GamOK Try.prog G127:=fun _ _ h=>by cases h
theorem hh127:Holds Try.prog 127 Sm127:=holds127 gam127
end Go.Proofs.Ythhopbicmaipgaa.Rx.S

namespace Go.Proofs.Ythhopbicmaipgaa.Rx.S
open Go Go.RowKit Go.Proofs
set_option maxRecDepth 100000
noncomputable def c128:Code:=(Try.f128.body.getD .skip)
def an128:An:=⟨fun r=>match r with | 4=>⟨[1,2,3,7],[]⟩ | _=>⟨[],[]⟩,fun _ _=>none⟩
abbrev ps128:List PK:=[.val tFs true,.val i64 false,.val i64 false]
abbrev rs128:List RK:=[.val .bool false]
abbrev R128:=retsD rs128 × outsD ps128
abbrev Fn128:=Nat→argsD ps128→Option R128
noncomputable def Smr128 (q:Fn128):Sm:=⟨ps128,rs128,false,q⟩
noncomputable def G128 (qr128:Fn128):Gam:=fun f=>match f with | 128=>some (Smr128 qr128) | _=>none
theorem h0_128 (qr128:Fn128) (hg:GamOK Try.prog (G128 qr128)):Holds Try.prog 128 ⟨ps128,rs128,false,runF TT (G128 qr128) an128 Try.f128 c128 ps128 rs128⟩:=holds_of tt_ok hg mixed Try.func128 (by kernel_rfl) (by rfl) (by decide +kernel)
noncomputable def at128 (qr128:Fn128):Nat→Pt→List Nat→St→Option R128:=atF TT (G128 qr128) an128 Try.f128 c128 _ _
def sh128_L4 (x0:Int) (x1:Int) (x2:Int) (x3:List NT):St:=(St.mk (AV.undef :: ((AV.one (SV.int (Go.IntKind.i64) x0)) :: ((AV.one (SV.int (Go.IntKind.i64) x1)) :: ((AV.one (SV.bptr 1000000 0)) :: (AV.undef :: (AV.undef :: (AV.undef :: ((AV.one (SV.int (Go.IntKind.i64) x2)) :: (AV.undef :: (AV.undef :: (AV.undef :: (AV.undef :: (AV.undef :: (AV.undef :: (AV.undef :: (AV.undef :: (AV.undef :: (AV.undef :: (AV.undef :: (AV.undef :: (AV.undef :: (AV.undef :: (AV.undef :: (AV.undef :: (AV.undef :: (AV.undef :: (AV.undef :: (AV.undef :: (AV.undef :: (AV.undef :: (AV.undef :: (AV.undef :: (AV.undef :: (AV.undef :: (AV.undef :: (AV.undef :: (AV.undef :: (AV.undef :: (AV.undef :: (AV.undef :: (AV.undef :: (AV.undef :: (AV.undef :: (AV.undef :: (AV.undef :: (AV.undef :: [])))))))))))))))))))))))))))))))))))))))))))))) ((1000000,(Ent.box ((SV.con (⟨39,(Ty.int Go.IntKind.i64).pair ((Ty.int Go.IntKind.i64).pair ((Ty.int Go.IntKind.i64).pair ((Ty.int Go.IntKind.i64).pair ((Ty.int Go.IntKind.i64).pair ((Ty.int Go.IntKind.i64).pair (Ty.bool.pair (Ty.str.pair (Ty.row (nat_lit 95) (Ty.str.pair (Ty.int Go.IntKind.i64)))))))))),x3⟩:Rw)) :: []))) :: []))
noncomputable def st128_top (qr128:Fn128) (n:Nat) (lL4:Int→Int→Int→(List NT)→Option R128) (a:List NT) (b:Int) (c:Int):Option R128 :=
 cond (decide (b=c)) (some ((true,()),())) (lL4 (b) (c) ((0:Int)) (a))
noncomputable def st128_L4 (qr128:Fn128) (n:Nat) (lL4:Int→Int→Int→(List NT)→Option R128) (x0:Int) (x1:Int) (x2:Int) (x3:List NT):Option R128 :=
 cond (decide ((0:Int)≤x0)) (cond (decide (x0 < (↑x3.length:Int))) (cond (decide (x2 < (↑(List.length (x3.getD x0.toNat ZN).2.2.2.2.2.2.2.2):Int))) (cond (decide ((0:Int)≤x0)) (cond (decide (x0 < (↑x3.length:Int))) (cond (decide ((0:Int)≤x2)) (cond (decide (x2 < (↑(List.length (x3.getD x0.toNat ZN).2.2.2.2.2.2.2.2):Int))) (cond (decide ((0:Int)≤(List.getD (x3.getD x0.toNat ZN).2.2.2.2.2.2.2.2 x2.toNat (ByteArray.empty,(0:Int))).2)) (cond (decide ((List.getD (x3.getD x0.toNat ZN).2.2.2.2.2.2.2.2 x2.toNat (ByteArray.empty,(0:Int))).2 < (↑x3.length:Int))) (cond (decide ((x3.getD (Int.toNat (List.getD (x3.getD x0.toNat ZN).2.2.2.2.2.2.2.2 x2.toNat (ByteArray.empty,(0:Int))).2) ZN).1=(2:Int))) ((qr128 n (x3,(List.getD (x3.getD x0.toNat ZN).2.2.2.2.2.2.2.2 x2.toNat (ByteArray.empty,(0:Int))).2,x1,())).bind fun r1=>cond (r1.1.1) (some ((true,()),())) (lL4 (x0) (x1) (Go.IntKind.i64.wrap (x2 + (1:Int))) (x3))) (lL4 (x0) (x1) (Go.IntKind.i64.wrap (x2 + (1:Int))) (x3))) (none)) (none)) (none)) (none)) (none)) (none)) (some ((false,()),()))) (none)) (none)
theorem e128_top (qr128:Fn128) (n:Nat) (a:List NT) (b:Int) (c:Int):runF TT (G128 qr128) an128 Try.f128 c128 ps128 rs128 n (a,b,c,())=(st128_top qr128) n (fun x0 x1 x2 x3=>(at128 qr128) n (.head 4) [n] (sh128_L4 x0 x1 x2 x3)) a b c:=by kernel_rfl
theorem e128_L4_0 (qr128:Fn128) (n:Nat) (x0:Int) (x1:Int) (x2:Int) (x3:List NT):(at128 qr128) n (.head 4) [0] (sh128_L4 x0 x1 x2 x3)=none:=by kernel_rfl
theorem e128_L4 (qr128:Fn128) (n:Nat) (m4:Nat) (x0:Int) (x1:Int) (x2:Int) (x3:List NT):(at128 qr128) n (.head 4) [m4 + 1] (sh128_L4 x0 x1 x2 x3)=(st128_L4 qr128) n (fun x0 x1 x2 x3=>(at128 qr128) n (.head 4) [m4] (sh128_L4 x0 x1 x2 x3)) x0 x1 x2 x3:=by kernel_rfl
noncomputable def p128_L4 (qr128:Fn128) (n:Nat):Nat→Int→Int→Int→(List NT)→Option R128
 | 0,_,_,_,_=>none
 | m + 1,x0,x1,x2,x3=>(st128_L4 qr128) n ((p128_L4 qr128) n m) x0 x1 x2 x3
noncomputable def p128 (qr128:Fn128) (n:Nat) (a:List NT) (b:Int) (c:Int):Option R128:=(st128_top qr128) n ((p128_L4 qr128) n n) a b c
theorem t128_L4 (qr128:Fn128) (n:Nat):∀ (m4:Nat) (x0:Int) (x1:Int) (x2:Int) (x3:List NT),(at128 qr128) n (.head 4) [m4] (sh128_L4 x0 x1 x2 x3)=(p128_L4 qr128) n m4 x0 x1 x2 x3:=by
 intro m
 induction m with
 | zero=>intros; rw [(e128_L4_0 qr128)]; rfl
 | succ m ih =>
  intros
  rw [(e128_L4 qr128)]
  try simp only [ih]
  rfl
theorem F128_eq (qr128:Fn128) (n:Nat) (a:List NT) (b:Int) (c:Int):runF TT (G128 qr128) an128 Try.f128 c128 ps128 rs128 n (a,b,c,())=(p128 qr128) n a b c:=by
 rw [(e128_top qr128)]
 simp only [(t128_L4 qr128)]
 try rfl
noncomputable def q128r (qr128:Fn128) (n:Nat) (x:argsD ps128):Option R128:=(p128 qr128) n x.1 x.2.1 x.2.2.1
theorem holds128 (qr128:Fn128) (hg:GamOK Try.prog (G128 qr128)):Holds Try.prog 128 ⟨ps128,rs128,false,(q128r qr128)⟩:=by
 have:=(h0_128 qr128) hg
 have e:(runF TT (G128 qr128) an128 Try.f128 c128 ps128 rs128)=(q128r qr128):=by
  funext n x
  exact (F128_eq qr128) n x.1 x.2.1 x.2.2.1
 rw [e] at this
 exact this
theorem gam128 (qr128:Fn128) (hq:Holds Try.prog 128 (Smr128 qr128)):GamOK Try.prog (G128 qr128):=by
 intro f s h
 unfold G128 at h
 split at h
 ·injection h with h; subst h; exact ⟨⟨Try.f128,c128,Try.func128,by kernel_rfl,by decide +kernel⟩,hq⟩
 ·cases h
noncomputable def lv128:Nat→Fn128
 | 0=>fun _ _=>none
 | k + 1=>q128r (lv128 k)
theorem hlv128:∀ k,Holds Try.prog 128 (Smr128 (lv128 k))
 | 0=>by intro n w Z vs x Fs y _ _ _ _ he; cases he
 | k + 1=>holds128 (lv128 k) (gam128 (lv128 k) (hlv128 k))
noncomputable def q128:Fn128:=fun n x=>lv128 n n x
noncomputable def Sm128:Sm:=⟨ps128,rs128,false,q128⟩
theorem hh128:Holds Try.prog 128 Sm128:=fun n=>hlv128 n n
end Go.Proofs.Ythhopbicmaipgaa.Rx.S

namespace Go.Proofs.Ythhopbicmaipgaa.Rx.S
open Go Go.RowKit Go.Proofs
set_option maxRecDepth 100000
noncomputable def c115:Code:=(Try.f115.body.getD .skip)
def an115:An:=⟨fun _=>⟨[],[]⟩,fun _ _=>none⟩
abbrev ps115:List PK:=[.own tFs true,.val tCr true,.val i64 false,.val .str false,.val i64 false,.val .str false]
abbrev rs115:List RK:=[.own tFs true,.val i64 false]
abbrev R115:=retsD rs115 × outsD ps115
noncomputable def G115:Gam:=fun f=>match f with | 103=>some Sm103 | 104=>some Sm104 | 123=>some Sm123 | 127=>some Sm127 | 128=>some Sm128 | _=>none
theorem h0_115 (hg:GamOK Try.prog G115):Holds Try.prog 115 ⟨ps115,rs115,false,runF TT G115 an115 Try.f115 c115 ps115 rs115⟩:=holds_of tt_ok hg mixed Try.func115 (by kernel_rfl) (by rfl) (by decide +kernel)
noncomputable def st115_top (n:Nat) (a:List NT) (b:Int × Int × List Int) (c:Int) (d:ByteArray) (e:Int) (f:ByteArray):Option R115 :=
 cond (decide ((0:Int)≤c)) (cond (decide (c < (↑a.length:Int))) (cond (!decide ((a.getD c.toNat ZN).1=(2:Int))) (some ((a,((4:Int),())),())) (cond (decide ((0:Int)≤e)) (cond (decide (e < (↑a.length:Int))) (cond (!decide ((a.getD e.toNat ZN).1=(2:Int))) (some ((a,((4:Int),())),())) ((q123 n (a,(b.1,b.2.1,b.2.2),c,(3:Int),())).bind fun r0=>cond (!r0.1.1) (some ((a,((5:Int),())),())) ((q123 n (a,(b.1,b.2.1,b.2.2),e,(3:Int),())).bind fun r1=>cond (!r1.1.1) (some ((a,((5:Int),())),())) (cond (decide ((0:Int)≤c)) (cond (decide (c < (↑a.length:Int))) ((q103 n (((a.getD c.toNat ZN).1,(a.getD c.toNat ZN).2.1,(a.getD c.toNat ZN).2.2.1,(a.getD c.toNat ZN).2.2.2.1,(a.getD c.toNat ZN).2.2.2.2.1,(a.getD c.toNat ZN).2.2.2.2.2.1,(a.getD c.toNat ZN).2.2.2.2.2.2.1,(a.getD c.toNat ZN).2.2.2.2.2.2.2.1,(a.getD c.toNat ZN).2.2.2.2.2.2.2.2),d,())).bind fun r2=>cond (decide (r2.1.1 < (0:Int))) (some ((a,((2:Int),())),())) (cond (decide ((0:Int)≤c)) (cond (decide (c < (↑a.length:Int))) (cond (decide ((0:Int)≤r2.1.1)) (cond (decide (r2.1.1 < (↑(List.length (a.getD c.toNat ZN).2.2.2.2.2.2.2.2):Int))) (cond (decide ((0:Int)≤e)) (cond (decide (e < (↑a.length:Int))) ((q103 n (((a.getD e.toNat ZN).1,(a.getD e.toNat ZN).2.1,(a.getD e.toNat ZN).2.2.1,(a.getD e.toNat ZN).2.2.2.1,(a.getD e.toNat ZN).2.2.2.2.1,(a.getD e.toNat ZN).2.2.2.2.2.1,(a.getD e.toNat ZN).2.2.2.2.2.2.1,(a.getD e.toNat ZN).2.2.2.2.2.2.2.1,(a.getD e.toNat ZN).2.2.2.2.2.2.2.2),f,())).bind fun r3=>cond (decide ((0:Int)≤r3.1.1)) (some ((a,((3:Int),())),())) (cond (decide ((0:Int)≤(List.getD (a.getD c.toNat ZN).2.2.2.2.2.2.2.2 (Int.toNat r2.1.1) (ByteArray.empty,(0:Int))).2)) (cond (decide ((List.getD (a.getD c.toNat ZN).2.2.2.2.2.2.2.2 (Int.toNat r2.1.1) (ByteArray.empty,(0:Int))).2 < (↑a.length:Int))) (cond (decide ((a.getD (Int.toNat (List.getD (a.getD c.toNat ZN).2.2.2.2.2.2.2.2 (Int.toNat r2.1.1) (ByteArray.empty,(0:Int))).2) ZN).1=(2:Int))) ((q128 n (a,(List.getD (a.getD c.toNat ZN).2.2.2.2.2.2.2.2 (Int.toNat r2.1.1) (ByteArray.empty,(0:Int))).2,e,())).bind fun r4=>cond (r4.1.1) (some ((a,((6:Int),())),())) (cond (!decide (c=e)) (cond (decide ((0:Int)≤e)) (cond (decide (e < (↑a.length:Int))) (cond (decide ((6:Int)≤(↑(List.length (a.getD e.toNat ZN).2.2.2.2.2.2.2.2):Int))) (some ((a,((7:Int),())),())) ((q127 n (a,c,r2.1.1,())).bind fun r5=>(q104 n (r5.1.1,e,(f,(List.getD (a.getD c.toNat ZN).2.2.2.2.2.2.2.2 (Int.toNat r2.1.1) (ByteArray.empty,(0:Int))).2),())).bind fun r6=>some ((r6.1.1,((0:Int),())),()))) (none)) (none)) ((q127 n (a,c,r2.1.1,())).bind fun r7=>(q104 n (r7.1.1,e,(f,(List.getD (a.getD c.toNat ZN).2.2.2.2.2.2.2.2 (Int.toNat r2.1.1) (ByteArray.empty,(0:Int))).2),())).bind fun r8=>some ((r8.1.1,((0:Int),())),())))) (cond (!decide (c=e)) (cond (decide ((0:Int)≤e)) (cond (decide (e < (↑a.length:Int))) (cond (decide ((6:Int)≤(↑(List.length (a.getD e.toNat ZN).2.2.2.2.2.2.2.2):Int))) (some ((a,((7:Int),())),())) ((q127 n (a,c,r2.1.1,())).bind fun r9=>(q104 n (r9.1.1,e,(f,(List.getD (a.getD c.toNat ZN).2.2.2.2.2.2.2.2 (Int.toNat r2.1.1) (ByteArray.empty,(0:Int))).2),())).bind fun r10=>some ((r10.1.1,((0:Int),())),()))) (none)) (none)) ((q127 n (a,c,r2.1.1,())).bind fun r11=>(q104 n (r11.1.1,e,(f,(List.getD (a.getD c.toNat ZN).2.2.2.2.2.2.2.2 (Int.toNat r2.1.1) (ByteArray.empty,(0:Int))).2),())).bind fun r12=>some ((r12.1.1,((0:Int),())),())))) (none)) (none))) (none)) (none)) (none)) (none)) (none)) (none))) (none)) (none))))) (none)) (none))) (none)) (none)
theorem e115_top (n:Nat) (a:List NT) (b:Int × Int × List Int) (c:Int) (d:ByteArray) (e:Int) (f:ByteArray):runF TT G115 an115 Try.f115 c115 ps115 rs115 n (a,b,c,d,e,f,())=st115_top n a b c d e f:=by kernel_rfl
noncomputable def p115 (n:Nat) (a:List NT) (b:Int × Int × List Int) (c:Int) (d:ByteArray) (e:Int) (f:ByteArray):Option R115:=st115_top n a b c d e f
theorem F115_eq (n:Nat) (a:List NT) (b:Int × Int × List Int) (c:Int) (d:ByteArray) (e:Int) (f:ByteArray):runF TT G115 an115 Try.f115 c115 ps115 rs115 n (a,b,c,d,e,f,())=p115 n a b c d e f:=by
 rw [e115_top]
 skip
 try rfl
noncomputable def q115 (n:Nat) (x:argsD ps115):Option R115:=p115 n x.1 x.2.1 x.2.2.1 x.2.2.2.1 x.2.2.2.2.1 x.2.2.2.2.2.1
noncomputable def Sm115:Sm:=⟨ps115,rs115,false,q115⟩
theorem holds115 (hg:GamOK Try.prog G115):Holds Try.prog 115 Sm115:=by
 have:=h0_115 hg
 have e:(runF TT G115 an115 Try.f115 c115 ps115 rs115)=q115:=by
  funext n x
  exact F115_eq n x.1 x.2.1 x.2.2.1 x.2.2.2.1 x.2.2.2.2.1 x.2.2.2.2.2.1
 rw [e] at this
 exact this
theorem gam115:GamOK Try.prog G115:=by
 intro f s h
 unfold G115 at h
 split at h
 ·injection h with h; subst h; exact ⟨⟨Try.f103,c103,Try.func103,by kernel_rfl,by decide +kernel⟩,hh103⟩
 ·injection h with h; subst h; exact ⟨⟨Try.f104,c104,Try.func104,by kernel_rfl,by decide +kernel⟩,hh104⟩
 ·injection h with h; subst h; exact ⟨⟨Try.f123,c123,Try.func123,by kernel_rfl,by decide +kernel⟩,hh123⟩
 ·injection h with h; subst h; exact ⟨⟨Try.f127,c127,Try.func127,by kernel_rfl,by decide +kernel⟩,hh127⟩
 ·injection h with h; subst h; exact ⟨⟨Try.f128,c128,Try.func128,by kernel_rfl,by decide +kernel⟩,hh128⟩
 ·cases h
theorem hh115:Holds Try.prog 115 Sm115:=holds115 gam115
end Go.Proofs.Ythhopbicmaipgaa.Rx.S

namespace Go.Proofs.Ythhopbicmaipgaa.Rx.S
open Go Go.RowKit Go.Proofs
set_option maxRecDepth 100000
noncomputable def c102:Code:=(Try.f102.body.getD .skip)
def an102:An:=⟨fun _=>⟨[],[]⟩,fun _ _=>none⟩
abbrev ps102:List PK:=[.val tFs true,.val tCr true,.val i64 false,.val i64 false]
abbrev rs102:List RK:=[.val i64 false]
abbrev R102:=retsD rs102 × outsD ps102
noncomputable def G102:Gam:=fun f=>match f with | 123=>some Sm123 | _=>none
theorem h0_102 (hg:GamOK Try.prog G102):Holds Try.prog 102 ⟨ps102,rs102,false,runF TT G102 an102 Try.f102 c102 ps102 rs102⟩:=holds_of tt_ok hg mixed Try.func102 (by kernel_rfl) (by rfl) (by decide +kernel)
noncomputable def st102_top (n:Nat) (a:List NT) (b:Int × Int × List Int) (c:Int) (d:Int):Option R102 :=
 cond (decide ((0:Int)≤c)) (cond (decide (c < (↑a.length:Int))) (cond (!decide ((a.getD c.toNat ZN).1=(2:Int))) (some (((4:Int),()),())) ((q123 n (a,(b.1,b.2.1,b.2.2),c,d,())).bind fun r0=>cond (!r0.1.1) (some (((5:Int),()),())) (some (((0:Int),()),())))) (none)) (none)
theorem e102_top (n:Nat) (a:List NT) (b:Int × Int × List Int) (c:Int) (d:Int):runF TT G102 an102 Try.f102 c102 ps102 rs102 n (a,b,c,d,())=st102_top n a b c d:=by kernel_rfl
noncomputable def p102 (n:Nat) (a:List NT) (b:Int × Int × List Int) (c:Int) (d:Int):Option R102:=st102_top n a b c d
theorem F102_eq (n:Nat) (a:List NT) (b:Int × Int × List Int) (c:Int) (d:Int):runF TT G102 an102 Try.f102 c102 ps102 rs102 n (a,b,c,d,())=p102 n a b c d:=by
 rw [e102_top]
 skip
 try rfl
noncomputable def q102 (n:Nat) (x:argsD ps102):Option R102:=p102 n x.1 x.2.1 x.2.2.1 x.2.2.2.1
noncomputable def Sm102:Sm:=⟨ps102,rs102,false,q102⟩
theorem holds102 (hg:GamOK Try.prog G102):Holds Try.prog 102 Sm102:=by
 have:=h0_102 hg
 have e:(runF TT G102 an102 Try.f102 c102 ps102 rs102)=q102:=by
  funext n x
  exact F102_eq n x.1 x.2.1 x.2.2.1 x.2.2.2.1
 rw [e] at this
 exact this
theorem gam102:GamOK Try.prog G102:=by
 intro f s h
 unfold G102 at h
 split at h
 ·injection h with h; subst h; exact ⟨⟨Try.f123,c123,Try.func123,by kernel_rfl,by decide +kernel⟩,hh123⟩
 ·cases h
theorem hh102:Holds Try.prog 102 Sm102:=holds102 gam102
end Go.Proofs.Ythhopbicmaipgaa.Rx.S

namespace Go.Proofs.Ythhopbicmaipgaa.Rx.S
open Go Go.RowKit Go.Proofs
set_option maxRecDepth 100000
noncomputable def c114:Code:=(Try.f114.body.getD .skip)
def an114:An:=⟨fun _=>⟨[],[]⟩,fun _ _=>none⟩
abbrev ps114:List PK:=[.own tFs true,.val tCr true,.val i64 false,.val .str false]
abbrev rs114:List RK:=[.own tFs true,.val i64 false]
abbrev R114:=retsD rs114 × outsD ps114
noncomputable def G114:Gam:=fun f=>match f with | 102=>some Sm102 | 103=>some Sm103 | 112=>some Sm112 | 127=>some Sm127 | _=>none
theorem h0_114 (hg:GamOK Try.prog G114):Holds Try.prog 114 ⟨ps114,rs114,false,runF TT G114 an114 Try.f114 c114 ps114 rs114⟩:=holds_of tt_ok hg mixed Try.func114 (by kernel_rfl) (by rfl) (by decide +kernel)
noncomputable def st114_top (n:Nat) (a:List NT) (b:Int × Int × List Int) (c:Int) (d:ByteArray):Option R114 :=
 (q102 n (a,(b.1,b.2.1,b.2.2),c,(3:Int),())).bind fun r0=>cond (!decide (r0.1.1=(0:Int))) (some ((a,(r0.1.1,())),())) (cond (decide ((0:Int)≤c)) (cond (decide (c < (↑a.length:Int))) ((q103 n (((a.getD c.toNat ZN).1,(a.getD c.toNat ZN).2.1,(a.getD c.toNat ZN).2.2.1,(a.getD c.toNat ZN).2.2.2.1,(a.getD c.toNat ZN).2.2.2.2.1,(a.getD c.toNat ZN).2.2.2.2.2.1,(a.getD c.toNat ZN).2.2.2.2.2.2.1,(a.getD c.toNat ZN).2.2.2.2.2.2.2.1,(a.getD c.toNat ZN).2.2.2.2.2.2.2.2),d,())).bind fun r1=>cond (decide (r1.1.1 < (0:Int))) (some ((a,((2:Int),())),())) (cond (decide ((0:Int)≤c)) (cond (decide (c < (↑a.length:Int))) (cond (decide ((0:Int)≤r1.1.1)) (cond (decide (r1.1.1 < (↑(List.length (a.getD c.toNat ZN).2.2.2.2.2.2.2.2):Int))) (cond (decide ((0:Int)≤(List.getD (a.getD c.toNat ZN).2.2.2.2.2.2.2.2 (Int.toNat r1.1.1) (ByteArray.empty,(0:Int))).2)) (cond (decide ((List.getD (a.getD c.toNat ZN).2.2.2.2.2.2.2.2 (Int.toNat r1.1.1) (ByteArray.empty,(0:Int))).2 < (↑a.length:Int))) (cond (decide ((a.getD (Int.toNat (List.getD (a.getD c.toNat ZN).2.2.2.2.2.2.2.2 (Int.toNat r1.1.1) (ByteArray.empty,(0:Int))).2) ZN).1=(2:Int))) (cond (decide ((0:Int) < (↑(List.length (a.getD (Int.toNat (List.getD (a.getD c.toNat ZN).2.2.2.2.2.2.2.2 (Int.toNat r1.1.1) (ByteArray.empty,(0:Int))).2) ZN).2.2.2.2.2.2.2.2):Int))) (some ((a,((6:Int),())),())) (cond (decide ((0:Int) < (a.getD (Int.toNat (List.getD (a.getD c.toNat ZN).2.2.2.2.2.2.2.2 (Int.toNat r1.1.1) (ByteArray.empty,(0:Int))).2) ZN).2.2.2.2.2.1)) (some ((a,((6:Int),())),())) (cond (decide ((0:Int)≤(List.getD (a.getD c.toNat ZN).2.2.2.2.2.2.2.2 (Int.toNat r1.1.1) (ByteArray.empty,(0:Int))).2)) (cond (decide ((List.getD (a.getD c.toNat ZN).2.2.2.2.2.2.2.2 (Int.toNat r1.1.1) (ByteArray.empty,(0:Int))).2 < (↑a.length:Int))) ((q127 n (a.set (Int.toNat (List.getD (a.getD c.toNat ZN).2.2.2.2.2.2.2.2 (Int.toNat r1.1.1) (ByteArray.empty,(0:Int))).2) ((a.getD (Int.toNat (List.getD (a.getD c.toNat ZN).2.2.2.2.2.2.2.2 (Int.toNat r1.1.1) (ByteArray.empty,(0:Int))).2) ZN).1,(a.getD (Int.toNat (List.getD (a.getD c.toNat ZN).2.2.2.2.2.2.2.2 (Int.toNat r1.1.1) (ByteArray.empty,(0:Int))).2) ZN).2.1,(a.getD (Int.toNat (List.getD (a.getD c.toNat ZN).2.2.2.2.2.2.2.2 (Int.toNat r1.1.1) (ByteArray.empty,(0:Int))).2) ZN).2.2.1,(a.getD (Int.toNat (List.getD (a.getD c.toNat ZN).2.2.2.2.2.2.2.2 (Int.toNat r1.1.1) (ByteArray.empty,(0:Int))).2) ZN).2.2.2.1,Go.IntKind.i64.wrap ((a.getD (Int.toNat (List.getD (a.getD c.toNat ZN).2.2.2.2.2.2.2.2 (Int.toNat r1.1.1) (ByteArray.empty,(0:Int))).2) ZN).2.2.2.2.1 - (1:Int)),(a.getD (Int.toNat (List.getD (a.getD c.toNat ZN).2.2.2.2.2.2.2.2 (Int.toNat r1.1.1) (ByteArray.empty,(0:Int))).2) ZN).2.2.2.2.2),c,r1.1.1,())).bind fun r2=>(q112 n (r2.1.1,(List.getD (a.getD c.toNat ZN).2.2.2.2.2.2.2.2 (Int.toNat r1.1.1) (ByteArray.empty,(0:Int))).2,())).bind fun r3=>some ((r3.1.1,((0:Int),())),())) (none)) (none)))) (cond (decide ((0:Int)≤(List.getD (a.getD c.toNat ZN).2.2.2.2.2.2.2.2 (Int.toNat r1.1.1) (ByteArray.empty,(0:Int))).2)) (cond (decide ((List.getD (a.getD c.toNat ZN).2.2.2.2.2.2.2.2 (Int.toNat r1.1.1) (ByteArray.empty,(0:Int))).2 < (↑a.length:Int))) ((q127 n (a.set (Int.toNat (List.getD (a.getD c.toNat ZN).2.2.2.2.2.2.2.2 (Int.toNat r1.1.1) (ByteArray.empty,(0:Int))).2) ((a.getD (Int.toNat (List.getD (a.getD c.toNat ZN).2.2.2.2.2.2.2.2 (Int.toNat r1.1.1) (ByteArray.empty,(0:Int))).2) ZN).1,(a.getD (Int.toNat (List.getD (a.getD c.toNat ZN).2.2.2.2.2.2.2.2 (Int.toNat r1.1.1) (ByteArray.empty,(0:Int))).2) ZN).2.1,(a.getD (Int.toNat (List.getD (a.getD c.toNat ZN).2.2.2.2.2.2.2.2 (Int.toNat r1.1.1) (ByteArray.empty,(0:Int))).2) ZN).2.2.1,(a.getD (Int.toNat (List.getD (a.getD c.toNat ZN).2.2.2.2.2.2.2.2 (Int.toNat r1.1.1) (ByteArray.empty,(0:Int))).2) ZN).2.2.2.1,Go.IntKind.i64.wrap ((a.getD (Int.toNat (List.getD (a.getD c.toNat ZN).2.2.2.2.2.2.2.2 (Int.toNat r1.1.1) (ByteArray.empty,(0:Int))).2) ZN).2.2.2.2.1 - (1:Int)),(a.getD (Int.toNat (List.getD (a.getD c.toNat ZN).2.2.2.2.2.2.2.2 (Int.toNat r1.1.1) (ByteArray.empty,(0:Int))).2) ZN).2.2.2.2.2),c,r1.1.1,())).bind fun r4=>(q112 n (r4.1.1,(List.getD (a.getD c.toNat ZN).2.2.2.2.2.2.2.2 (Int.toNat r1.1.1) (ByteArray.empty,(0:Int))).2,())).bind fun r5=>some ((r5.1.1,((0:Int),())),())) (none)) (none))) (none)) (none)) (none)) (none)) (none)) (none))) (none)) (none))
theorem e114_top (n:Nat) (a:List NT) (b:Int × Int × List Int) (c:Int) (d:ByteArray):runF TT G114 an114 Try.f114 c114 ps114 rs114 n (a,b,c,d,())=st114_top n a b c d:=by kernel_rfl
noncomputable def p114 (n:Nat) (a:List NT) (b:Int × Int × List Int) (c:Int) (d:ByteArray):Option R114:=st114_top n a b c d
theorem F114_eq (n:Nat) (a:List NT) (b:Int × Int × List Int) (c:Int) (d:ByteArray):runF TT G114 an114 Try.f114 c114 ps114 rs114 n (a,b,c,d,())=p114 n a b c d:=by
 rw [e114_top]
 skip
 try rfl
noncomputable def q114 (n:Nat) (x:argsD ps114):Option R114:=p114 n x.1 x.2.1 x.2.2.1 x.2.2.2.1
noncomputable def Sm114:Sm:=⟨ps114,rs114,false,q114⟩
theorem holds114 (hg:GamOK Try.prog G114):Holds Try.prog 114 Sm114:=by
 have:=h0_114 hg
 have e:(runF TT G114 an114 Try.f114 c114 ps114 rs114)=q114:=by
  funext n x
  exact F114_eq n x.1 x.2.1 x.2.2.1 x.2.2.2.1
 rw [e] at this
 exact this
theorem gam114:GamOK Try.prog G114:=by
 intro f s h
 unfold G114 at h
 split at h
 ·injection h with h; subst h; exact ⟨⟨Try.f102,c102,Try.func102,by kernel_rfl,by decide +kernel⟩,hh102⟩
 ·injection h with h; subst h; exact ⟨⟨Try.f103,c103,Try.func103,by kernel_rfl,by decide +kernel⟩,hh103⟩
 ·injection h with h; subst h; exact ⟨⟨Try.f112,c112,Try.func112,by kernel_rfl,by decide +kernel⟩,hh112⟩
 ·injection h with h; subst h; exact ⟨⟨Try.f127,c127,Try.func127,by kernel_rfl,by decide +kernel⟩,hh127⟩
 ·cases h
theorem hh114:Holds Try.prog 114 Sm114:=holds114 gam114
end Go.Proofs.Ythhopbicmaipgaa.Rx.S

namespace Go.Proofs.Ythhopbicmaipgaa.Rx.S
open Go Go.RowKit Go.Proofs
set_option maxRecDepth 100000
noncomputable def c113:Code:=(Try.f113.body.getD .skip)
def an113:An:=⟨fun _=>⟨[],[]⟩,fun _ _=>none⟩
abbrev ps113:List PK:=[.own tFs true,.val tCr true,.val i64 false,.val i64 false,.val .str false]
abbrev rs113:List RK:=[.own tFs true,.val i64 false]
abbrev R113:=retsD rs113 × outsD ps113
noncomputable def G113:Gam:=fun f=>match f with | 102=>some Sm102 | 103=>some Sm103 | 104=>some Sm104 | _=>none
theorem h0_113 (hg:GamOK Try.prog G113):Holds Try.prog 113 ⟨ps113,rs113,false,runF TT G113 an113 Try.f113 c113 ps113 rs113⟩:=holds_of tt_ok hg mixed Try.func113 (by kernel_rfl) (by rfl) (by decide +kernel)
noncomputable def st113_top (n:Nat) (a:List NT) (b:Int × Int × List Int) (c:Int) (d:Int) (e:ByteArray):Option R113 :=
 cond (decide ((0:Int)≤c)) (cond (decide (c < (↑a.length:Int))) (cond (!decide ((a.getD c.toNat ZN).1=(1:Int))) (some ((a,((4:Int),())),())) ((q102 n (a,(b.1,b.2.1,b.2.2),d,(3:Int),())).bind fun r0=>cond (!decide (r0.1.1=(0:Int))) (some ((a,(r0.1.1,())),())) (cond (decide ((0:Int)≤d)) (cond (decide (d < (↑a.length:Int))) ((q103 n (((a.getD d.toNat ZN).1,(a.getD d.toNat ZN).2.1,(a.getD d.toNat ZN).2.2.1,(a.getD d.toNat ZN).2.2.2.1,(a.getD d.toNat ZN).2.2.2.2.1,(a.getD d.toNat ZN).2.2.2.2.2.1,(a.getD d.toNat ZN).2.2.2.2.2.2.1,(a.getD d.toNat ZN).2.2.2.2.2.2.2.1,(a.getD d.toNat ZN).2.2.2.2.2.2.2.2),e,())).bind fun r1=>cond (decide ((0:Int)≤r1.1.1)) (some ((a,((3:Int),())),())) (cond (decide ((0:Int)≤d)) (cond (decide (d < (↑a.length:Int))) (cond (decide ((6:Int)≤(↑(List.length (a.getD d.toNat ZN).2.2.2.2.2.2.2.2):Int))) (some ((a,((7:Int),())),())) (cond (decide ((0:Int)≤c)) (cond (decide (c < (↑a.length:Int))) (cond (decide ((99:Int)≤(a.getD c.toNat ZN).2.2.2.2.1)) (some ((a,((7:Int),())),())) (cond (decide ((0:Int)≤c)) (cond (decide (c < (↑a.length:Int))) (cond (decide ((0:Int)≤c)) (cond (decide (c < (↑a.length:Int))) ((q104 n (a.set c.toNat ((a.getD c.toNat ZN).1,(a.getD c.toNat ZN).2.1,(a.getD c.toNat ZN).2.2.1,(a.getD c.toNat ZN).2.2.2.1,Go.IntKind.i64.wrap ((a.getD c.toNat ZN).2.2.2.2.1 + (1:Int)),(a.getD c.toNat ZN).2.2.2.2.2),d,(e,c),())).bind fun r2=>some ((r2.1.1,((0:Int),())),())) (none)) (none)) (none)) (none))) (none)) (none))) (none)) (none))) (none)) (none)))) (none)) (none)
theorem e113_top (n:Nat) (a:List NT) (b:Int × Int × List Int) (c:Int) (d:Int) (e:ByteArray):runF TT G113 an113 Try.f113 c113 ps113 rs113 n (a,b,c,d,e,())=st113_top n a b c d e:=by kernel_rfl
noncomputable def p113 (n:Nat) (a:List NT) (b:Int × Int × List Int) (c:Int) (d:Int) (e:ByteArray):Option R113:=st113_top n a b c d e
theorem F113_eq (n:Nat) (a:List NT) (b:Int × Int × List Int) (c:Int) (d:Int) (e:ByteArray):runF TT G113 an113 Try.f113 c113 ps113 rs113 n (a,b,c,d,e,())=p113 n a b c d e:=by
 rw [e113_top]
 skip
 try rfl
noncomputable def q113 (n:Nat) (x:argsD ps113):Option R113:=p113 n x.1 x.2.1 x.2.2.1 x.2.2.2.1 x.2.2.2.2.1
noncomputable def Sm113:Sm:=⟨ps113,rs113,false,q113⟩
theorem holds113 (hg:GamOK Try.prog G113):Holds Try.prog 113 Sm113:=by
 have:=h0_113 hg
 have e:(runF TT G113 an113 Try.f113 c113 ps113 rs113)=q113:=by
  funext n x
  exact F113_eq n x.1 x.2.1 x.2.2.1 x.2.2.2.1 x.2.2.2.2.1
 rw [e] at this
 exact this
theorem gam113:GamOK Try.prog G113:=by
 intro f s h
 unfold G113 at h
 split at h
 ·injection h with h; subst h; exact ⟨⟨Try.f102,c102,Try.func102,by kernel_rfl,by decide +kernel⟩,hh102⟩
 ·injection h with h; subst h; exact ⟨⟨Try.f103,c103,Try.func103,by kernel_rfl,by decide +kernel⟩,hh103⟩
 ·injection h with h; subst h; exact ⟨⟨Try.f104,c104,Try.func104,by kernel_rfl,by decide +kernel⟩,hh104⟩
 ·cases h
theorem hh113:Holds Try.prog 113 Sm113:=holds113 gam113
end Go.Proofs.Ythhopbicmaipgaa.Rx.S

namespace Go.Proofs.Ythhopbicmaipgaa.Rx.S
open Go Go.RowKit Go.Proofs
set_option maxRecDepth 100000
noncomputable def c67:Code:=(Try.f67.body.getD .skip)
def an67:An:=⟨fun r=>match r with | 8=>⟨[2,3,4,5,6,7,12,16,17],[]⟩ | _=>⟨[],[]⟩,fun _ _=>none⟩
abbrev ps67:List PK:=[.own tFs true,.val tCr true,.val i64 false,.val .str false,.val i64 false,.val i64 false]
abbrev rs67:List RK:=[.own tFs true,.val i64 false,.val i64 false]
abbrev R67:=retsD rs67 × outsD ps67
noncomputable def G67:Gam:=fun f=>match f with | 102=>some Sm102 | 103=>some Sm103 | 104=>some Sm104 | _=>none
theorem h0_67 (hg:GamOK Try.prog G67):Holds Try.prog 67 ⟨ps67,rs67,false,runF TT G67 an67 Try.f67 c67 ps67 rs67⟩:=holds_of tt_ok hg mixed Try.func67 (by kernel_rfl) (by rfl) (by decide +kernel)
noncomputable def at67:Nat→Pt→List Nat→St→Option R67:=atF TT G67 an67 Try.f67 c67 _ _
def sh67_L8 (x0:Int) (x1:ByteArray) (x2:Int) (x3:Int) (x4:Int) (x5:Int) (x6:Int) (x7:Int) (x8:List Int) (x9:List NT):St:=(St.mk (AV.undef :: (AV.undef :: ((AV.one (SV.int (Go.IntKind.i64) x0)) :: ((AV.one (SV.str x1)) :: ((AV.one (SV.int (Go.IntKind.i64) x2)) :: ((AV.one (SV.int (Go.IntKind.i64) x3)) :: ((AV.one (SV.bptr 1000000 0)) :: ((AV.one (SV.bptr 1000001 0)) :: (AV.undef :: (AV.undef :: (AV.undef :: (AV.undef :: ((AV.one (SV.bptr 1000002 0)) :: (AV.undef :: (AV.undef :: (AV.undef :: ((AV.one (SV.int (Go.IntKind.i64) x4)) :: ((AV.one (SV.int (Go.IntKind.i64) x5)) :: (AV.undef :: (AV.undef :: (AV.undef :: (AV.undef :: (AV.undef :: (AV.undef :: (AV.undef :: (AV.undef :: (AV.undef :: (AV.undef :: (AV.undef :: (AV.undef :: (AV.undef :: (AV.undef :: (AV.undef :: (AV.undef :: (AV.undef :: (AV.undef :: (AV.undef :: (AV.undef :: (AV.undef :: (AV.undef :: (AV.undef :: (AV.undef :: (AV.undef :: (AV.undef :: (AV.undef :: (AV.undef :: (AV.undef :: (AV.undef :: (AV.undef :: (AV.undef :: (AV.undef :: (AV.undef :: (AV.undef :: (AV.undef :: (AV.undef :: (AV.undef :: (AV.undef :: (AV.undef :: (AV.undef :: (AV.undef :: (AV.undef :: (AV.undef :: (AV.undef :: (AV.undef :: (AV.undef :: (AV.undef :: (AV.undef :: (AV.undef :: (AV.undef :: (AV.undef :: (AV.undef :: (AV.undef :: (AV.undef :: (AV.undef :: (AV.undef :: (AV.undef :: (AV.undef :: (AV.undef :: (AV.undef :: (AV.undef :: (AV.undef :: (AV.undef :: (AV.undef :: (AV.undef :: (AV.undef :: (AV.undef :: (AV.undef :: (AV.undef :: (AV.undef :: (AV.undef :: (AV.undef :: (AV.undef :: (AV.undef :: []))))))))))))))))))))))))))))))))))))))))))))))))))))))))))))))))))))))))))))))))))))))))))))) ((1000000,(Ent.box ((SV.ref 1000003 0 [] Option.none) :: []))) :: ((1000001,(Ent.box ((SV.int (Go.IntKind.i64) x6) :: ((SV.int (Go.IntKind.i64) x7) :: ((SV.con (⟨3,Ty.int Go.IntKind.i64,x8⟩:Rw)) :: []))))) :: ((1000002,(Ent.box (SV.nil :: []))) :: ((1000003,(Ent.row (⟨39,(Ty.int Go.IntKind.i64).pair ((Ty.int Go.IntKind.i64).pair ((Ty.int Go.IntKind.i64).pair ((Ty.int Go.IntKind.i64).pair ((Ty.int Go.IntKind.i64).pair ((Ty.int Go.IntKind.i64).pair (Ty.bool.pair (Ty.str.pair (Ty.row (nat_lit 95) (Ty.str.pair (Ty.int Go.IntKind.i64)))))))))),x9⟩:Rw) 0 Option.none)) :: [])))))
noncomputable def st67_top (n:Nat) (lL8:Int→ByteArray→Int→Int→Int→Int→Int→Int→(List Int)→(List NT)→Option R67) (a:List NT) (b:Int × Int × List Int) (c:Int) (d:ByteArray) (e:Int) (f:Int):Option R67 :=
 (q102 n (a,(b.1,b.2.1,b.2.2),c,(3:Int),())).bind fun r0=>cond (!decide (r0.1.1=(0:Int))) (some ((a,((-1:Int),(r0.1.1,()))),())) (cond (decide ((0:Int)≤c)) (cond (decide (c < (↑a.length:Int))) ((q103 n (((a.getD c.toNat ZN).1,(a.getD c.toNat ZN).2.1,(a.getD c.toNat ZN).2.2.1,(a.getD c.toNat ZN).2.2.2.1,(a.getD c.toNat ZN).2.2.2.2.1,(a.getD c.toNat ZN).2.2.2.2.2.1,(a.getD c.toNat ZN).2.2.2.2.2.2.1,(a.getD c.toNat ZN).2.2.2.2.2.2.2.1,(a.getD c.toNat ZN).2.2.2.2.2.2.2.2),d,())).bind fun r1=>cond (decide ((0:Int)≤r1.1.1)) (some ((a,((-1:Int),((3:Int),()))),())) (lL8 (c) (d) (e) (f) ((-1:Int)) (Go.IntKind.i64.wrap ((↑a.length:Int) - (1:Int))) (b.1) (b.2.1) (b.2.2) (a))) (none)) (none))
noncomputable def st67_L8 (n:Nat) (lL8:Int→ByteArray→Int→Int→Int→Int→Int→Int→(List Int)→(List NT)→Option R67) (x0:Int) (x1:ByteArray) (x2:Int) (x3:Int) (x4:Int) (x5:Int) (x6:Int) (x7:Int) (x8:List Int) (x9:List NT):Option R67 :=
 cond (decide ((0:Int)≤x5)) (cond (decide ((0:Int)≤x5)) (cond (decide (x5 < (↑x9.length:Int))) (cond (decide ((x9.getD x5.toNat ZN).1=(0:Int))) (lL8 (x0) (x1) (x2) (x3) (x5) (Go.IntKind.i64.wrap (x5 - (1:Int))) (x6) (x7) (x8) (x9)) (lL8 (x0) (x1) (x2) (x3) (x4) (Go.IntKind.i64.wrap (x5 - (1:Int))) (x6) (x7) (x8) (x9))) (none)) (none)) (cond (decide (x4 < (0:Int))) (some ((x9,((-1:Int),((7:Int),()))),())) (cond (decide ((0:Int)≤x0)) (cond (decide (x0 < (↑x9.length:Int))) (cond (decide ((6:Int)≤(↑(List.length (x9.getD x0.toNat ZN).2.2.2.2.2.2.2.2):Int))) (some ((x9,((-1:Int),((7:Int),()))),())) (cond (decide ((0:Int) < (↑x8.length:Int))) (cond (decide ((0:Int) < (↑x8.length:Int))) (cond (decide ((0:Int)≤x4)) (cond (decide (x4 < (↑x9.length:Int))) ((q104 n (x9.set x4.toNat (x2,x3,x6,x8.getD (Int.toNat (0:Int)) (0:Int),(1:Int),(0:Int),false,ByteArray.empty,[]),x0,(x1,x4),())).bind fun r3=>some ((r3.1.1,(x4,((0:Int),()))),())) (none)) (none)) (none)) (cond (decide ((0:Int)≤x4)) (cond (decide (x4 < (↑x9.length:Int))) ((q104 n (x9.set x4.toNat (x2,x3,x6,x6,(1:Int),(0:Int),false,ByteArray.empty,[]),x0,(x1,x4),())).bind fun r4=>some ((r4.1.1,(x4,((0:Int),()))),())) (none)) (none)))) (none)) (none)))
theorem e67_top (n:Nat) (a:List NT) (b:Int × Int × List Int) (c:Int) (d:ByteArray) (e:Int) (f:Int):runF TT G67 an67 Try.f67 c67 ps67 rs67 n (a,b,c,d,e,f,())=st67_top n (fun x0 x1 x2 x3 x4 x5 x6 x7 x8 x9=>at67 n (.head 8) [n] (sh67_L8 x0 x1 x2 x3 x4 x5 x6 x7 x8 x9)) a b c d e f:=by kernel_rfl
theorem e67_L8_0 (n:Nat) (x0:Int) (x1:ByteArray) (x2:Int) (x3:Int) (x4:Int) (x5:Int) (x6:Int) (x7:Int) (x8:List Int) (x9:List NT):at67 n (.head 8) [0] (sh67_L8 x0 x1 x2 x3 x4 x5 x6 x7 x8 x9)=none:=by kernel_rfl
theorem e67_L8 (n:Nat) (m8:Nat) (x0:Int) (x1:ByteArray) (x2:Int) (x3:Int) (x4:Int) (x5:Int) (x6:Int) (x7:Int) (x8:List Int) (x9:List NT):at67 n (.head 8) [m8 + 1] (sh67_L8 x0 x1 x2 x3 x4 x5 x6 x7 x8 x9)=st67_L8 n (fun x0 x1 x2 x3 x4 x5 x6 x7 x8 x9=>at67 n (.head 8) [m8] (sh67_L8 x0 x1 x2 x3 x4 x5 x6 x7 x8 x9)) x0 x1 x2 x3 x4 x5 x6 x7 x8 x9:=by kernel_rfl
noncomputable def p67_L8 (n:Nat):Nat→Int→ByteArray→Int→Int→Int→Int→Int→Int→(List Int)→(List NT)→Option R67
 | 0,_,_,_,_,_,_,_,_,_,_=>none
 | m + 1,x0,x1,x2,x3,x4,x5,x6,x7,x8,x9=>st67_L8 n (p67_L8 n m) x0 x1 x2 x3 x4 x5 x6 x7 x8 x9
noncomputable def p67 (n:Nat) (a:List NT) (b:Int × Int × List Int) (c:Int) (d:ByteArray) (e:Int) (f:Int):Option R67:=st67_top n (p67_L8 n n) a b c d e f
theorem t67_L8 (n:Nat):∀ (m8:Nat) (x0:Int) (x1:ByteArray) (x2:Int) (x3:Int) (x4:Int) (x5:Int) (x6:Int) (x7:Int) (x8:List Int) (x9:List NT),at67 n (.head 8) [m8] (sh67_L8 x0 x1 x2 x3 x4 x5 x6 x7 x8 x9)=p67_L8 n m8 x0 x1 x2 x3 x4 x5 x6 x7 x8 x9:=by
 intro m
 induction m with
 | zero=>intros; rw [e67_L8_0]; rfl
 | succ m ih =>
  intros
  rw [e67_L8]
  try simp only [ih]
  rfl
theorem F67_eq (n:Nat) (a:List NT) (b:Int × Int × List Int) (c:Int) (d:ByteArray) (e:Int) (f:Int):runF TT G67 an67 Try.f67 c67 ps67 rs67 n (a,b,c,d,e,f,())=p67 n a b c d e f:=by
 rw [e67_top]
 simp only [t67_L8]
 try rfl
noncomputable def q67 (n:Nat) (x:argsD ps67):Option R67:=p67 n x.1 x.2.1 x.2.2.1 x.2.2.2.1 x.2.2.2.2.1 x.2.2.2.2.2.1
noncomputable def Sm67:Sm:=⟨ps67,rs67,false,q67⟩
theorem holds67 (hg:GamOK Try.prog G67):Holds Try.prog 67 Sm67:=by
 have:=h0_67 hg
 have e:(runF TT G67 an67 Try.f67 c67 ps67 rs67)=q67:=by
  funext n x
  exact F67_eq n x.1 x.2.1 x.2.2.1 x.2.2.2.1 x.2.2.2.2.1 x.2.2.2.2.2.1
 rw [e] at this
 exact this
theorem gam67:GamOK Try.prog G67:=by
 intro f s h
 unfold G67 at h
 split at h
 ·injection h with h; subst h; exact ⟨⟨Try.f102,c102,Try.func102,by kernel_rfl,by decide +kernel⟩,hh102⟩
 ·injection h with h; subst h; exact ⟨⟨Try.f103,c103,Try.func103,by kernel_rfl,by decide +kernel⟩,hh103⟩
 ·injection h with h; subst h; exact ⟨⟨Try.f104,c104,Try.func104,by kernel_rfl,by decide +kernel⟩,hh104⟩
 ·cases h
theorem hh67:Holds Try.prog 67 Sm67:=holds67 gam67
end Go.Proofs.Ythhopbicmaipgaa.Rx.S

namespace Go.Proofs.Ythhopbicmaipgaa.Rx.S
open Go Go.RowKit Go.Proofs
set_option maxRecDepth 100000
noncomputable def c51:Code:=(Try.f51.body.getD .skip)
def an51:An:=⟨fun _=>⟨[],[]⟩,fun _ _=>none⟩
abbrev ps51:List PK:=[.bx tRd,.val i64 false]
abbrev rs51:List RK:=[.val i64 false]
abbrev R51:=retsD rs51 × outsD ps51
noncomputable def G51:Gam:=fun _=>none
theorem h0_51 (hg:GamOK Try.prog G51):Holds Try.prog 51 ⟨ps51,rs51,true,runF TT G51 an51 Try.f51 c51 ps51 rs51⟩:=holds_of tt_ok hg mixed Try.func51 (by kernel_rfl) (by rfl) (by decide +kernel)
noncomputable def st51_top (n:Nat) (a:List Int × Int) (b:Int):Option R51 :=
 cond (decide (b < (1:Int))) (some (((0:Int),()),((a.1,Go.IntKind.i64.wrap (a.2 + (1:Int))),()))) (cond (decide ((↑(List.length a.1):Int)=(0:Int))) (some (((0:Int),()),((a.1,Go.IntKind.i64.wrap (a.2 + (1:Int))),()))) (cond (decide (Go.IntKind.i64.wrap (Go.IntKind.i64.wrap (a.2 + (1:Int)) - (1:Int)) < (↑(List.length a.1):Int))) (cond (decide ((0:Int)≤Go.IntKind.i64.wrap (Go.IntKind.i64.wrap (a.2 + (1:Int)) - (1:Int)))) (cond (decide (Go.IntKind.i64.wrap (Go.IntKind.i64.wrap (a.2 + (1:Int)) - (1:Int)) < (↑(List.length a.1):Int))) (cond (!decide (b=(0:Int))) (some (((Go.IntKind.i64.wrap (List.getD a.1 (Go.IntKind.i64.wrap (Go.IntKind.i64.wrap (a.2 + (1:Int)) - (1:Int))).toNat (0:Int))).tmod b,()),((a.1,Go.IntKind.i64.wrap (a.2 + (1:Int))),()))) (none)) (none)) (none)) (cond (!decide ((↑(List.length a.1):Int)=(0:Int))) (cond (decide ((0:Int)≤(Go.IntKind.i64.wrap (Go.IntKind.i64.wrap (a.2 + (1:Int)) - (1:Int))).tmod (↑(List.length a.1):Int))) (cond (decide ((Go.IntKind.i64.wrap (Go.IntKind.i64.wrap (a.2 + (1:Int)) - (1:Int))).tmod (↑(List.length a.1):Int) < (↑(List.length a.1):Int))) (cond (!decide ((↑(List.length a.1):Int)=(0:Int))) (cond (decide ((0:Int)≤(Go.IntKind.i64.wrap (Go.IntKind.i64.wrap (Go.IntKind.i64.wrap (Go.IntKind.i64.wrap (a.2 + (1:Int)) - (1:Int)) * (7:Int)) + (3:Int))).tmod (↑(List.length a.1):Int))) (cond (decide ((Go.IntKind.i64.wrap (Go.IntKind.i64.wrap (Go.IntKind.i64.wrap (Go.IntKind.i64.wrap (a.2 + (1:Int)) - (1:Int)) * (7:Int)) + (3:Int))).tmod (↑(List.length a.1):Int) < (↑(List.length a.1):Int))) (cond (!decide ((↑(List.length a.1):Int)=(0:Int))) (cond (!decide (b=(0:Int))) (some (((Go.IntKind.i64.wrap (↑(BitVec.ofInt Go.IntKind.i64.bits (Go.IntKind.i64.wrap (Go.IntKind.i64.wrap (Go.IntKind.i64.wrap (Go.IntKind.i64.wrap (Go.IntKind.i64.wrap (List.getD a.1 ((Go.IntKind.i64.wrap (Go.IntKind.i64.wrap (a.2 + (1:Int)) - (1:Int))).tmod (↑(List.length a.1):Int)).toNat (0:Int)) * (131:Int)) + Go.IntKind.i64.wrap (Go.IntKind.i64.wrap (List.getD a.1 ((Go.IntKind.i64.wrap (Go.IntKind.i64.wrap (Go.IntKind.i64.wrap (Go.IntKind.i64.wrap (a.2 + (1:Int)) - (1:Int)) * (7:Int)) + (3:Int))).tmod (↑(List.length a.1):Int)).toNat (0:Int)) * (1117:Int))) + Go.IntKind.i64.wrap (Go.IntKind.i64.wrap (Go.IntKind.i64.wrap (a.2 + (1:Int)) - (1:Int)) * (29:Int))) + Go.IntKind.i64.wrap (Go.IntKind.i64.wrap ((Go.IntKind.i64.wrap (Go.IntKind.i64.wrap (a.2 + (1:Int)) - (1:Int))).tdiv (↑(List.length a.1):Int)) * (53:Int)))) ^^^ BitVec.ofInt Go.IntKind.i64.bits (Go.IntKind.i64.wrap ((Go.IntKind.i64.wrap (Go.IntKind.i64.wrap (Go.IntKind.i64.wrap (Go.IntKind.i64.wrap (Go.IntKind.i64.wrap (List.getD a.1 ((Go.IntKind.i64.wrap (Go.IntKind.i64.wrap (a.2 + (1:Int)) - (1:Int))).tmod (↑(List.length a.1):Int)).toNat (0:Int)) * (131:Int)) + Go.IntKind.i64.wrap (Go.IntKind.i64.wrap (List.getD a.1 ((Go.IntKind.i64.wrap (Go.IntKind.i64.wrap (Go.IntKind.i64.wrap (Go.IntKind.i64.wrap (a.2 + (1:Int)) - (1:Int)) * (7:Int)) + (3:Int))).tmod (↑(List.length a.1):Int)).toNat (0:Int)) * (1117:Int))) + Go.IntKind.i64.wrap (Go.IntKind.i64.wrap (Go.IntKind.i64.wrap (a.2 + (1:Int)) - (1:Int)) * (29:Int))) + Go.IntKind.i64.wrap (Go.IntKind.i64.wrap ((Go.IntKind.i64.wrap (Go.IntKind.i64.wrap (a.2 + (1:Int)) - (1:Int))).tdiv (↑(List.length a.1):Int)) * (53:Int)))).tdiv (64:Int)))).toNat:Int)).tmod b,()),((a.1,Go.IntKind.i64.wrap (a.2 + (1:Int))),()))) (none)) (none)) (none)) (none)) (none)) (none)) (none)) (none))))
theorem e51_top (n:Nat) (a:List Int × Int) (b:Int):runF TT G51 an51 Try.f51 c51 ps51 rs51 n (a,b,())=st51_top n a b:=by kernel_rfl
noncomputable def p51 (n:Nat) (a:List Int × Int) (b:Int):Option R51:=st51_top n a b
theorem F51_eq (n:Nat) (a:List Int × Int) (b:Int):runF TT G51 an51 Try.f51 c51 ps51 rs51 n (a,b,())=p51 n a b:=by
 rw [e51_top]
 skip
 try rfl
noncomputable def q51 (n:Nat) (x:argsD ps51):Option R51:=p51 n x.1 x.2.1
noncomputable def Sm51:Sm:=⟨ps51,rs51,true,q51⟩
theorem holds51 (hg:GamOK Try.prog G51):Holds Try.prog 51 Sm51:=by
 have:=h0_51 hg
 have e:(runF TT G51 an51 Try.f51 c51 ps51 rs51)=q51:=by
  funext n x
  exact F51_eq n x.1 x.2.1
 rw [e] at this
 exact this
theorem gam51:GamOK Try.prog G51:=fun _ _ h=>by cases h
theorem hh51:Holds Try.prog 51 Sm51:=holds51 gam51
end Go.Proofs.Ythhopbicmaipgaa.Rx.S

namespace Go.Proofs.Ythhopbicmaipgaa.Rx.S
open Go Go.RowKit Go.Proofs
set_option maxRecDepth 100000
noncomputable def c50:Code:=(Try.f50.body.getD .skip)
def an50:An:=⟨fun _=>⟨[],[]⟩,fun _ _=>none⟩
abbrev ps50:List PK:=[.bx tRd]
abbrev rs50:List RK:=[.val .str false]
abbrev R50:=retsD rs50 × outsD ps50
noncomputable def G50:Gam:=fun f=>match f with | 51=>some Sm51 | _=>none
theorem h0_50 (hg:GamOK Try.prog G50):Holds Try.prog 50 ⟨ps50,rs50,true,runF TT G50 an50 Try.f50 c50 ps50 rs50⟩:=holds_of tt_ok hg mixed Try.func50 (by kernel_rfl) (by rfl) (by decide +kernel)
noncomputable def st50_top (n:Nat) (a:List Int × Int):Option R50 :=
 (q51 n ((a.1,a.2),(24:Int),())).bind fun r0=>cond (decide (r0.1.1=(0:Int))) ((q51 n ((r0.2.1.1,r0.2.1.2),(5:Int),())).bind fun r1=>cond (decide ((0:Int)≤r1.1.1)) (cond (decide (r1.1.1 < (↑[ByteArray.mk #[],ByteArray.mk #[(65:UInt8)],ByteArray.mk #[(97:UInt8),(98:UInt8),(99:UInt8),(100:UInt8)],ByteArray.mk #[(46:UInt8),(46:UInt8)],ByteArray.mk #[(97:UInt8),(47:UInt8)]].length:Int))) (some (([ByteArray.mk #[],ByteArray.mk #[(65:UInt8)],ByteArray.mk #[(97:UInt8),(98:UInt8),(99:UInt8),(100:UInt8)],ByteArray.mk #[(46:UInt8),(46:UInt8)],ByteArray.mk #[(97:UInt8),(47:UInt8)]].getD (Int.toNat r1.1.1) ByteArray.empty,()),((r1.2.1.1,r1.2.1.2),()))) (none)) (none)) ((q51 n ((r0.2.1.1,r0.2.1.2),(4:Int),())).bind fun r2=>cond (decide ((0:Int)≤r2.1.1)) (cond (decide (r2.1.1 < (↑[ByteArray.mk #[(97:UInt8)],ByteArray.mk #[(98:UInt8)],ByteArray.mk #[(99:UInt8)],ByteArray.mk #[(97:UInt8),(98:UInt8)]].length:Int))) (some (([ByteArray.mk #[(97:UInt8)],ByteArray.mk #[(98:UInt8)],ByteArray.mk #[(99:UInt8)],ByteArray.mk #[(97:UInt8),(98:UInt8)]].getD (Int.toNat r2.1.1) ByteArray.empty,()),((r2.2.1.1,r2.2.1.2),()))) (none)) (none))
theorem e50_top (n:Nat) (a:List Int × Int):runF TT G50 an50 Try.f50 c50 ps50 rs50 n (a,())=st50_top n a:=by kernel_rfl
noncomputable def p50 (n:Nat) (a:List Int × Int):Option R50:=st50_top n a
theorem F50_eq (n:Nat) (a:List Int × Int):runF TT G50 an50 Try.f50 c50 ps50 rs50 n (a,())=p50 n a:=by
 rw [e50_top]
 skip
 try rfl
noncomputable def q50 (n:Nat) (x:argsD ps50):Option R50:=p50 n x.1
noncomputable def Sm50:Sm:=⟨ps50,rs50,true,q50⟩
theorem holds50 (hg:GamOK Try.prog G50):Holds Try.prog 50 Sm50:=by
 have:=h0_50 hg
 have e:(runF TT G50 an50 Try.f50 c50 ps50 rs50)=q50:=by
  funext n x
  exact F50_eq n x.1
 rw [e] at this
 exact this
theorem gam50:GamOK Try.prog G50:=by
 intro f s h
 unfold G50 at h
 split at h
 ·injection h with h; subst h; exact ⟨⟨Try.f51,c51,Try.func51,by kernel_rfl,by decide +kernel⟩,hh51⟩
 ·cases h
theorem hh50:Holds Try.prog 50 Sm50:=holds50 gam50
end Go.Proofs.Ythhopbicmaipgaa.Rx.S

namespace Go.Proofs.Ythhopbicmaipgaa.Rx.S
open Go Go.RowKit Go.Proofs
set_option maxRecDepth 100000
noncomputable def c88:Code:=(Try.f88.body.getD .skip)
def an88:An:=⟨fun _=>⟨[],[]⟩,fun _ _=>none⟩
abbrev ps88:List PK:=[.val i64 false,.val i64 false]
abbrev rs88:List RK:=[.own tFs true,.val .bool false]
abbrev R88:=retsD rs88 × outsD ps88
noncomputable def G88:Gam:=fun f=>match f with | 66=>some Sm66 | 87=>some Sm87 | _=>none
theorem h0_88 (hg:GamOK Try.prog G88):Holds Try.prog 88 ⟨ps88,rs88,false,runF TT G88 an88 Try.f88 c88 ps88 rs88⟩:=holds_of tt_ok hg mixed Try.func88 (by kernel_rfl) (by rfl) (by decide +kernel)
noncomputable def st88_top (n:Nat) (a:Int) (b:Int):Option R88 :=
 (q87 n (a,())).bind fun r0=>cond (!r0.1.1) (some (([],(false,())),())) ((q66 n (b,(0:Int),(511:Int),())).bind fun r1=>cond (!r1.1.1) (some (([],(false,())),())) (some (((List.replicate (Int.toNat (10:Int)) ZN).set (Int.toNat (0:Int)) ((2:Int),b,a,a,(0:Int),(0:Int),false,ByteArray.empty,[]),(true,())),())))
theorem e88_top (n:Nat) (a:Int) (b:Int):runF TT G88 an88 Try.f88 c88 ps88 rs88 n (a,b,())=st88_top n a b:=by kernel_rfl
noncomputable def p88 (n:Nat) (a:Int) (b:Int):Option R88:=st88_top n a b
theorem F88_eq (n:Nat) (a:Int) (b:Int):runF TT G88 an88 Try.f88 c88 ps88 rs88 n (a,b,())=p88 n a b:=by
 rw [e88_top]
 skip
 try rfl
noncomputable def q88 (n:Nat) (x:argsD ps88):Option R88:=p88 n x.1 x.2.1
noncomputable def Sm88:Sm:=⟨ps88,rs88,false,q88⟩
theorem holds88 (hg:GamOK Try.prog G88):Holds Try.prog 88 Sm88:=by
 have:=h0_88 hg
 have e:(runF TT G88 an88 Try.f88 c88 ps88 rs88)=q88:=by
  funext n x
  exact F88_eq n x.1 x.2.1
 rw [e] at this
 exact this
theorem gam88:GamOK Try.prog G88:=by
 intro f s h
 unfold G88 at h
 split at h
 ·injection h with h; subst h; exact ⟨⟨Try.f66,c66,Try.func66,by kernel_rfl,by decide +kernel⟩,hh66⟩
 ·injection h with h; subst h; exact ⟨⟨Try.f87,c87,Try.func87,by kernel_rfl,by decide +kernel⟩,hh87⟩
 ·cases h
theorem hh88:Holds Try.prog 88 Sm88:=holds88 gam88
end Go.Proofs.Ythhopbicmaipgaa.Rx.S

namespace Go.Proofs.Ythhopbicmaipgaa.Rx.S
open Go Go.RowKit Go.Proofs
set_option maxRecDepth 100000
noncomputable def c48:Code:=(Try.f48.body.getD .skip)
def an48:An:=⟨fun r=>match r with | 3=>⟨[0,2,3,4],[]⟩ | _=>⟨[],[]⟩,fun _ _=>none⟩
abbrev ps48:List PK:=[.bx tRd]
abbrev rs48:List RK:=[.own tCr true]
abbrev R48:=retsD rs48 × outsD ps48
noncomputable def G48:Gam:=fun f=>match f with | 51=>some Sm51 | _=>none
theorem h0_48 (hg:GamOK Try.prog G48):Holds Try.prog 48 ⟨ps48,rs48,true,runF TT G48 an48 Try.f48 c48 ps48 rs48⟩:=holds_of tt_ok hg mixed Try.func48 (by kernel_rfl) (by rfl) (by decide +kernel)
noncomputable def at48:Nat→Pt→List Nat→St→Option R48:=atF TT G48 an48 Try.f48 c48 _ _
def sh48_L3 (x0:Int) (x1:List Int) (x2:Int) (x3:Int) (x4:Int) (x5:Int) (x6:Int) (x7:List Int):St:=(St.mk ((AV.par 0 false ((SV.bptr 1000000 0) :: [])) :: (AV.undef :: ((AV.one (SV.bptr 1000001 0)) :: ((AV.one (SV.bptr 1000002 0)) :: ((AV.one (SV.int (Go.IntKind.i64) x0)) :: (AV.undef :: (AV.undef :: (AV.undef :: (AV.undef :: (AV.undef :: (AV.undef :: (AV.undef :: (AV.undef :: (AV.undef :: (AV.undef :: (AV.undef :: (AV.undef :: (AV.undef :: (AV.undef :: (AV.undef :: (AV.undef :: (AV.undef :: (AV.undef :: (AV.undef :: (AV.undef :: (AV.undef :: (AV.undef :: (AV.undef :: (AV.undef :: (AV.undef :: (AV.undef :: (AV.undef :: (AV.undef :: (AV.undef :: (AV.undef :: (AV.undef :: (AV.undef :: (AV.undef :: (AV.undef :: (AV.undef :: (AV.undef :: (AV.undef :: (AV.undef :: (AV.undef :: (AV.undef :: (AV.undef :: (AV.undef :: (AV.undef :: (AV.undef :: (AV.undef :: (AV.undef :: (AV.undef :: (AV.undef :: []))))))))))))))))))))))))))))))))))))))))))))))))))))) ((1000000,(Ent.box ((SV.con (⟨5,Ty.int Go.IntKind.u8,x1⟩:Rw)) :: ((SV.int (Go.IntKind.i64) x2) :: [])))) :: ((1000001,(Ent.box ((SV.int (Go.IntKind.i64) x3) :: ((SV.int (Go.IntKind.i64) x4) :: (SV.nil :: []))))) :: ((1000002,(Ent.box ((SV.int (Go.IntKind.i64) x5) :: ((SV.int (Go.IntKind.i64) x6) :: ((SV.ref 1000003 0 [] Option.none) :: []))))) :: ((1000003,(Ent.row (⟨3,Ty.int Go.IntKind.i64,x7⟩:Rw) 0 Option.none)) :: [])))))
noncomputable def st48_top (n:Nat) (lL3:Int→(List Int)→Int→Int→Int→Int→Int→(List Int)→Option R48) (a:List Int × Int):Option R48 :=
 (q51 n ((a.1,a.2),(4:Int),())).bind fun r0=>(q51 n ((r0.2.1.1,r0.2.1.2),(4:Int),())).bind fun r1=>lL3 ((0:Int)) (r1.2.1.1) (r1.2.1.2) ((0:Int)) ((0:Int)) (r0.1.1) (r1.1.1) ([])
noncomputable def st48_L3 (n:Nat) (lL3:Int→(List Int)→Int→Int→Int→Int→Int→(List Int)→Option R48) (x0:Int) (x1:List Int) (x2:Int) (x3:Int) (x4:Int) (x5:Int) (x6:Int) (x7:List Int):Option R48 :=
 cond (decide (x0 < (5:Int))) (cond (decide ((↑x7.length:Int) < (3:Int))) ((q51 n ((x1,x2),(4:Int),())).bind fun r3=>cond (decide (r3.1.1=(0:Int))) (cond (decide ((x7.length + [x0].length) * (8:Nat)≤(140737488355328:Nat))) (lL3 (Go.IntKind.i64.wrap (x0 + (1:Int))) (r3.2.1.1) (r3.2.1.2) (x3) (x4) (x5) (x6) (x7 ++ [x0])) (none)) (lL3 (Go.IntKind.i64.wrap (x0 + (1:Int))) (r3.2.1.1) (r3.2.1.2) (x3) (x4) (x5) (x6) (x7))) ((q51 n ((x1,x2),(30:Int),())).bind fun r4=>cond (decide (r4.1.1=(0:Int))) ((q51 n ((r4.2.1.1,r4.2.1.2),(3:Int),())).bind fun r5=>cond (decide ((0:Int)≤r5.1.1)) (cond (decide (r5.1.1 < (↑[(-1:Int),(10:Int),(9:Int)].length:Int))) (some ((([(-1:Int),(10:Int),(9:Int)].getD (Int.toNat r5.1.1) (0:Int),(x6,x7)),()),((r5.2.1.1,r5.2.1.2),()))) (none)) (none)) (cond (decide (r4.1.1=(1:Int))) ((q51 n ((r4.2.1.1,r4.2.1.2),(3:Int),())).bind fun r6=>cond (decide ((0:Int)≤r6.1.1)) (cond (decide (r6.1.1 < (↑[(0:Int),(9:Int),(10:Int)].length:Int))) (cond (decide ((x7.length + [[(0:Int),(9:Int),(10:Int)].getD (Int.toNat r6.1.1) (0:Int)].length) * (8:Nat)≤(140737488355328:Nat))) (some (((x5,(x6,x7 ++ [[(0:Int),(9:Int),(10:Int)].getD (Int.toNat r6.1.1) (0:Int)])),()),((r6.2.1.1,r6.2.1.2),()))) (none)) (none)) (none)) (some (((x5,(x6,x7)),()),((r4.2.1.1,r4.2.1.2),())))))) ((q51 n ((x1,x2),(30:Int),())).bind fun r7=>cond (decide (r7.1.1=(0:Int))) ((q51 n ((r7.2.1.1,r7.2.1.2),(3:Int),())).bind fun r8=>cond (decide ((0:Int)≤r8.1.1)) (cond (decide (r8.1.1 < (↑[(-1:Int),(10:Int),(9:Int)].length:Int))) (some ((([(-1:Int),(10:Int),(9:Int)].getD (Int.toNat r8.1.1) (0:Int),(x6,x7)),()),((r8.2.1.1,r8.2.1.2),()))) (none)) (none)) (cond (decide (r7.1.1=(1:Int))) ((q51 n ((r7.2.1.1,r7.2.1.2),(3:Int),())).bind fun r9=>cond (decide ((0:Int)≤r9.1.1)) (cond (decide (r9.1.1 < (↑[(0:Int),(9:Int),(10:Int)].length:Int))) (cond (decide ((x7.length + [[(0:Int),(9:Int),(10:Int)].getD (Int.toNat r9.1.1) (0:Int)].length) * (8:Nat)≤(140737488355328:Nat))) (some (((x5,(x6,x7 ++ [[(0:Int),(9:Int),(10:Int)].getD (Int.toNat r9.1.1) (0:Int)])),()),((r9.2.1.1,r9.2.1.2),()))) (none)) (none)) (none)) (some (((x5,(x6,x7)),()),((r7.2.1.1,r7.2.1.2),())))))
theorem e48_top (n:Nat) (a:List Int × Int):runF TT G48 an48 Try.f48 c48 ps48 rs48 n (a,())=st48_top n (fun x0 x1 x2 x3 x4 x5 x6 x7=>at48 n (.head 3) [n] (sh48_L3 x0 x1 x2 x3 x4 x5 x6 x7)) a:=by kernel_rfl
theorem e48_L3_0 (n:Nat) (x0:Int) (x1:List Int) (x2:Int) (x3:Int) (x4:Int) (x5:Int) (x6:Int) (x7:List Int):at48 n (.head 3) [0] (sh48_L3 x0 x1 x2 x3 x4 x5 x6 x7)=none:=by kernel_rfl
theorem e48_L3 (n:Nat) (m3:Nat) (x0:Int) (x1:List Int) (x2:Int) (x3:Int) (x4:Int) (x5:Int) (x6:Int) (x7:List Int):at48 n (.head 3) [m3 + 1] (sh48_L3 x0 x1 x2 x3 x4 x5 x6 x7)=st48_L3 n (fun x0 x1 x2 x3 x4 x5 x6 x7=>at48 n (.head 3) [m3] (sh48_L3 x0 x1 x2 x3 x4 x5 x6 x7)) x0 x1 x2 x3 x4 x5 x6 x7:=by kernel_rfl
noncomputable def p48_L3 (n:Nat):Nat→Int→(List Int)→Int→Int→Int→Int→Int→(List Int)→Option R48
 | 0,_,_,_,_,_,_,_,_=>none
 | m + 1,x0,x1,x2,x3,x4,x5,x6,x7=>st48_L3 n (p48_L3 n m) x0 x1 x2 x3 x4 x5 x6 x7
noncomputable def p48 (n:Nat) (a:List Int × Int):Option R48:=st48_top n (p48_L3 n n) a
theorem t48_L3 (n:Nat):∀ (m3:Nat) (x0:Int) (x1:List Int) (x2:Int) (x3:Int) (x4:Int) (x5:Int) (x6:Int) (x7:List Int),at48 n (.head 3) [m3] (sh48_L3 x0 x1 x2 x3 x4 x5 x6 x7)=p48_L3 n m3 x0 x1 x2 x3 x4 x5 x6 x7:=by
 intro m
 induction m with
 | zero=>intros; rw [e48_L3_0]; rfl
 | succ m ih =>
  intros
  rw [e48_L3]
  try simp only [ih]
  rfl
theorem F48_eq (n:Nat) (a:List Int × Int):runF TT G48 an48 Try.f48 c48 ps48 rs48 n (a,())=p48 n a:=by
 rw [e48_top]
 simp only [t48_L3]
 try rfl
noncomputable def q48 (n:Nat) (x:argsD ps48):Option R48:=p48 n x.1
noncomputable def Sm48:Sm:=⟨ps48,rs48,true,q48⟩
theorem holds48 (hg:GamOK Try.prog G48):Holds Try.prog 48 Sm48:=by
 have:=h0_48 hg
 have e:(runF TT G48 an48 Try.f48 c48 ps48 rs48)=q48:=by
  funext n x
  exact F48_eq n x.1
 rw [e] at this
 exact this
theorem gam48:GamOK Try.prog G48:=by
 intro f s h
 unfold G48 at h
 split at h
 ·injection h with h; subst h; exact ⟨⟨Try.f51,c51,Try.func51,by kernel_rfl,by decide +kernel⟩,hh51⟩
 ·cases h
theorem hh48:Holds Try.prog 48 Sm48:=holds48 gam48
end Go.Proofs.Ythhopbicmaipgaa.Rx.S

namespace Go.Proofs.Ythhopbicmaipgaa.Rx.S
open Go Go.RowKit Go.Proofs
set_option maxRecDepth 100000
noncomputable def c85:Code:=(Try.f85.body.getD .skip)
def an85:An:=⟨fun r=>match r with | 3=>⟨[0,5,6],[]⟩ | _=>⟨[],[]⟩,fun _ _=>none⟩
abbrev ps85:List PK:=[.bx tRd,.val i64 false]
abbrev rs85:List RK:=[.val .str false]
abbrev R85:=retsD rs85 × outsD ps85
noncomputable def G85:Gam:=fun f=>match f with | 51=>some Sm51 | _=>none
theorem h0_85 (hg:GamOK Try.prog G85):Holds Try.prog 85 ⟨ps85,rs85,true,runF TT G85 an85 Try.f85 c85 ps85 rs85⟩:=holds_of tt_ok hg mixed Try.func85 (by kernel_rfl) (by rfl) (by decide +kernel)
noncomputable def at85:Nat→Pt→List Nat→St→Option R85:=atF TT G85 an85 Try.f85 c85 _ _
def sh85_L3 (x0:Int) (x1:List Int) (x2:Int) (x3:List Int):St:=(St.mk ((AV.par 0 false ((SV.bptr 1000000 0) :: [])) :: (AV.undef :: (AV.undef :: (AV.undef :: (AV.undef :: ((AV.one (SV.ref 1000001 0 [] Option.none)) :: ((AV.one (SV.int (Go.IntKind.i64) x0)) :: (AV.undef :: (AV.undef :: (AV.undef :: (AV.undef :: (AV.undef :: (AV.undef :: (AV.undef :: (AV.undef :: (AV.undef :: (AV.undef :: (AV.undef :: (AV.undef :: (AV.undef :: (AV.undef :: (AV.undef :: (AV.undef :: (AV.undef :: [])))))))))))))))))))))))) ((1000000,(Ent.box ((SV.con (⟨5,Ty.int Go.IntKind.u8,x1⟩:Rw)) :: ((SV.int (Go.IntKind.i64) x2) :: [])))) :: ((1000001,(Ent.row (⟨5,Ty.int Go.IntKind.u8,x3⟩:Rw) 0 Option.none)) :: [])))
noncomputable def st85_top (n:Nat) (lL3:Int→(List Int)→Int→(List Int)→Option R85) (a:List Int × Int) (b:Int):Option R85 :=
 (q51 n ((a.1,a.2),Go.IntKind.i64.wrap (b + (1:Int)),())).bind fun r0=>lL3 (r0.1.1) (r0.2.1.1) (r0.2.1.2) ([])
noncomputable def st85_L3 (n:Nat) (lL3:Int→(List Int)→Int→(List Int)→Option R85) (x0:Int) (x1:List Int) (x2:Int) (x3:List Int):Option R85 :=
 cond (decide ((0:Int) < x0)) ((q51 n ((x1,x2),(12:Int),())).bind fun r2=>cond (decide ((0:Int)≤r2.1.1)) (cond (decide (r2.1.1 < (↑(ByteArray.mk #[(97:UInt8),(98:UInt8),(99:UInt8),(100:UInt8),(101:UInt8),(102:UInt8),(103:UInt8),(104:UInt8),(48:UInt8),(49:UInt8),(32:UInt8),(46:UInt8)]).size:Int))) (cond (decide ((x3.length + [(↑((ByteArray.mk #[(97:UInt8),(98:UInt8),(99:UInt8),(100:UInt8),(101:UInt8),(102:UInt8),(103:UInt8),(104:UInt8),(48:UInt8),(49:UInt8),(32:UInt8),(46:UInt8)]).data.toList.getD (Int.toNat r2.1.1) (0:UInt8)).toNat:Int)].length) * (1:Nat)≤(140737488355328:Nat))) (lL3 (Go.IntKind.i64.wrap (x0 - (1:Int))) (r2.2.1.1) (r2.2.1.2) (x3 ++ [(↑((ByteArray.mk #[(97:UInt8),(98:UInt8),(99:UInt8),(100:UInt8),(101:UInt8),(102:UInt8),(103:UInt8),(104:UInt8),(48:UInt8),(49:UInt8),(32:UInt8),(46:UInt8)]).data.toList.getD (Int.toNat r2.1.1) (0:UInt8)).toNat:Int)])) (none)) (none)) (none)) (some ((List.foldl (fun r n=>r.push (UInt8.ofNat n.toNat)) ByteArray.empty x3,()),((x1,x2),())))
theorem e85_top (n:Nat) (a:List Int × Int) (b:Int):runF TT G85 an85 Try.f85 c85 ps85 rs85 n (a,b,())=st85_top n (fun x0 x1 x2 x3=>at85 n (.head 3) [n] (sh85_L3 x0 x1 x2 x3)) a b:=by kernel_rfl
theorem e85_L3_0 (n:Nat) (x0:Int) (x1:List Int) (x2:Int) (x3:List Int):at85 n (.head 3) [0] (sh85_L3 x0 x1 x2 x3)=none:=by kernel_rfl
theorem e85_L3 (n:Nat) (m3:Nat) (x0:Int) (x1:List Int) (x2:Int) (x3:List Int):at85 n (.head 3) [m3 + 1] (sh85_L3 x0 x1 x2 x3)=st85_L3 n (fun x0 x1 x2 x3=>at85 n (.head 3) [m3] (sh85_L3 x0 x1 x2 x3)) x0 x1 x2 x3:=by kernel_rfl
noncomputable def p85_L3 (n:Nat):Nat→Int→(List Int)→Int→(List Int)→Option R85
 | 0,_,_,_,_=>none
 | m + 1,x0,x1,x2,x3=>st85_L3 n (p85_L3 n m) x0 x1 x2 x3
noncomputable def p85 (n:Nat) (a:List Int × Int) (b:Int):Option R85:=st85_top n (p85_L3 n n) a b
theorem t85_L3 (n:Nat):∀ (m3:Nat) (x0:Int) (x1:List Int) (x2:Int) (x3:List Int),at85 n (.head 3) [m3] (sh85_L3 x0 x1 x2 x3)=p85_L3 n m3 x0 x1 x2 x3:=by
 intro m
 induction m with
 | zero=>intros; rw [e85_L3_0]; rfl
 | succ m ih =>
  intros
  rw [e85_L3]
  try simp only [ih]
  rfl
theorem F85_eq (n:Nat) (a:List Int × Int) (b:Int):runF TT G85 an85 Try.f85 c85 ps85 rs85 n (a,b,())=p85 n a b:=by
 rw [e85_top]
 simp only [t85_L3]
 try rfl
noncomputable def q85 (n:Nat) (x:argsD ps85):Option R85:=p85 n x.1 x.2.1
noncomputable def Sm85:Sm:=⟨ps85,rs85,true,q85⟩
theorem holds85 (hg:GamOK Try.prog G85):Holds Try.prog 85 Sm85:=by
 have:=h0_85 hg
 have e:(runF TT G85 an85 Try.f85 c85 ps85 rs85)=q85:=by
  funext n x
  exact F85_eq n x.1 x.2.1
 rw [e] at this
 exact this
theorem gam85:GamOK Try.prog G85:=by
 intro f s h
 unfold G85 at h
 split at h
 ·injection h with h; subst h; exact ⟨⟨Try.f51,c51,Try.func51,by kernel_rfl,by decide +kernel⟩,hh51⟩
 ·cases h
theorem hh85:Holds Try.prog 85 Sm85:=holds85 gam85
end Go.Proofs.Ythhopbicmaipgaa.Rx.S

namespace Go.Proofs.Ythhopbicmaipgaa.Rx.S
open Go Go.RowKit Go.Proofs
set_option maxRecDepth 100000
noncomputable def c89:Code:=(Try.f89.body.getD .skip)
def an89:An:=⟨fun _=>⟨[],[]⟩,fun r i=>match r,i with | 10,0=>some ⟨[0,3,4,5,6,7],[]⟩ | _,_=>none⟩
abbrev ps89:List PK:=[.bx tRd,.own tFs true]
abbrev rs89:List RK:=[.own tFs true]
abbrev R89:=retsD rs89 × outsD ps89
noncomputable def G89:Gam:=fun f=>match f with | 48=>some Sm48 | 51=>some Sm51 | 64=>some Sm64 | 67=>some Sm67 | 68=>some Sm68 | 81=>some Sm81 | 83=>some Sm83 | 85=>some Sm85 | 113=>some Sm113 | 114=>some Sm114 | 115=>some Sm115 | _=>none
theorem ateq89 {β:Type} (t:Nat) (f:St→Option β) (S:St):at_ t f S=f S:=rfl
theorem h0_89 (hg:GamOK Try.prog G89):Holds Try.prog 89 ⟨ps89,rs89,true,runF TT G89 an89 Try.f89 c89 ps89 rs89⟩:=holds_of tt_ok hg mixed Try.func89 (by kernel_rfl) (by rfl) (by decide +kernel)
noncomputable def at89:Nat→Pt→List Nat→St→Option R89:=atF TT G89 an89 Try.f89 c89 _ _
def sh89_C10_0 (x0:Int) (x1:Int) (x2:List Int) (x3:Int) (x4:Int) (x5:Int) (x6:List NT) (x7:List Int):St:=(St.mk ((AV.par 0 false ((SV.bptr 1000000 0) :: [])) :: (AV.undef :: (AV.undef :: ((AV.one (SV.bptr 1000001 0)) :: ((AV.one (SV.bptr 1000002 0)) :: ((AV.one (SV.bptr 1000003 0)) :: ((AV.one (SV.int (Go.IntKind.i64) x0)) :: ((AV.one (SV.int (Go.IntKind.i64) x1)) :: (AV.undef :: (AV.undef :: (AV.undef :: (AV.undef :: (AV.undef :: (AV.undef :: (AV.undef :: (AV.undef :: (AV.undef :: (AV.undef :: (AV.undef :: (AV.undef :: (AV.undef :: (AV.undef :: (AV.undef :: (AV.undef :: (AV.undef :: (AV.undef :: (AV.undef :: (AV.undef :: (AV.undef :: (AV.undef :: (AV.undef :: (AV.undef :: (AV.undef :: (AV.undef :: (AV.undef :: (AV.undef :: (AV.undef :: (AV.undef :: (AV.undef :: (AV.undef :: (AV.undef :: (AV.undef :: (AV.undef :: (AV.undef :: (AV.undef :: (AV.undef :: (AV.undef :: (AV.undef :: (AV.undef :: (AV.undef :: (AV.undef :: (AV.undef :: (AV.undef :: (AV.undef :: (AV.undef :: (AV.undef :: (AV.undef :: (AV.undef :: (AV.undef :: (AV.undef :: (AV.undef :: (AV.undef :: (AV.undef :: (AV.undef :: (AV.undef :: (AV.undef :: (AV.undef :: (AV.undef :: (AV.undef :: (AV.undef :: (AV.undef :: (AV.undef :: (AV.undef :: (AV.undef :: (AV.undef :: (AV.undef :: (AV.undef :: (AV.undef :: (AV.undef :: (AV.undef :: (AV.undef :: (AV.undef :: (AV.undef :: (AV.undef :: (AV.undef :: (AV.undef :: (AV.undef :: (AV.undef :: (AV.undef :: (AV.undef :: (AV.undef :: (AV.undef :: (AV.undef :: (AV.undef :: (AV.undef :: (AV.undef :: (AV.undef :: (AV.undef :: (AV.undef :: (AV.undef :: (AV.undef :: (AV.undef :: (AV.undef :: (AV.undef :: (AV.undef :: (AV.undef :: (AV.undef :: (AV.undef :: (AV.undef :: (AV.undef :: (AV.undef :: (AV.undef :: (AV.undef :: (AV.undef :: (AV.undef :: (AV.undef :: (AV.undef :: (AV.undef :: (AV.undef :: (AV.undef :: (AV.undef :: (AV.undef :: (AV.undef :: (AV.undef :: (AV.undef :: (AV.undef :: (AV.undef :: (AV.undef :: (AV.undef :: (AV.undef :: (AV.undef :: (AV.undef :: (AV.undef :: (AV.undef :: (AV.undef :: (AV.undef :: [])))))))))))))))))))))))))))))))))))))))))))))))))))))))))))))))))))))))))))))))))))))))))))))))))))))))))))))))))))))))))))))))))))))))) ((1000000,(Ent.box ((SV.con (⟨5,Ty.int Go.IntKind.u8,x2⟩:Rw)) :: ((SV.int (Go.IntKind.i64) x3) :: [])))) :: ((1000001,(Ent.box ((SV.ref 1000004 0 [] Option.none) :: []))) :: ((1000002,(Ent.box (SV.nil :: []))) :: ((1000003,(Ent.box ((SV.int (Go.IntKind.i64) x4) :: ((SV.int (Go.IntKind.i64) x5) :: ((SV.ref 1000005 0 [] Option.none) :: []))))) :: ((1000004,(Ent.row (⟨39,(Ty.int Go.IntKind.i64).pair ((Ty.int Go.IntKind.i64).pair ((Ty.int Go.IntKind.i64).pair ((Ty.int Go.IntKind.i64).pair ((Ty.int Go.IntKind.i64).pair ((Ty.int Go.IntKind.i64).pair (Ty.bool.pair (Ty.str.pair (Ty.row (nat_lit 95) (Ty.str.pair (Ty.int Go.IntKind.i64)))))))))),x6⟩:Rw) 0 Option.none)) :: ((1000005,(Ent.row (⟨3,Ty.int Go.IntKind.i64,x7⟩:Rw) 0 Option.none)) :: [])))))))
noncomputable def st89_top (n:Nat) (lC10_0:Int→Int→(List Int)→Int→Int→Int→(List NT)→(List Int)→Option R89) (a:List Int × Int) (b:List NT):Option R89 :=
 (q48 n ((a.1,a.2),())).bind fun r0=>(q51 n ((r0.2.1.1,r0.2.1.2),(2:Int),())).bind fun r1=>cond (decide (r1.1.1=(0:Int))) ((q51 n ((r1.2.1.1,r1.2.1.2),(6:Int),())).bind fun r2=>(q51 n ((r2.2.1.1,r2.2.1.2),(6:Int),())).bind fun r3=>(q64 n (b,r2.1.1,())).bind fun r4=>cond (!r4.1.1) ((q64 n (b,r3.1.1,())).bind fun r5=>cond (!r5.1.1) (lC10_0 ((0:Int)) ((0:Int)) (r3.2.1.1) (r3.2.1.2) ((0:Int)) (r0.1.1.2.1) (b) (r0.1.1.2.2)) (lC10_0 ((0:Int)) (r3.1.1) (r3.2.1.1) (r3.2.1.2) ((0:Int)) (r0.1.1.2.1) (b) (r0.1.1.2.2))) ((q64 n (b,r3.1.1,())).bind fun r29=>cond (!r29.1.1) (lC10_0 (r2.1.1) ((0:Int)) (r3.2.1.1) (r3.2.1.2) ((0:Int)) (r0.1.1.2.1) (b) (r0.1.1.2.2)) (lC10_0 (r2.1.1) (r3.1.1) (r3.2.1.1) (r3.2.1.2) ((0:Int)) (r0.1.1.2.1) (b) (r0.1.1.2.2)))) ((q51 n ((r1.2.1.1,r1.2.1.2),(6:Int),())).bind fun r30=>(q51 n ((r30.2.1.1,r30.2.1.2),(6:Int),())).bind fun r31=>(q64 n (b,r30.1.1,())).bind fun r32=>cond (!r32.1.1) ((q64 n (b,r31.1.1,())).bind fun r33=>cond (!r33.1.1) (lC10_0 ((0:Int)) ((0:Int)) (r31.2.1.1) (r31.2.1.2) (r0.1.1.1) (r0.1.1.2.1) (b) (r0.1.1.2.2)) (lC10_0 ((0:Int)) (r31.1.1) (r31.2.1.1) (r31.2.1.2) (r0.1.1.1) (r0.1.1.2.1) (b) (r0.1.1.2.2))) ((q64 n (b,r31.1.1,())).bind fun r34=>cond (!r34.1.1) (lC10_0 (r30.1.1) ((0:Int)) (r31.2.1.1) (r31.2.1.2) (r0.1.1.1) (r0.1.1.2.1) (b) (r0.1.1.2.2)) (lC10_0 (r30.1.1) (r31.1.1) (r31.2.1.1) (r31.2.1.2) (r0.1.1.1) (r0.1.1.2.1) (b) (r0.1.1.2.2))))
noncomputable def st89_C10_0 (n:Nat) (x0:Int) (x1:Int) (x2:List Int) (x3:Int) (x4:Int) (x5:Int) (x6:List NT) (x7:List Int):Option R89 :=
 (q51 n ((x2,x3),(4:Int),())).bind fun r7=>cond (decide ((0:Int)≤r7.1.1)) (cond (decide (r7.1.1 < (↑[ByteArray.mk #[(97:UInt8)],ByteArray.mk #[(98:UInt8)],ByteArray.mk #[(99:UInt8)],ByteArray.mk #[(97:UInt8),(98:UInt8)]].length:Int))) ((q51 n ((r7.2.1.1,r7.2.1.2),(4:Int),())).bind fun r8=>cond (decide ((0:Int)≤r8.1.1)) (cond (decide (r8.1.1 < (↑[ByteArray.mk #[(97:UInt8)],ByteArray.mk #[(98:UInt8)],ByteArray.mk #[(99:UInt8)],ByteArray.mk #[(97:UInt8),(98:UInt8)]].length:Int))) ((q68 n (x6,())).bind fun r9=>(q51 n ((r8.2.1.1,r8.2.1.2),(10:Int),())).bind fun r10=>cond (decide (r10.1.1=(0:Int))) ((q51 n ((r10.2.1.1,r10.2.1.2),(2:Int),())).bind fun r11=>(q51 n ((r11.2.1.1,r11.2.1.2),(3:Int),())).bind fun r12=>cond (decide ((0:Int)≤r12.1.1)) (cond (decide (r12.1.1 < (↑[(493:Int),(511:Int),(448:Int)].length:Int))) ((q67 n (r9.1.1,(x4,x5,x7),x0,[ByteArray.mk #[(97:UInt8)],ByteArray.mk #[(98:UInt8)],ByteArray.mk #[(99:UInt8)],ByteArray.mk #[(97:UInt8),(98:UInt8)]].getD (Int.toNat r7.1.1) ByteArray.empty,Go.IntKind.i64.wrap ((1:Int) + r11.1.1),[(493:Int),(511:Int),(448:Int)].getD (Int.toNat r12.1.1) (0:Int),())).bind fun r13=>some ((r13.1.1,()),((r12.2.1.1,r12.2.1.2),()))) (none)) (none)) (cond (decide (r10.1.1=(1:Int))) ((q51 n ((r10.2.1.1,r10.2.1.2),(2:Int),())).bind fun r14=>(q51 n ((r14.2.1.1,r14.2.1.2),(3:Int),())).bind fun r15=>cond (decide ((0:Int)≤r15.1.1)) (cond (decide (r15.1.1 < (↑[(493:Int),(511:Int),(448:Int)].length:Int))) ((q67 n (r9.1.1,(x4,x5,x7),x0,[ByteArray.mk #[(97:UInt8)],ByteArray.mk #[(98:UInt8)],ByteArray.mk #[(99:UInt8)],ByteArray.mk #[(97:UInt8),(98:UInt8)]].getD (Int.toNat r7.1.1) ByteArray.empty,Go.IntKind.i64.wrap ((1:Int) + r14.1.1),[(493:Int),(511:Int),(448:Int)].getD (Int.toNat r15.1.1) (0:Int),())).bind fun r16=>some ((r16.1.1,()),((r15.2.1.1,r15.2.1.2),()))) (none)) (none)) (cond (decide (r10.1.1=(2:Int))) ((q51 n ((r10.2.1.1,r10.2.1.2),(2:Int),())).bind fun r17=>(q51 n ((r17.2.1.1,r17.2.1.2),(3:Int),())).bind fun r18=>cond (decide ((0:Int)≤r18.1.1)) (cond (decide (r18.1.1 < (↑[(493:Int),(511:Int),(448:Int)].length:Int))) ((q67 n (r9.1.1,(x4,x5,x7),x0,[ByteArray.mk #[(97:UInt8)],ByteArray.mk #[(98:UInt8)],ByteArray.mk #[(99:UInt8)],ByteArray.mk #[(97:UInt8),(98:UInt8)]].getD (Int.toNat r7.1.1) ByteArray.empty,Go.IntKind.i64.wrap ((1:Int) + r17.1.1),[(493:Int),(511:Int),(448:Int)].getD (Int.toNat r18.1.1) (0:Int),())).bind fun r19=>some ((r19.1.1,()),((r18.2.1.1,r18.2.1.2),()))) (none)) (none)) (cond (decide (r10.1.1=(3:Int))) ((q113 n (r9.1.1,(x4,x5,x7),x1,x0,[ByteArray.mk #[(97:UInt8)],ByteArray.mk #[(98:UInt8)],ByteArray.mk #[(99:UInt8)],ByteArray.mk #[(97:UInt8),(98:UInt8)]].getD (Int.toNat r7.1.1) ByteArray.empty,())).bind fun r20=>some ((r20.1.1,()),((r10.2.1.1,r10.2.1.2),()))) (cond (decide (r10.1.1=(4:Int))) ((q114 n (r9.1.1,(x4,x5,x7),x0,[ByteArray.mk #[(97:UInt8)],ByteArray.mk #[(98:UInt8)],ByteArray.mk #[(99:UInt8)],ByteArray.mk #[(97:UInt8),(98:UInt8)]].getD (Int.toNat r7.1.1) ByteArray.empty,())).bind fun r21=>some ((r21.1.1,()),((r10.2.1.1,r10.2.1.2),()))) (cond (decide (r10.1.1=(5:Int))) ((q115 n (r9.1.1,(x4,x5,x7),x0,[ByteArray.mk #[(97:UInt8)],ByteArray.mk #[(98:UInt8)],ByteArray.mk #[(99:UInt8)],ByteArray.mk #[(97:UInt8),(98:UInt8)]].getD (Int.toNat r7.1.1) ByteArray.empty,x1,[ByteArray.mk #[(97:UInt8)],ByteArray.mk #[(98:UInt8)],ByteArray.mk #[(99:UInt8)],ByteArray.mk #[(97:UInt8),(98:UInt8)]].getD (Int.toNat r8.1.1) ByteArray.empty,())).bind fun r22=>some ((r22.1.1,()),((r10.2.1.1,r10.2.1.2),()))) (cond (decide (r10.1.1=(6:Int))) ((q51 n ((r10.2.1.1,r10.2.1.2),(3:Int),())).bind fun r23=>(q83 n (r9.1.1,x0,decide ((0:Int) < r23.1.1),())).bind fun r24=>some ((r24.1.1,()),((r23.2.1.1,r23.2.1.2),()))) (cond (decide (r10.1.1=(7:Int))) (cond (decide ((0:Int)≤x0)) (cond (decide (x0 < (↑(List.length r9.1.1):Int))) (cond (decide ((List.getD r9.1.1 x0.toNat ZN).1=(1:Int))) ((q51 n ((r10.2.1.1,r10.2.1.2),(2:Int),())).bind fun r25=>cond (decide ((0:Int)≤x0)) (cond (decide (x0 < (↑(List.length r9.1.1):Int))) (some ((List.set r9.1.1 x0.toNat ((List.getD r9.1.1 x0.toNat ZN).1,(List.getD r9.1.1 x0.toNat ZN).2.1,(List.getD r9.1.1 x0.toNat ZN).2.2.1,(List.getD r9.1.1 x0.toNat ZN).2.2.2.1,(List.getD r9.1.1 x0.toNat ZN).2.2.2.2.1,(List.getD r9.1.1 x0.toNat ZN).2.2.2.2.2.1,decide (r25.1.1=(0:Int)),(List.getD r9.1.1 x0.toNat ZN).2.2.2.2.2.2.2),()),((r25.2.1.1,r25.2.1.2),()))) (none)) (none)) (some ((r9.1.1,()),((r10.2.1.1,r10.2.1.2),())))) (none)) (none)) ((q51 n ((r10.2.1.1,r10.2.1.2),(20:Int),())).bind fun r26=>(q85 n ((r26.2.1.1,r26.2.1.2),(9:Int),())).bind fun r27=>(q81 n (r9.1.1,x0,r26.1.1,r27.1.1,())).bind fun r28=>some ((r28.1.1,()),((r27.2.1.1,r27.2.1.2),()))))))))))) (none)) (none)) (none)) (none)
theorem e89_top (n:Nat) (a:List Int × Int) (b:List NT):runF TT G89 an89 Try.f89 c89 ps89 rs89 n (a,b,())=st89_top n (fun x0 x1 x2 x3 x4 x5 x6 x7=>at_ 10000 (at89 n (.op 10 0) []) (sh89_C10_0 x0 x1 x2 x3 x4 x5 x6 x7)) a b:=by kernel_rfl
theorem e89_C10_0 (n:Nat) (x0:Int) (x1:Int) (x2:List Int) (x3:Int) (x4:Int) (x5:Int) (x6:List NT) (x7:List Int):at89 n (.op 10 0) [] (sh89_C10_0 x0 x1 x2 x3 x4 x5 x6 x7)=st89_C10_0 n x0 x1 x2 x3 x4 x5 x6 x7:=by kernel_rfl
noncomputable def p89_C10_0 (n:Nat) (x0:Int) (x1:Int) (x2:List Int) (x3:Int) (x4:Int) (x5:Int) (x6:List NT) (x7:List Int):Option R89:=st89_C10_0 n x0 x1 x2 x3 x4 x5 x6 x7
noncomputable def p89 (n:Nat) (a:List Int × Int) (b:List NT):Option R89:=st89_top n (p89_C10_0 n) a b
theorem t89_C10_0 (n:Nat) (x0:Int) (x1:Int) (x2:List Int) (x3:Int) (x4:Int) (x5:Int) (x6:List NT) (x7:List Int):at89 n (.op 10 0) [] (sh89_C10_0 x0 x1 x2 x3 x4 x5 x6 x7)=p89_C10_0 n x0 x1 x2 x3 x4 x5 x6 x7:=by
 rw [e89_C10_0]
 skip
 try rfl
theorem F89_eq (n:Nat) (a:List Int × Int) (b:List NT):runF TT G89 an89 Try.f89 c89 ps89 rs89 n (a,b,())=p89 n a b:=by
 rw [e89_top]
 simp only [ateq89,t89_C10_0]
 try rfl
noncomputable def q89 (n:Nat) (x:argsD ps89):Option R89:=p89 n x.1 x.2.1
noncomputable def Sm89:Sm:=⟨ps89,rs89,true,q89⟩
theorem holds89 (hg:GamOK Try.prog G89):Holds Try.prog 89 Sm89:=by
 have:=h0_89 hg
 have e:(runF TT G89 an89 Try.f89 c89 ps89 rs89)=q89:=by
  funext n x
  exact F89_eq n x.1 x.2.1
 rw [e] at this
 exact this
theorem gam89:GamOK Try.prog G89:=by
 intro f s h
 unfold G89 at h
 split at h
 ·injection h with h; subst h; exact ⟨⟨Try.f48,c48,Try.func48,by kernel_rfl,by decide +kernel⟩,hh48⟩
 ·injection h with h; subst h; exact ⟨⟨Try.f51,c51,Try.func51,by kernel_rfl,by decide +kernel⟩,hh51⟩
 ·injection h with h; subst h; exact ⟨⟨Try.f64,c64,Try.func64,by kernel_rfl,by decide +kernel⟩,hh64⟩
 ·injection h with h; subst h; exact ⟨⟨Try.f67,c67,Try.func67,by kernel_rfl,by decide +kernel⟩,hh67⟩
 ·injection h with h; subst h; exact ⟨⟨Try.f68,c68,Try.func68,by kernel_rfl,by decide +kernel⟩,hh68⟩
 ·injection h with h; subst h; exact ⟨⟨Try.f81,c81,Try.func81,by kernel_rfl,by decide +kernel⟩,hh81⟩
 ·injection h with h; subst h; exact ⟨⟨Try.f83,c83,Try.func83,by kernel_rfl,by decide +kernel⟩,hh83⟩
 ·injection h with h; subst h; exact ⟨⟨Try.f85,c85,Try.func85,by kernel_rfl,by decide +kernel⟩,hh85⟩
 ·injection h with h; subst h; exact ⟨⟨Try.f113,c113,Try.func113,by kernel_rfl,by decide +kernel⟩,hh113⟩
 ·injection h with h; subst h; exact ⟨⟨Try.f114,c114,Try.func114,by kernel_rfl,by decide +kernel⟩,hh114⟩
 ·injection h with h; subst h; exact ⟨⟨Try.f115,c115,Try.func115,by kernel_rfl,by decide +kernel⟩,hh115⟩
 ·cases h
theorem hh89:Holds Try.prog 89 Sm89:=holds89 gam89
end Go.Proofs.Ythhopbicmaipgaa.Rx.S

namespace Go.Proofs.Ythhopbicmaipgaa.Rx.S
open Go Go.RowKit Go.Proofs
set_option maxRecDepth 100000
noncomputable def c47:Code:=(Try.f47.body.getD .skip)
def an47:An:=⟨fun r=>match r with | 3=>⟨[0,2,3,5],[]⟩ | _=>⟨[],[]⟩,fun _ _=>none⟩
abbrev ps47:List PK:=[.bx tRd]
abbrev rs47:List RK:=[.ro 39 (tIn 95) true]
abbrev R47:=retsD rs47 × outsD ps47
noncomputable def G47:Gam:=fun f=>match f with | 50=>some Sm50 | 51=>some Sm51 | 88=>some Sm88 | 89=>some Sm89 | _=>none
theorem h0_47 (hg:GamOK Try.prog G47):Holds Try.prog 47 ⟨ps47,rs47,true,runF TT G47 an47 Try.f47 c47 ps47 rs47⟩:=holds_of tt_ok hg mixed Try.func47 (by kernel_rfl) (by rfl) (by decide +kernel)
noncomputable def at47:Nat→Pt→List Nat→St→Option R47:=atF TT G47 an47 Try.f47 c47 _ _
def sh47_L3 (x0:Int) (x1:List Int) (x2:Int) (x3:List NT):St:=(St.mk ((AV.par 0 false ((SV.bptr 1000000 0) :: [])) :: (AV.undef :: ((AV.one (SV.bptr 1000001 0)) :: ((AV.one (SV.bptr 1000002 0)) :: (AV.undef :: ((AV.one (SV.int (Go.IntKind.i64) x0)) :: (AV.undef :: (AV.undef :: (AV.undef :: (AV.undef :: (AV.undef :: (AV.undef :: (AV.undef :: (AV.undef :: (AV.undef :: (AV.undef :: (AV.undef :: (AV.undef :: (AV.undef :: (AV.undef :: (AV.undef :: (AV.undef :: (AV.undef :: (AV.undef :: (AV.undef :: (AV.undef :: (AV.undef :: (AV.undef :: (AV.undef :: (AV.undef :: (AV.undef :: (AV.undef :: (AV.undef :: (AV.undef :: (AV.undef :: (AV.undef :: (AV.undef :: (AV.undef :: (AV.undef :: (AV.undef :: (AV.undef :: (AV.undef :: (AV.undef :: (AV.undef :: (AV.undef :: (AV.undef :: (AV.undef :: (AV.undef :: (AV.undef :: (AV.undef :: (AV.undef :: (AV.undef :: (AV.undef :: (AV.undef :: (AV.undef :: (AV.undef :: (AV.undef :: (AV.undef :: (AV.undef :: (AV.undef :: (AV.undef :: (AV.undef :: (AV.undef :: (AV.undef :: (AV.undef :: (AV.undef :: (AV.undef :: (AV.undef :: (AV.undef :: (AV.undef :: (AV.undef :: (AV.undef :: (AV.undef :: (AV.undef :: (AV.undef :: (AV.undef :: (AV.undef :: (AV.undef :: (AV.undef :: (AV.undef :: (AV.undef :: (AV.undef :: (AV.undef :: (AV.undef :: (AV.undef :: (AV.undef :: (AV.undef :: (AV.undef :: (AV.undef :: (AV.undef :: [])))))))))))))))))))))))))))))))))))))))))))))))))))))))))))))))))))))))))))))))))))))))))) ((1000000,(Ent.box ((SV.con (⟨5,Ty.int Go.IntKind.u8,x1⟩:Rw)) :: ((SV.int (Go.IntKind.i64) x2) :: [])))) :: ((1000001,(Ent.box (SV.nil :: []))) :: ((1000002,(Ent.box ((SV.ref 1000003 0 [] Option.none) :: []))) :: ((1000003,(Ent.row (⟨39,(Ty.int Go.IntKind.i64).pair ((Ty.int Go.IntKind.i64).pair ((Ty.int Go.IntKind.i64).pair ((Ty.int Go.IntKind.i64).pair ((Ty.int Go.IntKind.i64).pair ((Ty.int Go.IntKind.i64).pair (Ty.bool.pair (Ty.str.pair (Ty.row (nat_lit 95) (Ty.str.pair (Ty.int Go.IntKind.i64)))))))))),x3⟩:Rw) 0 Option.none)) :: [])))))
noncomputable def st47_top (n:Nat) (lL3:Int→(List Int)→Int→(List NT)→Option R47) (a:List Int × Int):Option R47 :=
 (q51 n ((a.1,a.2),(3:Int),())).bind fun r0=>(q51 n ((r0.2.1.1,r0.2.1.2),(3:Int),())).bind fun r1=>cond (decide ((0:Int)≤r1.1.1)) (cond (decide (r1.1.1 < (↑[(493:Int),(511:Int),(448:Int)].length:Int))) ((q88 n (r0.1.1,[(493:Int),(511:Int),(448:Int)].getD (Int.toNat r1.1.1) (0:Int),())).bind fun r2=>(q51 n ((r1.2.1.1,r1.2.1.2),(16:Int),())).bind fun r3=>lL3 (r3.1.1) (r3.2.1.1) (r3.2.1.2) (r2.1.1)) (none)) (none)
noncomputable def st47_L3 (n:Nat) (lL3:Int→(List Int)→Int→(List NT)→Option R47) (x0:Int) (x1:List Int) (x2:Int) (x3:List NT):Option R47 :=
 cond (decide ((0:Int) < x0)) ((q89 n ((x1,x2),x3,())).bind fun r5=>lL3 (Go.IntKind.i64.wrap (x0 - (1:Int))) (r5.2.1.1) (r5.2.1.2) (r5.1.1)) ((q51 n ((x1,x2),(24:Int),())).bind fun r6=>cond (decide (r6.1.1=(0:Int))) ((q51 n ((r6.2.1.1,r6.2.1.2),(5:Int),())).bind fun r7=>(q51 n ((r7.2.1.1,r7.2.1.2),(3:Int),())).bind fun r8=>cond (decide ((0:Int)≤r7.1.1)) (cond (decide (r7.1.1 < (↑x3.length:Int))) (some ((x3.set (Int.toNat r7.1.1) ((x3.getD (Int.toNat r7.1.1) ZN).1,(x3.getD (Int.toNat r7.1.1) ZN).2.1,(x3.getD (Int.toNat r7.1.1) ZN).2.2.1,(x3.getD (Int.toNat r7.1.1) ZN).2.2.2.1,r8.1.1,(x3.getD (Int.toNat r7.1.1) ZN).2.2.2.2.2),()),((r8.2.1.1,r8.2.1.2),()))) (none)) (none)) (cond (decide (r6.1.1=(1:Int))) ((q51 n ((r6.2.1.1,r6.2.1.2),(5:Int),())).bind fun r9=>(q51 n ((r9.2.1.1,r9.2.1.2),(5:Int),())).bind fun r10=>cond (decide ((0:Int)≤r10.1.1)) (cond (decide (r10.1.1 < (↑x3.length:Int))) ((q50 n ((r10.2.1.1,r10.2.1.2),())).bind fun r11=>(q51 n ((r11.2.1.1,r11.2.1.2),(11:Int),())).bind fun r12=>cond (decide ((List.length (x3.getD (Int.toNat r10.1.1) ZN).2.2.2.2.2.2.2.2 + [(r11.1.1,r12.1.1)].length) * (24:Nat)≤(140737488355328:Nat))) (cond (decide ((0:Int)≤r9.1.1)) (cond (decide (r9.1.1 < (↑x3.length:Int))) (some ((x3.set (Int.toNat r9.1.1) ((x3.getD (Int.toNat r9.1.1) ZN).1,(x3.getD (Int.toNat r9.1.1) ZN).2.1,(x3.getD (Int.toNat r9.1.1) ZN).2.2.1,(x3.getD (Int.toNat r9.1.1) ZN).2.2.2.1,(x3.getD (Int.toNat r9.1.1) ZN).2.2.2.2.1,(x3.getD (Int.toNat r9.1.1) ZN).2.2.2.2.2.1,(x3.getD (Int.toNat r9.1.1) ZN).2.2.2.2.2.2.1,(x3.getD (Int.toNat r9.1.1) ZN).2.2.2.2.2.2.2.1,(x3.getD (Int.toNat r10.1.1) ZN).2.2.2.2.2.2.2.2 ++ [(r11.1.1,r12.1.1)]),()),((r12.2.1.1,r12.2.1.2),()))) (none)) (none)) (none)) (none)) (none)) (cond (decide (r6.1.1=(2:Int))) ((q51 n ((r6.2.1.1,r6.2.1.2),(5:Int),())).bind fun r13=>(q51 n ((r13.2.1.1,r13.2.1.2),(4:Int),())).bind fun r14=>cond (decide ((0:Int)≤r13.1.1)) (cond (decide (r13.1.1 < (↑x3.length:Int))) (some ((x3.set (Int.toNat r13.1.1) (r14.1.1,(x3.getD (Int.toNat r13.1.1) ZN).2),()),((r14.2.1.1,r14.2.1.2),()))) (none)) (none)) (cond (decide (r6.1.1=(3:Int))) (cond (decide ((1:Int)≤(↑x3.length:Int))) (some ((List.take ((↑x3.length:Int) - (1:Int)).toNat (List.drop ((0:Nat) + Int.toNat (1:Int)) x3),()),((r6.2.1.1,r6.2.1.2),()))) (none)) (cond (decide (r6.1.1=(4:Int))) ((q51 n ((r6.2.1.1,r6.2.1.2),(5:Int),())).bind fun r15=>(q51 n ((r15.2.1.1,r15.2.1.2),(4:Int),())).bind fun r16=>cond (decide ((0:Int)≤r16.1.1)) (cond (decide (r16.1.1 < (↑[(99:Int),(100:Int),(-1:Int),(0:Int)].length:Int))) (cond (decide ((0:Int)≤r15.1.1)) (cond (decide (r15.1.1 < (↑x3.length:Int))) (some ((x3.set (Int.toNat r15.1.1) ((x3.getD (Int.toNat r15.1.1) ZN).1,(x3.getD (Int.toNat r15.1.1) ZN).2.1,(x3.getD (Int.toNat r15.1.1) ZN).2.2.1,(x3.getD (Int.toNat r15.1.1) ZN).2.2.2.1,(x3.getD (Int.toNat r15.1.1) ZN).2.2.2.2.1,[(99:Int),(100:Int),(-1:Int),(0:Int)].getD (Int.toNat r16.1.1) (0:Int),(x3.getD (Int.toNat r15.1.1) ZN).2.2.2.2.2.2),()),((r16.2.1.1,r16.2.1.2),()))) (none)) (none)) (none)) (none)) (some ((x3,()),((r6.2.1.1,r6.2.1.2),()))))))))
theorem e47_top (n:Nat) (a:List Int × Int):runF TT G47 an47 Try.f47 c47 ps47 rs47 n (a,())=st47_top n (fun x0 x1 x2 x3=>at47 n (.head 3) [n] (sh47_L3 x0 x1 x2 x3)) a:=by kernel_rfl
theorem e47_L3_0 (n:Nat) (x0:Int) (x1:List Int) (x2:Int) (x3:List NT):at47 n (.head 3) [0] (sh47_L3 x0 x1 x2 x3)=none:=by kernel_rfl
theorem e47_L3 (n:Nat) (m3:Nat) (x0:Int) (x1:List Int) (x2:Int) (x3:List NT):at47 n (.head 3) [m3 + 1] (sh47_L3 x0 x1 x2 x3)=st47_L3 n (fun x0 x1 x2 x3=>at47 n (.head 3) [m3] (sh47_L3 x0 x1 x2 x3)) x0 x1 x2 x3:=by kernel_rfl
noncomputable def p47_L3 (n:Nat):Nat→Int→(List Int)→Int→(List NT)→Option R47
 | 0,_,_,_,_=>none
 | m + 1,x0,x1,x2,x3=>st47_L3 n (p47_L3 n m) x0 x1 x2 x3
noncomputable def p47 (n:Nat) (a:List Int × Int):Option R47:=st47_top n (p47_L3 n n) a
theorem t47_L3 (n:Nat):∀ (m3:Nat) (x0:Int) (x1:List Int) (x2:Int) (x3:List NT),at47 n (.head 3) [m3] (sh47_L3 x0 x1 x2 x3)=p47_L3 n m3 x0 x1 x2 x3:=by
 intro m
 induction m with
 | zero=>intros; rw [e47_L3_0]; rfl
 | succ m ih =>
  intros
  rw [e47_L3]
  try simp only [ih]
  rfl
theorem F47_eq (n:Nat) (a:List Int × Int):runF TT G47 an47 Try.f47 c47 ps47 rs47 n (a,())=p47 n a:=by
 rw [e47_top]
 simp only [t47_L3]
 try rfl
noncomputable def q47 (n:Nat) (x:argsD ps47):Option R47:=p47 n x.1
noncomputable def Sm47:Sm:=⟨ps47,rs47,true,q47⟩
theorem holds47 (hg:GamOK Try.prog G47):Holds Try.prog 47 Sm47:=by
 have:=h0_47 hg
 have e:(runF TT G47 an47 Try.f47 c47 ps47 rs47)=q47:=by
  funext n x
  exact F47_eq n x.1
 rw [e] at this
 exact this
theorem gam47:GamOK Try.prog G47:=by
 intro f s h
 unfold G47 at h
 split at h
 ·injection h with h; subst h; exact ⟨⟨Try.f50,c50,Try.func50,by kernel_rfl,by decide +kernel⟩,hh50⟩
 ·injection h with h; subst h; exact ⟨⟨Try.f51,c51,Try.func51,by kernel_rfl,by decide +kernel⟩,hh51⟩
 ·injection h with h; subst h; exact ⟨⟨Try.f88,c88,Try.func88,by kernel_rfl,by decide +kernel⟩,hh88⟩
 ·injection h with h; subst h; exact ⟨⟨Try.f89,c89,Try.func89,by kernel_rfl,by decide +kernel⟩,hh89⟩
 ·cases h
theorem hh47:Holds Try.prog 47 Sm47:=holds47 gam47
end Go.Proofs.Ythhopbicmaipgaa.Rx.S

namespace Go.Proofs.Ythhopbicmaipgaa.Rx.S
open Go Go.RowKit Go.Proofs
set_option maxRecDepth 100000
noncomputable def c46:Code:=(Try.f46.body.getD .skip)
def an46:An:=⟨fun _=>⟨[],[]⟩,fun _ _=>none⟩
abbrev ps46:List PK:=[.val (.row 5 (.int .u8)) false]
abbrev rs46:List RK:=[.bx tRd]
abbrev R46:=retsD rs46 × outsD ps46
noncomputable def G46:Gam:=fun _=>none
theorem h0_46 (hg:GamOK Try.prog G46):Holds Try.prog 46 ⟨ps46,rs46,true,runF TT G46 an46 Try.f46 c46 ps46 rs46⟩:=holds_of tt_ok hg mixed Try.func46 (by kernel_rfl) (by rfl) (by decide +kernel)
noncomputable def st46_top (n:Nat) (a:List Int):Option R46 :=
 cond (decide ((2000:Int) < (↑a.length:Int))) (cond (decide ((2000:Int)≤(↑a.length:Int))) (some (((List.take (Int.toNat (2000:Int)) a,(0:Int)),()),())) (none)) (some (((a,(0:Int)),()),()))
theorem e46_top (n:Nat) (a:List Int):runF TT G46 an46 Try.f46 c46 ps46 rs46 n (a,())=st46_top n a:=by kernel_rfl
noncomputable def p46 (n:Nat) (a:List Int):Option R46:=st46_top n a
theorem F46_eq (n:Nat) (a:List Int):runF TT G46 an46 Try.f46 c46 ps46 rs46 n (a,())=p46 n a:=by
 rw [e46_top]
 skip
 try rfl
noncomputable def q46 (n:Nat) (x:argsD ps46):Option R46:=p46 n x.1
noncomputable def Sm46:Sm:=⟨ps46,rs46,true,q46⟩
theorem holds46 (hg:GamOK Try.prog G46):Holds Try.prog 46 Sm46:=by
 have:=h0_46 hg
 have e:(runF TT G46 an46 Try.f46 c46 ps46 rs46)=q46:=by
  funext n x
  exact F46_eq n x.1
 rw [e] at this
 exact this
theorem gam46:GamOK Try.prog G46:=fun _ _ h=>by cases h
theorem hh46:Holds Try.prog 46 Sm46:=holds46 gam46
end Go.Proofs.Ythhopbicmaipgaa.Rx.S

namespace Go.Proofs.Ythhopbicmaipgaa.Rx.S
open Go Go.RowKit Go.Proofs
set_option maxRecDepth 100000
noncomputable def c49:Code:=(Try.f49.body.getD .skip)
def an49:An:=⟨fun _=>⟨[],[]⟩,fun _ _=>none⟩
abbrev ps49:List PK:=[.bx tRd]
abbrev rs49:List RK:=[.val i64 false]
abbrev R49:=retsD rs49 × outsD ps49
noncomputable def G49:Gam:=fun f=>match f with | 51=>some Sm51 | _=>none
theorem h0_49 (hg:GamOK Try.prog G49):Holds Try.prog 49 ⟨ps49,rs49,true,runF TT G49 an49 Try.f49 c49 ps49 rs49⟩:=holds_of tt_ok hg mixed Try.func49 (by kernel_rfl) (by rfl) (by decide +kernel)
noncomputable def st49_top (n:Nat) (a:List Int × Int):Option R49 :=
 (q51 n ((a.1,a.2),(16:Int),())).bind fun r0=>cond (decide (r0.1.1=(0:Int))) ((q51 n ((r0.2.1.1,r0.2.1.2),(3:Int),())).bind fun r1=>cond (decide ((0:Int)≤r1.1.1)) (cond (decide (r1.1.1 < (↑[(-1:Int),(10:Int),(9:Int)].length:Int))) (some (([(-1:Int),(10:Int),(9:Int)].getD (Int.toNat r1.1.1) (0:Int),()),((r1.2.1.1,r1.2.1.2),()))) (none)) (none)) ((q51 n ((r0.2.1.1,r0.2.1.2),(5:Int),())).bind fun r2=>some ((r2.1.1,()),((r2.2.1.1,r2.2.1.2),())))
theorem e49_top (n:Nat) (a:List Int × Int):runF TT G49 an49 Try.f49 c49 ps49 rs49 n (a,())=st49_top n a:=by kernel_rfl
noncomputable def p49 (n:Nat) (a:List Int × Int):Option R49:=st49_top n a
theorem F49_eq (n:Nat) (a:List Int × Int):runF TT G49 an49 Try.f49 c49 ps49 rs49 n (a,())=p49 n a:=by
 rw [e49_top]
 skip
 try rfl
noncomputable def q49 (n:Nat) (x:argsD ps49):Option R49:=p49 n x.1
noncomputable def Sm49:Sm:=⟨ps49,rs49,true,q49⟩
theorem holds49 (hg:GamOK Try.prog G49):Holds Try.prog 49 Sm49:=by
 have:=h0_49 hg
 have e:(runF TT G49 an49 Try.f49 c49 ps49 rs49)=q49:=by
  funext n x
  exact F49_eq n x.1
 rw [e] at this
 exact this
theorem gam49:GamOK Try.prog G49:=by
 intro f s h
 unfold G49 at h
 split at h
 ·injection h with h; subst h; exact ⟨⟨Try.f51,c51,Try.func51,by kernel_rfl,by decide +kernel⟩,hh51⟩
 ·cases h
theorem hh49:Holds Try.prog 49 Sm49:=holds49 gam49
end Go.Proofs.Ythhopbicmaipgaa.Rx.S

namespace Go.Proofs.Ythhopbicmaipgaa.Rx.S
open Go Go.RowKit Go.Proofs
set_option maxRecDepth 100000
noncomputable def c69:Code:=(Try.f69.body.getD .skip)
def an69:An:=⟨fun r=>match r with | 4=>⟨[2,3,5],[]⟩ | _=>⟨[],[]⟩,fun _ _=>none⟩
abbrev ps69:List PK:=[.val (tIn 95) true,.val (tIn 95) true]
abbrev rs69:List RK:=[.val .bool false]
abbrev R69:=retsD rs69 × outsD ps69
noncomputable def G69:Gam:=fun _=>none
theorem h0_69 (hg:GamOK Try.prog G69):Holds Try.prog 69 ⟨ps69,rs69,false,runF TT G69 an69 Try.f69 c69 ps69 rs69⟩:=holds_of tt_ok hg mixed Try.func69 (by kernel_rfl) (by rfl) (by decide +kernel)
noncomputable def at69:Nat→Pt→List Nat→St→Option R69:=atF TT G69 an69 Try.f69 c69 _ _
def sh69_L4 (x0:Int) (x1:Int) (x2:Int) (x3:Int) (x4:Int) (x5:Int) (x6:Int) (x7:Bool) (x8:ByteArray) (x9:List (ByteArray × Int)) (x10:Int) (x11:Int) (x12:Int) (x13:Int) (x14:Int) (x15:Int) (x16:Bool) (x17:ByteArray) (x18:List (ByteArray × Int)):St:=(St.mk (AV.undef :: (AV.undef :: ((AV.one (SV.bptr 1000000 0)) :: ((AV.one (SV.bptr 1000001 0)) :: (AV.undef :: ((AV.one (SV.int (Go.IntKind.i64) x0)) :: (AV.undef :: (AV.undef :: (AV.undef :: (AV.undef :: (AV.undef :: (AV.undef :: (AV.undef :: (AV.undef :: (AV.undef :: (AV.undef :: (AV.undef :: (AV.undef :: (AV.undef :: (AV.undef :: (AV.undef :: (AV.undef :: (AV.undef :: (AV.undef :: (AV.undef :: (AV.undef :: (AV.undef :: (AV.undef :: (AV.undef :: (AV.undef :: (AV.undef :: (AV.undef :: (AV.undef :: (AV.undef :: (AV.undef :: (AV.undef :: (AV.undef :: (AV.undef :: (AV.undef :: (AV.undef :: (AV.undef :: (AV.undef :: (AV.undef :: (AV.undef :: (AV.undef :: (AV.undef :: (AV.undef :: (AV.undef :: (AV.undef :: (AV.undef :: (AV.undef :: (AV.undef :: (AV.undef :: (AV.undef :: (AV.undef :: (AV.undef :: (AV.undef :: (AV.undef :: (AV.undef :: (AV.undef :: (AV.undef :: (AV.undef :: (AV.undef :: (AV.undef :: (AV.undef :: (AV.undef :: (AV.undef :: (AV.undef :: (AV.undef :: (AV.undef :: (AV.undef :: (AV.undef :: (AV.undef :: (AV.undef :: (AV.undef :: (AV.undef :: (AV.undef :: (AV.undef :: (AV.undef :: (AV.undef :: (AV.undef :: (AV.undef :: (AV.undef :: (AV.undef :: (AV.undef :: (AV.undef :: (AV.undef :: []))))))))))))))))))))))))))))))))))))))))))))))))))))))))))))))))))))))))))))))))))))))) ((1000000,(Ent.box ((SV.int (Go.IntKind.i64) x1) :: ((SV.int (Go.IntKind.i64) x2) :: ((SV.int (Go.IntKind.i64) x3) :: ((SV.int (Go.IntKind.i64) x4) :: ((SV.int (Go.IntKind.i64) x5) :: ((SV.int (Go.IntKind.i64) x6) :: ((SV.bool x7) :: ((SV.str x8) :: ((SV.con (⟨95,Ty.str.pair (Ty.int Go.IntKind.i64),x9⟩:Rw)) :: []))))))))))) :: ((1000001,(Ent.box ((SV.int (Go.IntKind.i64) x10) :: ((SV.int (Go.IntKind.i64) x11) :: ((SV.int (Go.IntKind.i64) x12) :: ((SV.int (Go.IntKind.i64) x13) :: ((SV.int (Go.IntKind.i64) x14) :: ((SV.int (Go.IntKind.i64) x15) :: ((SV.bool x16) :: ((SV.str x17) :: ((SV.con (⟨95,Ty.str.pair (Ty.int Go.IntKind.i64),x18⟩:Rw)) :: []))))))))))) :: [])))
noncomputable def st69_top (n:Nat) (lL4:Int→Int→Int→Int→Int→Int→Int→Bool→ByteArray→(List (ByteArray × Int))→Int→Int→Int→Int→Int→Int→Bool→ByteArray→(List (ByteArray × Int))→Option R69) (a:NT) (b:NT):Option R69 :=
 cond (!decide (a.1=b.1)) (some ((false,()),())) (cond (!decide (a.2.1=b.2.1)) (some ((false,()),())) (cond (!decide (a.2.2.1=b.2.2.1)) (some ((false,()),())) (cond (!decide (a.2.2.2.1=b.2.2.2.1)) (some ((false,()),())) (cond (!decide (a.2.2.2.2.1=b.2.2.2.2.1)) (some ((false,()),())) (cond (!decide (a.2.2.2.2.2.1=b.2.2.2.2.2.1)) (some ((false,()),())) (cond (!a.2.2.2.2.2.2.1 == b.2.2.2.2.2.2.1) (some ((false,()),())) (cond (!ByteArray.toList a.2.2.2.2.2.2.2.1 == ByteArray.toList b.2.2.2.2.2.2.2.1) (some ((false,()),())) (cond (!decide ((↑(List.length a.2.2.2.2.2.2.2.2):Int)=(↑(List.length b.2.2.2.2.2.2.2.2):Int))) (some ((false,()),())) (lL4 ((0:Int)) (a.1) (a.2.1) (a.2.2.1) (a.2.2.2.1) (a.2.2.2.2.1) (a.2.2.2.2.2.1) (a.2.2.2.2.2.2.1) (a.2.2.2.2.2.2.2.1) (a.2.2.2.2.2.2.2.2) (b.1) (b.2.1) (b.2.2.1) (b.2.2.2.1) (b.2.2.2.2.1) (b.2.2.2.2.2.1) (b.2.2.2.2.2.2.1) (b.2.2.2.2.2.2.2.1) (b.2.2.2.2.2.2.2.2))))))))))
noncomputable def st69_L4 (n:Nat) (lL4:Int→Int→Int→Int→Int→Int→Int→Bool→ByteArray→(List (ByteArray × Int))→Int→Int→Int→Int→Int→Int→Bool→ByteArray→(List (ByteArray × Int))→Option R69) (x0:Int) (x1:Int) (x2:Int) (x3:Int) (x4:Int) (x5:Int) (x6:Int) (x7:Bool) (x8:ByteArray) (x9:List (ByteArray × Int)) (x10:Int) (x11:Int) (x12:Int) (x13:Int) (x14:Int) (x15:Int) (x16:Bool) (x17:ByteArray) (x18:List (ByteArray × Int)):Option R69 :=
 cond (decide (x0 < (↑x9.length:Int))) (cond (decide ((0:Int)≤x0)) (cond (decide (x0 < (↑x9.length:Int))) (cond (decide ((0:Int)≤x0)) (cond (decide (x0 < (↑x18.length:Int))) (cond (!(ByteArray.toList (x9.getD x0.toNat (ByteArray.empty,(0:Int))).1 == ByteArray.toList (x18.getD x0.toNat (ByteArray.empty,(0:Int))).1&&(decide ((x9.getD x0.toNat (ByteArray.empty,(0:Int))).2=(x18.getD x0.toNat (ByteArray.empty,(0:Int))).2)&&true))) (some ((false,()),())) (lL4 (Go.IntKind.i64.wrap (x0 + (1:Int))) (x1) (x2) (x3) (x4) (x5) (x6) (x7) (x8) (x9) (x10) (x11) (x12) (x13) (x14) (x15) (x16) (x17) (x18))) (none)) (none)) (none)) (none)) (some ((true,()),()))
theorem e69_top (n:Nat) (a:NT) (b:NT):runF TT G69 an69 Try.f69 c69 ps69 rs69 n (a,b,())=st69_top n (fun x0 x1 x2 x3 x4 x5 x6 x7 x8 x9 x10 x11 x12 x13 x14 x15 x16 x17 x18=>at69 n (.head 4) [n] (sh69_L4 x0 x1 x2 x3 x4 x5 x6 x7 x8 x9 x10 x11 x12 x13 x14 x15 x16 x17 x18)) a b:=by kernel_rfl
theorem e69_L4_0 (n:Nat) (x0:Int) (x1:Int) (x2:Int) (x3:Int) (x4:Int) (x5:Int) (x6:Int) (x7:Bool) (x8:ByteArray) (x9:List (ByteArray × Int)) (x10:Int) (x11:Int) (x12:Int) (x13:Int) (x14:Int) (x15:Int) (x16:Bool) (x17:ByteArray) (x18:List (ByteArray × Int)):at69 n (.head 4) [0] (sh69_L4 x0 x1 x2 x3 x4 x5 x6 x7 x8 x9 x10 x11 x12 x13 x14 x15 x16 x17 x18)=none:=by kernel_rfl
theorem e69_L4 (n:Nat) (m4:Nat) (x0:Int) (x1:Int) (x2:Int) (x3:Int) (x4:Int) (x5:Int) (x6:Int) (x7:Bool) (x8:ByteArray) (x9:List (ByteArray × Int)) (x10:Int) (x11:Int) (x12:Int) (x13:Int) (x14:Int) (x15:Int) (x16:Bool) (x17:ByteArray) (x18:List (ByteArray × Int)):at69 n (.head 4) [m4 + 1] (sh69_L4 x0 x1 x2 x3 x4 x5 x6 x7 x8 x9 x10 x11 x12 x13 x14 x15 x16 x17 x18)=st69_L4 n (fun x0 x1 x2 x3 x4 x5 x6 x7 x8 x9 x10 x11 x12 x13 x14 x15 x16 x17 x18=>at69 n (.head 4) [m4] (sh69_L4 x0 x1 x2 x3 x4 x5 x6 x7 x8 x9 x10 x11 x12 x13 x14 x15 x16 x17 x18)) x0 x1 x2 x3 x4 x5 x6 x7 x8 x9 x10 x11 x12 x13 x14 x15 x16 x17 x18:=by kernel_rfl
noncomputable def p69_L4 (n:Nat):Nat→Int→Int→Int→Int→Int→Int→Int→Bool→ByteArray→(List (ByteArray × Int))→Int→Int→Int→Int→Int→Int→Bool→ByteArray→(List (ByteArray × Int))→Option R69
 | 0,_,_,_,_,_,_,_,_,_,_,_,_,_,_,_,_,_,_,_=>none
 | m + 1,x0,x1,x2,x3,x4,x5,x6,x7,x8,x9,x10,x11,x12,x13,x14,x15,x16,x17,x18=>st69_L4 n (p69_L4 n m) x0 x1 x2 x3 x4 x5 x6 x7 x8 x9 x10 x11 x12 x13 x14 x15 x16 x17 x18
noncomputable def p69 (n:Nat) (a:NT) (b:NT):Option R69:=st69_top n (p69_L4 n n) a b
theorem t69_L4 (n:Nat):∀ (m4:Nat) (x0:Int) (x1:Int) (x2:Int) (x3:Int) (x4:Int) (x5:Int) (x6:Int) (x7:Bool) (x8:ByteArray) (x9:List (ByteArray × Int)) (x10:Int) (x11:Int) (x12:Int) (x13:Int) (x14:Int) (x15:Int) (x16:Bool) (x17:ByteArray) (x18:List (ByteArray × Int)),at69 n (.head 4) [m4] (sh69_L4 x0 x1 x2 x3 x4 x5 x6 x7 x8 x9 x10 x11 x12 x13 x14 x15 x16 x17 x18)=p69_L4 n m4 x0 x1 x2 x3 x4 x5 x6 x7 x8 x9 x10 x11 x12 x13 x14 x15 x16 x17 x18:=by
 intro m
 induction m with
 | zero=>intros; rw [e69_L4_0]; rfl
 | succ m ih =>
  intros
  rw [e69_L4]
  try simp only [ih]
  rfl
theorem F69_eq (n:Nat) (a:NT) (b:NT):runF TT G69 an69 Try.f69 c69 ps69 rs69 n (a,b,())=p69 n a b:=by
 rw [e69_top]
 simp only [t69_L4]
 try rfl
noncomputable def q69 (n:Nat) (x:argsD ps69):Option R69:=p69 n x.1 x.2.1
noncomputable def Sm69:Sm:=⟨ps69,rs69,false,q69⟩
theorem holds69 (hg:GamOK Try.prog G69):Holds Try.prog 69 Sm69:=by
 have:=h0_69 hg
 have e:(runF TT G69 an69 Try.f69 c69 ps69 rs69)=q69:=by
  funext n x
  exact F69_eq n x.1 x.2.1
 rw [e] at this
 exact this
theorem gam69:GamOK Try.prog G69:=fun _ _ h=>by cases h
theorem hh69:Holds Try.prog 69 Sm69:=holds69 gam69
end Go.Proofs.Ythhopbicmaipgaa.Rx.S

namespace Go.Proofs.Ythhopbicmaipgaa.Rx.S
open Go Go.RowKit Go.Proofs
set_option maxRecDepth 100000
noncomputable def c18:Code:=(Try.f18.body.getD .skip)
def an18:An:=⟨fun r=>match r with | 4=>⟨[2,3,5],[]⟩ | _=>⟨[],[]⟩,fun _ _=>none⟩
abbrev ps18:List PK:=[.val tFs true,.val tFs true]
abbrev rs18:List RK:=[.val .bool false]
abbrev R18:=retsD rs18 × outsD ps18
noncomputable def G18:Gam:=fun f=>match f with | 69=>some Sm69 | _=>none
theorem h0_18 (hg:GamOK Try.prog G18):Holds Try.prog 18 ⟨ps18,rs18,false,runF TT G18 an18 Try.f18 c18 ps18 rs18⟩:=holds_of tt_ok hg mixed Try.func18 (by kernel_rfl) (by rfl) (by decide +kernel)
noncomputable def at18:Nat→Pt→List Nat→St→Option R18:=atF TT G18 an18 Try.f18 c18 _ _
def sh18_L4 (x0:Int) (x1:List NT) (x2:List NT):St:=(St.mk (AV.undef :: (AV.undef :: ((AV.one (SV.bptr 1000000 0)) :: ((AV.one (SV.bptr 1000001 0)) :: (AV.undef :: ((AV.one (SV.int (Go.IntKind.i64) x0)) :: (AV.undef :: (AV.undef :: (AV.undef :: (AV.undef :: (AV.undef :: (AV.undef :: (AV.undef :: (AV.undef :: (AV.undef :: (AV.undef :: (AV.undef :: (AV.undef :: (AV.undef :: (AV.undef :: (AV.undef :: (AV.undef :: (AV.undef :: (AV.undef :: (AV.undef :: (AV.undef :: (AV.undef :: (AV.undef :: (AV.undef :: (AV.undef :: (AV.undef :: (AV.undef :: [])))))))))))))))))))))))))))))))) ((1000000,(Ent.box ((SV.con (⟨39,(Ty.int Go.IntKind.i64).pair ((Ty.int Go.IntKind.i64).pair ((Ty.int Go.IntKind.i64).pair ((Ty.int Go.IntKind.i64).pair ((Ty.int Go.IntKind.i64).pair ((Ty.int Go.IntKind.i64).pair (Ty.bool.pair (Ty.str.pair (Ty.row (nat_lit 95) (Ty.str.pair (Ty.int Go.IntKind.i64)))))))))),x1⟩:Rw)) :: []))) :: ((1000001,(Ent.box ((SV.con (⟨39,(Ty.int Go.IntKind.i64).pair ((Ty.int Go.IntKind.i64).pair ((Ty.int Go.IntKind.i64).pair ((Ty.int Go.IntKind.i64).pair ((Ty.int Go.IntKind.i64).pair ((Ty.int Go.IntKind.i64).pair (Ty.bool.pair (Ty.str.pair (Ty.row (nat_lit 95) (Ty.str.pair (Ty.int Go.IntKind.i64)))))))))),x2⟩:Rw)) :: []))) :: [])))
noncomputable def st18_top (n:Nat) (lL4:Int→(List NT)→(List NT)→Option R18) (a:List NT) (b:List NT):Option R18 :=
 cond (!decide ((↑a.length:Int)=(↑b.length:Int))) (some ((false,()),())) (lL4 ((0:Int)) (a) (b))
noncomputable def st18_L4 (n:Nat) (lL4:Int→(List NT)→(List NT)→Option R18) (x0:Int) (x1:List NT) (x2:List NT):Option R18 :=
 cond (decide (x0 < (↑x1.length:Int))) (cond (decide ((0:Int)≤x0)) (cond (decide (x0 < (↑x1.length:Int))) (cond (decide ((0:Int)≤x0)) (cond (decide (x0 < (↑x2.length:Int))) ((q69 n (((x1.getD x0.toNat ZN).1,(x1.getD x0.toNat ZN).2.1,(x1.getD x0.toNat ZN).2.2.1,(x1.getD x0.toNat ZN).2.2.2.1,(x1.getD x0.toNat ZN).2.2.2.2.1,(x1.getD x0.toNat ZN).2.2.2.2.2.1,(x1.getD x0.toNat ZN).2.2.2.2.2.2.1,(x1.getD x0.toNat ZN).2.2.2.2.2.2.2.1,(x1.getD x0.toNat ZN).2.2.2.2.2.2.2.2),((x2.getD x0.toNat ZN).1,(x2.getD x0.toNat ZN).2.1,(x2.getD x0.toNat ZN).2.2.1,(x2.getD x0.toNat ZN).2.2.2.1,(x2.getD x0.toNat ZN).2.2.2.2.1,(x2.getD x0.toNat ZN).2.2.2.2.2.1,(x2.getD x0.toNat ZN).2.2.2.2.2.2.1,(x2.getD x0.toNat ZN).2.2.2.2.2.2.2.1,(x2.getD x0.toNat ZN).2.2.2.2.2.2.2.2),())).bind fun r1=>cond (!r1.1.1) (some ((false,()),())) (lL4 (Go.IntKind.i64.wrap (x0 + (1:Int))) (x1) (x2))) (none)) (none)) (none)) (none)) (some ((true,()),()))
theorem e18_top (n:Nat) (a:List NT) (b:List NT):runF TT G18 an18 Try.f18 c18 ps18 rs18 n (a,b,())=st18_top n (fun x0 x1 x2=>at18 n (.head 4) [n] (sh18_L4 x0 x1 x2)) a b:=by kernel_rfl
theorem e18_L4_0 (n:Nat) (x0:Int) (x1:List NT) (x2:List NT):at18 n (.head 4) [0] (sh18_L4 x0 x1 x2)=none:=by kernel_rfl
theorem e18_L4 (n:Nat) (m4:Nat) (x0:Int) (x1:List NT) (x2:List NT):at18 n (.head 4) [m4 + 1] (sh18_L4 x0 x1 x2)=st18_L4 n (fun x0 x1 x2=>at18 n (.head 4) [m4] (sh18_L4 x0 x1 x2)) x0 x1 x2:=by kernel_rfl
noncomputable def p18_L4 (n:Nat):Nat→Int→(List NT)→(List NT)→Option R18
 | 0,_,_,_=>none
 | m + 1,x0,x1,x2=>st18_L4 n (p18_L4 n m) x0 x1 x2
noncomputable def p18 (n:Nat) (a:List NT) (b:List NT):Option R18:=st18_top n (p18_L4 n n) a b
theorem t18_L4 (n:Nat):∀ (m4:Nat) (x0:Int) (x1:List NT) (x2:List NT),at18 n (.head 4) [m4] (sh18_L4 x0 x1 x2)=p18_L4 n m4 x0 x1 x2:=by
 intro m
 induction m with
 | zero=>intros; rw [e18_L4_0]; rfl
 | succ m ih =>
  intros
  rw [e18_L4]
  try simp only [ih]
  rfl
theorem F18_eq (n:Nat) (a:List NT) (b:List NT):runF TT G18 an18 Try.f18 c18 ps18 rs18 n (a,b,())=p18 n a b:=by
 rw [e18_top]
 simp only [t18_L4]
 try rfl
noncomputable def q18 (n:Nat) (x:argsD ps18):Option R18:=p18 n x.1 x.2.1
noncomputable def Sm18:Sm:=⟨ps18,rs18,false,q18⟩
theorem holds18 (hg:GamOK Try.prog G18):Holds Try.prog 18 Sm18:=by
 have:=h0_18 hg
 have e:(runF TT G18 an18 Try.f18 c18 ps18 rs18)=q18:=by
  funext n x
  exact F18_eq n x.1 x.2.1
 rw [e] at this
 exact this
theorem gam18:GamOK Try.prog G18:=by
 intro f s h
 unfold G18 at h
 split at h
 ·injection h with h; subst h; exact ⟨⟨Try.f69,c69,Try.func69,by kernel_rfl,by decide +kernel⟩,hh69⟩
 ·cases h
theorem hh18:Holds Try.prog 18 Sm18:=holds18 gam18
end Go.Proofs.Ythhopbicmaipgaa.Rx.S

namespace Go.Proofs.Ythhopbicmaipgaa.Rx.S
open Go Go.RowKit Go.Proofs
set_option maxRecDepth 100000
abbrev ps35:List PK:=[.val (.row 5 (.int .u8)) false]
abbrev rs35:List RK:=[.ro 39 (tIn 95) true,.val i64 false,.val .bool false]
abbrev R35:=retsD rs35 × outsD ps35
noncomputable def st35_top (n:Nat) (a:List Int):Option R35 :=
 (q46 n (a,())).bind fun r0=>(q47 n ((r0.1.1.1,r0.1.1.2),())).bind fun r1=>(q49 n ((r1.2.1.1,r1.2.1.2),())).bind fun r2=>(q51 n ((r2.2.1.1,r2.2.1.2),(3:Int),())).bind fun r3=>some ((r1.1.1,(r2.1.1,(decide ((0:Int) < r3.1.1),()))),())
noncomputable def p35 (n:Nat) (a:List Int):Option R35:=st35_top n a
noncomputable def q35 (n:Nat) (x:argsD ps35):Option R35:=p35 n x.1
end Go.Proofs.Ythhopbicmaipgaa.Rx.S

namespace Go.Proofs.Ythhopbicmaipgaa.Rx.S
open Go Go.RowKit Go.Proofs
set_option maxRecDepth 100000
abbrev ps8:List PK:=[.val (.row 5 (.int .u8)) false]
abbrev rs8:List RK:=[.val .bool false]
abbrev R8:=retsD rs8 × outsD ps8
noncomputable def st8_top (n:Nat) (a:List Int):Option R8 :=
 cond (decide ((1048576:Int) < (↑a.length:Int))) (some ((true,()),())) ((q35 n (a,())).bind fun r0=>(q33 n (r0.1.1,r0.1.2.1,r0.1.2.2.1,())).bind fun r1=>(q32 n (r0.1.1,r0.1.2.1,r0.1.2.2.1,())).bind fun r2=>(q18 n (r1.1.1,r2.1.1,())).bind fun r3=>cond (r3.1.1) (cond (!decide (r1.1.2.1=r2.1.2.1)) (some ((decide (r1.1.2.1=r2.1.2.1),()),())) (cond (!!decide (r1.1.2.1=(1:Int))) (some ((decide (r1.1.2.1=r2.1.2.1),()),())) (cond (!decide (r1.1.2.1=(0:Int))) ((q18 n (r0.1.1,r1.1.1,())).bind fun r4=>some ((r4.1.1,()),())) (cond (!r0.1.2.2.1) ((q36 n (r1.1.1,())).bind fun r5=>some ((r5.1.1,()),())) ((q33 n (r1.1.1,r0.1.2.1,false,())).bind fun r6=>(q36 n (r1.1.1,())).bind fun r7=>cond (r7.1.1) (cond (decide (r6.1.2.1=(0:Int))) ((q18 n (r6.1.1,r0.1.1,())).bind fun r8=>some ((r8.1.1,()),())) (some ((false,()),()))) (some ((false,()),()))))))) (some ((false,()),())))
noncomputable def p8 (n:Nat) (a:List Int):Option R8:=st8_top n a
noncomputable def q8 (n:Nat) (x:argsD ps8):Option R8:=p8 n x.1
end Go.Proofs.Ythhopbicmaipgaa.Rx.S

namespace Go.Proofs.Ythhopbicmaipgaa.Rx.S
open Go Go.RowKit Go.Proofs
set_option maxRecDepth 100000
noncomputable def c34:Code:=(Try.f34.body.getD .skip)
def an34:An:=⟨fun _=>⟨[],[]⟩,fun _ _=>none⟩
abbrev ps34:List PK:=[.val (.row 5 (.int .u8)) false]
abbrev rs34:List RK:=[.ro 39 (tIn 95) true,.val i64 false,.val i64 false,.val .str false]
abbrev R34:=retsD rs34 × outsD ps34
noncomputable def G34:Gam:=fun f=>match f with | 46=>some Sm46 | 47=>some Sm47 | 49=>some Sm49 | 51=>some Sm51 | 85=>some Sm85 | _=>none
theorem h0_34 (hg:GamOK Try.prog G34):Holds Try.prog 34 ⟨ps34,rs34,true,runF TT G34 an34 Try.f34 c34 ps34 rs34⟩:=holds_of tt_ok hg mixed Try.func34 (by kernel_rfl) (by rfl) (by decide +kernel)
noncomputable def st34_top (n:Nat) (a:List Int):Option R34 :=
 (q46 n (a,())).bind fun r0=>(q47 n ((r0.1.1.1,r0.1.1.2),())).bind fun r1=>(q49 n ((r1.2.1.1,r1.2.1.2),())).bind fun r2=>(q51 n ((r2.2.1.1,r2.2.1.2),(8:Int),())).bind fun r3=>cond (decide ((0:Int)≤r3.1.1)) (cond (decide (r3.1.1 < (↑[(0:Int),(1:Int),(5:Int),(12:Int),(30:Int),(40:Int),(41:Int),(-1:Int)].length:Int))) ((q85 n ((r3.2.1.1,r3.2.1.2),(12:Int),())).bind fun r4=>some ((r1.1.1,(r2.1.1,([(0:Int),(1:Int),(5:Int),(12:Int),(30:Int),(40:Int),(41:Int),(-1:Int)].getD (Int.toNat r3.1.1) (0:Int),(r4.1.1,())))),())) (none)) (none)
theorem e34_top (n:Nat) (a:List Int):runF TT G34 an34 Try.f34 c34 ps34 rs34 n (a,())=st34_top n a:=by kernel_rfl
noncomputable def p34 (n:Nat) (a:List Int):Option R34:=st34_top n a
theorem F34_eq (n:Nat) (a:List Int):runF TT G34 an34 Try.f34 c34 ps34 rs34 n (a,())=p34 n a:=by
 rw [e34_top]
 skip
 try rfl
noncomputable def q34 (n:Nat) (x:argsD ps34):Option R34:=p34 n x.1
noncomputable def Sm34:Sm:=⟨ps34,rs34,true,q34⟩
theorem holds34 (hg:GamOK Try.prog G34):Holds Try.prog 34 Sm34:=by
 have:=h0_34 hg
 have e:(runF TT G34 an34 Try.f34 c34 ps34 rs34)=q34:=by
  funext n x
  exact F34_eq n x.1
 rw [e] at this
 exact this
theorem gam34:GamOK Try.prog G34:=by
 intro f s h
 unfold G34 at h
 split at h
 ·injection h with h; subst h; exact ⟨⟨Try.f46,c46,Try.func46,by kernel_rfl,by decide +kernel⟩,hh46⟩
 ·injection h with h; subst h; exact ⟨⟨Try.f47,c47,Try.func47,by kernel_rfl,by decide +kernel⟩,hh47⟩
 ·injection h with h; subst h; exact ⟨⟨Try.f49,c49,Try.func49,by kernel_rfl,by decide +kernel⟩,hh49⟩
 ·injection h with h; subst h; exact ⟨⟨Try.f51,c51,Try.func51,by kernel_rfl,by decide +kernel⟩,hh51⟩
 ·injection h with h; subst h; exact ⟨⟨Try.f85,c85,Try.func85,by kernel_rfl,by decide +kernel⟩,hh85⟩
 ·cases h
theorem hh34:Holds Try.prog 34 Sm34:=holds34 gam34
end Go.Proofs.Ythhopbicmaipgaa.Rx.S

namespace Go.Proofs.Ythhopbicmaipgaa.Rx.S
open Go Go.RowKit Go.Proofs
set_option maxRecDepth 100000
abbrev ps7:List PK:=[.val (.row 5 (.int .u8)) false,.val (.row 5 (.int .u8)) false]
abbrev rs7:List RK:=[.val .bool false]
abbrev R7:=retsD rs7 × outsD ps7
noncomputable def st7_top (n:Nat) (a:List Int) (b:List Int):Option R7 :=
 cond (decide ((1048576:Int) < (↑a.length:Int))) (some ((true,()),())) (cond (decide ((1048576:Int) < (↑b.length:Int))) (some ((true,()),())) ((q34 n (a,())).bind fun r0=>(q34 n (b,())).bind fun r1=>(q31 n (r0.1.1,r0.1.2.1,r0.1.2.2.1,r0.1.2.2.2.1,())).bind fun r2=>(q30 n (r0.1.1,r0.1.2.1,r0.1.2.2.1,r0.1.2.2.2.1,())).bind fun r3=>cond (decide (Go.IntKind.i64.wrap (r0.1.2.2.1 + (↑(ByteArray.size r0.1.2.2.2.1):Int))≤r1.1.2.2.1)) (cond (!decide (r2.1.2.1=r3.1.2.1)) (cond (decide (r2.1.2.1=r3.1.2.1)) ((q18 n (r2.1.1,r3.1.1,())).bind fun r4=>some ((r4.1.1,()),())) (some ((false,()),()))) ((q18 n (r2.1.1,r3.1.1,())).bind fun r5=>cond (!r5.1.1) (cond (decide (r2.1.2.1=r3.1.2.1)) ((q18 n (r2.1.1,r3.1.1,())).bind fun r6=>some ((r6.1.1,()),())) (some ((false,()),()))) (cond (!decide (r2.1.2.1=(0:Int))) (cond (decide (r2.1.2.1=r3.1.2.1)) ((q18 n (r2.1.1,r3.1.1,())).bind fun r7=>some ((r7.1.1,()),())) (some ((false,()),()))) ((q31 n (r2.1.1,r0.1.2.1,r1.1.2.2.1,r1.1.2.2.2.1,())).bind fun r8=>(q31 n (r0.1.1,r0.1.2.1,r1.1.2.2.1,r1.1.2.2.2.1,())).bind fun r9=>(q31 n (r9.1.1,r0.1.2.1,r0.1.2.2.1,r0.1.2.2.2.1,())).bind fun r10=>cond (!decide (r8.1.2.1=(0:Int))) (some ((true,()),())) (cond (!decide (r9.1.2.1=(0:Int))) (some ((true,()),())) (cond (!decide (r10.1.2.1=(0:Int))) (some ((true,()),())) ((q18 n (r8.1.1,r10.1.1,())).bind fun r11=>some ((r11.1.1,()),())))))))) (cond (!decide (r2.1.2.1=r3.1.2.1)) (cond (decide (r2.1.2.1=r3.1.2.1)) ((q18 n (r2.1.1,r3.1.1,())).bind fun r12=>some ((r12.1.1,()),())) (some ((false,()),()))) ((q18 n (r2.1.1,r3.1.1,())).bind fun r13=>cond (!r13.1.1) (cond (decide (r2.1.2.1=r3.1.2.1)) ((q18 n (r2.1.1,r3.1.1,())).bind fun r14=>some ((r14.1.1,()),())) (some ((false,()),()))) (cond (!decide (r2.1.2.1=(0:Int))) (cond (decide (r2.1.2.1=r3.1.2.1)) ((q18 n (r2.1.1,r3.1.1,())).bind fun r15=>some ((r15.1.1,()),())) (some ((false,()),()))) (cond (!decide (Go.IntKind.i64.wrap (r1.1.2.2.1 + (↑(ByteArray.size r1.1.2.2.2.1):Int))≤r0.1.2.2.1)) (cond (decide (r2.1.2.1=r3.1.2.1)) ((q18 n (r2.1.1,r3.1.1,())).bind fun r16=>some ((r16.1.1,()),())) (some ((false,()),()))) ((q31 n (r2.1.1,r0.1.2.1,r1.1.2.2.1,r1.1.2.2.2.1,())).bind fun r17=>(q31 n (r0.1.1,r0.1.2.1,r1.1.2.2.1,r1.1.2.2.2.1,())).bind fun r18=>(q31 n (r18.1.1,r0.1.2.1,r0.1.2.2.1,r0.1.2.2.2.1,())).bind fun r19=>cond (!decide (r17.1.2.1=(0:Int))) (some ((true,()),())) (cond (!decide (r18.1.2.1=(0:Int))) (some ((true,()),())) (cond (!decide (r19.1.2.1=(0:Int))) (some ((true,()),())) ((q18 n (r17.1.1,r19.1.1,())).bind fun r20=>some ((r20.1.1,()),())))))))))))
noncomputable def p7 (n:Nat) (a:List Int) (b:List Int):Option R7:=st7_top n a b
noncomputable def q7 (n:Nat) (x:argsD ps7):Option R7:=p7 n x.1 x.2.1
end Go.Proofs.Ythhopbicmaipgaa.Rx.S

namespace Go.Proofs.Ythhopbicmaipgaa.Rx.S
open Go Go.RowKit Go.Proofs
set_option maxRecDepth 100000
noncomputable def c37:Code:=(Try.f37.body.getD .skip)
def an37:An:=⟨fun _=>⟨[],[]⟩,fun _ _=>none⟩
abbrev ps37:List PK:=[.val tFs true,.val i64 false,.val i64 false,.val i64 false]
abbrev rs37:List RK:=[.val .str false,.val i64 false]
abbrev R37:=retsD rs37 × outsD ps37
noncomputable def G37:Gam:=fun f=>match f with | 36=>some Sm36 | 82=>some Sm82 | _=>none
theorem h0_37 (hg:GamOK Try.prog G37):Holds Try.prog 37 ⟨ps37,rs37,false,runF TT G37 an37 Try.f37 c37 ps37 rs37⟩:=holds_of tt_ok hg mixed Try.func37 (by kernel_rfl) (by rfl) (by decide +kernel)
noncomputable def st37_top (n:Nat) (a:List NT) (b:Int) (c:Int) (d:Int):Option R37 :=
 (q36 n (a,())).bind fun r0=>cond (!r0.1.1) (some ((ByteArray.mk #[],((1:Int),())),())) ((q82 n (a,b,())).bind fun r1=>cond (!r1.1.1) (some ((ByteArray.mk #[],((1:Int),())),())) (cond (decide (c < (0:Int))) (some ((ByteArray.mk #[],((1:Int),())),())) (cond (decide (d < (0:Int))) (some ((ByteArray.mk #[],((1:Int),())),())) (cond (decide ((0:Int)≤b)) (cond (decide (b < (↑a.length:Int))) (cond (!decide ((a.getD b.toNat ZN).1=(1:Int))) (some ((ByteArray.mk #[],((4:Int),())),())) (cond (decide ((0:Int)≤Go.IntKind.i64.wrap ((if (↑(ByteArray.size (a.getD b.toNat ZN).2.2.2.2.2.2.2.1):Int) < c then (↑(ByteArray.size (a.getD b.toNat ZN).2.2.2.2.2.2.2.1):Int) else c) + if Go.IntKind.i64.wrap ((↑(ByteArray.size (a.getD b.toNat ZN).2.2.2.2.2.2.2.1):Int) - if (↑(ByteArray.size (a.getD b.toNat ZN).2.2.2.2.2.2.2.1):Int) < c then (↑(ByteArray.size (a.getD b.toNat ZN).2.2.2.2.2.2.2.1):Int) else c) < d then Go.IntKind.i64.wrap ((↑(ByteArray.size (a.getD b.toNat ZN).2.2.2.2.2.2.2.1):Int) - if (↑(ByteArray.size (a.getD b.toNat ZN).2.2.2.2.2.2.2.1):Int) < c then (↑(ByteArray.size (a.getD b.toNat ZN).2.2.2.2.2.2.2.1):Int) else c) else d))) (cond (decide (Go.IntKind.i64.wrap ((if (↑(ByteArray.size (a.getD b.toNat ZN).2.2.2.2.2.2.2.1):Int) < c then (↑(ByteArray.size (a.getD b.toNat ZN).2.2.2.2.2.2.2.1):Int) else c) + if Go.IntKind.i64.wrap ((↑(ByteArray.size (a.getD b.toNat ZN).2.2.2.2.2.2.2.1):Int) - if (↑(ByteArray.size (a.getD b.toNat ZN).2.2.2.2.2.2.2.1):Int) < c then (↑(ByteArray.size (a.getD b.toNat ZN).2.2.2.2.2.2.2.1):Int) else c) < d then Go.IntKind.i64.wrap ((↑(ByteArray.size (a.getD b.toNat ZN).2.2.2.2.2.2.2.1):Int) - if (↑(ByteArray.size (a.getD b.toNat ZN).2.2.2.2.2.2.2.1):Int) < c then (↑(ByteArray.size (a.getD b.toNat ZN).2.2.2.2.2.2.2.1):Int) else c) else d)≤(↑(ByteArray.size (a.getD b.toNat ZN).2.2.2.2.2.2.2.1):Int))) (cond (decide ((0:Int)≤if (↑(ByteArray.size (a.getD b.toNat ZN).2.2.2.2.2.2.2.1):Int) < c then (↑(ByteArray.size (a.getD b.toNat ZN).2.2.2.2.2.2.2.1):Int) else c)) (cond (decide ((if (↑(ByteArray.size (a.getD b.toNat ZN).2.2.2.2.2.2.2.1):Int) < c then (↑(ByteArray.size (a.getD b.toNat ZN).2.2.2.2.2.2.2.1):Int) else c)≤Go.IntKind.i64.wrap ((if (↑(ByteArray.size (a.getD b.toNat ZN).2.2.2.2.2.2.2.1):Int) < c then (↑(ByteArray.size (a.getD b.toNat ZN).2.2.2.2.2.2.2.1):Int) else c) + if Go.IntKind.i64.wrap ((↑(ByteArray.size (a.getD b.toNat ZN).2.2.2.2.2.2.2.1):Int) - if (↑(ByteArray.size (a.getD b.toNat ZN).2.2.2.2.2.2.2.1):Int) < c then (↑(ByteArray.size (a.getD b.toNat ZN).2.2.2.2.2.2.2.1):Int) else c) < d then Go.IntKind.i64.wrap ((↑(ByteArray.size (a.getD b.toNat ZN).2.2.2.2.2.2.2.1):Int) - if (↑(ByteArray.size (a.getD b.toNat ZN).2.2.2.2.2.2.2.1):Int) < c then (↑(ByteArray.size (a.getD b.toNat ZN).2.2.2.2.2.2.2.1):Int) else c) else d))) (some ((ByteArray.extract (a.getD b.toNat ZN).2.2.2.2.2.2.2.1 (if (↑(ByteArray.size (a.getD b.toNat ZN).2.2.2.2.2.2.2.1):Int) < c then (↑(ByteArray.size (a.getD b.toNat ZN).2.2.2.2.2.2.2.1):Int) else c).toNat (Go.IntKind.i64.wrap ((if (↑(ByteArray.size (a.getD b.toNat ZN).2.2.2.2.2.2.2.1):Int) < c then (↑(ByteArray.size (a.getD b.toNat ZN).2.2.2.2.2.2.2.1):Int) else c) + if Go.IntKind.i64.wrap ((↑(ByteArray.size (a.getD b.toNat ZN).2.2.2.2.2.2.2.1):Int) - if (↑(ByteArray.size (a.getD b.toNat ZN).2.2.2.2.2.2.2.1):Int) < c then (↑(ByteArray.size (a.getD b.toNat ZN).2.2.2.2.2.2.2.1):Int) else c) < d then Go.IntKind.i64.wrap ((↑(ByteArray.size (a.getD b.toNat ZN).2.2.2.2.2.2.2.1):Int) - if (↑(ByteArray.size (a.getD b.toNat ZN).2.2.2.2.2.2.2.1):Int) < c then (↑(ByteArray.size (a.getD b.toNat ZN).2.2.2.2.2.2.2.1):Int) else c) else d)).toNat,((0:Int),())),())) (none)) (none)) (none)) (none))) (none)) (none)))))
theorem e37_top (n:Nat) (a:List NT) (b:Int) (c:Int) (d:Int):runF TT G37 an37 Try.f37 c37 ps37 rs37 n (a,b,c,d,())=st37_top n a b c d:=by kernel_rfl
noncomputable def p37 (n:Nat) (a:List NT) (b:Int) (c:Int) (d:Int):Option R37:=st37_top n a b c d
theorem F37_eq (n:Nat) (a:List NT) (b:Int) (c:Int) (d:Int):runF TT G37 an37 Try.f37 c37 ps37 rs37 n (a,b,c,d,())=p37 n a b c d:=by
 rw [e37_top]
 skip
 try rfl
noncomputable def q37 (n:Nat) (x:argsD ps37):Option R37:=p37 n x.1 x.2.1 x.2.2.1 x.2.2.2.1
noncomputable def Sm37:Sm:=⟨ps37,rs37,false,q37⟩
theorem holds37 (hg:GamOK Try.prog G37):Holds Try.prog 37 Sm37:=by
 have:=h0_37 hg
 have e:(runF TT G37 an37 Try.f37 c37 ps37 rs37)=q37:=by
  funext n x
  exact F37_eq n x.1 x.2.1 x.2.2.1 x.2.2.2.1
 rw [e] at this
 exact this
theorem gam37:GamOK Try.prog G37:=by
 intro f s h
 unfold G37 at h
 split at h
 ·injection h with h; subst h; exact ⟨⟨Try.f36,c36,Try.func36,by kernel_rfl,by decide +kernel⟩,hh36⟩
 ·injection h with h; subst h; exact ⟨⟨Try.f82,c82,Try.func82,by kernel_rfl,by decide +kernel⟩,hh82⟩
 ·cases h
theorem hh37:Holds Try.prog 37 Sm37:=holds37 gam37
end Go.Proofs.Ythhopbicmaipgaa.Rx.S

namespace Go.Proofs.Ythhopbicmaipgaa.Rx.S
open Go Go.RowKit Go.Proofs
set_option maxRecDepth 100000
noncomputable def c9:Code:=(Try.f9.body.getD .skip)
def an9:An:=⟨fun r=>match r with | 14=>⟨[5,6,7,12,13,16],[]⟩ | 17=>⟨[5,6,7,12,13,16,17],[]⟩ | _=>⟨[],[]⟩,fun _ _=>none⟩
abbrev ps9:List PK:=[.val (.row 5 (.int .u8)) false]
abbrev rs9:List RK:=[.val .bool false]
abbrev R9:=retsD rs9 × outsD ps9
noncomputable def G9:Gam:=fun f=>match f with | 18=>some Sm18 | 30=>some Sm30 | 31=>some Sm31 | 34=>some Sm34 | 36=>some Sm36 | 37=>some Sm37 | _=>none
theorem h0_9 (hg:GamOK Try.prog G9):Holds Try.prog 9 ⟨ps9,rs9,false,runF TT G9 an9 Try.f9 c9 ps9 rs9⟩:=holds_of tt_ok hg mixed Try.func9 (by kernel_rfl) (by rfl) (by decide +kernel)
noncomputable def at9:Nat→Pt→List Nat→St→Option R9:=atF TT G9 an9 Try.f9 c9 _ _
def sh9_L17 (x0:Int) (x1:ByteArray) (x2:ByteArray) (x3:Int) (x4:Int) (x5:List Int) (x6:List NT):St:=(St.mk (AV.undef :: (AV.undef :: (AV.undef :: (AV.undef :: (AV.undef :: ((AV.one (SV.int (Go.IntKind.i64) x0)) :: ((AV.one (SV.str x1)) :: ((AV.one (SV.bptr 1000000 0)) :: (AV.undef :: (AV.undef :: (AV.undef :: (AV.undef :: ((AV.one (SV.str x2)) :: ((AV.one (SV.int (Go.IntKind.i64) x3)) :: (AV.undef :: (AV.undef :: ((AV.one (SV.ref 1000001 0 [] Option.none)) :: ((AV.one (SV.int (Go.IntKind.i64) x4)) :: (AV.undef :: (AV.undef :: (AV.undef :: (AV.undef :: (AV.undef :: (AV.undef :: (AV.undef :: (AV.undef :: (AV.undef :: (AV.undef :: (AV.undef :: (AV.undef :: (AV.undef :: (AV.undef :: (AV.undef :: (AV.undef :: (AV.undef :: (AV.undef :: (AV.undef :: (AV.undef :: (AV.undef :: (AV.undef :: (AV.undef :: (AV.undef :: (AV.undef :: (AV.undef :: (AV.undef :: (AV.undef :: (AV.undef :: (AV.undef :: (AV.undef :: (AV.undef :: (AV.undef :: (AV.undef :: (AV.undef :: (AV.undef :: (AV.undef :: (AV.undef :: (AV.undef :: (AV.undef :: (AV.undef :: (AV.undef :: (AV.undef :: (AV.undef :: (AV.undef :: (AV.undef :: (AV.undef :: (AV.undef :: (AV.undef :: (AV.undef :: (AV.undef :: (AV.undef :: (AV.undef :: (AV.undef :: (AV.undef :: (AV.undef :: (AV.undef :: (AV.undef :: (AV.undef :: (AV.undef :: (AV.undef :: (AV.undef :: (AV.undef :: (AV.undef :: (AV.undef :: (AV.undef :: (AV.undef :: (AV.undef :: (AV.undef :: (AV.undef :: (AV.undef :: (AV.undef :: (AV.undef :: (AV.undef :: (AV.undef :: (AV.undef :: (AV.undef :: (AV.undef :: (AV.undef :: (AV.undef :: (AV.undef :: (AV.undef :: (AV.undef :: (AV.undef :: (AV.undef :: (AV.undef :: (AV.undef :: (AV.undef :: (AV.undef :: (AV.undef :: (AV.undef :: (AV.undef :: (AV.undef :: (AV.undef :: (AV.undef :: (AV.undef :: (AV.undef :: (AV.undef :: (AV.undef :: (AV.undef :: (AV.undef :: (AV.undef :: [])))))))))))))))))))))))))))))))))))))))))))))))))))))))))))))))))))))))))))))))))))))))))))))))))))))))))))))))))))))))) ((1000000,(Ent.box ((SV.ref 1000002 0 [] Option.none) :: []))) :: ((1000001,(Ent.row (⟨5,Ty.int Go.IntKind.u8,x5⟩:Rw) 0 Option.none)) :: ((1000002,(Ent.row (⟨39,(Ty.int Go.IntKind.i64).pair ((Ty.int Go.IntKind.i64).pair ((Ty.int Go.IntKind.i64).pair ((Ty.int Go.IntKind.i64).pair ((Ty.int Go.IntKind.i64).pair ((Ty.int Go.IntKind.i64).pair (Ty.bool.pair (Ty.str.pair (Ty.row (nat_lit 95) (Ty.str.pair (Ty.int Go.IntKind.i64)))))))))),x6⟩:Rw) 0 Option.none)) :: []))))
def sh9_L14 (x0:Int) (x1:ByteArray) (x2:ByteArray) (x3:Int) (x4:List Int) (x5:List NT):St:=(St.mk (AV.undef :: (AV.undef :: (AV.undef :: (AV.undef :: (AV.undef :: ((AV.one (SV.int (Go.IntKind.i64) x0)) :: ((AV.one (SV.str x1)) :: ((AV.one (SV.bptr 1000000 0)) :: (AV.undef :: (AV.undef :: (AV.undef :: (AV.undef :: ((AV.one (SV.str x2)) :: ((AV.one (SV.int (Go.IntKind.i64) x3)) :: (AV.undef :: (AV.undef :: ((AV.one (SV.ref 1000001 0 [] Option.none)) :: (AV.undef :: (AV.undef :: (AV.undef :: (AV.undef :: (AV.undef :: (AV.undef :: (AV.undef :: (AV.undef :: (AV.undef :: (AV.undef :: (AV.undef :: (AV.undef :: (AV.undef :: (AV.undef :: (AV.undef :: (AV.undef :: (AV.undef :: (AV.undef :: (AV.undef :: (AV.undef :: (AV.undef :: (AV.undef :: (AV.undef :: (AV.undef :: (AV.undef :: (AV.undef :: (AV.undef :: (AV.undef :: (AV.undef :: (AV.undef :: (AV.undef :: (AV.undef :: (AV.undef :: (AV.undef :: (AV.undef :: (AV.undef :: (AV.undef :: (AV.undef :: (AV.undef :: (AV.undef :: (AV.undef :: (AV.undef :: (AV.undef :: (AV.undef :: (AV.undef :: (AV.undef :: (AV.undef :: (AV.undef :: (AV.undef :: (AV.undef :: (AV.undef :: (AV.undef :: (AV.undef :: (AV.undef :: (AV.undef :: (AV.undef :: (AV.undef :: (AV.undef :: (AV.undef :: (AV.undef :: (AV.undef :: (AV.undef :: (AV.undef :: (AV.undef :: (AV.undef :: (AV.undef :: (AV.undef :: (AV.undef :: (AV.undef :: (AV.undef :: (AV.undef :: (AV.undef :: (AV.undef :: (AV.undef :: (AV.undef :: (AV.undef :: (AV.undef :: (AV.undef :: (AV.undef :: (AV.undef :: (AV.undef :: (AV.undef :: (AV.undef :: (AV.undef :: (AV.undef :: (AV.undef :: (AV.undef :: (AV.undef :: (AV.undef :: (AV.undef :: (AV.undef :: (AV.undef :: (AV.undef :: (AV.undef :: (AV.undef :: (AV.undef :: (AV.undef :: (AV.undef :: (AV.undef :: (AV.undef :: (AV.undef :: (AV.undef :: (AV.undef :: [])))))))))))))))))))))))))))))))))))))))))))))))))))))))))))))))))))))))))))))))))))))))))))))))))))))))))))))))))))))))) ((1000000,(Ent.box ((SV.ref 1000002 0 [] Option.none) :: []))) :: ((1000001,(Ent.row (⟨5,Ty.int Go.IntKind.u8,x4⟩:Rw) 0 Option.none)) :: ((1000002,(Ent.row (⟨39,(Ty.int Go.IntKind.i64).pair ((Ty.int Go.IntKind.i64).pair ((Ty.int Go.IntKind.i64).pair ((Ty.int Go.IntKind.i64).pair ((Ty.int Go.IntKind.i64).pair ((Ty.int Go.IntKind.i64).pair (Ty.bool.pair (Ty.str.pair (Ty.row (nat_lit 95) (Ty.str.pair (Ty.int Go.IntKind.i64)))))))))),x5⟩:Rw) 0 Option.none)) :: []))))
noncomputable def st9_top (n:Nat) (lL14:Int→ByteArray→ByteArray→Int→(List Int)→(List NT)→Option R9) (a:List Int):Option R9 :=
 cond (decide ((1048576:Int) < (↑a.length:Int))) (some ((true,()),())) ((q34 n (a,())).bind fun r0=>(q31 n (r0.1.1,r0.1.2.1,r0.1.2.2.1,r0.1.2.2.2.1,())).bind fun r1=>(q30 n (r0.1.1,r0.1.2.1,r0.1.2.2.1,r0.1.2.2.2.1,())).bind fun r2=>(q18 n (r1.1.1,r2.1.1,())).bind fun r3=>cond (r3.1.1) (cond (!decide (r1.1.2.1=r2.1.2.1)) (some ((decide (r1.1.2.1=r2.1.2.1),()),())) (cond (!!decide (r1.1.2.1=(1:Int))) (some ((decide (r1.1.2.1=r2.1.2.1),()),())) (cond (!decide (r1.1.2.1=(0:Int))) ((q18 n (r0.1.1,r1.1.1,())).bind fun r4=>some ((r4.1.1,()),())) ((q37 n (r1.1.1,r0.1.2.1,(0:Int),(40:Int),())).bind fun r5=>(q37 n (r0.1.1,r0.1.2.1,(0:Int),(40:Int),())).bind fun r6=>cond (decide (ByteArray.size r6.1.1≤(140737488355328:Nat))) (lL14 (r0.1.2.2.1) (r0.1.2.2.2.1) (r5.1.1) (r5.1.2.1) (List.map (fun b=>(↑b.toNat:Int)) r6.1.1.data.toList) (r1.1.1)) (none))))) (some ((false,()),())))
noncomputable def st9_L17 (n:Nat) (lL17:Int→ByteArray→ByteArray→Int→Int→(List Int)→(List NT)→Option R9) (x0:Int) (x1:ByteArray) (x2:ByteArray) (x3:Int) (x4:Int) (x5:List Int) (x6:List NT):Option R9 :=
 cond (decide (x4 < (↑x1.size:Int))) (cond (decide ((0:Int)≤x4)) (cond (decide (x4 < (↑x1.size:Int))) (cond (decide ((0:Int)≤Go.IntKind.i64.wrap (x0 + x4))) (cond (decide (Go.IntKind.i64.wrap (x0 + x4) < (↑x5.length:Int))) (lL17 (x0) (x1) (x2) (x3) (Go.IntKind.i64.wrap (x4 + (1:Int))) (x5.set (Go.IntKind.i64.wrap (x0 + x4)).toNat (↑(x1.data.toList.getD x4.toNat (0:UInt8)).toNat:Int)) (x6)) (none)) (none)) (none)) (none)) ((q36 n (x6,())).bind fun r9=>cond (r9.1.1) (cond (decide (x3=(0:Int))) (some ((x2.toList == (List.foldl (fun r n=>r.push (UInt8.ofNat n.toNat)) ByteArray.empty x5).toList,()),())) (some ((false,()),()))) (some ((false,()),())))
noncomputable def st9_L14 (n:Nat) (lL14:Int→ByteArray→ByteArray→Int→(List Int)→(List NT)→Option R9) (lL17:Int→ByteArray→ByteArray→Int→Int→(List Int)→(List NT)→Option R9) (x0:Int) (x1:ByteArray) (x2:ByteArray) (x3:Int) (x4:List Int) (x5:List NT):Option R9 :=
 cond (decide ((0:Int) < (↑x1.size:Int))) (cond (decide ((↑x4.length:Int) < Go.IntKind.i64.wrap (x0 + (↑x1.size:Int)))) (cond (decide ((x4.length + [(0:Int)].length) * (1:Nat)≤(140737488355328:Nat))) (lL14 (x0) (x1) (x2) (x3) (x4 ++ [(0:Int)]) (x5)) (none)) (lL17 (x0) (x1) (x2) (x3) ((0:Int)) (x4) (x5))) (lL17 (x0) (x1) (x2) (x3) ((0:Int)) (x4) (x5))
theorem e9_top (n:Nat) (a:List Int):runF TT G9 an9 Try.f9 c9 ps9 rs9 n (a,())=st9_top n (fun x0 x1 x2 x3 x4 x5=>at9 n (.head 14) [n] (sh9_L14 x0 x1 x2 x3 x4 x5)) a:=by kernel_rfl
theorem e9_L17_0 (n:Nat) (x0:Int) (x1:ByteArray) (x2:ByteArray) (x3:Int) (x4:Int) (x5:List Int) (x6:List NT):at9 n (.head 17) [0] (sh9_L17 x0 x1 x2 x3 x4 x5 x6)=none:=by kernel_rfl
theorem e9_L17 (n:Nat) (m17:Nat) (x0:Int) (x1:ByteArray) (x2:ByteArray) (x3:Int) (x4:Int) (x5:List Int) (x6:List NT):at9 n (.head 17) [m17 + 1] (sh9_L17 x0 x1 x2 x3 x4 x5 x6)=st9_L17 n (fun x0 x1 x2 x3 x4 x5 x6=>at9 n (.head 17) [m17] (sh9_L17 x0 x1 x2 x3 x4 x5 x6)) x0 x1 x2 x3 x4 x5 x6:=by kernel_rfl
theorem e9_L14_0 (n:Nat) (x0:Int) (x1:ByteArray) (x2:ByteArray) (x3:Int) (x4:List Int) (x5:List NT):at9 n (.head 14) [0] (sh9_L14 x0 x1 x2 x3 x4 x5)=none:=by kernel_rfl
theorem e9_L14 (n:Nat) (m14:Nat) (x0:Int) (x1:ByteArray) (x2:ByteArray) (x3:Int) (x4:List Int) (x5:List NT):at9 n (.head 14) [m14 + 1] (sh9_L14 x0 x1 x2 x3 x4 x5)=st9_L14 n (fun x0 x1 x2 x3 x4 x5=>at9 n (.head 14) [m14] (sh9_L14 x0 x1 x2 x3 x4 x5)) (fun x0 x1 x2 x3 x4 x5 x6=>at9 n (.head 17) [n] (sh9_L17 x0 x1 x2 x3 x4 x5 x6)) x0 x1 x2 x3 x4 x5:=by kernel_rfl
noncomputable def p9_L17 (n:Nat):Nat→Int→ByteArray→ByteArray→Int→Int→(List Int)→(List NT)→Option R9
 | 0,_,_,_,_,_,_,_=>none
 | m + 1,x0,x1,x2,x3,x4,x5,x6=>st9_L17 n (p9_L17 n m) x0 x1 x2 x3 x4 x5 x6
noncomputable def p9_L14 (n:Nat):Nat→Int→ByteArray→ByteArray→Int→(List Int)→(List NT)→Option R9
 | 0,_,_,_,_,_,_=>none
 | m + 1,x0,x1,x2,x3,x4,x5=>st9_L14 n (p9_L14 n m) (p9_L17 n n) x0 x1 x2 x3 x4 x5
noncomputable def p9 (n:Nat) (a:List Int):Option R9:=st9_top n (p9_L14 n n) a
theorem t9_L17 (n:Nat):∀ (m17:Nat) (x0:Int) (x1:ByteArray) (x2:ByteArray) (x3:Int) (x4:Int) (x5:List Int) (x6:List NT),at9 n (.head 17) [m17] (sh9_L17 x0 x1 x2 x3 x4 x5 x6)=p9_L17 n m17 x0 x1 x2 x3 x4 x5 x6:=by
 intro m
 induction m with
 | zero=>intros; rw [e9_L17_0]; rfl
 | succ m ih =>
  intros
  rw [e9_L17]
  try simp only [ih]
  rfl
theorem t9_L14 (n:Nat):∀ (m14:Nat) (x0:Int) (x1:ByteArray) (x2:ByteArray) (x3:Int) (x4:List Int) (x5:List NT),at9 n (.head 14) [m14] (sh9_L14 x0 x1 x2 x3 x4 x5)=p9_L14 n m14 x0 x1 x2 x3 x4 x5:=by
 intro m
 induction m with
 | zero=>intros; rw [e9_L14_0]; rfl
 | succ m ih =>
  intros
  rw [e9_L14]
  try simp only [t9_L17,ih]
  rfl
theorem F9_eq (n:Nat) (a:List Int):runF TT G9 an9 Try.f9 c9 ps9 rs9 n (a,())=p9 n a:=by
 rw [e9_top]
 simp only [t9_L14]
 try rfl
noncomputable def q9 (n:Nat) (x:argsD ps9):Option R9:=p9 n x.1
noncomputable def Sm9:Sm:=⟨ps9,rs9,false,q9⟩
theorem holds9 (hg:GamOK Try.prog G9):Holds Try.prog 9 Sm9:=by
 have:=h0_9 hg
 have e:(runF TT G9 an9 Try.f9 c9 ps9 rs9)=q9:=by
  funext n x
  exact F9_eq n x.1
 rw [e] at this
 exact this
theorem gam9:GamOK Try.prog G9:=by
 intro f s h
 unfold G9 at h
 split at h
 ·injection h with h; subst h; exact ⟨⟨Try.f18,c18,Try.func18,by kernel_rfl,by decide +kernel⟩,hh18⟩
 ·injection h with h; subst h; exact ⟨⟨Try.f30,c30,Try.func30,by kernel_rfl,by decide +kernel⟩,hh30⟩
 ·injection h with h; subst h; exact ⟨⟨Try.f31,c31,Try.func31,by kernel_rfl,by decide +kernel⟩,hh31⟩
 ·injection h with h; subst h; exact ⟨⟨Try.f34,c34,Try.func34,by kernel_rfl,by decide +kernel⟩,hh34⟩
 ·injection h with h; subst h; exact ⟨⟨Try.f36,c36,Try.func36,by kernel_rfl,by decide +kernel⟩,hh36⟩
 ·injection h with h; subst h; exact ⟨⟨Try.f37,c37,Try.func37,by kernel_rfl,by decide +kernel⟩,hh37⟩
 ·cases h
theorem hh9:Holds Try.prog 9 Sm9:=holds9 gam9
end Go.Proofs.Ythhopbicmaipgaa.Rx.S

