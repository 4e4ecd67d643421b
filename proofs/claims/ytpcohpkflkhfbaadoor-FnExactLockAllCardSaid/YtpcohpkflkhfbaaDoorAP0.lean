/- Plain laws of those functions, no program in sight: the law answers true on all data. No condition. -/
import GoSem.Claim
import Derived.Test.YtpcohpkflkhfbaaDoorAF0
set_option linter.unusedVariables false
set_option linter.unusedSimpArgs false
namespace Go.Proofs.YtpcohpkflkhfbaaDoor.Rx.S
open Go Go.Proofs.YtpcohpkflkhfbaaDoor.Rx
set_option linter.unusedVariables false
set_option linter.unusedSimpArgs false
set_option maxRecDepth 100000
abbrev Thd:=Int × Int × Int × Bool
abbrev LkD:=Int × List Thd × List Int
inductive BT where
 | l
 | v (c:Nat)
 | n (a:BT) (c:Nat) (b:BT)
def BT.has:BT→Nat→Bool
 | .l,_=>false
 | .v c,x=>Nat.beq c x
 | .n a c b,x=>cond (Nat.beq c x) true (cond (Nat.ble x c) (a.has x) (b.has x))
def BT.lst:BT→List Nat
 | .l=>[]
 | .v c=>[c]
 | .n a c b=>a.lst ++ c :: b.lst
def BT.all (p:Nat→Bool):BT→Bool
 | .l=>true
 | .v c=>p c
 | .n a c b=>cond (p c) (cond (a.all p) (b.all p) false) false
theorem BT.has_mem:∀ {t:BT} {x:Nat},t.has x=true→x ∈ t.lst
 | .l,x,h=>by cases h
 | .v c,x,h=>by simp only [BT.has] at h; rw [Nat.eq_of_beq_eq_true h]; simp [BT.lst]
 | .n a c b,x,h=>by
  simp only [BT.has] at h
  cases hb:Nat.beq c x with
  | true=>rw [Nat.eq_of_beq_eq_true hb]; simp [BT.lst]
  | false =>
   rw [hb,cond_false] at h
   cases hl:Nat.ble x c with
   | true=>rw [hl,cond_true] at h; simp [BT.lst,has_mem h]
   | false=>rw [hl,cond_false] at h; simp [BT.lst,has_mem h]
theorem BT.all_mem {p:Nat→Bool}:∀ {t:BT} {x:Nat},t.all p=true→x ∈ t.lst→p x=true
 | .l,x,_,h=>by cases h
 | .v c,x,hp,h=>by simp only [BT.lst,List.mem_singleton] at h; rw [h]; exact hp
 | .n a c b,x,hp,h=>by
  simp only [BT.all] at hp
  cases h1:p c with
  | false=>rw [h1] at hp; cases hp
  | true =>
   rw [h1,cond_true] at hp
   cases h2:a.all p with
   | false=>rw [h2] at hp; cases hp
   | true =>
    rw [h2,cond_true] at hp
    simp only [BT.lst,List.mem_append,List.mem_cons] at h
    rcases h with h | rfl | h
    ·exact all_mem h2 h
    ·exact h1
    ·exact all_mem hp h
def encTh (t:Thd):Nat:=t.1.toNat + 8 * t.2.1.toNat + 32 * t.2.2.1.toNat + 128 * cond t.2.2.2 1 0
def encL:List Int→Nat
 | []=>0
 | x :: xs=>x.toNat + 1 + 4 * encL xs
def encT:List Thd→Nat→Nat
 | [],r=>r
 | t :: ts,r=>encTh t + 256 * encT ts r
def encS (s:LkD):Nat:=s.1.toNat + 4 * encT s.2.1 (encL s.2.2)
def decTh (c:Nat):Thd:=(((c % 8:Nat):Int),((c / 8 % 4:Nat):Int),((c / 32 % 4:Nat):Int),Nat.beq (c / 128 % 2) 1)
def decT:Nat→Nat→List Thd × Nat
 | 0,c=>([],c)
 | k + 1,c=>(decTh (c % 256) :: (decT k (c / 256)).1,(decT k (c / 256)).2)
def decL:Nat→Nat→List Int
 | 0,_=>[]
 | f + 1,c=>cond (Nat.beq c 0) [] ((((c - 1) % 4:Nat):Int) :: decL f (c / 4))
def decS (N c:Nat):LkD:=(((c % 4:Nat):Int),(decT N (c / 4)).1,decL 4 (decT N (c / 4)).2)
noncomputable def o12 (s:LkD) (w:Nat):Option Bool:=(q12 2000 (s,((w:Nat):Int),())).map fun r=>r.1.1
noncomputable def o21 (s:LkD) (w:Nat):Option Bool:=(q21 2000 (s,((w:Nat):Int),())).map fun r=>r.1.1
noncomputable def o13 (s:LkD) (w:Nat):Option LkD:=(q13 2000 (s,((w:Nat):Int),())).map fun r=>r.1.1
noncomputable def o22 (s:LkD) (w:Nat):Option LkD:=(q22 2000 (s,((w:Nat):Int),())).map fun r=>r.1.1
noncomputable def o14 (s:LkD):Option LkD:=(q14 2000 (s,())).map fun r=>r.1.1
noncomputable def o10 (s:LkD):Option Int:=(q10 2000 (s,())).map fun r=>r.1.1
noncomputable def o19 (s:LkD):Option Int:=(q19 2000 (s,())).map fun r=>r.1.1
noncomputable def o11 (s:LkD):Option Bool:=(q11 2000 (s,())).map fun r=>r.1.1
noncomputable def o20 (s:LkD):Option Bool:=(q20 2000 (s,())).map fun r=>r.1.1
def dg (x:Int):Nat:=48 + x.toNat
def keyT:List Thd→List Nat
 | []=>[]
 | t :: ts=>32 :: dg t.1 :: 44 :: dg t.2.1 :: 44 :: dg t.2.2.1 :: (cond t.2.2.2 [122] [] ++ keyT ts)
def keyL:List Int→List Nat
 | []=>[]
 | x :: xs=>dg x :: 44 :: keyL xs
def keyS (s:LkD):List Nat:=dg s.1 :: (keyT s.2.1 ++ 58 :: keyL s.2.2)
def undL:List Nat→List Int
 | a :: _ :: xs=>((a - 48:Nat):Int) :: undL xs
 | _=>[]
def undT:Nat→List Nat→List Thd × List Nat
 | 0,l=>([],l)
 | f + 1,l=>match l with
  | _ :: a :: _ :: b :: _ :: c :: d :: r=>cond (Nat.beq d 122) ((((a - 48:Nat):Int),((b - 48:Nat):Int),((c - 48:Nat):Int),true) :: (undT f r).1,(undT f r).2)
    ((((a - 48:Nat):Int),((b - 48:Nat):Int),((c - 48:Nat):Int),false) :: (undT f (d :: r)).1,(undT f (d :: r)).2)
  | l=>([],l)
def undS (N:Nat):List Nat→LkD
 | a :: r=>(((a - 48:Nat):Int),(undT N r).1,undL (undT N r).2.tail)
 | []=>(0,[],[])
def digs (s:LkD):Bool:=decide (0≤s.1∧s.1 < 10)&&s.2.1.all (fun t=>decide (0≤t.1∧t.1 < 10)&&decide (0≤t.2.1∧t.2.1 < 10)&&decide (0≤t.2.2.1∧t.2.2.1 < 10))&&s.2.2.all (fun x=>decide (0≤x∧x < 10))
noncomputable def okW (T:BT) (N:Nat) (s:LkD):Nat→Bool
 | 0=>true
 | w + 1=>cond (okW T N s w) (match o12 s w,o21 s w with
  | some false,some false=>true
  | some true,some true=>(match o13 s w,o22 s w with
   | some t,some t'=>decide (t=t')&&(T.has (encS t)&&decide (decS N (encS t)=t))
   | _,_=>false)
  | _,_=>false) false
noncomputable def okS (T:BT) (N:Nat) (s:LkD):Bool :=
 decide (s.2.1.length=N)&&(decide (s.2.2.length≤4)&&(digs s&&(decide (undS N (keyS s)=s)&&((match o14 s with | some t=>decide (t=s) | none=>false)&&((match o10 s,o19 s with | some a,some b=>decide (a=b)&&decide (a≤1) | _,_=>false) &&
  ((match o11 s,o20 s with | some false,some false=>true | _,_=>false)&&okW T N s N))))))
def T11:BT:=(.n (.v 0) 128 (.v 145))
def T12:BT:=(.n (.n (.v 0) 128 .l) 145 (.n (.v 256) 273 .l))
def T21:BT:=(.n (.n (.n (.n (.n (.v 0) 128 (.v 136)) 140 (.n (.v 145) 146 .l)) 149 (.n (.n (.v 152) 164 .l) 32768 (.n (.v 32896) 32913 .l))) 34816 (.n (.n (.n (.v 34962) 34965 (.v 34966)) 34968 (.n (.v 35840) 35989 .l)) 35992 (.n (.n (.v 36865) 36866 .l) 36993 (.n (.v 37002) 37018 .l)))) 37029 (.n (.n (.n (.n (.v 37889) 38025 (.v 38026)) 38029 (.n (.v 38041) 38053 .l)) 38912 (.n (.n (.v 39048) 39052 .l) 39058 (.n (.v 39061) 39064 .l))) 39076 (.n (.n (.n (.v 41984) 42129 (.v 42133)) 42136 (.n (.v 299662) 300685 .l)) 300686 (.n (.n (.v 301708) 691346 .l) 691349 (.n (.v 691350) 691352 .l)))))
def T22:BT:=(.n (.n (.n (.n (.n (.n (.n (.v 0) 128 (.v 136)) 140 (.n (.v 145) 146 .l)) 149 (.n (.n (.v 152) 164 (.v 196)) 256 (.n (.v 264) 268 .l))) 273 (.n (.n (.n (.v 274) 277 (.v 280)) 292 (.n (.v 32768) 32896 .l)) 32904 (.n (.n (.v 32908) 32913 (.v 32914)) 32917 (.n (.v 32920) 32932 .l)))) 32964 (.n (.n (.n (.n (.v 33024) 33032 (.v 33036)) 33041 (.n (.v 33042) 33045 .l)) 33048 (.n (.n (.v 33060) 34816 (.v 34944)) 34961 (.n (.v 34962) 34965 .l))) 34966 (.n (.n (.n (.v 34968) 35090 (.v 35093)) 35094 (.n (.v 35096) 35840 .l)) 35968 (.n (.n (.v 35985) 35989 (.v 35992)) 36117 (.n (.v 36120) 36865 .l))))) 36866 (.n (.n (.n (.n (.n (.v 36993) 36994 (.v 37001)) 37002 (.n (.v 37005) 37017 .l)) 37018 (.n (.n (.v 37029) 37061 (.v 37062)) 37121 (.n (.v 37129) 37130 .l))) 37133 (.n (.n (.n (.v 37145) 37146 (.v 37157)) 37889 (.n (.v 38017) 38025 .l)) 38026 (.n (.n (.v 38029) 38041 (.v 38053)) 38085 (.n (.v 38153) 38154 .l)))) 38157 (.n (.n (.n (.n (.v 38169) 38181 (.v 38912)) 39040 (.n (.v 39048) 39052 .l)) 39057 (.n (.n (.v 39058) 39061 (.v 39064)) 39076 (.n (.v 39108) 39176 .l))) 39180 (.n (.n (.n (.v 39186) 39189 (.v 39192)) 39204 (.n (.v 41984) 42112 .l)) 42129 (.n (.n (.v 42133) 42136 (.v 42257)) 42261 (.n (.v 42264) 50176 .l)))))) 50304 (.n (.n (.n (.n (.n (.n (.v 50321) 50322 (.v 50325)) 50328 (.n (.v 50450) 50453 .l)) 50456 (.n (.n (.v 65536) 65664 (.v 65681)) 65792 (.n (.v 65809) 67584 .l))) 67712 (.n (.n (.n (.v 67729) 67730 (.v 67733)) 67734 (.n (.v 67736) 67858 .l)) 67861 (.n (.n (.v 67862) 67864 (.v 68608)) 68736 (.n (.v 68753) 68757 .l)))) 68760 (.n (.n (.n (.n (.v 68885) 68888 (.v 69633)) 69634 (.n (.v 69761) 69762 .l)) 69770 (.n (.n (.v 69786) 69797 (.v 69830)) 69889 (.n (.v 69898) 69914 .l))) 69925 (.n (.n (.n (.v 70657) 70785 (.v 70793)) 70794 (.n (.v 70797) 70809 .l)) 70821 (.n (.n (.v 70853) 70921 (.v 70922)) 70925 (.n (.v 70937) 70949 .l))))) 71680 (.n (.n (.n (.n (.n (.v 71808) 71816 (.v 71820)) 71825 (.n (.v 71826) 71829 .l)) 71832 (.n (.n (.v 71844) 71876 (.v 71944)) 71948 (.n (.v 71954) 71957 .l))) 71960 (.n (.n (.n (.v 71972) 74752 (.v 74880)) 74897 (.n (.v 74901) 74904 .l)) 75025 (.n (.n (.v 75029) 75032 (.v 299662)) 299790 (.n (.v 300685) 300686 .l)))) 300813 (.n (.n (.n (.n (.v 300814) 301708 (.v 301836)) 332430 (.n (.v 332558) 333453 .l)) 333454 (.n (.n (.v 333581) 333582 (.v 334476)) 334604 (.n (.v 691346) 691349 .l))) 691350 (.n (.n (.n (.v 691352) 691474 (.v 691477)) 691478 (.n (.v 691480) 724114 .l)) 724117 (.n (.n (.v 724118) 724120 (.v 724242)) 724245 (.n (.v 724246) 724248 .l)))))))
def T31:BT:=(.n (.n (.n (.n (.n (.n (.n (.n (.n (.v 0) 128 .l) 136 (.n (.v 140) 145 .l)) 146 (.n (.n (.v 149) 152 .l) 164 (.n (.v 196) 32768 .l))) 32896 (.n (.n (.n (.v 32904) 32908 .l) 32913 (.n (.v 32914) 32917 .l)) 32920 (.n (.n (.v 32932) 34816 .l) 34944 (.n (.v 34952) 34956 .l)))) 34961 (.n (.n (.n (.n (.v 34962) 34965 .l) 34966 (.n (.v 34968) 34980 .l)) 35012 (.n (.n (.v 35840) 35968 .l) 35976 (.n (.v 35980) 35985 .l))) 35986 (.n (.n (.n (.v 35989) 35990 .l) 35992 (.n (.v 36004) 36036 .l)) 36865 (.n (.n (.v 36866) 36993 .l) 36994 (.v 37001))))) 37002 (.n (.n (.n (.n (.n (.v 37005) 37006 .l) 37017 (.n (.v 37018) 37029 .l)) 37030 (.n (.n (.v 37062) 37889 .l) 38017 (.n (.v 38025) 38026 .l))) 38029 (.n (.n (.n (.v 38030) 38041 .l) 38053 (.n (.v 38085) 38086 .l)) 38912 (.n (.n (.v 39040) 39048 .l) 39052 (.v 39057)))) 39058 (.n (.n (.n (.n (.v 39061) 39064 .l) 39076 (.n (.v 39108) 41984 .l)) 42112 (.n (.n (.v 42120) 42124 .l) 42129 (.n (.v 42130) 42133 .l))) 42136 (.n (.n (.n (.v 42148) 42180 .l) 50176 (.n (.v 50312) 50316 .l)) 50322 (.n (.n (.v 50325) 50326 .l) 50328 (.v 50340)))))) 8388608 (.n (.n (.n (.n (.n (.n (.v 8388736) 8388744 .l) 8388748 (.n (.v 8388753) 8388754 .l)) 8388757 (.n (.n (.v 8388760) 8388772 .l) 8421376 (.n (.v 8421504) 8421521 .l))) 8423424 (.n (.n (.n (.v 8423570) 8423573 .l) 8423574 (.n (.v 8423576) 8424448 .l)) 8424597 (.n (.n (.v 8424600) 8425473 .l) 8425474 (.v 8425601)))) 8425610 (.n (.n (.n (.n (.v 8425626) 8425637 .l) 8426497 (.n (.v 8426633) 8426634 .l)) 8426637 (.n (.n (.v 8426649) 8426661 .l) 8427520 (.n (.v 8427656) 8427660 .l))) 8427666 (.n (.n (.n (.v 8427669) 8427672 .l) 8427684 (.n (.v 8430592) 8430737 .l)) 8430741 (.n (.n (.v 8430744) 8912896 .l) 8913024 (.v 8913032))))) 8913036 (.n (.n (.n (.n (.n (.v 8913041) 8913042 .l) 8913045 (.n (.v 8913046) 8913048 .l)) 8913060 (.n (.n (.v 8913092) 8945664 .l) 8945810 (.n (.v 8945813) 8945814 .l))) 8945816 (.n (.n (.n (.v 8947712) 8947858 .l) 8947861 (.n (.v 8947862) 8947864 .l)) 8948736 (.n (.n (.v 8948885) 8948886 .l) 8948888 (.v 8949761)))) 8949762 (.n (.n (.n (.n (.v 8949890) 8949898 .l) 8949913 (.n (.v 8949914) 8949926 .l)) 8949958 (.n (.n (.v 8950785) 8950786 .l) 8950913 (.n (.v 8950914) 8950921 .l))) 8950922 (.n (.n (.n (.v 8950925) 8950926 .l) 8950937 (.n (.v 8950938) 8950949 .l)) 8950950 (.n (.n (.v 8950981) 8950982 .l) 8951808 (.v 8951936))))))) 8951944 (.n (.n (.n (.n (.n (.n (.n (.v 8951948) 8951953 .l) 8951954 (.n (.v 8951957) 8951958 .l)) 8951960 (.n (.n (.v 8951972) 8952004 .l) 8954880 (.n (.v 8955026) 8955029 .l))) 8955030 (.n (.n (.n (.v 8955032) 8963072 .l) 8963218 (.n (.v 8963221) 8963222 .l)) 8963224 (.n (.n (.v 9175040) 9175168 .l) 9175176 (.n (.v 9175180) 9175185 .l)))) 9175186 (.n (.n (.n (.n (.v 9175189) 9175190 .l) 9175192 (.n (.v 9175204) 9175236 .l)) 9207808 (.n (.n (.v 9207957) 9207960 .l) 9209856 (.n (.v 9210005) 9210006 .l))) 9210008 (.n (.n (.n (.v 9210880) 9211029 .l) 9211032 (.n (.v 9211905) 9211906 .l)) 9212057 (.n (.n (.v 9212058) 9212929 .l) 9212930 (.v 9213057))))) 9213065 (.n (.n (.n (.n (.n (.v 9213066) 9213069 .l) 9213081 (.n (.v 9213093) 9213125 .l)) 9213952 (.n (.n (.v 9214080) 9214088 .l) 9214092 (.n (.v 9214097) 9214098 .l))) 9214101 (.n (.n (.n (.v 9214104) 9214116 .l) 9214148 (.n (.v 9217024) 9217173 .l)) 9217176 (.n (.n (.v 9225216) 9225365 .l) 9225368 (.v 9437185)))) 9437186 (.n (.n (.n (.n (.v 9437313) 9437314 .l) 9437321 (.n (.v 9437322) 9437325 .l)) 9437326 (.n (.n (.v 9437337) 9437338 .l) 9437349 (.n (.v 9437350) 9437382 .l))) 9469953 (.n (.n (.n (.v 9469954) 9470081 .l) 9470090 (.n (.v 9470106) 9470117 .l)) 9472001 (.n (.n (.v 9472002) 9472130 .l) 9472138 (.v 9472153)))))) 9472154 (.n (.n (.n (.n (.n (.n (.v 9472166) 9472198 .l) 9473025 (.n (.v 9473026) 9473177 .l)) 9473178 (.n (.n (.v 9476097) 9476098 .l) 9476226 (.n (.v 9476233) 9476234 .l))) 9476237 (.n (.n (.n (.v 9476238) 9476249 .l) 9476250 (.n (.v 9476261) 9476262 .l)) 9476294 (.n (.n (.v 9479169) 9479170 .l) 9479297 (.v 9479306)))) 9479321 (.n (.n (.n (.n (.v 9479322) 9479333 .l) 9487362 (.n (.v 9487498) 9487514 .l)) 9699329 (.n (.n (.v 9699457) 9699465 .l) 9699466 (.n (.v 9699469) 9699470 .l))) 9699481 (.n (.n (.n (.v 9699493) 9699525 .l) 9699526 (.n (.v 9732097) 9732233 .l)) 9732234 (.n (.n (.v 9732237) 9732249 .l) 9732261 (.v 9734145))))) 9734146 (.n (.n (.n (.n (.n (.v 9734273) 9734274 .l) 9734281 (.n (.v 9734282) 9734285 .l)) 9734286 (.n (.n (.v 9734297) 9734298 .l) 9734309 (.n (.v 9734310) 9734341 .l))) 9734342 (.n (.n (.n (.v 9735169) 9735170 .l) 9735297 (.n (.v 9735305) 9735306 .l)) 9735309 (.n (.n (.v 9735321) 9735333 .l) 9735365 (.v 9738241)))) 9738369 (.n (.n (.n (.n (.v 9738377) 9738378 .l) 9738381 (.n (.v 9738393) 9738405 .l)) 9738437 (.n (.n (.v 9741313) 9741441 .l) 9741449 (.n (.v 9741450) 9741453 .l))) 9741465 (.n (.n (.n (.v 9741477) 9741509 .l) 9749505 (.n (.v 9749506) 9749641 .l)) 9749642 (.n (.n (.v 9749645) 9749657 .l) 9749669 (.v 9961472)))))))) 9961600 (.n (.n (.n (.n (.n (.n (.n (.n (.v 9961608) 9961612 .l) 9961617 (.n (.v 9961618) 9961621 .l)) 9961624 (.n (.n (.v 9961636) 9961668 .l) 9994240 (.n (.v 9994376) 9994380 .l))) 9994386 (.n (.n (.n (.v 9994389) 9994392 .l) 9994404 (.n (.v 9996288) 9996416 .l)) 9996424 (.n (.n (.v 9996428) 9996433 .l) 9996434 (.n (.v 9996437) 9996438 .l)))) 9996440 (.n (.n (.n (.n (.v 9996452) 9996484 .l) 9997312 (.n (.v 9997440) 9997448 .l)) 9997452 (.n (.n (.v 9997457) 9997458 .l) 9997461 (.n (.v 9997464) 9997476 .l))) 9997508 (.n (.n (.n (.v 9998337) 9998338 .l) 9998466 (.n (.v 9998473) 9998474 .l)) 9998477 (.n (.n (.v 9998478) 9998489 .l) 9998490 (.v 9998501))))) 9998502 (.n (.n (.n (.n (.n (.v 9998534) 9999361 .l) 9999489 (.n (.v 9999497) 9999498 .l)) 9999501 (.n (.n (.v 9999513) 9999525 .l) 9999557 (.n (.v 10000384) 10000512 .l))) 10000520 (.n (.n (.n (.v 10000524) 10000529 .l) 10000530 (.n (.v 10000533) 10000536 .l)) 10000548 (.n (.n (.v 10000580) 10003456 .l) 10003584 (.v 10003592)))) 10003596 (.n (.n (.n (.n (.v 10003601) 10003602 .l) 10003605 (.n (.v 10003608) 10003620 .l)) 10003652 (.n (.n (.v 10011648) 10011784 .l) 10011788 (.n (.v 10011794) 10011797 .l))) 10011800 (.n (.n (.n (.v 10011812) 10747904 .l) 10748032 (.n (.v 10748040) 10748044 .l)) 10748049 (.n (.n (.v 10748050) 10748053 .l) 10748056 (.v 10748068)))))) 10748100 (.n (.n (.n (.n (.n (.n (.v 10780672) 10780817 .l) 10780821 (.n (.v 10780824) 10782720 .l)) 10782866 (.n (.n (.v 10782869) 10782870 .l) 10782872 (.n (.v 10783744) 10783893 .l))) 10783896 (.n (.n (.n (.v 10784769) 10784770 .l) 10784897 (.n (.v 10784906) 10784921 .l)) 10784922 (.n (.n (.v 10784933) 10785793 .l) 10785921 (.v 10785929)))) 10785930 (.n (.n (.n (.n (.v 10785933) 10785945 .l) 10785957 (.n (.v 10785989) 10786816 .l)) 10786944 (.n (.n (.v 10786952) 10786956 .l) 10786961 (.n (.v 10786962) 10786965 .l))) 10786968 (.n (.n (.n (.v 10786980) 10787012 .l) 10789888 (.n (.v 10790033) 10790037 .l)) 10790040 (.n (.n (.v 10798080) 10798229 .l) 10798232 (.v 12845056))))) 12845192 (.n (.n (.n (.n (.n (.v 12845196) 12845202 .l) 12845205 (.n (.v 12845206) 12845208 .l)) 12845220 (.n (.n (.v 12879872) 12880018 .l) 12880021 (.n (.v 12880022) 12880024 .l))) 12880896 (.n (.n (.n (.v 12881045) 12881048 .l) 12881922 (.n (.v 12882058) 12882074 .l)) 12882945 (.n (.n (.v 12882946) 12883081 .l) 12883082 (.v 12883085)))) 12883097 (.n (.n (.n (.n (.v 12883109) 12883968 .l) 12884104 (.n (.v 12884108) 12884114 .l)) 12884117 (.n (.n (.v 12884120) 12884132 .l) 12887040 (.n (.v 12887189) 12887192 .l))) 67145356 (.n (.n (.n (.v 67146382) 67147405 .l) 67147406 (.n (.v 67148428) 75534990 .l)) 75536013 (.n (.n (.v 75536014) 75537036 .l) 76059278 (.v 76060301))))))) 76060302 (.n (.n (.n (.n (.n (.n (.n (.v 76061324) 76284556 .l) 76322445 (.n (.v 76322446) 76323468 .l)) 76546702 (.n (.n (.v 76579470) 76581518 .l) 76585613 (.n (.v 76585614) 76588686 .l))) 76596878 (.n (.n (.n (.v 76808845) 76808846 .l) 76841613 (.n (.v 76841614) 76843661 .l)) 76843662 (.n (.n (.v 76844685) 76844686 .l) 76847757 (.v 76847758)))) 76850829 (.n (.n (.n (.n (.v 76850830) 76859021 .l) 76859022 (.n (.v 77070988) 77103756 .l)) 77105804 (.n (.n (.v 77106828) 77107853 .l) 77107854 (.n (.v 77108877) 77108878 .l))) 77109900 (.n (.n (.n (.v 77112972) 77121164 .l) 77894286 (.n (.v 77895309) 77895310 .l)) 77896332 (.n (.n (.v 79991438) 79992461 .l) 79992462 (.v 79993484))))) 134384780 (.n (.n (.n (.n (.n (.v 134384786) 134384789 .l) 134384790 (.n (.v 134384792) 142773394 .l)) 142773397 (.n (.n (.v 142773398) 142773400 .l) 143297682 (.n (.v 143297685) 143297686 .l))) 143297688 (.n (.n (.n (.v 143559680) 143559829 .l) 143559830 (.n (.v 143559832) 143821826 .l)) 143821954 (.n (.n (.v 143821962) 143821977 .l) 143821978 (.v 143821990)))) 143822022 (.n (.n (.n (.n (.v 144083969) 144083970 .l) 144084097 (.n (.v 144084098) 144084105 .l)) 144084106 (.n (.n (.v 144084109) 144084110 .l) 144084121 (.n (.v 144084122) 144084133 .l))) 144084134 (.n (.n (.n (.v 144084165) 144084166 .l) 144346112 (.n (.v 144346240) 144346248 .l)) 144346252 (.n (.n (.v 144346257) 144346258 .l) 144346261 (.v 144346262)))))) 144346264 (.n (.n (.n (.n (.n (.n (.v 144346276) 144346308 .l) 145132690 (.n (.v 145132693) 145132694 .l)) 145132696 (.n (.n (.v 147229842) 147229845 .l) 147229846 (.n (.v 147229848) 244056204 .l))) 244056210 (.n (.n (.n (.v 244056213) 244056214 .l) 244056216 (.n (.v 244088978) 244088981 .l)) 244088982 (.n (.n (.v 244088984) 244091026 .l) 244091029 (.v 244091030)))) 244091032 (.n (.n (.n (.n (.v 244091904) 244092053 .l) 244092054 (.n (.v 244092056) 244092930 .l)) 244093058 (.n (.n (.v 244093066) 244093081 .l) 244093082 (.n (.v 244093094) 244093126 .l))) 244093953 (.n (.n (.n (.v 244093954) 244094081 .l) 244094082 (.n (.v 244094089) 244094090 .l)) 244094093 (.n (.n (.v 244094094) 244094105 .l) 244094106 (.v 244094117))))) 244094118 (.n (.n (.n (.n (.n (.v 244094149) 244094150 .l) 244094976 (.n (.v 244095104) 244095112 .l)) 244095116 (.n (.n (.v 244095121) 244095122 .l) 244095125 (.n (.v 244095126) 244095128 .l))) 244095140 (.n (.n (.n (.v 244095172) 244098194 .l) 244098197 (.n (.v 244098198) 244098200 .l)) 244106386 (.n (.n (.v 244106389) 244106390 .l) 244106392 (.v 412257934)))) 412520077 (.n (.n (.n (.n (.v 412520078) 412782220 .l) 512529038 (.n (.v 512530061) 512530062 .l)) 512531084 (.n (.n (.v 613584526) 613846669 .l) 613846670 (.n (.v 614108812) 781094034 .l))) 781094037 (.n (.n (.n (.v 781094038) 781094040 .l) 915182222 (.n (.v 915183245) 915183246 .l)) 915184268 (.n (.n (.v 982420626) 982420629 .l) 982420630 (.v 982420632)))))))))
theorem chk11:(T11.all fun c=>okS T11 1 (decS 1 c))=true:=by kernel_rfl
theorem chk12:(T12.all fun c=>okS T12 1 (decS 1 c))=true:=by kernel_rfl
theorem chk21:(T21.all fun c=>okS T21 2 (decS 2 c))=true:=by kernel_rfl
theorem chk22:(T22.all fun c=>okS T22 2 (decS 2 c))=true:=by kernel_rfl
theorem chk31:(T31.all fun c=>okS T31 3 (decS 3 c))=true:=by kernel_rfl
end Go.Proofs.YtpcohpkflkhfbaaDoor.Rx.S

namespace Go.Proofs.YtpcohpkflkhfbaaDoor.Rx.Pu
open Go
set_option linter.unusedVariables false
set_option linter.unusedSimpArgs false
theorem wr {x:Int} (h0:-9223372036854775808≤x) (h1:x≤9223372036854775807):IntKind.i64.wrap x=x:=by
 have e1:(2:Int) ^ IntKind.i64.bits=18446744073709551616:=rfl
 have e2:(2:Int) ^ (IntKind.i64.bits - 1)=9223372036854775808:=rfl
 have e3:IntKind.i64.signed=true:=rfl
 unfold IntKind.wrap
 simp only [e1,e2,e3,Bool.true_and,decide_eq_true_eq]
 split <;> omega
theorem toNat_cast (i:Nat):((i:Int)).toNat=i:=rfl
theorem xor_small {a b:Int} (ha:0≤a) (ha2:a < 4611686018427387904) (hb:0≤b) (hb2:b < 4611686018427387904) :
  0≤IntKind.i64.wrap ((BitVec.ofInt IntKind.i64.bits a ^^^ BitVec.ofInt IntKind.i64.bits b).toNat:Int):=by
 have e0:IntKind.i64.bits=64:=rfl
 obtain ⟨m,rfl⟩:=Int.eq_ofNat_of_zero_le ha
 obtain ⟨k,rfl⟩:=Int.eq_ofNat_of_zero_le hb
 have hm:m < 2 ^ 62:=by omega
 have hk:k < 2 ^ 62:=by omega
 have hx:m ^^^ k < 2 ^ 62:=Nat.xor_lt_two_pow hm hk
 have e:(BitVec.ofInt IntKind.i64.bits (m:Int) ^^^ BitVec.ofInt IntKind.i64.bits (k:Int)).toNat=m ^^^ k:=by
  have h1:∀ j:Nat,j < 2 ^ 62→(BitVec.ofInt IntKind.i64.bits (j:Int)).toNat=j:=by
   intro j hj
   rw [BitVec.toNat_ofInt]
   have e9:((2 ^ IntKind.i64.bits:Nat):Int)=18446744073709551616:=rfl
   rw [e9]
   omega
  rw [BitVec.toNat_xor,h1 m hm,h1 k hk]
 rw [e,wr (by omega) (by omega)]
 omega
theorem tmod_range {a b:Int} (ha:0≤a) (hb:1≤b):0≤a.tmod b∧a.tmod b < b:=by
 rw [Int.tmod_eq_emod_of_nonneg ha]
 exact ⟨Int.emod_nonneg _ (by omega),Int.emod_lt_of_pos _ (by omega)⟩
theorem tdiv_range {a b:Int} (ha:0≤a) (hb:1≤b):0≤a.tdiv b∧a.tdiv b≤a:=by
 rw [Int.tdiv_eq_ediv_of_nonneg ha]
 exact ⟨Int.ediv_nonneg ha (by omega),Int.ediv_le_self _ ha⟩
end Go.Proofs.YtpcohpkflkhfbaaDoor.Rx.Pu

namespace Go.Proofs.YtpcohpkflkhfbaaDoor.Rx.S
open Go Go.Proofs.YtpcohpkflkhfbaaDoor.Rx Go.Proofs.YtpcohpkflkhfbaaDoor.Rx.Pu
set_option linter.unusedVariables false
set_option linter.unusedSimpArgs false
set_option maxRecDepth 100000
theorem lt_t {i n:Nat} (h:i < n):decide ((i:Int) < (n:Int))=true:=by simp; omega
theorem lt_f (n:Nat):decide ((n:Int) < (n:Int))=false:=by simp
theorem ge_t (i:Nat):decide ((0:Int)≤(i:Int))=true:=by simp
theorem succI (i:Nat):(i:Int) + 1=((i + 1:Nat):Int):=by omega
theorem wS {i:Nat} (h:i≤1000000):IntKind.i64.wrap ((i:Int) + 1)=((i + 1:Nat):Int):=by rw [wr (by omega) (by omega),succI]
theorem drop_get {α:Type} {l:List α} {i:Nat} (h:i < l.length) (d:α):l.drop i=l.getD i d :: l.drop (i + 1):=by
 rw [List.getD_eq_getElem?_getD,List.getElem?_eq_getElem h,Option.getD_some,← List.drop_eq_getElem_cons h]
theorem p15_L9_eq (n:Nat) (a b:List Int) (x1:Int) (x2:List Thd) (x4:Int) (x5:List Thd) (hl:a.length=b.length) (hs:a.length≤1000):∀ (m i:Nat),i≤a.length→a.length - i < m →
  p15_L9 n m i x1 x2 a x4 x5 b=some ((decide (a.drop i=b.drop i),()),())
 | 0,i,_,h=>by omega
 | m + 1,i,hi,h=>by
  show st15_L9 n (p15_L9 n m) i x1 x2 a x4 x5 b=_
  by_cases h1:i < a.length
  ·have h2:i < b.length:=by omega
   simp only [st15_L9,lt_t h1,lt_t h2,ge_t,cond_true,toNat_cast]
   rw [wS (by omega),drop_get h1 0,drop_get h2 0]
   by_cases he:a.getD i 0=b.getD i 0
   ·simp only [he,decide_true,Bool.not_true,cond_false,List.cons.injEq,true_and]
    exact p15_L9_eq n a b x1 x2 x4 x5 hl hs m (i + 1) (by omega) (by omega)
   ·simp only [he,decide_false,Bool.not_false,cond_true,List.cons.injEq,false_and]
  ·obtain rfl:i=a.length:=by omega
   simp only [st15_L9,lt_f,cond_false]
   have:b.drop a.length=[]:=by rw [hl]; simp
   simp [this]
theorem th_eq {a b:Thd}:(decide (a.1=b.1)&&(decide (a.2.1=b.2.1)&&(decide (a.2.2.1=b.2.2.1)&&(a.2.2.2 == b.2.2.2&&true))))=decide (a=b):=by
 obtain ⟨a1,a2,a3,a4⟩:=a
 obtain ⟨b1,b2,b3,b4⟩:=b
 rw [Bool.eq_iff_iff]
 simp [Prod.mk.injEq]
theorem p15_L4_eq (n:Nat) (a b:List Thd) (x1:Int) (x3:List Int) (x4:Int) (x6:List Int) (hl:a.length=b.length) (hs:a.length≤1000) (hl2:x3.length=x6.length) (hs2:x3.length≤1000) (hn:1000 < n) :
  ∀ (m i:Nat),i≤a.length→a.length - i < m→p15_L4 n m i x1 a x3 x4 b x6=some ((decide (a.drop i=b.drop i∧x3=x6),()),())
 | 0,i,_,h=>by omega
 | m + 1,i,hi,h=>by
  show st15_L4 n (p15_L4 n m) (p15_L9 n n) i x1 a x3 x4 b x6=_
  by_cases h1:i < a.length
  ·have h2:i < b.length:=by omega
   simp only [st15_L4,lt_t h1,lt_t h2,ge_t,cond_true,toNat_cast]
   rw [wS (by omega),drop_get h1 ((0:Int),(0:Int),(0:Int),false),drop_get h2 ((0:Int),(0:Int),(0:Int),false),th_eq]
   by_cases he:a.getD i ((0:Int),(0:Int),(0:Int),false)=b.getD i ((0:Int),(0:Int),(0:Int),false)
   ·simp only [he,decide_true,Bool.not_true,cond_false,List.cons.injEq,true_and]
    exact p15_L4_eq n a b x1 x3 x4 x6 hl hs hl2 hs2 hn m (i + 1) (by omega) (by omega)
   ·simp only [he,decide_false,Bool.not_false,cond_true,List.cons.injEq,false_and]
  ·obtain rfl:i=a.length:=by omega
   simp only [st15_L4,lt_f,cond_false]
   have hb:b.drop a.length=[]:=by rw [hl]; simp
   have:=p15_L9_eq n x3 x6 x1 a x4 b hl2 hs2 n 0 (by omega) (by omega)
   rw [hb]
   simp only [List.drop_zero,List.drop_length,true_and] at this ⊢
   exact this
theorem q15_eq {s t:LkD} (h1:s.2.1.length≤1000) (h2:s.2.2.length≤1000):q15 2000 (s,t,())=some ((decide (s=t),()),()):=by
 show p15 2000 s t=_
 obtain ⟨a,b,c⟩:=s
 obtain ⟨a',b',c'⟩:=t
 simp only [p15,st15_top]
 by_cases e1:a=a'
 ·subst e1
  simp only [decide_true,Bool.not_true,cond_false]
  by_cases e2:b.length=b'.length
  ·have e2':((b.length:Nat):Int)=((b'.length:Nat):Int):=by omega
   simp only [e2',decide_true,Bool.not_true,cond_false]
   by_cases e3:c.length=c'.length
   ·have e3':((c.length:Nat):Int)=((c'.length:Nat):Int):=by omega
    simp only [e3',decide_true,Bool.not_true,cond_false]
    have:=p15_L4_eq 2000 b b' a c a c' e2 h1 e3 h2 (by omega) 2000 0 (by omega) (by simp only at h1; omega)
    simp only [List.drop_zero] at this
    rw [show ((0:Int))=((0:Nat):Int) from rfl,this]
    simp [Prod.mk.injEq]
   ·have e3':¬ ((c.length:Nat):Int)=((c'.length:Nat):Int):=by omega
    have:c ≠ c':=fun e=>e3 (by rw [e])
    simp [e3',this]
  ·have e2':¬ ((b.length:Nat):Int)=((b'.length:Nat):Int):=by omega
   have:b ≠ b':=fun e=>e2 (by rw [e])
   simp [e2',this]
 ·simp [e1]
def kb (l:List Nat):ByteArray:=⟨(l.map UInt8.ofNat).toArray⟩
theorem kb_app (a b:List Nat):kb a ++ kb b=kb (a ++ b):=by
 apply ByteArray.ext
 rw [ByteArray.data_append]
 simp [kb]
theorem kb_size (a:List Nat):(kb a).size=a.length:=by simp [kb,ByteArray.size]
theorem q25_nat:∀ k:Nat,k < 10→q25 2000 (((k:Nat):Int),())=some ((kb [dg ((k:Nat):Int)],()),())
 | 0,_=>by kernel_rfl
 | 1,_=>by kernel_rfl
 | 2,_=>by kernel_rfl
 | 3,_=>by kernel_rfl
 | 4,_=>by kernel_rfl
 | 5,_=>by kernel_rfl
 | 6,_=>by kernel_rfl
 | 7,_=>by kernel_rfl
 | 8,_=>by kernel_rfl
 | 9,_=>by kernel_rfl
 | n + 10,h=>by omega
theorem q25_eq {x:Int} (h:0≤x∧x < 10):q25 2000 (x,())=some ((kb [dg x],()),()):=by
 obtain ⟨k,rfl⟩:=Int.eq_ofNat_of_zero_le h.1
 exact q25_nat k (by omega)
theorem b44:ByteArray.mk #[(44:UInt8)]=kb [44]:=rfl
theorem b32:ByteArray.mk #[(32:UInt8)]=kb [32]:=rfl
theorem b58:ByteArray.mk #[(58:UInt8)]=kb [58]:=rfl
theorem b122:ByteArray.mk #[(122:UInt8)]=kb [122]:=rfl
theorem szT {n:Nat} (h:n≤1000000):decide (n≤9223372036854775807)=true:=by simp; omega
theorem p18_L11_eq (l:List Int) (hs:l.length≤100) (hd:∀ x ∈ l,0≤x∧x < 10):∀ (m i:Nat) (k:List Nat),i≤l.length→l.length - i < m→k.length≤1000 + 100 * i →
  p18_L11 2000 m (kb k) l l.length i=some ((kb (k ++ keyL (l.drop i)),()),())
 | 0,i,k,_,h,_=>by omega
 | m + 1,i,k,hi,h,hk=>by
  show st18_L11 2000 (p18_L11 2000 m) (kb k) l l.length i=_
  by_cases h1:i < l.length
  ·simp only [st18_L11,lt_t h1,ge_t,cond_true,toNat_cast]
   have hx:0≤l.getD i 0∧l.getD i 0 < 10:=by
    rw [List.getD_eq_getElem?_getD,List.getElem?_eq_getElem h1]
    exact hd _ (List.getElem_mem h1)
   rw [q25_eq hx]
   simp only [Option.bind_some,b44,kb_app,kb_size]
   rw [szT (by simp),szT (by simp; omega)]
   simp only [cond_true]
   rw [wS (by omega),p18_L11_eq l hs hd m (i + 1) _ (by omega) (by omega) (by simp; omega),drop_get h1 0]
   simp [keyL]
  ·obtain rfl:i=l.length:=by omega
   simp [st18_L11,keyL]
theorem p18_L3_eq (x4:Int) (l:List Thd) (l2:List Int) (hs:l.length≤100) (hs2:l2.length≤100) (hd:∀ t ∈ l,(0≤t.1∧t.1 < 10)∧(0≤t.2.1∧t.2.1 < 10)∧(0≤t.2.2.1∧t.2.2.1 < 10)) (hd2:∀ x ∈ l2,0≤x∧x < 10) :
  ∀ (m i:Nat) (k:List Nat),i≤l.length→l.length - i < m→k.length≤10 + 8 * i →
  p18_L3 2000 m (kb k) l l.length i x4 l l2=some ((kb (k ++ (keyT (l.drop i) ++ 58 :: keyL l2)),()),())
 | 0,i,k,_,h,_=>by omega
 | m + 1,i,k,hi,h,hk=>by
  show st18_L3 2000 (p18_L3 2000 m) (p18_L11 2000 2000) (kb k) l l.length i x4 l l2=_
  by_cases h1:i < l.length
  ·have hx:l.getD i ((0:Int),(0:Int),(0:Int),false) ∈ l:=by
    rw [List.getD_eq_getElem?_getD,List.getElem?_eq_getElem h1]
    exact List.getElem_mem h1
   rw [drop_get h1 ((0:Int),(0:Int),(0:Int),false)]
   generalize ht:l.getD i ((0:Int),(0:Int),(0:Int),false)=t at hx
   obtain ⟨d1,d2,d3⟩:=hd t hx
   simp only [st18_L3,lt_t h1,ge_t,cond_true,toNat_cast,ht]
   rw [q25_eq d1,q25_eq d2,q25_eq d3]
   simp only [Option.bind_some,b44,b32,b58,b122,kb_app,kb_size]
   rw [szT (by simp),szT (by simp),szT (by simp),szT (by simp),szT (by simp),szT (by simp; omega),szT (by simp; omega)]
   simp only [cond_true]
   cases hz:t.2.2.2 with
   | true =>
    simp only [cond_true]
    rw [wS (by omega),p18_L3_eq x4 l l2 hs hs2 hd hd2 m (i + 1) _ (by omega) (by omega) (by simp; omega)]
    simp [keyT,hz]
   | false =>
    simp only [cond_false]
    rw [wS (by omega),p18_L3_eq x4 l l2 hs hs2 hd hd2 m (i + 1) _ (by omega) (by omega) (by simp; omega)]
    simp [keyT,hz]
  ·obtain rfl:i=l.length:=by omega
   simp only [st18_L3,lt_f,cond_false,b58,kb_app,kb_size]
   rw [szT (by simp; omega)]
   simp only [cond_true]
   have:=p18_L11_eq l2 hs2 hd2 2000 0 (k ++ [58]) (by omega) (by omega) (by simp; omega)
   rw [show ((0:Int))=((0:Nat):Int) from rfl,this]
   simp [keyT]
theorem q18_eq {s:LkD} (h1:s.2.1.length≤100) (h2:s.2.2.length≤100) (hd:digs s=true):q18 2000 (s,())=some ((kb (keyS s),()),()):=by
 show p18 2000 s=_
 simp only [digs,Bool.and_eq_true,decide_eq_true_eq,List.all_eq_true] at hd
 obtain ⟨⟨hd1,hd2⟩,hd3⟩:=hd
 simp only [p18,st18_top]
 rw [q25_eq hd1]
 simp only [Option.bind_some]
 have:=p18_L3_eq s.1 s.2.1 s.2.2 h1 h2 (fun t ht=>⟨(hd2 t ht).1.1,(hd2 t ht).1.2,(hd2 t ht).2⟩) hd3 2000 0 [dg s.1] (by omega) (by omega) (by simp)
 rw [show ((0:Int))=((0:Nat):Int) from rfl,this]
 simp [keyS]
theorem kb_inj {a b:List Nat} (ha:∀ x ∈ a,x < 256) (hb:∀ x ∈ b,x < 256) (h:kb a=kb b):a=b:=by
 have h1:=congrArg (fun x:ByteArray=>x.data.toList.map UInt8.toNat) h
 have key:∀ l:List Nat,(∀ x ∈ l,x < 256)→(kb l).data.toList.map UInt8.toNat=l:=by
  intro l hl
  simp only [kb,List.map_map]
  conv=>rhs; rw [← List.map_id l]
  refine List.map_congr_left fun x hx=>?_
  have:=hl x hx
  simp; omega
 rwa [key a ha,key b hb] at h1
end Go.Proofs.YtpcohpkflkhfbaaDoor.Rx.S

namespace Go.Proofs.YtpcohpkflkhfbaaDoor.Rx.S
open Go Go.Proofs.YtpcohpkflkhfbaaDoor.Rx Go.Proofs.YtpcohpkflkhfbaaDoor.Rx.Pu
set_option linter.unusedVariables false
set_option linter.unusedSimpArgs false
set_option maxRecDepth 100000
def PS (T:BT) (N:Nat) (s:LkD):Prop:=∃ c,c ∈ T.lst∧s=decS N c
noncomputable def canF (s:LkD) (w:Nat):Bool:=(o12 s w).getD false
noncomputable def stF (s:LkD) (w:Nat):LkD:=(o13 s w).getD s
noncomputable def inF (s:LkD):Int:=(o10 s).getD 0
theorem un1 {α:Type} {x:Option ((α × Unit) × Unit)} {b:α} (h:x.map (fun r=>r.1.1)=some b):x=some ((b,()),()):=by
 cases x with
 | none=>cases h
 | some r=>injection h with h; subst h; rfl
theorem okW_get {T:BT} {N:Nat} {s:LkD}:∀ {k w:Nat},okW T N s k=true→w < k →
  q12 2000 (s,((w:Nat):Int),())=some ((canF s w,()),())∧q21 2000 (s,((w:Nat):Int),())=some ((canF s w,()),()) ∧
  (canF s w=true→q13 2000 (s,((w:Nat):Int),())=some ((stF s w,()),())∧q22 2000 (s,((w:Nat):Int),())=some ((stF s w,()),())∧PS T N (stF s w))
 | 0,w,_,h=>by omega
 | k + 1,w,hk,hw=>by
  simp only [okW] at hk
  cases h1:okW T N s k with
  | false=>rw [h1] at hk; cases hk
  | true =>
   rw [h1,cond_true] at hk
   by_cases hwk:w=k
   ·subst hwk
    split at hk
    ·rename_i e1 e2
     have c1:canF s w=false:=by unfold canF; rw [e1]; rfl
     rw [c1]
     exact ⟨un1 e1,un1 e2,fun h=>by cases h⟩
    ·rename_i e1 e2
     have c1:canF s w=true:=by unfold canF; rw [e1]; rfl
     rw [c1]
     refine ⟨un1 e1,un1 e2,fun _=>?_⟩
     split at hk
     ·rename_i t t' e3 e4
      simp only [Bool.and_eq_true,decide_eq_true_eq] at hk
      obtain ⟨rfl,h5,h6⟩:=hk
      have c2:stF s w=t:=by unfold stF; rw [e3]; rfl
      rw [c2]
      exact ⟨un1 e3,un1 e4,encS t,BT.has_mem h5,h6.symm⟩
     ·cases hk
    ·cases hk
   ·exact okW_get h1 (by omega)
structure Fc (T:BT) (N:Nat) (s:LkD):Prop where
 len:s.2.1.length=N
 ln2:s.2.2.length≤4
 dig:digs s=true
 und:undS N (keyS s)=s
 cpy:q14 2000 (s,())=some ((s,()),())
 ins:q10 2000 (s,())=some ((inF s,()),())
 ini:q19 2000 (s,())=some ((inF s,()),())
 one:inF s≤1
 sts:q11 2000 (s,())=some ((false,()),())
 sti:q20 2000 (s,())=some ((false,()),())
 stp:okW T N s N=true
theorem facts {T:BT} {N:Nat} (hc:(T.all fun c=>okS T N (decS N c))=true) {s:LkD} (hs:PS T N s):Fc T N s:=by
 obtain ⟨c,hm,rfl⟩:=hs
 have h:=BT.all_mem (p:=fun c=>okS T N (decS N c)) hc hm
 simp only [okS,Bool.and_eq_true,decide_eq_true_eq] at h
 obtain ⟨h1,h2,h3,h4,h5,h6,h7,h8⟩:=h
 split at h5
 ·rename_i t e5
  simp only [decide_eq_true_eq] at h5
  subst h5
  split at h6
  ·rename_i a b e1 e2
   simp only [Bool.and_eq_true,decide_eq_true_eq] at h6
   obtain ⟨rfl,h6⟩:=h6
   have c1:inF (decS N c)=a:=by unfold inF; rw [e1]; rfl
   split at h7
   ·rename_i e3 e4
    exact ⟨h1,h2,h3,h4,un1 e5,by rw [c1]; exact un1 e1,by rw [c1]; exact un1 e2,by rw [c1]; exact h6,un1 e3,un1 e4,h8⟩
   ·cases h7
  ·cases h6
 ·cases h5
theorem key_lt {s:LkD} (hd:digs s=true):∀ x ∈ keyS s,x < 256:=by
 simp only [digs,Bool.and_eq_true,decide_eq_true_eq,List.all_eq_true] at hd
 obtain ⟨⟨hd1,hd2⟩,hd3⟩:=hd
 have hT:∀ l:List Thd,(∀ t ∈ l,((0≤t.1∧t.1 < 10)∧0≤t.2.1∧t.2.1 < 10)∧0≤t.2.2.1∧t.2.2.1 < 10)→∀ x ∈ keyT l,x < 256:=by
  intro l
  induction l with
  | nil=>intro _ x hx; cases hx
  | cons t l ih =>
   intro hl x hx
   have ht:=hl t List.mem_cons_self
   simp only [keyT,List.mem_cons,List.mem_append] at hx
   unfold dg at hx
   rcases hx with rfl | rfl | rfl | rfl | rfl | rfl | hx | hx
   ·omega
   ·omega
   ·omega
   ·omega
   ·omega
   ·omega
   ·cases hz:t.2.2.2 <;> rw [hz] at hx <;> simp at hx
    omega
   ·exact ih (fun t' ht'=>hl t' (List.mem_cons_of_mem _ ht')) x hx
 have hL:∀ l:List Int,(∀ x ∈ l,0≤x∧x < 10)→∀ x ∈ keyL l,x < 256:=by
  intro l
  induction l with
  | nil=>intro _ x hx; cases hx
  | cons t l ih =>
   intro hl x hx
   have ht:=hl t List.mem_cons_self
   simp only [keyL,List.mem_cons] at hx
   unfold dg at hx
   rcases hx with rfl | rfl | hx
   ·omega
   ·omega
   ·exact ih (fun t' ht'=>hl t' (List.mem_cons_of_mem _ ht')) x hx
 intro x hx
 simp only [keyS,List.mem_cons,List.mem_append] at hx
 unfold dg at hx
 rcases hx with rfl | hx | rfl | hx
 ·omega
 ·exact hT _ hd2 x hx
 ·omega
 ·exact hL _ hd3 x hx
noncomputable def kyF (s:LkD):ByteArray:=kb (keyS s)
theorem ky_inj {T:BT} {N:Nat} {s t:LkD} (hs:Fc T N s) (ht:Fc T N t) (h:kyF s=kyF t):s=t:=by
 have:=kb_inj (key_lt hs.dig) (key_lt ht.dig) h
 rw [← hs.und,← ht.und,this]
theorem nodup_le {α:Type} [DecidableEq α]:∀ {l u:List α},l.Nodup→(∀ x ∈ l,x ∈ u)→l.length≤u.length
 | [],u,_,_=>by simp
 | x :: l,u,hn,hs=>by
  have hx:=hs x List.mem_cons_self
  have hn':=List.nodup_cons.1 hn
  have:=nodup_le (l:=l) (u:=u.erase x) hn'.2 (fun y hy=>(List.mem_erase_of_ne (fun e=>hn'.1 (by subst e; exact hy))).2 (hs y (List.mem_cons_of_mem _ hy)))
  rw [List.length_erase_of_mem hx] at this
  have:0 < u.length:=List.length_pos_of_mem hx
  simp
  omega
theorem nodup_same {α:Type} [DecidableEq α] {l u:List α} (hl:l.Nodup) (hu:u.Nodup) (h:∀ x,x ∈ l↔x ∈ u):l.length=u.length :=
 Nat.le_antisymm (nodup_le hl (fun x hx=>(h x).1 hx)) (nodup_le hu (fun x hx=>(h x).2 hx))
inductive Rch (N:Nat) (f:LkD):LkD→Prop where
 | base:Rch N f f
 | step {s:LkD} {w:Nat} (h:Rch N f s) (hw:w < N) (hc:canF s w=true):Rch N f (stF s w)
noncomputable def scs (s:LkD):Nat→Nat→List LkD
 | _,0=>[]
 | w,k + 1=>cond (canF s w) (stF s w :: scs s (w + 1) k) (scs s (w + 1) k)
theorem scs_mem {s:LkD}:∀ {k w w':Nat},w≤w'→w' < w + k→canF s w'=true→stF s w' ∈ scs s w k
 | 0,w,w',h1,h2,_=>by omega
 | k + 1,w,w',h1,h2,hc=>by
  simp only [scs]
  by_cases h:w'=w
  ·subst h; rw [hc]; exact List.mem_cons_self
  ·have:=scs_mem (s:=s) (k:=k) (w:=w + 1) (w':=w') (by omega) (by omega) hc
   cases canF s w with
   | true=>exact List.mem_cons_of_mem _ this
   | false=>exact this
theorem scs_of {s t:LkD}:∀ {k w:Nat},t ∈ scs s w k→∃ w',w≤w'∧w' < w + k∧canF s w'=true∧t=stF s w'
 | 0,w,h=>by cases h
 | k + 1,w,h=>by
  simp only [scs] at h
  cases hc:canF s w with
  | true =>
   rw [hc,cond_true] at h
   rcases List.mem_cons.1 h with h | h
   ·exact ⟨w,by omega,by omega,hc,h⟩
   ·obtain ⟨w',a,b,c⟩:=scs_of h
    exact ⟨w',by omega,by omega,c⟩
  | false =>
   rw [hc,cond_false] at h
   obtain ⟨w',a,b,c⟩:=scs_of h
   exact ⟨w',by omega,by omega,c⟩
def Cl (N:Nat) (f:LkD) (l:List LkD):Prop:=f ∈ l∧∀ s ∈ l,∀ t ∈ scs s 0 N,t ∈ l
theorem Cl.all {N:Nat} {f:LkD} {l:List LkD} (h:Cl N f l):∀ {s:LkD},Rch N f s→s ∈ l:=by
 intro s hs
 induction hs with
 | base=>exact h.1
 | step _ hw hc ih=>exact h.2 _ ih _ (scs_mem (Nat.zero_le _) (by omega) hc)
structure Fin (T:BT) (N:Nat) (f:LkD) (l:List LkD):Prop where
 nd:l.Nodup
 ps:∀ s ∈ l,PS T N s
 rc:∀ s ∈ l,Rch N f s
 cl:Cl N f l
theorem Fin.same {T:BT} {N:Nat} {f:LkD} {l u:List LkD} (h:Fin T N f l) (h':Fin T N f u):∀ x,x ∈ l↔x ∈ u :=
 fun x=>⟨fun hx=>h'.cl.all (h.rc x hx),fun hx=>h.cl.all (h'.rc x hx)⟩
noncomputable def mx (m:Int):List LkD→Int
 | []=>m
 | s :: l=>mx (if inF s > m then inF s else m) l
theorem mx_ge:∀ {l:List LkD} {m:Int},m≤mx m l∧∀ s ∈ l,inF s≤mx m l
 | [],m=>⟨Int.le_refl m,fun s hs=>by cases hs⟩
 | s :: l,m=>by
  have:=mx_ge (l:=l) (m:=if inF s > m then inF s else m)
  simp only [mx]
  refine ⟨?_,fun t ht=>?_⟩
  ·have h1:=this.1; split at h1 <;> omega
  ·rcases List.mem_cons.1 ht with rfl | ht
   ·have h1:=this.1; split at h1 <;> omega
   ·exact this.2 t ht
theorem mx_le:∀ {l:List LkD} {m b:Int},m≤b→(∀ s ∈ l,inF s≤b)→mx m l≤b
 | [],m,b,h,_=>h
 | s :: l,m,b,h,hl=>by
  simp only [mx]
  refine mx_le ?_ (fun t ht=>hl t (List.mem_cons_of_mem _ ht))
  have:=hl s List.mem_cons_self
  split <;> omega
theorem mx_app:∀ {l:List LkD} {m:Int} {s:LkD},mx m (l ++ [s])=if inF s > mx m l then inF s else mx m l
 | [],m,s=>rfl
 | x :: l,m,s=>by simp only [List.cons_append,mx]; exact mx_app
end Go.Proofs.YtpcohpkflkhfbaaDoor.Rx.S

namespace Go.Proofs.YtpcohpkflkhfbaaDoor.Rx.S
open Go Go.Proofs.YtpcohpkflkhfbaaDoor.Rx Go.Proofs.YtpcohpkflkhfbaaDoor.Rx.Pu
set_option linter.unusedVariables false
set_option linter.unusedSimpArgs false
set_option maxRecDepth 100000
instance decThd:DecidableEq Thd:=inferInstance
instance decLkD:DecidableEq LkD:=inferInstance
abbrev dL:LkD:=((0:Int),[],[])
def addN (l:List LkD) (t:LkD):List LkD:=if t ∈ l then l else l ++ [t]
theorem addN_nd {l:List LkD} {t:LkD} (h:l.Nodup):(addN l t).Nodup:=by
 unfold addN
 split
 ·exact h
 ·rename_i ht
  rw [List.nodup_append]
  exact ⟨h,by simp,fun a ha b hb=>by simp at hb; subst hb; exact fun e=>ht (e ▸ ha)⟩
theorem addN_mem {l:List LkD} {t x:LkD}:x ∈ addN l t↔x ∈ l∨x=t:=by
 unfold addN
 split
 ·rename_i ht
  exact ⟨fun h=>.inl h,fun h=>h.elim id (fun e=>e ▸ ht)⟩
 ·simp
theorem addN_pre {l:List LkD} {t:LkD}:∃ r,addN l t=l ++ r:=by
 unfold addN
 split
 ·exact ⟨[],by simp⟩
 ·exact ⟨[t],rfl⟩
noncomputable def addA (l:List LkD) (s:LkD) (w k:Nat):List LkD:=(scs s w k).foldl addN l
theorem fold_nd:∀ {ts l:List LkD},l.Nodup→(ts.foldl addN l).Nodup
 | [],l,h=>h
 | t :: ts,l,h=>fold_nd (ts:=ts) (addN_nd h)
theorem fold_mem:∀ {ts l:List LkD} {x:LkD},x ∈ ts.foldl addN l↔x ∈ l∨x ∈ ts
 | [],l,x=>by simp
 | t :: ts,l,x=>by
  rw [List.foldl_cons,fold_mem,addN_mem,List.mem_cons]
  exact or_assoc
theorem fold_pre:∀ {ts l:List LkD},∃ r,ts.foldl addN l=l ++ r
 | [],l=>⟨[],by simp⟩
 | t :: ts,l=>by
  obtain ⟨r,hr⟩:=addN_pre (l:=l) (t:=t)
  obtain ⟨r',hr'⟩:=fold_pre (ts:=ts) (l:=addN l t)
  exact ⟨r ++ r',by rw [List.foldl_cons,hr',hr,List.append_assoc]⟩
theorem ps_le {T:BT} {N:Nat} (hT:T.lst.length≤1000) {l:List LkD} (hn:l.Nodup) (hp:∀ s ∈ l,PS T N s):l.length≤1000:=by
 have:=nodup_le (u:=T.lst.map (decS N)) hn (fun s hs=>by
  obtain ⟨c,hm,e⟩:=hp s hs
  rw [e]
  exact List.mem_map_of_mem hm)
 rw [List.length_map] at this
 omega
section
variable {T:BT} {N:Nat} (hc:(T.all fun c=>okS T N (decS N c))=true) (hN:N≤3) (hT:T.lst.length≤1000)
include hc hN hT
theorem p5_L19_eq (g8:Int→Int→Bool→Int→List LkD→Option R5) (g13:Int→Int→Bool→Int→Int→List LkD→Option R5) (x1 i:Int) (x2:Bool) (w:Nat) (hw:w≤3) (all:List LkD) (t:LkD) (hp:∀ s ∈ all,PS T N s) (hnd:all.Nodup) :
  ∀ (m k:Nat) (met:Bool),k≤all.length→all.length - k < m→met=decide (t ∈ all.take k) →
  p5_L19 g8 g13 2000 m N x1 x2 i w met k all t.1 t.2.1 t.2.2=g13 N x1 x2 i ((w + 1:Nat):Int) (addN all t)
 | 0,k,met,_,h,_=>by omega
 | m + 1,k,met,hk,h,hm=>by
  show st5_L19 2000 (p5_L19 g8 g13 2000 m) g13 N x1 x2 i w met k all t.1 t.2.1 t.2.2=_
  have hlen:=ps_le hT hnd hp
  by_cases h1:k < all.length
  ·cases met with
   | true =>
    simp only [st5_L19,lt_t h1,cond_true,Bool.not_true,cond_false]
    rw [wS (by omega)]
    have hin:t ∈ all:=List.mem_of_mem_take (of_decide_eq_true hm.symm)
    simp only [addN,if_pos hin]
   | false =>
    simp only [st5_L19,lt_t h1,ge_t,cond_true,Bool.not_false,cond_false,toNat_cast]
    have hx:all.getD k dL ∈ all:=by
     rw [List.getD_eq_getElem?_getD,List.getElem?_eq_getElem h1]
     exact List.getElem_mem h1
    have hf:=facts hc (hp _ hx)
    have hq:=q15_eq (s:=all.getD k dL) (t:=t) (by have:=hf.len; omega) (by have:=hf.ln2; omega)
    have hq':q15 2000 (((all.getD k dL).fst,(all.getD k dL).snd.fst,(all.getD k dL).snd.snd),(t.1,t.2.1,t.2.2),())=some ((decide (all.getD k dL=t),()),()):=hq
    rw [hq']
    simp only [Option.bind_some]
    rw [wS (by omega)]
    refine p5_L19_eq g8 g13 x1 i x2 w hw all t hp hnd m (k + 1) _ (by omega) (by omega) ?_
    have hnot:¬ t ∈ all.take k:=of_decide_eq_false hm.symm
    have htk:all.take (k + 1)=all.take k ++ [all.getD k dL]:=by
     rw [List.take_succ_eq_append_getElem h1,List.getD_eq_getElem?_getD,List.getElem?_eq_getElem h1]; rfl
    rw [htk]
    rw [Bool.eq_iff_iff]
    simp only [decide_eq_true_eq,List.mem_append,hnot,false_or,List.mem_singleton]
    exact eq_comm
  ·obtain rfl:k=all.length:=by omega
   simp only [List.take_length] at hm
   cases met with
   | true =>
    simp only [st5_L19,lt_f,cond_false,Bool.not_true]
    rw [wS (by omega)]
    have hin:t ∈ all:=of_decide_eq_true hm.symm
    simp only [addN,if_pos hin]
   | false =>
    have hin:¬ t ∈ all:=of_decide_eq_false hm.symm
    simp only [st5_L19,lt_f,cond_false,Bool.not_false,cond_true]
    have hsz:decide ((all.length + [(t.1,t.2.1,t.2.2)].length) * (56:Nat)≤(140737488355328:Nat))=true:=by simp; omega
    rw [hsz,cond_true,wS (by omega)]
    simp only [addN,if_neg hin]
theorem p5_L13_eq (g8:Int→Int→Bool→Int→List LkD→Option R5) (x1:Int) (x2:Bool) (i:Nat) (s:LkD):∀ (m w:Nat) (all:List LkD),w≤N→N - w < m→(∀ s ∈ all,PS T N s)→all.Nodup→i < all.length→all.getD i dL=s →
  p5_L13 g8 2000 m N x1 x2 i w all=g8 N x1 x2 ((i + 1:Nat):Int) (addA all s w (N - w))
 | 0,w,all,_,h,_,_,_,_=>by omega
 | m + 1,w,all,hw,h,hp,hnd,hi,hs=>by
  show st5_L13 2000 (p5_L13 g8 2000 m) (p5_L19 g8 (p5_L13 g8 2000 m) 2000 2000) g8 N x1 x2 i w all=_
  have hlen:=ps_le hT hnd hp
  by_cases h1:w < N
  ·have hx:s ∈ all:=by
    rw [← hs,List.getD_eq_getElem?_getD,List.getElem?_eq_getElem hi]
    exact List.getElem_mem hi
   have hf:=facts hc (hp _ hx)
   obtain ⟨f1,_,f3⟩:=okW_get hf.stp h1
   have e0:N - w=(N - (w + 1)) + 1:=by omega
   simp only [st5_L13,lt_t h1,lt_t hi,ge_t,cond_true,toNat_cast]
   have f1':q12 2000 (((all.getD i dL).fst,(all.getD i dL).snd.fst,(all.getD i dL).snd.snd),((w:Nat):Int),())=some ((canF s w,()),()):=by rw [hs]; exact f1
   rw [f1']
   simp only [Option.bind_some]
   cases hcan:canF s w with
   | false =>
    simp only [Bool.not_false,cond_true]
    rw [wS (by omega),p5_L13_eq g8 x1 x2 i s m (w + 1) all (by omega) (by omega) hp hnd hi hs]
    unfold addA
    rw [e0]
    simp only [scs,hcan,cond_false]
   | true =>
    obtain ⟨f4,_,f6⟩:=f3 hcan
    simp only [Bool.not_true,cond_false]
    have f2':q14 2000 (((all.getD i dL).fst,(all.getD i dL).snd.fst,(all.getD i dL).snd.snd),())=some ((s,()),()):=by rw [hs]; exact hf.cpy
    rw [f2']
    simp only [Option.bind_some]
    have f4':q13 2000 ((s.1,s.2.1,s.2.2),((w:Nat):Int),())=some ((stF s w,()),()):=f4
    rw [f4']
    simp only [Option.bind_some]
    have hl:=p5_L19_eq hc hN hT g8 (p5_L13 g8 2000 m) x1 i x2 w (by omega) all (stF s w) hp hnd 2000 0 false (by omega) (by omega) (by simp)
    have hl':p5_L19 g8 (p5_L13 g8 2000 m) 2000 2000 (N:Int) x1 x2 (i:Int) (w:Int) false (0:Int) all (stF s w).1 (stF s w).2.1 (stF s w).2.2=_:=hl
    rw [hl']
    obtain ⟨r,hr⟩:=addN_pre (l:=all) (t:=stF s w)
    rw [p5_L13_eq g8 x1 x2 i s m (w + 1) (addN all (stF s w)) (by omega) (by omega) (fun y hy=>by
     rcases addN_mem.1 hy with hy | rfl
     ·exact hp y hy
     ·exact f6) (addN_nd hnd) (by rw [hr,List.length_append]; omega) (by
     rw [hr,List.getD_eq_getElem?_getD,List.getElem?_append_left hi,← List.getD_eq_getElem?_getD]; exact hs)]
    unfold addA
    rw [e0]
    simp only [scs,hcan,cond_true,List.foldl_cons]
  ·obtain rfl:w=N:=by omega
   simp only [st5_L13,lt_f,cond_false]
   rw [wS (by omega)]
   simp [addA,scs]
theorem bfs {f:LkD}:∀ (m i:Nat) (all:List LkD) (most:Int),1000 - i < m→i≤all.length→all.Nodup→(∀ s ∈ all,PS T N s)→(∀ s ∈ all,Rch N f s)→f ∈ all→(∀ j,j < i→∀ t ∈ scs (all.getD j dL) 0 N,t ∈ all)→most=mx 0 (all.take i) →
  ∃ l,p5_L8 2000 m N most false i all=some (((l.length:Int),(mx 0 l,(false,(true,())))),())∧Fin T N f l
 | 0,i,all,most,h,_,_,_,_,_,_,_=>by omega
 | m + 1,i,all,most,h,hi,hnd,hp,hr,hf,hcl,hm=>by
  have hlen:=ps_le hT hnd hp
  by_cases h1:i < all.length
  ·have hx:all.getD i dL ∈ all:=by
    rw [List.getD_eq_getElem?_getD,List.getElem?_eq_getElem h1]
    exact List.getElem_mem h1
   have hfx:=facts hc (hp _ hx)
   obtain ⟨r,hr2⟩:=fold_pre (ts:=scs (all.getD i dL) 0 N) (l:=all)
   have hps:∀ y ∈ addA all (all.getD i dL) 0 N,PS T N y:=fun y hy=>by
    rcases fold_mem.1 hy with hy | hy
    ·exact hp y hy
    ·obtain ⟨w,_,hw,hcan,rfl⟩:=scs_of hy
     exact ((okW_get hfx.stp (by omega)).2.2 hcan).2.2
   obtain ⟨l,hl,hfin⟩:=bfs (f:=f) m (i + 1) (addA all (all.getD i dL) 0 N) (if inF (all.getD i dL) > most then inF (all.getD i dL) else most) (by omega) (by unfold addA; rw [hr2,List.length_append]; omega) (fold_nd hnd) hps
    (fun y hy=>by
     rcases fold_mem.1 hy with hy | hy
     ·exact hr y hy
     ·obtain ⟨w,_,hw,hcan,rfl⟩:=scs_of hy
      exact .step (hr _ hx) (by omega) hcan) (fold_mem.2 (.inl hf)) (fun j hj t ht=>by
     have hjl:j < all.length:=by omega
     have hg:(addA all (all.getD i dL) 0 N).getD j dL=all.getD j dL:=by
      unfold addA; rw [hr2,List.getD_eq_getElem?_getD,List.getElem?_append_left hjl,← List.getD_eq_getElem?_getD]
     rw [hg] at ht
     rcases Nat.lt_or_ge j i with h2 | h2
     ·exact fold_mem.2 (.inl (hcl j h2 t ht))
     ·obtain rfl:j=i:=by omega
      exact fold_mem.2 (.inr ht)) (by
     have htk:(addA all (all.getD i dL) 0 N).take (i + 1)=all.take i ++ [all.getD i dL]:=by
      unfold addA
      rw [hr2,List.take_append_of_le_length (by omega),List.take_succ_eq_append_getElem h1,List.getD_eq_getElem?_getD,List.getElem?_eq_getElem h1]; rfl
     rw [htk,mx_app,hm])
   refine ⟨l,?_,hfin⟩
   rw [← hl]
   show st5_L8 2000 (p5_L13 (p5_L8 2000 m) 2000 2000) N most false i all=_
   simp only [st5_L8,lt_t h1,ge_t,cond_true,toNat_cast,cond_false]
   have f1:q10 2000 (((all.getD i dL).fst,(all.getD i dL).snd.fst,(all.getD i dL).snd.snd),())=some ((inF (all.getD i dL),()),()):=hfx.ins
   have f2:q11 2000 (((all.getD i dL).fst,(all.getD i dL).snd.fst,(all.getD i dL).snd.snd),())=some ((false,()),()):=hfx.sts
   rw [f1]
   simp only [Option.bind_some]
   rw [f2]
   simp only [Option.bind_some]
   have h3:=p5_L13_eq hc hN hT (p5_L8 2000 m) (if inF (all.getD i dL) > most then inF (all.getD i dL) else most) false i (all.getD i dL) 2000 0 all (by omega) (by omega) hp hnd h1 rfl
   exact h3
  ·obtain rfl:i=all.length:=by omega
   refine ⟨all,?_,hnd,hp,hr,hf,fun s hs t ht=>?_⟩
   ·show st5_L8 2000 (p5_L13 (p5_L8 2000 m) 2000 2000) N most false (all.length:Nat) all=_
    simp only [st5_L8,lt_f,cond_false]
    rw [hm,List.take_length]
   ·obtain ⟨j,hj,rfl⟩:=List.getElem_of_mem hs
    refine hcl j hj t ?_
    rw [List.getD_eq_getElem?_getD,List.getElem?_eq_getElem hj]
    exact ht
end
end Go.Proofs.YtpcohpkflkhfbaaDoor.Rx.S

namespace Go.Proofs.YtpcohpkflkhfbaaDoor.Rx.S
open Go Go.Proofs.YtpcohpkflkhfbaaDoor.Rx Go.Proofs.YtpcohpkflkhfbaaDoor.Rx.Pu
set_option linter.unusedVariables false
set_option linter.unusedSimpArgs false
set_option maxRecDepth 100000
noncomputable def mpS (l:List LkD):List (ByteArray × Bool):=l.map fun s=>(kyF s,true)
def addP (p:List LkD × List LkD) (t:LkD):List LkD × List LkD:=if t ∈ p.1 then p else (p.1 ++ [t],p.2 ++ [t])
theorem fold_addP:∀ {ts:List LkD} {p:List LkD × List LkD},∃ r,ts.foldl addP p=(p.1 ++ r,p.2 ++ r)∧ts.foldl addN p.1=p.1 ++ r
 | [],p=>⟨[],by simp,by simp⟩
 | t :: ts,p=>by
  by_cases ht:t ∈ p.1
  ·obtain ⟨r,h1,h2⟩:=fold_addP (ts:=ts) (p:=p)
   refine ⟨r,?_,?_⟩
   ·rw [List.foldl_cons,show addP p t=p by unfold addP; rw [if_pos ht]]; exact h1
   ·rw [List.foldl_cons,show addN p.1 t=p.1 by unfold addN; rw [if_pos ht]]; exact h2
  ·obtain ⟨r,h1,h2⟩:=fold_addP (ts:=ts) (p:=(p.1 ++ [t],p.2 ++ [t]))
   refine ⟨t :: r,?_,?_⟩
   ·rw [List.foldl_cons,show addP p t=(p.1 ++ [t],p.2 ++ [t]) by unfold addP; rw [if_neg ht],h1]; simp
   ·rw [List.foldl_cons,show addN p.1 t=p.1 ++ [t] by unfold addN; rw [if_neg ht],h2]; simp
theorem mget_eq {T:BT} {N:Nat} (hc:(T.all fun c=>okS T N (decS N c))=true) {t:LkD} (ht:PS T N t):∀ {l:List LkD},(∀ s ∈ l,PS T N s)→mget (mpS l) (kyF t)=decide (t ∈ l)
 | [],_=>by simp [mpS,mget]
 | s :: l,hp=>by
  have ih:=mget_eq hc ht (l:=l) (fun s hs=>hp s (List.mem_cons_of_mem _ hs))
  have h1:mget (mpS (s :: l)) (kyF t)=cond (decide (kyF t=kyF s)) true (mget (mpS l) (kyF t)):=rfl
  rw [h1,ih]
  by_cases h:t=s
  ·subst h; simp
  ·have:¬ kyF t=kyF s:=fun e=>h (ky_inj (facts hc ht) (facts hc (hp s List.mem_cons_self)) e)
   simp [this,h]
theorem mput_eq {T:BT} {N:Nat} (hc:(T.all fun c=>okS T N (decS N c))=true) {t:LkD} (ht:PS T N t):∀ {l:List LkD},(∀ s ∈ l,PS T N s)→¬ t ∈ l→mput (mpS l) (kyF t) true=mpS (l ++ [t])
 | [],_,_=>rfl
 | s :: l,hp,hn=>by
  have ih:=mput_eq hc ht (l:=l) (fun s hs=>hp s (List.mem_cons_of_mem _ hs)) (fun h=>hn (List.mem_cons_of_mem _ h))
  have h1:mput (mpS (s :: l)) (kyF t) true=cond (decide (kyF t=kyF s)) ((kyF t,true) :: mpS l) ((kyF s,true) :: mput (mpS l) (kyF t) true):=rfl
  have:¬ kyF t=kyF s:=fun e=>hn (by rw [ky_inj (facts hc ht) (facts hc (hp s List.mem_cons_self)) e]; exact List.mem_cons_self)
  rw [h1,ih]
  simp [this,mpS]
theorem q18_ps {T:BT} {N:Nat} (hc:(T.all fun c=>okS T N (decS N c))=true) (hN:N≤3) {s:LkD} (hs:PS T N s):q18 2000 (s,())=some ((kyF s,()),()):=by
 have hf:=facts hc hs
 exact q18_eq (by have:=hf.len; omega) (by have:=hf.ln2; omega) hf.dig
section
variable {T:BT} {N:Nat} (hc:(T.all fun c=>okS T N (decS N c))=true) (hN:N≤3) (hT:T.lst.length≤1000)
include hc hN hT
theorem p6_L13_eq (g7:Int→Bool→List (ByteArray × Bool)→List LkD→Option R6) (x0:Int) (x1:Bool) (s:LkD) (hs:PS T N s):∀ (m w:Nat) (p:List LkD × List LkD),w≤N→N - w < m→(∀ s ∈ p.1,PS T N s)→p.1.Nodup→p.2.length≤p.1.length →
  p6_L13 g7 2000 m x0 x1 N w (mpS p.1) p.2 s.1 s.2.1 s.2.2=g7 x0 x1 (mpS ((scs s w (N - w)).foldl addP p).1) ((scs s w (N - w)).foldl addP p).2
 | 0,w,p,_,h,_,_,_=>by omega
 | m + 1,w,p,hw,h,hp,hnd,hl=>by
  show st6_L13 2000 (p6_L13 g7 2000 m) g7 x0 x1 N w (mpS p.1) p.2 s.1 s.2.1 s.2.2=_
  have hlen:=ps_le hT hnd hp
  by_cases h1:w < N
  ·have hf:=facts hc hs
   obtain ⟨_,f2,f3⟩:=okW_get hf.stp h1
   have e0:N - w=(N - (w + 1)) + 1:=by omega
   simp only [st6_L13,lt_t h1,cond_true]
   have f2':q21 2000 ((s.1,s.2.1,s.2.2),((w:Nat):Int),())=some ((canF s w,()),()):=f2
   rw [f2']
   simp only [Option.bind_some]
   cases hcan:canF s w with
   | false =>
    simp only [Bool.not_false,cond_true]
    rw [wS (by omega),p6_L13_eq g7 x0 x1 s hs m (w + 1) p (by omega) (by omega) hp hnd hl,e0]
    simp only [scs,hcan,cond_false]
   | true =>
    obtain ⟨_,f5,f6⟩:=f3 hcan
    simp only [Bool.not_true,cond_false]
    have f5':q22 2000 ((s.1,s.2.1,s.2.2),((w:Nat):Int),())=some ((stF s w,()),()):=f5
    rw [f5']
    simp only [Option.bind_some]
    have f7:q18 2000 (((stF s w).1,(stF s w).2.1,(stF s w).2.2),())=some ((kyF (stF s w),()),()):=q18_ps hc hN f6
    rw [f7]
    simp only [Option.bind_some]
    rw [mget_eq hc f6 hp]
    by_cases hin:stF s w ∈ p.1
    ·simp only [hin,decide_true,Bool.not_true,cond_false]
     rw [wS (by omega),p6_L13_eq g7 x0 x1 s hs m (w + 1) p (by omega) (by omega) hp hnd hl,e0]
     simp only [scs,hcan,cond_true,List.foldl_cons]
     rw [show addP p (stF s w)=p by unfold addP; rw [if_pos hin]]
    ·simp only [hin,decide_false,Bool.not_false,cond_true]
     have hsz:decide ((p.2.length + [((stF s w).1,(stF s w).2.1,(stF s w).2.2)].length) * (56:Nat)≤(140737488355328:Nat))=true:=by simp; omega
     rw [hsz,cond_true,wS (by omega),mput_eq hc f6 hp hin]
     have hpp:addP p (stF s w)=(p.1 ++ [stF s w],p.2 ++ [stF s w]):=by unfold addP; rw [if_neg hin]
     have ih:=p6_L13_eq g7 x0 x1 s hs m (w + 1) (p.1 ++ [stF s w],p.2 ++ [stF s w]) (by omega) (by omega) (fun y hy=>by
      rcases List.mem_append.1 hy with hy | hy
      ·exact hp y hy
      ·rw [List.mem_singleton.1 hy]; exact f6) (by
      have:=addN_nd (t:=stF s w) hnd
      unfold addN at this
      rw [if_neg hin] at this
      exact this) (by simp; omega)
     rw [e0]
     simp only [scs,hcan,cond_true,List.foldl_cons]
     rw [hpp]
     exact ih
  ·obtain rfl:w=N:=by omega
   simp only [st6_L13,lt_f,cond_false]
   simp [scs]
theorem dfs {f:LkD}:∀ (m:Nat) (dn st seen:List LkD) (most:Int),1000 - dn.length < m→seen.Nodup→(∀ s ∈ seen,PS T N s)→(∀ s ∈ seen,Rch N f s)→f ∈ seen→(∀ x,x ∈ seen↔x ∈ dn∨x ∈ st)→(dn ++ st).Nodup →
  (∀ s ∈ dn,∀ t ∈ scs s 0 N,t ∈ seen)→most=mx 0 dn →
  ∃ l dl,p6_L7 2000 m most false (mpS seen) st=some (((l.length:Int),(mx 0 dl,(false,(true,())))),())∧Fin T N f l∧∀ x,x ∈ l↔x ∈ dl
 | 0,dn,st,seen,most,h,_,_,_,_,_,_,_,_=>by omega
 | m + 1,dn,st,seen,most,h,hnd,hp,hr,hf,hm,hn2,hcl,hmx=>by
  have hlen:=ps_le hT hnd hp
  have hle:(dn ++ st).length≤seen.length:=nodup_le hn2 (fun x hx=>(hm x).2 (List.mem_append.1 hx))
  rw [List.length_append] at hle
  rcases List.eq_nil_or_concat st with rfl | ⟨st',k,hst⟩
  ·refine ⟨seen,dn,?_,⟨hnd,hp,hr,hf,fun s hs t ht=>?_⟩,fun x=>by rw [hm]; simp⟩
   ·show st6_L7 2000 (p6_C10_1 (p6_L7 2000 m) 2000) most false (mpS seen) []=_
    have e1:decide ((0:Int) < ((([]:List LkD).length:Nat):Int))=false:=by simp
    simp only [st6_L7]
    rw [e1]
    simp only [cond_false,mpS,List.length_map]
    rw [hmx]
   ·have:=(hm s).1 hs
    simp at this
    exact hcl s this t ht
  ·have hst':st=st' ++ [k]:=by rw [hst]; try rw [List.concat_eq_append]
   clear hst
   subst hst'
   have hk:k ∈ seen:=(hm k).2 (.inr (by simp))
   have hpk:=hp k hk
   have hfk:=facts hc hpk
   have hkd:¬ k ∈ dn:=fun hd=>(List.nodup_append.1 hn2).2.2 k hd k (by simp) rfl
   have hks:¬ k ∈ st':=fun hd=>(List.nodup_append.1 (List.nodup_append.1 hn2).2.1).2.2 k hd k (by simp) rfl
   obtain ⟨r,hr1,hr2⟩:=fold_addP (ts:=scs k 0 N) (p:=(seen,st'))
   simp only at hr1 hr2
   have hnd':(seen ++ r).Nodup:=by rw [← hr2]; exact fold_nd hnd
   have hmem:∀ x,x ∈ seen ++ r↔x ∈ seen∨x ∈ scs k 0 N:=fun x=>by rw [← hr2]; exact fold_mem
   have hsc:∀ y ∈ scs k 0 N,PS T N y∧Rch N f y:=fun y hy=>by
    obtain ⟨w,_,hw,hcan,rfl⟩:=scs_of hy
    exact ⟨((okW_get hfk.stp (by omega)).2.2 hcan).2.2,.step (hr _ hk) (by omega) hcan⟩
   have hn3:=List.nodup_append.1 hn2
   have hn4:=List.nodup_append.1 hn3.2.1
   obtain ⟨l,dl,hl,hfin,hdl⟩:=dfs (f:=f) m (dn ++ [k]) (st' ++ r) (seen ++ r) (if inF k > most then inF k else most) (by simp at hle ⊢; omega) hnd'
    (fun y hy=>((hmem y).1 hy).elim (hp y) (fun h=>(hsc y h).1)) (fun y hy=>((hmem y).1 hy).elim (hr y) (fun h=>(hsc y h).2)) (List.mem_append_left _ hf)
    (fun x=>by
     rw [List.mem_append,hm x]
     simp only [List.mem_append,List.mem_singleton]
     constructor
     ·rintro ((h | h | h) | h)
      ·exact .inl (.inl h)
      ·exact .inr (.inl h)
      ·exact .inl (.inr h)
      ·exact .inr (.inr h)
     ·rintro ((h | h) | h | h)
      ·exact .inl (.inl h)
      ·exact .inl (.inr (.inr h))
      ·exact .inl (.inr (.inl h))
      ·exact .inr h)
    (by
     have hdis:∀ x ∈ r,¬ x ∈ seen:=fun x hx hs=>(List.nodup_append.1 hnd').2.2 x hs x hx rfl
     rw [List.nodup_append]
     refine ⟨?_,?_,?_⟩
     ·rw [List.nodup_append]
      exact ⟨hn3.1,by simp,fun a ha b hb=>by simp at hb; subst hb; exact fun e=>hkd (e ▸ ha)⟩
     ·rw [List.nodup_append]
      refine ⟨hn4.1,(List.nodup_append.1 hnd').2.1,fun a ha b hb e=>?_⟩
      subst e
      exact hdis a hb ((hm a).2 (.inr (by simp [ha])))
     ·intro a ha b hb e
      subst e
      rcases List.mem_append.1 hb with hb | hb
      ·rcases List.mem_append.1 ha with ha | ha
       ·exact hn3.2.2 a ha a (by simp [hb]) rfl
       ·rw [List.mem_singleton.1 ha] at hb
        exact hks hb
      ·refine hdis a hb ?_
       rcases List.mem_append.1 ha with ha | ha
       ·exact (hm a).2 (.inl ha)
       ·rw [List.mem_singleton.1 ha]; exact hk)
    (fun s hs t ht=>by
     rcases List.mem_append.1 hs with hs | hs
     ·exact List.mem_append_left _ (hcl s hs t ht)
     ·rw [List.mem_singleton.1 hs] at ht
      exact (hmem t).2 (.inr ht))
    (by rw [mx_app,hmx])
   refine ⟨l,dl,?_,hfin,hdl⟩
   rw [← hl]
   show st6_L7 2000 (p6_C10_1 (p6_L7 2000 m) 2000) most false (mpS seen) (st' ++ [k])=_
   have e0:(st' ++ [k]).length=st'.length + 1:=by simp
   have ew:IntKind.i64.wrap ((((st' ++ [k]).length:Nat):Int) - (1:Int))=((st'.length:Nat):Int):=by
    rw [wr (by rw [e0]; omega) (by rw [e0]; simp at hle; omega),e0]; omega
   have e1:decide ((0:Int) < (((st' ++ [k]).length:Nat):Int))=true:=by rw [e0]; exact decide_eq_true (by omega)
   have e2:decide (((st'.length:Nat):Int) < (((st' ++ [k]).length:Nat):Int))=true:=by rw [e0]; exact decide_eq_true (by omega)
   have e3:decide (((st'.length:Nat):Int)≤(((st' ++ [k]).length:Nat):Int))=true:=by rw [e0]; exact decide_eq_true (by omega)
   have e4:(((st'.length:Nat):Int) - 0).toNat=st'.length:=by omega
   have e5:(st' ++ [k]).getD st'.length dL=k:=by
    rw [List.getD_eq_getElem?_getD,List.getElem?_append_right (Nat.le_refl _)]
    simp
   have e6:(st' ++ [k]).take st'.length=st':=by rw [List.take_left]
   simp only [st6_L7]
   rw [ew]
   simp only [e1,e2,e3,e4,toNat_cast,ge_t,cond_true,e6,Int.le_refl,decide_true]
   rw [e5]
   show st6_C10_1 2000 (p6_L13 (p6_L7 2000 m) 2000 2000) most false most (mpS seen) st' k.1 k.2.1 k.2.2=_
   simp only [st6_C10_1]
   have f1:q19 2000 ((k.1,k.2.1,k.2.2),())=some ((inF k,()),()):=hfk.ini
   have f2:q20 2000 ((k.1,k.2.1,k.2.2),())=some ((false,()),()):=hfk.sti
   rw [f1,f2]
   simp only [Option.bind_some,cond_false]
   rw [hfk.len]
   have h13:=p6_L13_eq hc hN hT (p6_L7 2000 m) (if inF k > most then inF k else most) false k hpk 2000 0 (seen,st') (by omega) (by omega) hp hnd (by simp at hle ⊢; omega)
   simp only [Nat.sub_zero,hr1] at h13
   exact h13
end
end Go.Proofs.YtpcohpkflkhfbaaDoor.Rx.S

namespace Go.Proofs.YtpcohpkflkhfbaaDoor.Rx.S
open Go Go.Proofs.YtpcohpkflkhfbaaDoor.Rx Go.Proofs.YtpcohpkflkhfbaaDoor.Rx.Pu
set_option linter.unusedVariables false
set_option linter.unusedSimpArgs false
set_option maxRecDepth 100000
def Bys (l:List Int):Prop:=(∀ x ∈ l,0≤x∧x < 256)∧l.length≤2000
theorem Bys.get {l:List Int} (h:Bys l) (i:Nat):0≤l.getD i 0∧l.getD i 0 < 256:=by
 rw [List.getD_eq_getElem?_getD]
 cases hi:l[i]? with
 | none=>simp
 | some x=>exact h.1 x (List.mem_of_getElem? hi)
theorem p24_eq (n:Nat) {l:List Int} (hl:Bys l) {pos b:Int} (hp:0≤pos∧pos < 1000000) (hb:1≤b) :
  ∃ v:Int,p24 n (l,pos) b=some ((v,()),((l,pos + 1),()))∧0≤v∧v < b:=by
 have e1:IntKind.i64.wrap (pos + 1)=pos + 1:=wr (by omega) (by omega)
 have e2:IntKind.i64.wrap (pos + 1 - 1)=pos:=(wr (x:=pos + 1 - 1) (by omega) (by omega)).trans (by omega)
 have e3:IntKind.i64.wrap (pos * 7)=pos * 7:=wr (by omega) (by omega)
 have e4:IntKind.i64.wrap (pos * 7 + 3)=pos * 7 + 3:=wr (by omega) (by omega)
 have e5:IntKind.i64.wrap (pos * 29)=pos * 29:=wr (by omega) (by omega)
 have hlen:=hl.2
 show ∃ v:Int,st24_top n (l,pos) b=_∧_
 have hb1:¬ b < 1:=by omega
 have hb2:¬ b=0:=by omega
 simp only [st24_top,e1,e2,e3,e4,e5,hb1,hb2,decide_false,cond_false,Bool.not_false,cond_true]
 by_cases h0:(l.length:Int)=0
 ·simp only [h0,decide_true,cond_true]
  exact ⟨0,rfl,by omega,by omega⟩
 ·have hl1:(1:Int)≤l.length:=by omega
  simp only [h0,decide_false,cond_false,Bool.not_false,cond_true]
  by_cases h1:pos < (l.length:Int)
  ·have hp0:(0:Int)≤pos:=hp.1
   simp only [h1,hp0,decide_true,cond_true]
   have hg:=hl.get pos.toNat
   rw [wr (by omega) (by omega)]
   exact ⟨_,rfl,tmod_range hg.1 hb⟩
  ·simp only [h1,decide_false,cond_false]
   have t1:=tmod_range (a:=pos) (b:=l.length) hp.1 hl1
   have t2:=tmod_range (a:=pos * 7 + 3) (b:=l.length) (by omega) hl1
   have t3:=tdiv_range (a:=pos) (b:=l.length) hp.1 hl1
   simp only [t1.1,t1.2,t2.1,t2.2,decide_true,cond_true]
   have g1:=hl.get (pos.tmod l.length).toNat
   have g2:=hl.get ((pos * 7 + 3).tmod l.length).toNat
   generalize l.getD (pos.tmod l.length).toNat 0=y1 at *
   generalize l.getD ((pos * 7 + 3).tmod l.length).toNat 0=y2 at *
   generalize pos.tdiv l.length=q at *
   have w1:IntKind.i64.wrap y1=y1:=wr (by omega) (by omega)
   have w2:IntKind.i64.wrap (y1 * 131)=y1 * 131:=wr (by omega) (by omega)
   have w3:IntKind.i64.wrap y2=y2:=wr (by omega) (by omega)
   have w4:IntKind.i64.wrap (y2 * 1117)=y2 * 1117:=wr (by omega) (by omega)
   have w5:IntKind.i64.wrap (y1 * 131 + y2 * 1117)=y1 * 131 + y2 * 1117:=wr (by omega) (by omega)
   have w6:IntKind.i64.wrap (y1 * 131 + y2 * 1117 + pos * 29)=y1 * 131 + y2 * 1117 + pos * 29:=wr (by omega) (by omega)
   have w7:IntKind.i64.wrap q=q:=wr (by omega) (by omega)
   have w8:IntKind.i64.wrap (q * 53)=q * 53:=wr (by omega) (by omega)
   have w9:IntKind.i64.wrap (y1 * 131 + y2 * 1117 + pos * 29 + q * 53)=y1 * 131 + y2 * 1117 + pos * 29 + q * 53:=wr (by omega) (by omega)
   simp only [w1,w2,w3,w4,w5,w6,w7,w8,w9]
   have hS:0≤y1 * 131 + y2 * 1117 + pos * 29 + q * 53∧y1 * 131 + y2 * 1117 + pos * 29 + q * 53 < 1000000000000:=by omega
   generalize y1 * 131 + y2 * 1117 + pos * 29 + q * 53=S at *
   have hd:=tdiv_range (a:=S) (b:=64) hS.1 (by omega)
   have w10:IntKind.i64.wrap (S.tdiv 64)=S.tdiv 64:=wr (by omega) (by omega)
   simp only [w10]
   exact ⟨_,rfl,tmod_range (xor_small hS.1 (by omega) hd.1 (by omega)) hb⟩
theorem p23_eq (n:Nat) {l:List Int} (hl:∀ x ∈ l,0≤x∧x < 256):∃ l',p23 n l=some (((l',0),()),())∧Bys l':=by
 show ∃ l',st23_top n l=_∧_
 simp only [st23_top]
 by_cases h:(2000:Int) < l.length
 ·have h2:(2000:Int)≤l.length:=by omega
  simp only [h,h2,decide_true,cond_true]
  refine ⟨_,rfl,fun x hx=>hl x (List.mem_of_mem_take hx),?_⟩
  rw [List.length_take]
  exact Nat.min_le_left _ _
 ·simp only [h,decide_false,cond_false]
  exact ⟨_,rfl,hl,by omega⟩
theorem p7_eq {l:List Int} (hl:∀ x ∈ l,0≤x∧x < 256):∃ a b:Int,q7 2000 (l,())=some ((a,(b,())),()):=by
 show ∃ a b:Int,p7 2000 l=_
 obtain ⟨l',h0,hB⟩:=p23_eq 2000 hl
 obtain ⟨v1,h1,_⟩:=p24_eq 2000 hB (pos:=0) (b:=5) (by omega) (by omega)
 obtain ⟨v2,h2,_⟩:=p24_eq 2000 hB (pos:=0 + 1) (b:=4) (by omega) (by omega)
 have h0':q23 2000 (l,())=_:=h0
 have h1':q24 2000 ((l',0),5,())=_:=h1
 have h2':q24 2000 ((l',0 + 1),4,())=_:=h2
 refine ⟨v1,v2,?_⟩
 simp only [p7,st7_top]
 rw [h0']
 simp only [Option.bind_some]
 rw [h1']
 simp only [Option.bind_some]
 rw [h2']
 simp only [Option.bind_some]
structure Ans (a b:Int) where
 c:Int
 m:Int
 ok:Bool
 h5:q5 2000 (a,b,())=some ((c,(m,(false,(ok,())))),())
 h6:q6 2000 (a,b,())=some ((c,(m,(false,(ok,())))),())
 m1:ok=true→m=1
 cn:ok=true→a < c
theorem mx_same {T:BT} {N:Nat} {f:LkD} {l u:List LkD} (h:∀ x,x ∈ l↔x ∈ u):mx 0 l=mx 0 u :=
 Int.le_antisymm (mx_le mx_ge.1 (fun s hs=>mx_ge.2 s ((h s).1 hs))) (mx_le mx_ge.1 (fun s hs=>mx_ge.2 s ((h s).2 hs)))
theorem q8_eq (a b c:Int):q8 2000 (a,b,c,())=some ((decide (b≤a∧a≤c),()),()):=by
 show st8_top 2000 a b c=_
 by_cases h:b≤a <;> simp [st8_top,h]
theorem q16_eq (a b c:Int):q16 2000 (a,b,c,())=some ((decide (b≤a∧a≤c),()),()):=by
 show st16_top 2000 a b c=_
 by_cases h:b≤a <;> simp [st16_top,h]
theorem ans_of {T:BT} {N:Nat} {b:Int} {f:LkD} (hc:(T.all fun c=>okS T N (decS N c))=true) (hN:1≤N∧N≤3) (hb:1≤b∧b≤2) (hnb:¬ ((N:Int)=3∧b=2)) (hT:T.lst.length≤1000)
  (hf:PS T N f) (h9:q9 2000 ((N:Int),b,())=some ((f,(true,())),())) (h17:q17 2000 ((N:Int),b,())=some ((f,(true,())),()))
  (hin:∃ s,Rch N f s∧inF s=1) (hmany:∃ l:List LkD,l.Nodup∧l.length=N + 1∧∀ s ∈ l,Rch N f s):Nonempty (Ans N b):=by
 have hd1:∀ {α:Type} {x y:α},cond (!decide ((1:Int)≤(N:Int)∧(N:Int)≤3)) x y=y:=by intro α x y; rw [decide_eq_true (by omega)]; rfl
 have hd2:∀ {α:Type} {x y:α},cond (!decide ((1:Int)≤b∧b≤2)) x y=y:=by intro α x y; rw [decide_eq_true (by omega)]; rfl
 obtain ⟨l,hl,hfin⟩:=bfs hc hN.2 hT (f:=f) 2000 0 [f] 0 (by omega) (by omega) (by simp) (fun s hs=>by rw [List.mem_singleton.1 hs]; exact hf) (fun s hs=>by rw [List.mem_singleton.1 hs]; exact .base) (by simp) (fun j hj=>by omega) rfl
 obtain ⟨l',dl,hl',hfin',hdl⟩:=dfs hc hN.2 hT (f:=f) 2000 [] [f] [f] 0 (by simp) (by simp) (fun s hs=>by rw [List.mem_singleton.1 hs]; exact hf) (fun s hs=>by rw [List.mem_singleton.1 hs]; exact .base) (by simp) (fun x=>by simp) (by simp) (fun s hs=>by cases hs) rfl
 have hsame:=hfin.same hfin'
 have hlen:l.length=l'.length:=nodup_same hfin.nd hfin'.nd hsame
 have hmx:mx 0 l=mx 0 dl:=mx_same (T:=T) (N:=N) (f:=f) (fun x=>(hsame x).trans (hdl x))
 have hm1:mx 0 l=1:=by
  obtain ⟨s,hs,hs1⟩:=hin
  have h1:=mx_ge (l:=l) (m:=0)
  have h2:=h1.2 s (hfin.cl.all hs)
  have h3:mx 0 l≤1:=mx_le (by omega) (fun s hs=>(facts hc (hfin.ps s hs)).one)
  omega
 refine ⟨⟨l.length,mx 0 l,true,?_,?_,fun _=>hm1,fun _=>?_⟩⟩
 ·show p5 2000 N b=_
  simp only [p5,st5_top]
  rw [q8_eq,q8_eq]
  simp only [Option.bind_some]
  rw [hd1,hd2,h9]
  simp only [Option.bind_some]
  have hl2:p5_L8 2000 2000 (N:Int) (0:Int) false (0:Int) [(f.1,f.2.1,f.2.2)]=_:=hl
  rw [hl2]
  by_cases h3:(N:Int)=3
  ·have h4:¬ b=2:=fun e=>hnb ⟨h3,e⟩
   simp [h3,h4]
  ·simp [h3]
 ·show p6 2000 N b=_
  simp only [p6,st6_top]
  rw [q16_eq,q16_eq]
  simp only [Option.bind_some]
  rw [hd1,hd2,h17]
  simp only [Option.bind_some]
  have h18:q18 2000 ((f.1,f.2.1,f.2.2),())=_:=q18_ps hc hN.2 hf
  rw [h18]
  simp only [Option.bind_some]
  have hl2:p6_L7 2000 2000 (0:Int) false [(kyF f,true)] [(f.1,f.2.1,f.2.2)]=_:=hl'
  rw [hl2,hlen,hmx]
  by_cases h3:(N:Int)=3
  ·have h4:¬ b=2:=fun e=>hnb ⟨h3,e⟩
   simp [h3,h4]
  ·simp [h3]
 ·obtain ⟨u,hu,hul,hur⟩:=hmany
  have:=nodup_le hu (fun s hs=>hfin.cl.all (hur s hs))
  omega
end Go.Proofs.YtpcohpkflkhfbaaDoor.Rx.S

namespace Go.Proofs.YtpcohpkflkhfbaaDoor.Rx.S
open Go Go.Proofs.YtpcohpkflkhfbaaDoor.Rx Go.Proofs.YtpcohpkflkhfbaaDoor.Rx.Pu
set_option linter.unusedVariables false
set_option linter.unusedSimpArgs false
set_option maxRecDepth 100000
def fst0 (N:Nat) (b:Int):LkD:=(0,List.replicate N (0,0,b,false),[])
theorem ps0 {T:BT} {N:Nat} {b:Int} (h1:T.has (encS (fst0 N b))=true) (h2:fst0 N b=decS N (encS (fst0 N b))):PS T N (fst0 N b):=⟨_,BT.has_mem h1,h2⟩
theorem rch1 {N:Nat} {f:LkD} (hN:1≤N) (h:canF f 0=true):Rch N f (stF f 0):=.step .base (by omega) h
theorem ans11:Nonempty (Ans 1 1):=ans_of (T:=T11) (N:=1) (f:=fst0 1 1) chk11 (by omega) (by omega) (by omega) (of_decide_eq_true (by kernel_rfl)) (ps0 (by kernel_rfl) (by kernel_rfl)) (by kernel_rfl) (by kernel_rfl)
 ⟨_,rch1 (by omega) (by kernel_rfl),by kernel_rfl⟩ ⟨[fst0 1 1,stF (fst0 1 1) 0],of_decide_eq_true (by kernel_rfl),rfl,fun s hs=>by
  simp only [List.mem_cons,List.not_mem_nil,or_false] at hs
  rcases hs with rfl | rfl
  ·exact .base
  ·exact rch1 (by omega) (by kernel_rfl)⟩
theorem ans12:Nonempty (Ans 1 2):=ans_of (T:=T12) (N:=1) (f:=fst0 1 2) chk12 (by omega) (by omega) (by omega) (of_decide_eq_true (by kernel_rfl)) (ps0 (by kernel_rfl) (by kernel_rfl)) (by kernel_rfl) (by kernel_rfl)
 ⟨_,rch1 (by omega) (by kernel_rfl),by kernel_rfl⟩ ⟨[fst0 1 2,stF (fst0 1 2) 0],of_decide_eq_true (by kernel_rfl),rfl,fun s hs=>by
  simp only [List.mem_cons,List.not_mem_nil,or_false] at hs
  rcases hs with rfl | rfl
  ·exact .base
  ·exact rch1 (by omega) (by kernel_rfl)⟩
theorem ans21:Nonempty (Ans 2 1):=ans_of (T:=T21) (N:=2) (f:=fst0 2 1) chk21 (by omega) (by omega) (by omega) (of_decide_eq_true (by kernel_rfl)) (ps0 (by kernel_rfl) (by kernel_rfl)) (by kernel_rfl) (by kernel_rfl)
 ⟨_,rch1 (by omega) (by kernel_rfl),by kernel_rfl⟩ ⟨[fst0 2 1,stF (fst0 2 1) 0,stF (stF (fst0 2 1) 0) 1],of_decide_eq_true (by kernel_rfl),rfl,fun s hs=>by
  simp only [List.mem_cons,List.not_mem_nil,or_false] at hs
  rcases hs with rfl | rfl | rfl
  ·exact .base
  ·exact rch1 (by omega) (by kernel_rfl)
  ·exact .step (rch1 (by omega) (by kernel_rfl)) (by omega) (by kernel_rfl)⟩
theorem ans22:Nonempty (Ans 2 2):=ans_of (T:=T22) (N:=2) (f:=fst0 2 2) chk22 (by omega) (by omega) (by omega) (of_decide_eq_true (by kernel_rfl)) (ps0 (by kernel_rfl) (by kernel_rfl)) (by kernel_rfl) (by kernel_rfl)
 ⟨_,rch1 (by omega) (by kernel_rfl),by kernel_rfl⟩ ⟨[fst0 2 2,stF (fst0 2 2) 0,stF (stF (fst0 2 2) 0) 1],of_decide_eq_true (by kernel_rfl),rfl,fun s hs=>by
  simp only [List.mem_cons,List.not_mem_nil,or_false] at hs
  rcases hs with rfl | rfl | rfl
  ·exact .base
  ·exact rch1 (by omega) (by kernel_rfl)
  ·exact .step (rch1 (by omega) (by kernel_rfl)) (by omega) (by kernel_rfl)⟩
theorem ans31:Nonempty (Ans 3 1):=ans_of (T:=T31) (N:=3) (f:=fst0 3 1) chk31 (by omega) (by omega) (by omega) (of_decide_eq_true (by kernel_rfl)) (ps0 (by kernel_rfl) (by kernel_rfl)) (by kernel_rfl) (by kernel_rfl)
 ⟨_,rch1 (by omega) (by kernel_rfl),by kernel_rfl⟩ ⟨[fst0 3 1,stF (fst0 3 1) 0,stF (stF (fst0 3 1) 0) 1,stF (stF (fst0 3 1) 0) 2],of_decide_eq_true (by kernel_rfl),rfl,fun s hs=>by
  simp only [List.mem_cons,List.not_mem_nil,or_false] at hs
  rcases hs with rfl | rfl | rfl | rfl
  ·exact .base
  ·exact rch1 (by omega) (by kernel_rfl)
  ·exact .step (rch1 (by omega) (by kernel_rfl)) (by omega) (by kernel_rfl)
  ·exact .step (rch1 (by omega) (by kernel_rfl)) (by omega) (by kernel_rfl)⟩
theorem ans_no {a b:Int} (h:¬ (1≤a∧a≤3)∨¬ (1≤b∧b≤2)∨(a=3∧b=2)):Nonempty (Ans a b):=by
 refine ⟨⟨0,0,false,?_,?_,(fun h=>by cases h),(fun h=>by cases h)⟩⟩
 ·show p5 2000 a b=_
  simp only [p5,st5_top]
  rw [q8_eq,q8_eq]
  simp only [Option.bind_some]
  by_cases h1:1≤a∧a≤3
  ·by_cases h2:1≤b∧b≤2
   ·obtain ⟨h3,h4⟩:a=3∧b=2:=by omega
    subst h3; subst h4
    simp
   ·simp only [h1,h2,and_self,decide_true,decide_false,Bool.not_true,Bool.not_false,cond_true,cond_false]
  ·simp only [h1,decide_false,Bool.not_false,cond_true]
 ·show p6 2000 a b=_
  simp only [p6,st6_top]
  rw [q16_eq,q16_eq]
  simp only [Option.bind_some]
  by_cases h1:1≤a∧a≤3
  ·by_cases h2:1≤b∧b≤2
   ·obtain ⟨h3,h4⟩:a=3∧b=2:=by omega
    subst h3; subst h4
    simp
   ·simp only [h1,h2,and_self,decide_true,decide_false,Bool.not_true,Bool.not_false,cond_true,cond_false]
  ·simp only [h1,decide_false,Bool.not_false,cond_true]
theorem ans (a b:Int):Nonempty (Ans a b):=by
 by_cases h:¬ (1≤a∧a≤3)∨¬ (1≤b∧b≤2)∨(a=3∧b=2)
 ·exact ans_no h
 ·have h':(a=1∨a=2∨a=3)∧(b=1∨b=2)∧¬ (a=3∧b=2):=by omega
  rcases h' with ⟨rfl | rfl | rfl,rfl | rfl,h3⟩
  ·exact ans11
  ·exact ans12
  ·exact ans21
  ·exact ans22
  ·exact ans31
  ·exact absurd ⟨rfl,rfl⟩ h3
theorem law3 (a b:Int):q3 2000 (a,b,())=some ((true,()),()):=by
 obtain ⟨A⟩:=ans a b
 show p3 2000 a b=_
 simp only [p3,st3_top]
 rw [A.h5]
 simp only [Option.bind_some]
 rw [A.h6]
 simp
theorem law4 (l:List Int) (hl:∀ x ∈ l,0≤x∧x < 256):q4 2000 (l,())=some ((true,()),()):=by
 show p4 2000 l=_
 obtain ⟨a,b,h7⟩:=p7_eq hl
 obtain ⟨A⟩:=ans a b
 simp only [p4,st4_top]
 rw [h7]
 simp only [Option.bind_some]
 rw [A.h6]
 simp only [Option.bind_some]
 rw [A.h5]
 cases hb:decide ((1048576:Int) < ((List.length l:Nat):Int)) with
 | true=>simp
 | false =>
  cases hok:A.ok with
  | false=>simp
  | true =>
   have h1:=A.m1 hok
   have h2:=A.cn hok
   simp [h1,h2]
theorem u8_wf {x:Int} (h:(Lit.int .u8 x).wf=true):0≤x∧x < 256:=by
 simp only [Lit.wf,Bool.and_eq_true,decide_eq_true_eq,IntKind.min,IntKind.max,IntKind.signed,IntKind.bits,Bool.false_eq_true,if_false] at h
 omega
theorem bytes_wf {xs:List Int} (h:WfT (.row 5 (.int .u8)) xs):∀ x ∈ xs,0≤x∧x < 256:=fun x hx=>u8_wf (h.2 x hx)
theorem pure3 (a b:Int) (ha:(Lit.int .i64 a).wf=true) (hb:(Lit.int .i64 b).wf=true):∃ n o,q3 n (a,b,())=some ((true,()),o):=⟨2000,(),law3 a b⟩
theorem pure4 (l:List Int) (h:WfT (.row 5 (.int .u8)) l):∃ n o,q4 n (l,())=some ((true,()),o):=⟨2000,(),law4 l (bytes_wf h)⟩
end Go.Proofs.YtpcohpkflkhfbaaDoor.Rx.S

