/- No cry at a stand that is offered mends two of the gaps that are apart, so that there are never more of them than further cries are needed; each other gap is mended by a cry that mends one of them; a gap is stuck just if none of these stands is jM near enough to its jN; and with all stands none is; for every list of numbers, evening and stands. -/
import Derived.Test.YtppbomajegnkeaaGreatPj
import Derived.Test.YtppbomajegnkeaaGreatPh
import Derived.Test.YtppbomajegnkeaaGreatPi
import Derived.Test.YtppbomajegnkeaaGreatPd
import Derived.Test.YtppbomajegnkeaaGreatPe
set_option linter.unusedVariables false
set_option linter.unusedSimpArgs false
set_option linter.unusedSectionVars false
set_option maxRecDepth 10000
set_option maxHeartbeats 4000000
open Nat (beq ble blt)
open List (map replicate take drop range length filter)
open Go.Eng.PV (own agg addr func sl bor tup omap bad bool int)
namespace Go.Eng
open Go Go.Proofs
def mdC(n:Nw)(cs:LP)(e:Nat)(i:Nat)(s:Int):LP:=zC0 n (zAy n (cs++[((i:Int),s)]) e) (zAA n (zAy n cs e))
def zRu(A C:LP)(k:Nat):Nat:=((A.take k).filter fun x=>has C x).length
theorem zVl{A C:LP}{k:Nat}(h:k<A.length):zRu A C (k+1)=zRu A C k+(if has C (A.getD k d0)=true then 1 else 0):=by
 unfold zRu;rw[zB5 (d:=d0) h,dv,bu];congr 1;by_cases hc:has C (A.getD k d0)=true
 ·rw[if_pos hc,cq hc];rfl
 ·rw[if_neg hc,bV hc];rfl
theorem zYX{A C:LP}{k:Nat}:zRu A C k<=k:=bB (bC _ _) (List.length_take_le _ _)
theorem zRX{A C:LP}:zRu A C A.length=(A.filter fun x=>has C x).length:=by
 unfold zRu;rw[bw (bf _)]
theorem zUJ{n:Nw}{e:Int}{st:LI}{h:Int}{j:Nat}(hj:j<st.length):zWB n e (st.take (j+1)) h=(zWB n e (st.take j) h&&decide ((awL n (n.s.getD (st.getD j 0).toNat [])).getD h.toNat 0>min e (n.h-1))):=by
 unfold zWB;rw[zB5 (d:=0) hj,fB,cF,iS,fb]
def mtI(MD:Nat->Int->LP)(A:LP)(q:LI)(M:List Mp)(i j:Nat):Prop:=∀ z i' j',(i'<i/\j'<q.length\/i'=i/\j'<j)->has (MD i' (q.getD j' 0)) z=true->0<zRu A (MD i' (q.getD j' 0)) A.length->atM M z=true
theorem zXh{MD:Nat->Int->LP}{A:LP}{q:LI}{M:List Mp}:mtI MD A q M 0 0:=fun z i' j' h=>by omega
theorem zYk{MD:Nat->Int->LP}{A:LP}{q:LI}{M:List Mp}{i:Nat}(h:mtI MD A q M i q.length):mtI MD A q M (i+1) 0:=fun z i' j' h2=>h z i' j' (by omega)
theorem zXJ{MD:Nat->Int->LP}{A:LP}{q:LI}{M:List Mp}{i j:Nat}(h:mtI MD A q M i j):mtI MD A q (zWu M (decide ((zRu A (MD i (q.getD j 0)) A.length:Int)>0)) (MD i (q.getD j 0))) i (j+1):=fun z i' j' h2 h3 h4=>by
 rw[zSn,bW];by_cases hc:i'=i/\j'=j
 ·obtain⟨rfl,rfl⟩:=hc;refine .inr ?_;rw[h3,fb,decide_eq_true_eq];omega
 ·exact .inl (h z i' j' (by omega) h3 h4)
theorem zYx{MD:Nat->Int->LP}{A:LP}{q:LI}{M:List Mp}{N:Nat}(h:mtI MD A q M N 0){z:Int×Int}(hz:∃ i,i<N/\∃ s∈q,has (MD i s) z=true/\0<zRu A (MD i s) A.length):atM M z=true:=by
 obtain⟨i,hi,s,hs,h1,h2⟩:=hz;obtain⟨j,hj,rfl⟩:=List.mem_iff_getElem.1 hs;rw[<- zAu (d:=(0:Int)) hj] at h1 h2;exact h z i j (.inl ⟨hi,hj⟩) h1 h2
theorem zZd(a b:Int):min a b=if b<a then b else a:=by split<;>omega
theorem f14(nums crs:LI)(whe whr:Int)(vp:nums.length<9223372036854775808)(vR:crs.length<9223372036854775808)(qt:0<=whe/\whe<=255)(hw3:0<=whr/\whr<=255):FG 14 [.sl (nums.map u8),.sl (crs.map u8),.int .u8 whe,.int .u8 whr] (.bool true):=by
 obtain⟨v1,h1,kU,n,a1,t1,rfl,rfl,herr,hH,hN,hS,ya⟩:=f48_ex nums 0 0 7 5 4 ⟨bN _,vp⟩ (by omega) (by omega) (by omega);have ho:=zXC herr;have vS:=ho.nl;have gY:=ho.sl;have hHH:=ho.h;obtain⟨v2,h2,wj,cs,a2,t2,rfl,rfl,yN,kM,j0⟩:=f50_ex n crs 0 0 6 ho ⟨bN _,vR⟩ (by omega);have m5:=Int.tmod_nonneg (6:Int) qt.1;have m6:=Int.tmod_lt_of_pos whe (show(0:Int)<6 by omega);have u5:=f17;have wL:=zZN herr (by omega) kM;have kO:=wL.w;have yy:=zZK wL (e:=(whe.tmod 6)) ⟨m5,by omega⟩;have hlf:=f22_1 n cs (whe.tmod 6) yy;have vm:=zCY (w:=zAy n cs (whe.tmod 6).toNat) ho;refine zAd Tryz.f14 ?_;refine zAj 1<|zAl 1<|S_a [(6,.ret (zB8 nums 0 0) [])] (ap (f49 nums) an)<|S_a [(10,.ret (nwO n) ([zB8 nums a1 t1]))] (ap kU an)<|zAm 1<|S_a [(3,.v (agg [I n.h,prs n.l,sl (map ntV n.n),sl (map zBT n.s)]))] (ap ((by simp only[show zAt (map prV n.l)=map prV n.l from(by first|exact zAs _|exact zAE _|exact zAx _|exact zAY (zAE _)|exact zAY (zAx _)|exact zB7 (by simp[zBF]) (zAs _)),show zAt (map ntV n.n)=map ntV n.n from(by first|exact zAs _|exact zAE _|exact zAx _|exact zAY (zAE _)|exact zAY (zAx _)|exact zB7 (by simp[zBF]) (zAs _)),show zAt (map zLt n.s)=map zBT n.s from(by first|exact zAs _|exact zAE _|exact zAx _|exact zAY (zAE _)|exact zAY (zAx _)|exact zB7 (by simp[zBF]) (zAs _))]):agg [I n.h,sl (zAt (map prV n.l)),sl (zAt (map ntV n.n)),sl (zAt (map zLt n.s))]=agg [I n.h,prs n.l,sl (map ntV n.n),sl (map zBT n.s)]) an)<|zA3<|zAl 1<|S_a [(6,.ret (zB8 crs 0 0) [])] (ap (f49 crs) an)<|zAm 1<|S_a [(8,.ret (own 2 (map prV cs)) ([zB8 crs a2 t2]))] (ap wj an)<|S_g 1<|zAl 1<|S_a [(0,.v (I whe))] (ap ((zBW rfl (by omega)):I (IntKind.i64.wrap whe)=I whe) an)<|S_g 2<|zAj 2<|zAc<|zAl 2<|S_a [(0,.n n.s.length)] (ap (lnS zBT n.s) an)<|S_g 1<|zAf 0 ?_
 refine zAr (fun(s,a,q)=>s<=n.s.length/\a=zGa (fun _=>true) s/\(q.length<=s/\q.Nodup/\∀ x∈q,0<=x/\x<s)) (fun((s:Nat),(a:LI),(q:LI))=>[(12,.own 1 (a.map I)),(13,.own 1 (q.map I)),(54,I (s:Nat))]) (fun(s,_,_)=>n.s.length-s) ((0:Nat),([]:LI),([]:LI)) ⟨bN _,rfl,by simp⟩ fun(s,a,q) ⟨hs,ha,kb,jx,qo⟩=>?_;have jz:a.length=s:=by rw[ha];simp only[zGa,be,dl.2 (fun _ _=>rfl),ig]
 by_cases jP:s<n.s.length
 ·have hq4:(q++[(s:Int)]).Nodup/\∀ x∈q++[(s:Int)],0<=x/\x<((s+1:Nat):Int):=by
   refine⟨?_,fun x hx=>?_⟩
   ·rw[bK];refine⟨jx,by simp,fun a ha b hb=>?_⟩;have:=qo a ha;rw[bk] at hb;omega
   ·rcases bj.1 hx with h|h
    ·have:=qo x h;omega
    ·rw[bk] at h;omega
  have hq5:∀ x∈q,0<=x/\x<((s+1:Nat):Int):=fun x hx=>by have:=qo x hx;omega
  have yM:zGa (fun _=>true) (s+1)=a++[(s:Int)]:=by rw[zLA,if_pos rfl,ha]
  have j5:(BitVec.ofInt IntKind.i64.bits (whr.fdiv (2 ^ min ((s:Int)).toNat IntKind.i64.bits)) &&& BitVec.ofInt IntKind.i64.bits 1).toNat<=1:=by
   rw[BitVec.toNat_and];exact bB Nat.and_le_right (by decide)
  clear qo ha;refine zAj 1<|zAc<|zAM ((s:Int)<(n.s.length:Int)) (by omega)<|zAh<|zAc<|zAf 1<|zAj 2<|zAl 3<|S_a [(4,.ob),(0,.ob),(0,.yes),(2,.v (own 1 (map I (a++[(s:Int)]))))] (ap (blz (map I a))<|ap ((by exact zAR (by simp only[be,zzLn,zAO]<;>omega)):((map I a).length + [I (s:Int)].length).ble zAO=true)<|ap ((by exact zBq (by simp<;>omega)):(0+(map I a).length).beq (map I a).length=true)<|ap ((zAT (zBE (by kernel_rfl))):own 1 (map I a++[I (s:Int)])=own 1 (map I (a++[(s:Int)]))) an)<|S_g 1<|zAl 1<|S_a [(0,.v (I whr))] (ap ((zBW rfl (by omega)):I (IntKind.i64.wrap whr)=I whr) an)<|zAm 2<|S_a [(1,.v (I (↑(BitVec.ofInt IntKind.i64.bits (whr.fdiv (2 ^ min (s:Int).toNat IntKind.i64.bits)) &&& BitVec.ofInt IntKind.i64.bits 1).toNat:Int)))] (ap ((zBW rfl (by omega)):I (IntKind.i64.wrap (↑(BitVec.ofInt IntKind.i64.bits (whr.fdiv (2 ^ min (s:Int).toNat IntKind.i64.bits)) &&& BitVec.ofInt IntKind.i64.bits 1).toNat:Int))=I (↑(BitVec.ofInt IntKind.i64.bits (whr.fdiv (2 ^ min (s:Int).toNat IntKind.i64.bits)) &&& BitVec.ofInt IntKind.i64.bits 1).toNat:Int)) an)<|S_g 1<|zCN ((↑(BitVec.ofInt IntKind.i64.bits (whr.fdiv (2 ^ min (s:Int).toNat IntKind.i64.bits)) &&& BitVec.ofInt IntKind.i64.bits 1).toNat:Int)=0) (fun k0=>(zAb<|zAm 3<|S_a [(4,.ob),(0,.ob),(0,.yes),(2,.v (own 1 (map I (q++[(s:Int)]))))] (ap (blz (map I q))<|ap ((by exact zAR (by simp only[be,zzLn,zAO]<;>omega)):((map I q).length + [I (s:Int)].length).ble zAO=true)<|ap ((by exact zBq (by simp<;>omega)):(0+(map I q).length).beq (map I q).length=true)<|ap ((zAT (zBE (by kernel_rfl))):own 1 (map I q++[I (s:Int)])=own 1 (map I (q++[(s:Int)]))) an)<|S_g 1<|zAb<|S_i s<|S_g 1 ?_)) (fun k0=>(zAh<|zAb<|S_i s<|S_g 1 ?_))
  ·exact rnd (s+1,a++[(s:Int)],q++[(s:Int)]) ⟨by omega,yM.symm,by rw[bu,bT];omega,hq4⟩ (by simp only;omega)
  ·exact rnd (s+1,a++[(s:Int)],q) ⟨by omega,yM.symm,by omega,jx,hq5⟩ (by simp only;omega)
 have yD:∀ x∈q,0<=x/\x<n.s.length:=fun x hx=>by have:=qo x hx;omega
 have jh:s=n.s.length:=by omega
 have yj:∀ x∈a,0<=x/\x<n.s.length:=fun x hx=>by
  rw[ha] at hx;obtain⟨j,h1,_,rfl⟩:=zM8.1 hx;omega
 have ja:∀ j:Nat,j<n.s.length->(j:Int)∈a:=fun j hj=>by rw[ha];exact zM8.2 ⟨j,by omega,rfl,rfl⟩
 have hand:a.Nodup:=by
  rw[ha];unfold zGa;rw[List.nodup_iff_pairwise_ne,il];exact(fI.sublist dI).imp fun{x y} h e=>by omega
 have offs:∀ st:LI,st.Nodup->(∀ x∈st,0<=x/\x<n.s.length)->OffOk n cs (whe.tmod 6) st:=fun st y6 hr=>zZg (by
  have h0:=yy.err;have hin:(!st.all fun x=>inB x 0 (n.s.length-1))=false:=by
   rw[bE,bi];intro x hx;have:=hr x hx;simp only[inB,bb,decide_eq_true_eq];omega
  simp only[zP7,h0,hin,y6,if_true,bp,if_false])
 have uN:=offs q jx yD;have hofa:=offs a hand yj;have c1:=f57_1 n cs (whe.tmod 6) q uN;have c2:=f44_1 n cs (whe.tmod 6) q uN (by omega);have c3:=f44_1 n cs (whe.tmod 6) a hofa (by omega);have c4:=f73_1 n cs (whe.tmod 6) q uN;rw[zVZ kO (by omega) yj ja] at c3;have qW:∃ (l:LP) (x:Int),FG 57 [nwV n,prs cs,I (whe.tmod 6),zBT q] (.tup [.own 2 (l.map prV),I x])/\(x=0/\(apL n cs (whe.tmod 6).toNat q).length<=l.length\/x=6)/\l.length<=640:=by
  cases yE:zR5 n cs (whe.tmod 6).toNat q n.n.length with
  |true=>
   rw[yE,if_pos rfl,if_pos rfl] at c1;have uH:=zOD (cs:=cs) (e:=(whe.tmod 6).toNat) (st:=q) ho n.n.length;exact⟨_,0,c1,.inl ⟨rfl,zYn kO (by omega) yD yE⟩,by omega⟩
  |false=>
   rw[yE] at c1;exact⟨[],6,c1,.inr rfl,by simp⟩
 obtain⟨F,x,hfe,hx,hFl⟩:=qW;clear c1;have hA0:=zVF (n:=n) (cs:=cs) (e:=(whe.tmod 6).toNat) (st:=q);have hAl:(apL n cs (whe.tmod 6).toNat q).length<=80:=bB (zO1 _ _) vm;have hAp:∀ i:Nat,i<n.n.length->∀ s∈q,zRu (apL n cs (whe.tmod 6).toNat q) (mdC n cs (whe.tmod 6).toNat i s) (apL n cs (whe.tmod 6).toNat q).length<=1:=fun i hi s hs=>by rw[zRX];exact zXg hi hs
 have hAo:∀ z∈zAA n (zAy n cs (whe.tmod 6).toNat),has (apL n cs (whe.tmod 6).toNat q) z=false->∃ i,i<n.n.length/\∃ s∈q,has (mdC n cs (whe.tmod 6).toNat i s) z=true/\0<zRu (apL n cs (whe.tmod 6).toNat q) (mdC n cs (whe.tmod 6).toNat i s) (apL n cs (whe.tmod 6).toNat q).length:=fun z hz hn=>by
  obtain⟨i,hi,s,hs,g1,g2⟩:=zUP (st:=q) hz (fun h=>by rw[zD2.2 h] at hn;cases hn);exact⟨i,hi,s,hs,zD2.2 g1,by rw[zRX];exact g2⟩
 have hSk:∀ z∈zAA n (zAy n cs (whe.tmod 6).toNat),(has (zUl n cs (whe.tmod 6).toNat (zAA n (zAy n cs (whe.tmod 6).toNat)) q) z=zWB n (whe.tmod 6) q z.1):=fun z hz=>by
  have:=zXK kO (by omega) yD hz;rwa[show(((whe.tmod 6).toNat:Nat):Int)=whe.tmod 6 by omega] at this
 have hGi:∀ z∈zAA n (zAy n cs (whe.tmod 6).toNat),0<=z.1/\z.1<n.h:=fun z hz=>(zMj z hz).1;have hskl:(zUl n cs (whe.tmod 6).toNat (zAA n (zAy n cs (whe.tmod 6).toNat)) q).length<=80:=bB (bC _ _) vm;have hmd:∀ (i:Nat) (s:Int),i<n.n.length->s∈q->FG 42 [nwV n,prs cs,I (whe.tmod 6),prV ((i:Int),s)] (.tup [.own 2 ((mdC n cs (whe.tmod 6).toNat i s).map prV),I 0]):=fun i s hi hs=>by
  have:=yD s hs;exact f42_1 n cs (whe.tmod 6) ((i:Int),s) yy (by simp only[zHp,inB,bb,decide_eq_true_eq];omega)
 have qp:∀ (i:Nat) (s:Int),(mdC n cs (whe.tmod 6).toNat i s).length<=80:=fun i s=>bB (bC _ _) vm;clear uN hofa offs ja hand qo kM wL yy kU wj kO ha yj;generalize apL n cs (whe.tmod 6).toNat q=A at *;generalize zUl n cs (whe.tmod 6).toNat (zAA n (zAy n cs (whe.tmod 6).toNat)) q=S at *;generalize zAA n (zAy n cs (whe.tmod 6).toNat)=G at *;generalize mdC n cs (whe.tmod 6).toNat=MD at *;refine zAj 1<|zAc ?_
 refine zAQ ((s:Int)<n.s.length) (by omega)<|zOw 0 ([(3,.int .u8 whr),(9,.box (nwV n)),(10,.sl (zAt (cs.map prV))),(11,I (whe.tmod 6)),(12,.sl (zAt (a.map I))),(13,.sl (zAt (q.map I))),(53,I n.s.length),(54,I (s:Nat)),(55,.bool (decide ((s:Int)<n.s.length)))]) ([(3,.int .u8 whr),(9,.box (nwV n)),(10,.sl (cs.map prV)),(11,I (whe.tmod 6)),(12,.sl (a.map I)),(13,.sl (q.map I)),(53,I n.s.length),(54,I (s:Nat)),(55,.bool (decide ((s:Int)<n.s.length)))]) (by rw[zAs cs,zAs a,zAs q]) ?_
 refine zFJ (fun(_:Nat)=>True) (fun(_:Nat)=>[(15,.own 2 (G.map prV)),(16,I 0),(72,.tup [.bad,.bad]),(76,.tup [.bad,.bad]),(2001153,I 0)]) [] ?_ fun _ _=>?_
 ·refine zAb<|zAm 3<|S_a [(10,.ret (tup [own 2 (map prV G),I 0]) [])] (ap hlf an)<|S_g 5 ?_
  exact⟨0,trivial,by kernel_rfl,by kernel_rfl⟩
 refine zFJ (fun(_:Nat)=>True) (fun(_:Nat)=>[(17,.own 2 (A.map prV)),(18,I 0),(79,.tup [.bad,.bad]),(84,.tup [.bad,.bad]),(2001265,I 0)]) [] ?_ fun _ _=>?_
 ·refine zAb<|zAm 4<|S_a [(12,.ret (tup [own 2 (map prV A),I 0]) [])] (ap c4 an)<|S_g 5 ?_
  exact⟨0,trivial,by kernel_rfl,by kernel_rfl⟩
 refine zFJ (fun(_:Nat)=>True) (fun(_:Nat)=>[(19,.own 2 (F.map prV)),(20,I x),(87,.tup [.bad,.bad]),(92,.tup [.bad,.bad]),(2001393,I x)]) [] ?_ fun _ _=>?_
 ·refine zAb<|zAm 4<|S_a [(12,.ret (tup [own 2 (map prV F),I x]) [])] (ap hfe an)<|S_g 5 ?_
  exact⟨0,trivial,by kernel_rfl,by kernel_rfl⟩
 refine zFJ (fun(_:Nat)=>True) (fun(_:Nat)=>[(21,.sl (S.map prV)),(22,I 0),(95,.tup [.bad,.bad]),(100,.tup [.bad,.bad]),(101,.sl (S.map prV)),(2001520,.sl (S.map prV)),(2001521,I 0)]) [] ?_ fun _ _=>?_
 ·cases S with
  |nil=>
   refine zAb<|zAm 4<|S_a [(12,.ret (tup [sl (map prV []),I 0]) [])] (ap c2 an)<|S_g 5 ?_
   exact⟨0,trivial,by kernel_rfl,by kernel_rfl⟩
  |cons y S=>
   have vC:(tup [sl ((y::S).map prV),I 0]).free=false:=rfl;refine zAb<|zAm 4<|S_a [(12,.ret (tup [prs (y::S),I 0]) [])] (ap c2 an)<|zAm 3<|zAm 1<|S_g 1 ?_
   exact⟨0,trivial,by kernel_rfl,by kernel_rfl⟩
 refine zFJ (fun(_:Nat)=>True) (fun(_:Nat)=>[(103,.tup [.bad,.bad]),(108,.tup [.bad,.bad]),(109,.sl []),(117,.bool false),(2001648,.sl []),(2001649,I 0)]) [12] ?_ fun _ _=>?_
 ·refine zAl 4<|S_a [(12,.ret (tup [sl (map prV []),I 0]) [])] (ap c3 an)<|S_g 5<|zAl 4<|zAm 1<|S_g 2<|zAB<|zAh ?_
  exact⟨0,trivial,by kernel_rfl,by kernel_rfl⟩
 have qJ:(!((A.length:Int)==0)==((G.length:Int)==0))=false:=by
  by_cases h0:A.length=0
  ·rw[h0,hA0.1 h0];rfl
  ·have h1:¬ G.length=0:=fun h=>h0 (hA0.2 h);have e1:((A.length:Int)==0)=false:=by rw[Bool.eq_false_iff,ne_eq,beq_iff_eq];omega
   have e2:((G.length:Int)==0)=false:=by rw[Bool.eq_false_iff,ne_eq,beq_iff_eq];omega
   rw[e1,e2];rfl
 refine zFJ (fun(_:Nat)=>True) (fun(_:Nat)=>[(155,.bool (!((A.length:Int)==0)==((G.length:Int)==0)))]) [16,18,19,20,22] ?_ fun _ _=>?_
 ·rcases hx with⟨rfl,hAF⟩|rfl
  ·refine zAl 23<|S_a [(0,.n A.length)] (ap (lnS prV A) an)<|zAm 1<|S_a [(0,.n F.length)] (ap (lnS prV F) an)<|zAm 4<|zMS 147 ((A.length:Int)>(F.length:Int)) (by omega) (zAm 1<|S_a [(0,.n A.length)] (ap (lnS prV A) an)<|zAm 2<|S_a [(0,.n G.length)] (ap (lnS prV G) an)<|S_g 3<|zEx (!((A.length:Int)==0)==((G.length:Int)==0)) (fun k0=>(zAj 1<|zAn<|E_a [] an (bool false) [] ?_ rfl)) (fun k0=>(zAh ?_)))
   ·exfalso;rw[qJ] at k0;cases k0
   ·exact⟨0,trivial,by kernel_rfl,by kernel_rfl⟩
  ·refine zAl 31<|S_a [(0,.n A.length)] (ap (lnS prV A) an)<|zAm 2<|S_a [(0,.n G.length)] (ap (lnS prV G) an)<|S_g 3<|zEx (!((A.length:Int)==0)==((G.length:Int)==0)) (fun k0=>(zAj 1<|zAn<|E_a [] an (bool false) [] ?_ rfl)) (fun k0=>(zAh ?_))
   ·exfalso;rw[qJ] at k0;cases k0
   ·exact⟨0,trivial,by kernel_rfl,by kernel_rfl⟩
 clear qJ hx hA0 hfe c4 c3 c2 hlf;refine zAj 2<|zAc<|zAl 2<|S_a [(0,.n n.n.length)] (ap (lnS ntV n.n) an)<|S_g 1<|zAf 2 ?_
 refine zAr (fun(i,M)=>i<=n.n.length/\mtI MD A q M i 0) (fun((i:Nat),(M:List Mp))=>[(25,.omap (M.map mpV)),(160,I (i:Nat))]) (fun(i,_)=>n.n.length-i) ((0:Nat),([]:List Mp)) ⟨bN _,zXh⟩ fun(i,M) ⟨hi,hM⟩=>?_;by_cases yR:i<n.n.length
 ·clear hAo hSk hGi;refine zAj 1<|zAc<|zAM ((i:Int)<(n.n.length:Int)) (by omega)<|zAh<|zAc<|zAf 3<|zAj 2<|zAl 1<|S_a [(0,.n q.length)] (ap (lnS I q) an)<|S_g 1<|zAf 4 ?_
  refine zAr (fun(j,M)=>j<=q.length/\mtI MD A q M i j) (fun((j:Nat),(M:List Mp))=>[(25,.omap (M.map mpV)),(165,I (j:Nat))]) (fun(j,_)=>q.length-j) ((0:Nat),M) ⟨bN _,hM⟩ fun(j,M1) ⟨hj,wC⟩=>?_;clear hM;by_cases y9:j<q.length
  ·have hsq:q.getD j 0∈q:=by rw[zAu y9];exact cM y9
   have wi:=hmd i (q.getD j 0) yR hsq;have hpr:=hAp i yR (q.getD j 0) hsq;have yM:=zXJ wC;have yN:=qp i (q.getD j 0);have yT:=yD _ hsq;clear wC hmd hAp qp yD hsq;refine zAj 1<|zAc<|zAM ((j:Int)<(q.length:Int)) (by omega)<|zAh<|zAc<|zAf 5<|zAc<|zAb<|S_a [(2,.v (I (q.getD j 0)))] (ap (zBN (0) (by omega):(map I q)[j]? = some (I (q.getD j 0))) an)<|S_g 2<|zAl 6<|S_a [(12,.ret (tup [own 2 (map prV (MD i (q.getD j 0))),I 0]) [])] (ap wi an)<|S_g 5<|zAc<|zAj 2<|zAB<|zAh<|zAj 1<|zAc<|zAl 1<|S_a [(0,.n A.length)] (ap (lnS prV A) an)<|S_g 1<|zAf 6 ?_
   refine zAr (fun(k,m)=>k<=A.length/\m=zRu A (MD i (q.getD j 0)) k) (fun((k:Nat),(m:Nat))=>[(31,I (m:Nat)),(183,I (k:Nat))]) (fun(k,_)=>A.length-k) ((0:Nat),(0:Nat)) ⟨bN _,rfl⟩ fun(k,m) ⟨hk,hm⟩=>?_;have vg:m<=k:=by rw[hm];exact zYX
   by_cases vd:k<A.length
   ·have uB:=zVl (C:=MD i (q.getD j 0)) vd;rw[<- hm] at uB;clear hm yM wi;refine zAj 1<|zAc<|zAM ((k:Int)<(A.length:Int)) (by omega)<|zAh<|zAc<|zAf 7<|zAc<|zAb<|S_a [(2,.ob),(1,.n k)] (ap ((by exact zAp (by simp only[be,zzLn]<;>omega)):decide (k<(map prV A).length)=true)<|ap ((by simp):some (0+k)=some k) an)<|S_a [(0,.cs true ([I (A.getD k d0).fst,I (A.getD k d0).snd]))] (ap (zCn (q:=own 2 (map prV A)) (xs:=map prV A) (x:=prV (A.getD k d0)) rfl (zBN d0 (by omega)):zAq 17 (own 2 (map prV A)) [] k 0 Tryz.prog.types[108].size=some (true,[I (A.getD k d0).fst,I (A.getD k d0).snd])) an)<|S_g 2<|zAl 2<|S_a [(3,.ob),(0,.v (prs (MD i (q.getD j 0)))),(4,.ret (bool (has (MD i (q.getD j 0)) (A.getD k d0))) [])] (ap (blz (map prV (MD i (q.getD j 0))))<|ap (frT prV (MD i (q.getD j 0)))<|ap (f81 (MD i (q.getD j 0)) (A.getD k d0) (by omega)) an)<|zA3<|zEx (has (MD i (q.getD j 0)) (A.getD k d0)) (fun k1=>(zAb<|zAm 1<|S_i m<|S_g 1<|zAb<|S_i k<|S_g 1 ?_)) (fun k1=>(zAh<|zAb<|S_i k<|S_g 1 ?_))
    ·rw[if_pos k1] at uB;exact rnd (k+1,m+1) ⟨by omega,uB.symm⟩ (by simp only;omega)
    ·rw[if_neg (by rw[k1];simp)] at uB;exact rnd (k+1,m) ⟨by omega,uB.symm⟩ (by simp only;omega)
   ·rw [show k=A.length by omega] at hm;rw [<- hm] at yM hpr;clear hm wi;refine zAj 1<|zAc<|zAQ ((k:Int)<(A.length:Int)) (by omega)<|zAD 6<|zAc<|zAl 1<|S_a [(0,.n ((MD i (q.getD j 0)).length))] (ap (lnS prV (MD i (q.getD j 0))) an)<|S_g 1<|zAf 8 ?_
    refine zAr (fun(p,M2)=>p<=(MD i (q.getD j 0)).length/\M2=zWu M1 (decide ((m:Int)>0)) ((MD i (q.getD j 0)).take p)) (fun((p:Nat),(M2:List Mp))=>[(25,.omap (M2.map mpV)),(195,I (p:Nat))]) (fun(p,_)=>(MD i (q.getD j 0)).length-p) ((0:Nat),M1) ⟨bN _,rfl⟩ fun(p,M2) ⟨hp,hM2⟩=>?_;by_cases kR:p<(MD i (q.getD j 0)).length
    ·have kY:=zR9 (M:=M1) (b:=decide ((m:Int)>0)) kR;rw[<- hM2] at kY;clear hM2 yM;rcases zN8 ((MD i (q.getD j 0)).getD p d0) M2 with⟨y,f1,yj,f3⟩|⟨f1,f2,f3⟩
     ·have yB:=(zOI ((MD i (q.getD j 0)).getD p d0) M2).trans (congrArg some f1);clear f1;by_cases ha:atM M2 ((MD i (q.getD j 0)).getD p d0)=true
      ·rw[ha] at yj kY;have yZ:=f3 true;rw[iR] at kY;clear f3;refine zAj 1<|zAc<|zAM ((p:Int)<(↑(MD i (q.getD j 0)).length:Int)) (by omega)<|zAh<|zAc<|zAf 9<|zAc<|zAb<|S_a [(2,.ob),(1,.n p)] (ap ((by exact zAp (by simp only[be,zzLn]<;>omega)):decide (p<(map prV (MD i (q.getD j 0))).length)=true)<|ap ((by simp):some (0+p)=some p) an)<|S_a [(0,.cs true ([I ((MD i (q.getD j 0)).getD p d0).fst,I ((MD i (q.getD j 0)).getD p d0).snd]))] (ap (zCn (q:=own 2 (map prV (MD i (q.getD j 0)))) (xs:=map prV (MD i (q.getD j 0))) (x:=prV ((MD i (q.getD j 0)).getD p d0)) rfl (zBN d0 (by omega)):zAq 29 (own 2 (map prV (MD i (q.getD j 0)))) [] p 0 Tryz.prog.types[108].size=some (true,[I ((MD i (q.getD j 0)).getD p d0).fst,I ((MD i (q.getD j 0)).getD p d0).snd])) an)<|S_g 2<|zAb<|zAm 4<|S_a [(3,.ix (some y)),(0,.v (bool true))] (ap yB<|ap (yj:zD4 (map mpV M2) y=some (bool true)) an)<|zAm 4<|S_a [(5,.ix (some y)),(1,.root (omap (map mpV (zOo M2 ((MD i (q.getD j 0)).getD p d0) true))) true)] (ap yB<|ap (zOz (es:=map mpV M2) yZ) an)<|zA3<|zAb<|S_i p<|S_g 1 ?_
       exact rnd (p+1,zOo M2 ((MD i (q.getD j 0)).getD p d0) true) ⟨by omega,kY.symm⟩ (by simp only;omega)
      ·rw[cA] at ha;rw[ha] at yj kY;have yZ:=f3 (decide ((m:Int)>0));rw[ci] at kY;clear f3;refine zAj 1<|zAc<|zAM ((p:Int)<(↑(MD i (q.getD j 0)).length:Int)) (by omega)<|zAh<|zAc<|zAf 9<|zAc<|zAb<|S_a [(2,.ob),(1,.n p)] (ap ((by exact zAp (by simp only[be,zzLn]<;>omega)):decide (p<(map prV (MD i (q.getD j 0))).length)=true)<|ap ((by simp):some (0+p)=some p) an)<|S_a [(0,.cs true ([I ((MD i (q.getD j 0)).getD p d0).fst,I ((MD i (q.getD j 0)).getD p d0).snd]))] (ap (zCn (q:=own 2 (map prV (MD i (q.getD j 0)))) (xs:=map prV (MD i (q.getD j 0))) (x:=prV ((MD i (q.getD j 0)).getD p d0)) rfl (zBN d0 (by omega)):zAq 29 (own 2 (map prV (MD i (q.getD j 0)))) [] p 0 Tryz.prog.types[108].size=some (true,[I ((MD i (q.getD j 0)).getD p d0).fst,I ((MD i (q.getD j 0)).getD p d0).snd])) an)<|S_g 2<|zAb<|zAm 4<|S_a [(3,.ix (some y)),(0,.v (bool false))] (ap yB<|ap (yj:zD4 (map mpV M2) y=some (bool false)) an)<|zAm 4<|S_a [(5,.ix (some y)),(1,.root (omap (map mpV (zOo M2 ((MD i (q.getD j 0)).getD p d0) (decide ((m:Int)>0))))) true)] (ap yB<|ap (zOz (es:=map mpV M2) yZ) an)<|zA3<|zAb<|S_i p<|S_g 1 ?_
       exact rnd (p+1,zOo M2 ((MD i (q.getD j 0)).getD p d0) (decide ((m:Int)>0))) ⟨by omega,kY.symm⟩ (by simp only;omega)
     ·have yB:=(zOI ((MD i (q.getD j 0)).getD p d0) M2).trans (congrArg some f1);rw[f2,ci,f3] at kY;clear f1 f2 f3;refine zAj 1<|zAc<|zAM ((p:Int)<(↑(MD i (q.getD j 0)).length:Int)) (by omega)<|zAh<|zAc<|zAf 9<|zAc<|zAb<|S_a [(2,.ob),(1,.n p)] (ap ((by exact zAp (by simp only[be,zzLn]<;>omega)):decide (p<(map prV (MD i (q.getD j 0))).length)=true)<|ap ((by simp):some (0+p)=some p) an)<|S_a [(0,.cs true ([I ((MD i (q.getD j 0)).getD p d0).fst,I ((MD i (q.getD j 0)).getD p d0).snd]))] (ap (zCn (q:=own 2 (map prV (MD i (q.getD j 0)))) (xs:=map prV (MD i (q.getD j 0))) (x:=prV ((MD i (q.getD j 0)).getD p d0)) rfl (zBN d0 (by omega)):zAq 29 (own 2 (map prV (MD i (q.getD j 0)))) [] p 0 Tryz.prog.types[108].size=some (true,[I ((MD i (q.getD j 0)).getD p d0).fst,I ((MD i (q.getD j 0)).getD p d0).snd])) an)<|S_g 2<|zAb<|zAm 4<|S_a [(3,.ix none)] (ap yB an)<|zAm 4<|S_a [(5,.ix none),(0,.v (omap (map mpV (M2++[((MD i (q.getD j 0)).getD p d0,decide ((m:Int)>0))]))))] (ap yB<|ap ((by simp):omap (map mpV M2++[(prV ((MD i (q.getD j 0)).getD p d0),bool (decide ((m:Int)>0)))])=omap (map mpV (M2++[((MD i (q.getD j 0)).getD p d0,decide ((m:Int)>0))]))) an)<|zA3<|zAb<|S_i p<|S_g 1 ?_
      exact rnd (p+1,M2++[((MD i (q.getD j 0)).getD p d0,decide ((m:Int)>0))]) ⟨by omega,kY.symm⟩ (by simp only;omega)
    ·rw[bw (by omega)] at hM2;rw[<- hM2] at yM;clear hM2;refine zAj 1<|zAc<|zAQ ((p:Int)<(↑(MD i (q.getD j 0)).length:Int)) (by omega)<|zAD 8<|zAj 2<|zAQ ((m:Int)>1) (by omega)<|zAh<|zAb<|S_i j<|S_g 1 ?_
     exact rnd (j+1,M2) ⟨by omega,yM⟩ (by simp only;omega)
  ·have hM2:=zYk ((show j=q.length by omega)▸wC);clear wC hmd hAp qp yD;refine zAj 1<|zAc<|zAQ ((j:Int)<(q.length:Int)) (by omega)<|zAD 4<|zAb<|S_i i<|S_g 1 ?_
   exact rnd (i+1,M1) ⟨by omega,hM2⟩ (by simp only;omega)
 ·have hmet:∀ z∈G,has A z=false->atM M z=true:=fun z hz h0=>zYx ((show i=n.n.length by omega)▸hM) (hAo z hz h0);clear hAo hM hmd hAp qp;refine zAj 1<|zAc<|zAQ ((i:Int)<(n.n.length:Int)) (by omega)<|zAD 2<|zAc<|zAl 1<|S_a [(0,.n G.length)] (ap (lnS prV G) an)<|S_g 1<|zAf 10 ?_
  refine zAr (fun(g:Nat)=>g<=G.length) (fun(g:Nat)=>[(215,I (g:Nat))]) (fun g=>G.length-g) (0:Nat) (bN _) fun g hg=>?_;by_cases ve:g<G.length
  ·have zG:G.getD g d0∈G:=by rw[zAu ve];exact cM ve
   have z1:=hGi _ zG;have z2:=hSk _ zG;have z3:=hmet _ zG;have ur:=f81 A (G.getD g d0) (by omega);have jO:=f81 S (G.getD g d0) (by omega);rw[z2] at jO;clear hmet hSk hGi zG z2;have fin:∀ b:Bool,b=zWB n (whe.tmod 6) q (G.getD g d0).1->FG 81 [prs S,prV (G.getD g d0)] (.bool b):=fun b hb=>hb▸jO;clear jO;refine zAj 1<|zAc ?_
   refine zAM ((g:Int)<G.length) (by omega)<|zAh<|zAc<|zAf 11 ?_
   refine zFJ (fun(_:Nat)=>True) (fun(_:Nat)=>[(37,.box (prV (G.getD g d0)))]) [] ?_ fun _ _=>?_
   ·refine zAb<|S_a [(2,.ob),(1,.n g)] (ap ((by exact zAp (by simp only[be,zzLn]<;>omega)):decide (g<(map prV G).length)=true)<|ap ((by simp):some (0+g)=some g) an)<|S_a [(0,.cs true ([I (G.getD g d0).fst,I (G.getD g d0).snd]))] (ap (zCn (q:=own 2 (map prV G)) (xs:=map prV G) (x:=prV (G.getD g d0)) rfl (zBN d0 (by omega)):zAq 15 (own 2 (map prV G)) [] g 0 Tryz.prog.types[108].size=some (true,[I (G.getD g d0).fst,I (G.getD g d0).snd])) an)<|S_g 2 ?_
    exact⟨0,trivial,by kernel_rfl,by kernel_rfl⟩
   refine zFJ (fun(_:Nat)=>True) (fun(_:Nat)=>[(228,.bool false)]) [] ?_ fun _ _=>?_
   ·by_cases hA:has A (G.getD g d0)=true
    ·rw[hA] at ur;clear z3;refine zAl 2<|S_a [(3,.ob),(0,.v (prs A)),(4,.ret (bool true) [])] (ap (blz (map prV A))<|ap (frT prV A)<|ap ur an)<|S_g 7<|zAB<|zAh ?_
     exact⟨0,trivial,by kernel_rfl,by kernel_rfl⟩
    ·rw[cA] at hA;rw[hA] at ur;have z4:=z3 hA;clear z3;rcases zN8 (G.getD g d0) M with⟨y,f1,yj,f3⟩|⟨f1,f2,f3⟩
     ·have yB:=(zOI (G.getD g d0) M).trans (congrArg some f1);rw[z4] at yj;clear f1 f3 z4;refine zAl 2<|S_a [(3,.ob),(0,.v (prs A)),(4,.ret (bool false) [])] (ap (blz (map prV A))<|ap (frT prV A)<|ap ur an)<|zAm 4<|S_a [(3,.ix (some y)),(0,.v (bool true))] (ap yB<|ap (yj:zD4 (map mpV M) y=some (bool true)) an)<|S_g 2<|zAB<|zAh ?_
      exact⟨0,trivial,by kernel_rfl,by kernel_rfl⟩
     ·rw[f2] at z4;cases z4
   clear z3 ur;refine zAj 1<|zAc<|zAl 4<|zMS 232 ((G.getD g d0).fst<0) (by omega) (S_g 6<|zAQ ((G.getD g d0).fst>=n.h) (by omega)<|zAh<|zAc<|zAl 1<|S_a [(0,.n q.length)] (ap (lnS I q) an)<|S_g 1<|zAf 12 ?_)
   refine zAr (fun(j,b)=>j<=q.length/\b=zWB n (whe.tmod 6) (q.take j) (G.getD g d0).1) (fun((j:Nat),(b:Bool))=>[(38,.bool b),(241,I (j:Nat))]) (fun(j,_)=>q.length-j) ((0:Nat),true) ⟨bN _,rfl⟩ fun(j,b) ⟨hj,hb⟩=>?_;by_cases y9:j<q.length
   ·have jk:=zUJ (n:=n) (e:=whe.tmod 6) (st:=q) (h:=(G.getD g d0).1) y9;rw[<- hb] at jk;have yT:=yD (q.getD j 0) (by rw[zAu y9];exact cM y9);have qi:(awL n (n.s.getD (q.getD j 0).toNat [])).length=n.h.toNat:=zEq _;have hwy:=f82 n (n.s.getD (q.getD j 0).toNat []) ho (zCl (d:=[]) ho.small.hr _ (by omega));clear hb fin
    cases b with
    |true=>
     rw[cy,zZd] at jk;refine zAj 1<|zAc<|zAM ((j:Int)<(q.length:Int)) (by omega)<|zAh<|zAc<|zAf 13<|zAc<|zAb<|S_a [(2,.v (I (q.getD j 0)))] (ap (zBN (0) (by omega):(map I q)[j]? = some (I (q.getD j 0))) an)<|S_g 2<|zAb<|zAm 6<|S_a [(0,.ob),(1,.v (zBT (n.s.getD (q.getD j 0).toNat [])))] (ap ((by exact zAp (by omega)):decide (0<=q.getD j 0)=true)<|ap (zBN [] (by omega):(map zBT n.s)[(q.getD j 0).toNat]? = some (zBT (n.s.getD (q.getD j 0).toNat []))) an)<|zAm 1<|S_a [(8,.ret (own 1 (map I (awL n (n.s.getD (q.getD j 0).toNat [])))) [])] (ap hwy an)<|zAm 2<|S_a [(0,.ob),(1,.ob),(1,.n ((G.getD g d0).fst.toNat))] (ap ((by exact zAp (by omega)):decide (0<=(G.getD g d0).fst)=true)<|ap ((by exact zAp (by simp only[be,zzLn]<;>omega)):decide ((G.getD g d0).fst.toNat<(map I (awL n (n.s.getD (q.getD j 0).toNat []))).length)=true)<|ap ((by simp):some (0+(G.getD g d0).fst.toNat)=some (G.getD g d0).fst.toNat) an)<|S_a [(0,.cs false ([I ((awL n (n.s.getD (q.getD j 0).toNat [])).getD (G.getD g d0).fst.toNat 0)]))] (ap (zCn (q:=own 1 (map I (awL n (n.s.getD (q.getD j 0).toNat [])))) (xs:=map I (awL n (n.s.getD (q.getD j 0).toNat []))) (x:=I ((awL n (n.s.getD (q.getD j 0).toNat [])).getD (G.getD g d0).fst.toNat 0)) rfl (zBN (0) (by omega)):zAq 253 (own 1 (map I (awL n (n.s.getD (q.getD j 0).toNat [])))) [] (G.getD g d0).fst.toNat 0 1=some (false,[I ((awL n (n.s.getD (q.getD j 0).toNat [])).getD (G.getD g d0).fst.toNat 0)])) an)<|zAm 3<|S_a [(1,.v (I (n.h-1)))] (ap ((zBW rfl (by omega)):I (IntKind.i64.wrap (n.h-1))=I (n.h-1)) an)<|S_g 4<|zAb<|S_i j<|S_g 1 ?_
     exact rnd (j+1,decide ((awL n (n.s.getD (q.getD j 0).toNat [])).getD (G.getD g d0).fst.toNat 0>if n.h-1<whe.tmod 6 then n.h-1 else whe.tmod 6)) ⟨by omega,jk.symm⟩ (by simp only;omega)
    |false=>
     rw[dB] at jk;refine zAj 1<|zAc<|zAM ((j:Int)<(q.length:Int)) (by omega)<|zAh<|zAc<|zAf 13<|zAc<|zAb<|S_a [(2,.v (I (q.getD j 0)))] (ap (zBN (0) (by omega):(map I q)[j]? = some (I (q.getD j 0))) an)<|S_g 2<|zAb<|S_g 21<|zAb<|S_i j<|S_g 1 ?_
     exact rnd (j+1,false) ⟨by omega,jk.symm⟩ (by simp only;omega)
   ·have hc:=fin b (by rw[hb,bw (by omega)]);clear fin hb
    cases b with
    |true=>
     refine zAj 1<|zAc<|zAQ ((j:Int)<(q.length:Int)) (by omega)<|zAD 12<|zAl 3<|S_a [(8,.ret (bool true) [])] (ap hc an)<|S_g 1<|zAB<|zAh<|zAb<|S_i g<|S_g 1 ?_
     exact rnd (g+1) (by omega) (by omega)
    |false=>
     refine zAj 1<|zAc<|zAQ ((j:Int)<(q.length:Int)) (by omega)<|zAD 12<|zAl 3<|S_a [(8,.ret (bool false) [])] (ap hc an)<|S_g 1<|zAB<|zAh<|zAb<|S_i g<|S_g 1 ?_
     exact rnd (g+1) (by omega) (by omega)
  ·refine zAj 1<|zAc<|zAQ ((g:Int)<(G.length:Int)) (by omega)<|zAD 10<|zAc<|zAb<|S_a [(4,.ret (bool true) [])] (ap u5 an)<|S_g 1<|zAn E_0
end Go.Eng
set_option maxRecDepth 100000
namespace Go.Proofs.YtppbomajegnkeaaGreat
open Go.ChangeShapes Go.WideShapes Go.ChangeAt Go.RowKit Go.Eng
theorem newsApart_gives(ss:List (Bool×List Sh))(ui:zFE Tryz.prog Tryz.f14.params.toList=some ss)(qs:List PV)(hq:zLP ss qs):@zBD (yo1 Tryz.prog zCx) Tryz.prog zCx 14 qs [] (.bool true) []:=by
 have he:zFE Tryz.prog Tryz.f14.params.toList=some [(false,[.list false [.num .u8]]),(false,[.list false [.num .u8]]),(false,[.num .u8]),(false,[.num .u8])]:=by kernel_rfl
 rw[he] at ui;cases ui;obtain⟨p0,qs0,rfl,h0,hq0⟩:=hq;obtain⟨p1,qs1,rfl,h1,kb⟩:=hq0;obtain⟨p2,qs2,rfl,h2,jx⟩:=kb;obtain⟨p3,qs3,rfl,h3,qo⟩:=jx;simp only[zLP] at qo;subst qo;obtain⟨x0,rfl,l0,b0⟩:=zSS h0;unfold maxLen at l0;simp only[IntKind.min,IntKind.max,IntKind.signed,IntKind.bits] at b0;simp at b0;obtain⟨x1,rfl,l1,b1⟩:=zSS h1;unfold maxLen at l1;simp only[IntKind.min,IntKind.max,IntKind.signed,IntKind.bits] at b1;simp at b1;obtain⟨x2,rfl,b2⟩:=zWn h2;simp only[IntKind.min,IntKind.max,IntKind.signed,IntKind.bits] at b2;simp at b2;obtain⟨x3,rfl,b3⟩:=zWn h3;simp only[IntKind.min,IntKind.max,IntKind.signed,IntKind.bits] at b3;simp at b3;exact f14 x0 x1 x2 x3 (by omega) (by omega) (by omega) (by omega)
theorem newsApart_lifted(os:Os)(started:os.Started)(H:Type)(enc:TypeId×Value->H) :
  ReturnsInHanded {} Tryz.checked os 14 .any (Rows.newsApartSpec.pre6 enc Tryz.prog Tryz.f14 Rows.newsApartRow.domain false) (Rows.newsApartSpec.post enc Tryz.prog Tryz.f14 false true false false):=by
 refine returnsInHanded_of_change (C:=Tryz.checked) Tryz.own started (by kernel_rfl) Tryz.func14
  (ChangeSpec.witness6 (enc:=enc) (C:=Tryz.checked) false ⟨#[],#[.slice none 0 0,.slice none 0 0,.int .u8 0,.int .u8 0],[]⟩ 8 (by kernel_rfl) (by kernel_rfl) (by kernel_rfl) (by kernel_rfl)) ?_
 intro W base args ds gs before hval0 hW hcnd _;obtain⟨p,q,hA0,hV,_,_,_⟩:=id hW;obtain⟨rfl,rfl⟩:=trodVars_none hV;obtain⟨ss,ui⟩:∃ ss,zFE Tryz.prog Tryz.f14.params.toList=some ss:=dY.1 (by kernel_rfl);have yA:ss.length<=1000:=by
  have h:((zFE Tryz.prog Tryz.f14.params.toList).map fun s=>ble s.length 1000)=some true:=by kernel_rfl
  rw[ui] at h;simpa using h
 exact zXi zFd hnm zM4 hin Tryz.laidOut rfl Tryz.underlying4 (by kernel_rfl) (by kernel_rfl) (fun ds hd=>by match ds,hd with|[d0,d1,d2,d3],_=>rfl) ui yA (newsApart_gives ss ui) hval0 hW
theorem newsApart_holds:Rows.NewsApartSaid :=
 OpenClaim.holds_of_wide 14 Tryz.f14 rfl rfl rfl rfl rfl rfl rfl ⟨rfl,rfl,rfl,rfl,rfl⟩ rfl rfl rfl rfl rfl (by kernel_rfl) Tryz.func14 (by kernel_rfl)
  (of_decide_eq_true (by kernel_rfl)) (by unfold Func.isWrapper;first|(rw[if_pos (by decide +kernel)];kernel_rfl)|(rw[if_neg (by decide +kernel)];exact⟨rfl,rfl⟩))
  (fun os started H enc _=>newsApart_lifted os started H enc)
end Go.Proofs.YtppbomajegnkeaaGreat
