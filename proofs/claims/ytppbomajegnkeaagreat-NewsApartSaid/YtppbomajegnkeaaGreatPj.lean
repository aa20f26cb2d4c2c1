/- No cry at a stand that is offered mends two of the gaps that are apart, so that there are never more of them than further cries are needed; each other gap is mended by a cry that mends one of them; a gap is stuck just if none of these stands is jM near enough to its jN; and with all stands none is; for every list of numbers, evening and stands. -/
import Derived.Test.YtppbomajegnkeaaGreatPi
import Derived.Test.YtppbomajegnkeaaGreatPd
import Derived.Test.YtppbomajegnkeaaGreatPh
import Derived.Test.YtppbomajegnkeaaGreatPg
set_option linter.unusedVariables false
set_option linter.unusedSimpArgs false
set_option linter.unusedSectionVars false
set_option maxRecDepth 10000
set_option maxHeartbeats 4000000
open Nat (beq ble blt)
open List (map replicate take drop range length filter)
open Go.Eng.PV (own agg addr func sl bor tup omap bad bool int)
namespace Go.Eng
open Go Go.Proofs
def awS(o:LI)(x:Int×Int):LI:=(o.set x.1.toNat (if o.getD x.2.toNat 0+1<o.getD x.1.toNat 0 then o.getD x.2.toNat 0+1 else o.getD x.1.toNat 0)).set x.2.toNat (if o.getD x.1.toNat 0+1<o.getD x.2.toNat 0 then o.getD x.1.toNat 0+1 else o.getD x.2.toNat 0)
def awI(n:Nw)(F:LI)(k:Nat):LI:=(range k).map fun(h:Nat)=>if has F (h:Int)=true then 0 else n.h
def awR(n:Nw)(F:LI)(k:Nat):LI:=(range k).foldl (fun o _=>n.l.foldl awS o) (awI n F n.h.toNat)
def awL(n:Nw)(F:LI):LI:=awR n F n.h.toNat
theorem zGe{o:LI}{x:Int×Int}:(awS o x).length=o.length:=by simp[awS]
theorem zJ4{n:Nw}{F:LI}{k:Nat}:(awI n F k).length=k:=by simp[awI]
theorem zSI:∀ (l:LP) {o:LI},(l.foldl awS o).length=o.length
 |[],_=>rfl|x::l,o=>by rw[bM,zSI l,zGe]
theorem zIR{n:Nw}{F:LI}{k:Nat}:awR n F (k+1)=n.l.foldl awS (awR n F k):=by
 simp only[awR,b9,cE,bM,cv]
theorem zEq{n:Nw}{F:LI}:∀ k,(awR n F k).length=n.h.toNat
 |0=>zJ4|k+1=>by rw[zIR,zSI,zEq k]
def AwB(H:Int)(o:LI):Prop:=∀ i,i<o.length->0<=o.getD i 0/\o.getD i 0<=H
theorem zWw{H:Int}{o:LI}{x:Int×Int}(h:AwB H o)(hx:(0<=x.1/\x.1<o.length)/\(0<=x.2/\x.2<o.length)):AwB H (awS o x):=fun i hi=>by
 have h1:=h x.1.toNat (by omega);have h2:=h x.2.toNat (by omega);rw[zGe] at hi;have h3:=h i hi;unfold awS;rw[zBL,zBL]
 repeat' split
 all_goals omega
section
variable [Yo]
theorem f82(n:Nw)(F:LI)(ho:NwOk n)(hF:F.length<1000000):FG 82 [nwV n,zBT F] (.own 1 ((awL n F).map I)):=by
 have hH:=ho.h;have uu:=ho.ll;have hZ:(replicate n.h.toNat (0:Int)).length=n.h.toNat:=dC;refine zAd Tryz.f82 ?_;refine zAj 2<|zAl 2<|S_a [(0,.ob),(1,.ob),(1,.ob),(0,.ob),(1,.v (own 1 (map I (replicate n.h.toNat 0))))] (ap ((by exact zAp (by omega)):decide (0<=n.h)=true)<|ap ((by exact zAp (by omega)):decide (0<=n.h)=true)<|ap ((by exact zAp (by omega)):decide (n.h.toNat<=n.h.toNat)=true)<|ap ((by exact zAp (by simp[zAO]<;>omega)):decide (n.h.toNat<=zAO)=true)<|ap ((by simp):own 1 (replicate n.h.toNat (I 0))=own 1 (map I (replicate n.h.toNat 0))) an)<|S_g 1<|zAc<|zAl 1<|S_a [(0,.n ((replicate n.h.toNat 0).length))] (ap ((by simp):some (map I (replicate n.h.toNat 0)).length=some (replicate n.h.toNat 0).length) an)<|S_g 1<|zAf 0 ?_
 refine zAr (fun(i,o)=>i<=n.h.toNat/\o=awI n F i++replicate (n.h.toNat-i) 0) (fun((i:Nat),(o:LI))=>[(5,.own 1 (o.map I)),(14,I (i:Nat))]) (fun(i,_)=>n.h.toNat-i) ((0:Nat),replicate n.h.toNat (0:Int)) ⟨bN _,by simp[awI]⟩ fun(i,o) ⟨hi,gX⟩=>?_;have qD:o.length=n.h.toNat:=by rw[gX];simp[awI];omega
 by_cases yR:i<n.h.toNat
 ·have yD:∀ v:Int,o.set i v=awI n F i++[v]++replicate (n.h.toNat-(i+1)) 0:=fun v=>by
   rw[gX,show n.h.toNat-i=(n.h.toNat-(i+1))+1 by omega,fX,List.set_append_right _ _ (by rw[zJ4];omega),zJ4,iT,cK,cO];rfl
  have yx:awI n F (i+1)=awI n F i++[if has F (i:Int)=true then 0 else n.h]:=by simp[awI,b9]
  clear gX;refine zAj 1<|zAc<|zCN ((i:Int)<(↑(replicate n.h.toNat 0).length:Int)) (fun k0=>(zAh<|zAc<|zAf 1<|zAj 2<|zAl 4<|S_a [(2,.ob),(1,.n i)] (ap ((by exact zAp (by simp only[be,zzLn]<;>omega)):decide (i<(map I o).length)=true)<|ap ((by simp):some (0+i)=some i) an)<|S_a [(8,.root (own 1 (map I (o.set i n.h))) true)] (ap (zKK (zBN (0) (by omega)) zDJ:zBv (own 1 (map I o)) [] i 0 (I n.h).cells=some (own 1 (map I (o.set i n.h)))/\zAI (own 1 (map I o)) (own 1 (map I (o.set i n.h))) []=true) an)<|zA3<|zAl 2<|S_a [(8,.ret (bool (has F (i:Int))) [])] (ap (f58 F ((i:Int)) (by omega)) an)<|zA3<|zEx (has F (i:Int)) (fun k1=>(zAb<|zAm 2<|S_a [(2,.ob),(1,.n i)] (ap ((by exact zAp (by simp only[be,zzLn]<;>omega)):decide (i<(map I (o.set i n.h)).length)=true)<|ap ((by simp):some (0+i)=some i) an)<|S_a [(7,.root (own 1 (map I ((o.set i n.h).set i 0))) true)] (ap (zKK (zWs (by first|omega|(simp<;>omega))) zDJ:zBv (own 1 (map I (o.set i n.h))) [] i 0 (I 0).cells=some (own 1 (map I ((o.set i n.h).set i 0)))/\zAI (own 1 (map I (o.set i n.h))) (own 1 (map I ((o.set i n.h).set i 0))) []=true) an)<|zA3<|zAb<|S_i i<|S_g 1 ?_)) (fun k1=>(zAh<|zAb<|S_i i<|S_g 1 ?_)))) (fun k0=>(zAD 0<|zAc<|zAj 3<|zAf 2 ?_))
  ·exact rnd (i+1,(o.set i n.h).set i 0) ⟨by omega,by rw[List.set_set,yD,yx,if_pos k1]⟩ (by simp only;omega)
  ·exact rnd (i+1,o.set i n.h) ⟨by omega,by rw[yD,yx,if_neg (by rw[k1];simp)]⟩ (by simp only;omega)
  ·exfalso;simp only[dC] at k0;omega
 have hoe:o=awR n F 0:=by rw[gX,show n.h.toNat-i=0 by omega,show i=n.h.toNat by omega];simp[awR]
 clear gX;refine zAj 1<|zAc<|zCN ((i:Int)<(↑(replicate n.h.toNat 0).length:Int)) (fun k0=>(zAh<|zAc<|zAf 1<|zAj 2<|zAl 4<|S_a [(2,.ob),(1,.n i)] (ap (?_:decide (i<(map I o).length)=true)<|ap ((by simp):some (0+i)=some i) an)<|S_a [(8,.root (own 1 (map I (o.set i n.h))) true)] (ap (zKK (zBN (0) ?_) zDJ:zBv (own 1 (map I o)) [] i 0 (I n.h).cells=some (own 1 (map I (o.set i n.h)))/\zAI (own 1 (map I o)) (own 1 (map I (o.set i n.h))) []=true) an)<|zA3<|zAl 2<|S_a [(8,.ret (bool (has F (i:Int))) [])] (ap (f58 F ((i:Int)) (by omega)) an)<|zA3<|zEx (has F (i:Int)) (fun k1=>(zAb<|zAm 2<|S_a [(2,.ob),(1,.n i)] (ap (?_:decide (i<(map I (o.set i n.h)).length)=true)<|ap ((by simp):some (0+i)=some i) an)<|S_a [(7,.root (own 1 (map I ((o.set i n.h).set i 0))) true)] (ap (zKK (zWs ?_) zDJ:zBv (own 1 (map I (o.set i n.h))) [] i 0 (I 0).cells=some (own 1 (map I ((o.set i n.h).set i 0)))/\zAI (own 1 (map I (o.set i n.h))) (own 1 (map I ((o.set i n.h).set i 0))) []=true) an)<|zA3<|zAb<|S_i i<|S_g 1 ?_)) (fun k1=>(zAh<|zAb<|S_i i<|S_g 1 ?_)))) (fun k0=>(zAD 0<|zAc<|zAj 3<|zAf 2 ?_))
 all_goals try (exfalso;simp only[dC] at k0;omega)
 refine zAr (fun(k,o)=>k<=n.h.toNat/\o=awR n F k/\AwB n.h o) (fun((k:Nat),(o:LI))=>[(5,.own 1 (o.map I)),(31,I (k:Nat))]) (fun(k,_)=>n.h.toNat-k) ((0:Nat),o) ⟨bN _,hoe,fun j hj=>?_⟩ fun(k,o) ⟨hk,yE,hob⟩=>?_
 ·rw[hoe];rw[hoe,zEq] at hj;simp only[awR,List.range_zero,cv];rw[zAu (by rw[zJ4];exact hj)];simp only[awI,fP,ie];split<;>omega
 have hol2:o.length=n.h.toNat:=by rw[yE,zEq]
 by_cases vd:(k:Int)<n.h
 ·have yx:=zIR (n:=n) (F:=F) (k:=k);rw[<- yE] at yx;clear yE;refine zAj 1<|zAc<|zAM ((k:Int)<n.h) (by omega)<|zAh<|zAc<|zAf 3<|zAl 2<|S_a [(0,.n n.l.length)] (ap (lnS prV n.l) an)<|S_g 1<|zAf 4 ?_
  refine zAr (fun(j,p)=>j<=n.l.length/\p=(n.l.take j).foldl awS o/\AwB n.h p/\p.length=n.h.toNat) (fun((j:Nat),(p:LI))=>[(5,.own 1 (p.map I)),(36,I (j:Nat))]) (fun(j,_)=>n.l.length-j) ((0:Nat),o) ⟨bN _,rfl,hob,hol2⟩ fun(j,p) ⟨hj,hp,hpb,kR⟩=>?_;by_cases y9:j<n.l.length
  ·have hr:=zCl (d:=d0) ho.lr j y9;have yM:=zCk (f:=awS) (b:=o) (d:=d0) y9;rw[<- hp] at yM;have j0:AwB n.h (awS p (n.l.getD j d0)):=zWw hpb (by omega);have h1:=hpb (n.l.getD j d0).1.toNat (by omega);have h2:=hpb (n.l.getD j d0).2.toNat (by omega);clear hp yx;refine zAj 1<|zAc<|zAM ((j:Int)<(n.l.length:Int)) (by omega)<|zAh<|zAc<|zAf 5<|zAc<|zAb<|S_a [(2,.v (prV (n.l.getD j d0)))] (ap (zBN d0 (by omega):(map prV n.l)[j]? = some (prV (n.l.getD j d0))) an)<|S_g 3<|zAb<|zAm 1<|zAm 1<|zAm 2<|zAm 1<|zAm 2<|zAm 1<|zAm 1<|S_a [(0,.ob),(1,.ob),(1,.n ((n.l.getD j d0).fst.toNat))] (ap ((by exact zAp (by omega)):decide (0<=(n.l.getD j d0).fst)=true)<|ap ((by exact zAp (by simp only[be,zzLn]<;>omega)):decide ((n.l.getD j d0).fst.toNat<(map I p).length)=true)<|ap ((by simp):some (0+(n.l.getD j d0).fst.toNat)=some (n.l.getD j d0).fst.toNat) an)<|S_a [(0,.cs false ([I (p.getD (n.l.getD j d0).fst.toNat 0)]))] (ap (zCn (q:=own 1 (map I p)) (xs:=map I p) (x:=I (p.getD (n.l.getD j d0).fst.toNat 0)) rfl (zBN (0) (by omega)):zAq 5 (own 1 (map I p)) [] (n.l.getD j d0).fst.toNat 0 1=some (false,[I (p.getD (n.l.getD j d0).fst.toNat 0)])) an)<|zAm 1<|zAm 1<|zAm 1<|S_a [(0,.ob),(1,.ob),(1,.n ((n.l.getD j d0).snd.toNat))] (ap ((by exact zAp (by omega)):decide (0<=(n.l.getD j d0).snd)=true)<|ap ((by exact zAp (by simp only[be,zzLn]<;>omega)):decide ((n.l.getD j d0).snd.toNat<(map I p).length)=true)<|ap ((by simp):some (0+(n.l.getD j d0).snd.toNat)=some (n.l.getD j d0).snd.toNat) an)<|S_a [(0,.cs false ([I (p.getD (n.l.getD j d0).snd.toNat 0)]))] (ap (zCn (q:=own 1 (map I p)) (xs:=map I p) (x:=I (p.getD (n.l.getD j d0).snd.toNat 0)) rfl (zBN (0) (by omega)):zAq 5 (own 1 (map I p)) [] (n.l.getD j d0).snd.toNat 0 1=some (false,[I (p.getD (n.l.getD j d0).snd.toNat 0)])) an)<|S_a [(1,.v (I (p.getD (n.l.getD j d0).snd.toNat 0+1)))] (ap ((zBW rfl (by omega)):I (IntKind.i64.wrap (p.getD (n.l.getD j d0).snd.toNat 0+1))=I (p.getD (n.l.getD j d0).snd.toNat 0+1)) an)<|zAm 2<|zAm 1<|zAm 1<|S_a [(0,.ob),(1,.ob),(1,.n ((n.l.getD j d0).snd.toNat))] (ap ((by exact zAp (by omega)):decide (0<=(n.l.getD j d0).snd)=true)<|ap ((by exact zAp (by simp only[be,zzLn]<;>omega)):decide ((n.l.getD j d0).snd.toNat<(map I p).length)=true)<|ap ((by simp):some (0+(n.l.getD j d0).snd.toNat)=some (n.l.getD j d0).snd.toNat) an)<|S_a [(0,.cs false ([I (p.getD (n.l.getD j d0).snd.toNat 0)]))] (ap (zCn (q:=own 1 (map I p)) (xs:=map I p) (x:=I (p.getD (n.l.getD j d0).snd.toNat 0)) rfl (zBN (0) (by omega)):zAq 5 (own 1 (map I p)) [] (n.l.getD j d0).snd.toNat 0 1=some (false,[I (p.getD (n.l.getD j d0).snd.toNat 0)])) an)<|zAm 1<|zAm 1<|zAm 1<|S_a [(0,.ob),(1,.ob),(1,.n ((n.l.getD j d0).fst.toNat))] (ap ((by exact zAp (by omega)):decide (0<=(n.l.getD j d0).fst)=true)<|ap ((by exact zAp (by simp only[be,zzLn]<;>omega)):decide ((n.l.getD j d0).fst.toNat<(map I p).length)=true)<|ap ((by simp):some (0+(n.l.getD j d0).fst.toNat)=some (n.l.getD j d0).fst.toNat) an)<|S_a [(0,.cs false ([I (p.getD (n.l.getD j d0).fst.toNat 0)]))] (ap (zCn (q:=own 1 (map I p)) (xs:=map I p) (x:=I (p.getD (n.l.getD j d0).fst.toNat 0)) rfl (zBN (0) (by omega)):zAq 5 (own 1 (map I p)) [] (n.l.getD j d0).fst.toNat 0 1=some (false,[I (p.getD (n.l.getD j d0).fst.toNat 0)])) an)<|S_a [(1,.v (I (p.getD (n.l.getD j d0).fst.toNat 0+1)))] (ap ((zBW rfl (by omega)):I (IntKind.i64.wrap (p.getD (n.l.getD j d0).fst.toNat 0+1))=I (p.getD (n.l.getD j d0).fst.toNat 0+1)) an)<|zAm 1<|S_a [(0,.ob),(1,.ob),(1,.n ((n.l.getD j d0).fst.toNat))] (ap ((by exact zAp (by omega)):decide (0<=(n.l.getD j d0).fst)=true)<|ap ((by exact zAp (by simp only[be,zzLn]<;>omega)):decide ((n.l.getD j d0).fst.toNat<(map I p).length)=true)<|ap ((by simp):some (0+(n.l.getD j d0).fst.toNat)=some (n.l.getD j d0).fst.toNat) an)<|S_a [(8,.root (own 1 (map I (p.set (n.l.getD j d0).fst.toNat (if p.getD (n.l.getD j d0).snd.toNat 0+1<p.getD (n.l.getD j d0).fst.toNat 0 then p.getD (n.l.getD j d0).snd.toNat 0+1 else p.getD (n.l.getD j d0).fst.toNat 0)))) true)] (ap (zKK (zBN (0) (by omega)) zDJ:zBv (own 1 (map I p)) [] (n.l.getD j d0).fst.toNat 0 (I (if p.getD (n.l.getD j d0).snd.toNat 0+1<p.getD (n.l.getD j d0).fst.toNat 0 then p.getD (n.l.getD j d0).snd.toNat 0+1 else p.getD (n.l.getD j d0).fst.toNat 0)).cells=some (own 1 (map I (p.set (n.l.getD j d0).fst.toNat (if p.getD (n.l.getD j d0).snd.toNat 0+1<p.getD (n.l.getD j d0).fst.toNat 0 then p.getD (n.l.getD j d0).snd.toNat 0+1 else p.getD (n.l.getD j d0).fst.toNat 0))))/\zAI (own 1 (map I p)) (own 1 (map I (p.set (n.l.getD j d0).fst.toNat (if p.getD (n.l.getD j d0).snd.toNat 0+1<p.getD (n.l.getD j d0).fst.toNat 0 then p.getD (n.l.getD j d0).snd.toNat 0+1 else p.getD (n.l.getD j d0).fst.toNat 0)))) []=true) an)<|S_a [(0,.ob),(1,.ob),(1,.n ((n.l.getD j d0).snd.toNat))] (ap ((by exact zAp (by omega)):decide (0<=(n.l.getD j d0).snd)=true)<|ap ((by exact zAp (by simp only[be,zzLn]<;>omega)):decide ((n.l.getD j d0).snd.toNat<(map I p).length)=true)<|ap ((by simp):some (0+(n.l.getD j d0).snd.toNat)=some (n.l.getD j d0).snd.toNat) an)<|S_a [(8,.root (own 1 (map I ((p.set (n.l.getD j d0).fst.toNat (if p.getD (n.l.getD j d0).snd.toNat 0+1<p.getD (n.l.getD j d0).fst.toNat 0 then p.getD (n.l.getD j d0).snd.toNat 0+1 else p.getD (n.l.getD j d0).fst.toNat 0)).set (n.l.getD j d0).snd.toNat (if p.getD (n.l.getD j d0).fst.toNat 0+1<p.getD (n.l.getD j d0).snd.toNat 0 then p.getD (n.l.getD j d0).fst.toNat 0+1 else p.getD (n.l.getD j d0).snd.toNat 0)))) true)] (ap (zKK (zBN (0) ?_) zDJ:zBv (own 1 (map I (p.set (n.l.getD j d0).fst.toNat (if p.getD (n.l.getD j d0).snd.toNat 0+1<p.getD (n.l.getD j d0).fst.toNat 0 then p.getD (n.l.getD j d0).snd.toNat 0+1 else p.getD (n.l.getD j d0).fst.toNat 0)))) [] (n.l.getD j d0).snd.toNat 0 (I (if p.getD (n.l.getD j d0).fst.toNat 0+1<p.getD (n.l.getD j d0).snd.toNat 0 then p.getD (n.l.getD j d0).fst.toNat 0+1 else p.getD (n.l.getD j d0).snd.toNat 0)).cells=some (own 1 (map I ((p.set (n.l.getD j d0).fst.toNat (if p.getD (n.l.getD j d0).snd.toNat 0+1<p.getD (n.l.getD j d0).fst.toNat 0 then p.getD (n.l.getD j d0).snd.toNat 0+1 else p.getD (n.l.getD j d0).fst.toNat 0)).set (n.l.getD j d0).snd.toNat (if p.getD (n.l.getD j d0).fst.toNat 0+1<p.getD (n.l.getD j d0).snd.toNat 0 then p.getD (n.l.getD j d0).fst.toNat 0+1 else p.getD (n.l.getD j d0).snd.toNat 0))))/\zAI (own 1 (map I (p.set (n.l.getD j d0).fst.toNat (if p.getD (n.l.getD j d0).snd.toNat 0+1<p.getD (n.l.getD j d0).fst.toNat 0 then p.getD (n.l.getD j d0).snd.toNat 0+1 else p.getD (n.l.getD j d0).fst.toNat 0)))) (own 1 (map I ((p.set (n.l.getD j d0).fst.toNat (if p.getD (n.l.getD j d0).snd.toNat 0+1<p.getD (n.l.getD j d0).fst.toNat 0 then p.getD (n.l.getD j d0).snd.toNat 0+1 else p.getD (n.l.getD j d0).fst.toNat 0)).set (n.l.getD j d0).snd.toNat (if p.getD (n.l.getD j d0).fst.toNat 0+1<p.getD (n.l.getD j d0).snd.toNat 0 then p.getD (n.l.getD j d0).fst.toNat 0+1 else p.getD (n.l.getD j d0).snd.toNat 0)))) []=true) an)<|zA3<|zAb<|S_i j<|S_g 1 ?_
   ·rw[dF];omega
   ·exact rnd (j+1,awS p (n.l.getD j d0)) ⟨by omega,yM.symm,j0,by rw[zGe];exact kR⟩ (by simp only;omega)
  ·rw[bw (by omega)] at hp;rw[<- hp] at yx;clear hp;refine zAj 1<|zAc<|zAQ ((j:Int)<(n.l.length:Int)) (by omega)<|zAD 4<|zAb<|S_i k<|S_g 1 ?_
   exact rnd (k+1,p) ⟨by omega,yx.symm,hpb⟩ (by simp only;omega)
 ·have hke:k=n.h.toNat:=by omega
  have hf:o=awL n F:=by rw[yE,hke];rfl
  rw[<- hf];clear yE hf;refine zAj 1<|zAc<|zAQ ((k:Int)<n.h) (by omega)<|zAD 2<|zAl 1<|S_a [(2,.yes)] (ap ((by exact zBq (by simp<;>omega)):(beq 0 0&&(map I o).length.beq (map I o).length)=true) an)<|zA3<|zAn<|E_z [(1,.yes),(1,.v (own 1 (map I o)))] (ap (blz (map I o))<|ap ((zAT zA6):own 1 (take (map I o).length (drop 0 (map I o)))=own 1 (map I o)) an)
end
end Go.Eng
namespace Go.Eng
open Go Go.Proofs
inductive Way (n:Nw) (a:Nat):Nat->Prop where
 |here:Way n a a
 |step {b c:Nat}:Way n a b->zDu n b c=true->c<n.h.toNat->Way n a c
theorem zUy{n:Nw}{x:Int×Int}(h:x∈n.l):zDu n x.1 x.2=true/\zDu n x.2 x.1=true:=by
 have h1:zDu n x.1 x.2=true:=by
  unfold zDu;rw[decide_eq_true_eq];exact List.mem_map_of_mem h
 exact⟨h1,by rw[zRU];exact h1⟩
end Go.Eng
set_option maxHeartbeats 1000000
namespace Go.Eng
open Go
theorem zI6:∀ (l:LP) {o:LI} (i:Nat),i<o.length->(l.foldl awS o).getD i 0<=o.getD i 0
 |[],o,i,_=>di _
 | x :: l,o,i,hi=>by
  rw[bM];refine fW (zI6 l i (by rw[zGe];exact hi)) ?_;unfold awS;rw[zBL,zBL];by_cases h2:x.2.toNat=i/\i<(o.set x.1.toNat (if o.getD x.2.toNat 0+1<o.getD x.1.toNat 0 then o.getD x.2.toNat 0+1 else o.getD x.1.toNat 0)).length
  ·rw[if_pos h2,<- h2.1];split<;>omega
  ·rw[if_neg h2];by_cases h1:x.1.toNat=i/\i<o.length
   ·rw[if_pos h1,<- h1.1];split<;>omega
   ·rw[if_neg h1];exact di _
structure Rch (n:Nw) (F:LI) (R:Nat->Nat->Prop):Prop where
 beg:∀ h,h<n.h.toNat->(R 0 h↔has F (h:Int)=true)
 next:∀ d h,h<n.h.toNat->(R (d+1) h↔R d h\/∃ o,o<n.h.toNat/\zDu n h o=true/\R d o)
def AwS(n:Nw)(R:Nat->Nat->Prop)(o:LI):Prop:=∀ i,i<o.length->o.getD i 0<n.h->R (o.getD i 0).toNat i
theorem zXn{n:Nw}(ho:NwOk n){F:LI}{R:Nat->Nat->Prop}(hR:Rch n F R){o:LI}{x:Int×Int}(hl:o.length=n.h.toNat)(hx:x∈n.l)(hb:AwB n.h o)(h:AwS n R o):AwS n R (awS o x):=fun i hi yG=>by
 have hr:=ho.lr x hx;obtain⟨h1,h2⟩:=zUy hx;rw[zGe] at hi;have e1:((x.1.toNat:Nat):Int)=x.1:=by omega
 have e2:((x.2.toNat:Nat):Int)=x.2:=by omega
 have b1:=hb x.1.toNat (by omega);have b2:=hb x.2.toNat (by omega);have s1:=h x.1.toNat (by omega);have s2:=h x.2.toNat (by omega);unfold awS at yG ⊢;rw[zBL,zBL] at yG ⊢;by_cases c2:x.2.toNat=i
 ·rw[if_pos ⟨c2,by rw[dF];omega⟩] at yG ⊢;split at yG
  ·rename_i c;rw[if_pos c,<- c2,show(o.getD x.1.toNat 0+1).toNat=(o.getD x.1.toNat 0).toNat+1 by omega];exact(hR.next _ _ (by omega)).2 (.inr ⟨x.1.toNat,by omega,by rw[e1,e2];exact h2,s1 (by omega)⟩)
  ·rename_i c;rw[if_neg c,<- c2];exact s2 yG
 ·rw[if_neg (fun h=>c2 h.1)] at yG ⊢;by_cases c1:x.1.toNat=i
  ·rw[if_pos ⟨c1,by omega⟩] at yG ⊢;split at yG
   ·rename_i c;rw[if_pos c,<- c1,show(o.getD x.2.toNat 0+1).toNat=(o.getD x.2.toNat 0).toNat+1 by omega];exact(hR.next _ _ (by omega)).2 (.inr ⟨x.2.toNat,by omega,by rw[e1,e2];exact h1,s2 (by omega)⟩)
   ·rename_i c;rw[if_neg c,<- c1];exact s1 yG
  ·rw[if_neg (fun h=>c1 h.1)] at yG ⊢;exact h i hi yG
theorem zUg{n:Nw}(ho:NwOk n){F:LI}{R:Nat->Nat->Prop}(hR:Rch n F R):∀ (l:LP) {o:LI},(∀ x∈l,x∈n.l)->o.length=n.h.toNat->AwB n.h o->AwS n R o->AwS n R (l.foldl awS o)/\AwB n.h (l.foldl awS o)
 |[],_,_,_,hb,h=>⟨h,hb⟩|x::l,o,hl,ho2,hb,h=>by
  have hr:=ho.lr x (hl x cf);rw[bM];exact zUg ho hR l (fun y hy=>hl y (bZ _ hy)) (by rw[zGe,ho2]) (zWw hb (by omega)) (zXn ho hR ho2 (hl x cf) hb h)
theorem zLN{n:Nw}{F:LI}{i:Nat}(hi:i<n.h.toNat):(awR n F 0).getD i 0=if has F (i:Int)=true then 0 else n.h:=by
 have e:awR n F 0=awI n F n.h.toNat:=by simp[awR]
 rw[e,zAu (by rw[zJ4];exact hi)];simp only[awI,fP,ie]
theorem zOj{n:Nw}(ho:NwOk n){F:LI}{R:Nat->Nat->Prop}(hR:Rch n F R):∀ k,AwS n R (awR n F k)/\AwB n.h (awR n F k)
 | 0 => by
  have hH:=ho.h;refine⟨fun i hi yG=>?_,fun i hi=>?_⟩
  ·rw[zEq] at hi;rw[zLN hi] at yG ⊢;split at yG
   ·rename_i c;rw[if_pos c];exact(hR.beg i hi).2 c
   ·omega
  ·rw[zEq] at hi;rw[zLN hi];split<;>omega
 |k+1=>by
  obtain⟨h1,h2⟩:=zOj ho hR k;rw[zIR];exact zUg ho hR n.l (fun _ h=>h) (zEq k) h2 h1
theorem zPG{n:Nw}(ho:NwOk n){i j:Nat}(hi:i<n.h.toNat)(hj:j<n.h.toNat):∀ (l:LP) {o:LI},(∀ x∈l,x∈n.l)->o.length=n.h.toNat->(∃ x∈l,(x.1=i/\x.2=j)\/(x.1=j/\x.2=i))->(l.foldl awS o).getD i 0<=o.getD j 0+1
 |[],_,_,_,⟨x,hx,_⟩=>by simp at hx
 | x :: l,o,hl,ho2,⟨y,hy,hxy⟩=>by
  rw[bM];rcases bx.1 hy with rfl|hy
  ·have hr:=ho.lr y (hl y cf);have hI:=ho.lne y (hl y cf);refine fW (zI6 l i (by rw[zGe];omega)) ?_;unfold awS;rw[zBL,zBL];rcases hxy with⟨h1,h2⟩|⟨h1,h2⟩
   ·rw[if_neg (by omega),if_pos ⟨by omega,by omega⟩,h1,h2,bR,bR];split<;>omega
   ·rw[if_pos ⟨by omega,by rw[dF];omega⟩,h1,h2,bR,bR];split<;>omega
  ·have h1:=zPG ho hi hj l (o:=awS o x) (fun z hz=>hl z (bZ _ hz)) (by rw[zGe,ho2]) ⟨y,hy,hxy⟩;have h2:=zI6 [x] (o:=o) j (by omega);simp only[bM,cv] at h2;omega
theorem zTv{n:Nw}{a b:Nat}(h:zDu n a b=true):∃ x∈n.l,(x.1=a/\x.2=b)\/(x.1=b/\x.2=a):=by
 unfold zDu at h;rw[decide_eq_true_eq,b4] at h;obtain⟨x,h1,h2⟩:=h;refine⟨x,h1,?_⟩;simp only[pr2,bz] at h2;omega
theorem zJX{n:Nw}(ho:NwOk n){F:LI}{R:Nat->Nat->Prop}(hR:Rch n F R):∀ k d i,d<=k->i<n.h.toNat->R d i->(awR n F k).getD i 0<=d
 |0,d,i,hd,hi,hr=>by
  have:d=0:=by omega
  subst this;rw[zLN hi,if_pos ((hR.beg i hi).1 hr)];exact di _
 | k + 1,d,i,hd,hi,hr=>by
  have hm:=zI6 n.l (o:=awR n F k) i (by rw[zEq];exact hi);rw[zIR]
  cases d with
  |zero=>exact fW hm (zJX ho hR k 0 i (bN _) hi hr)|succ d=>
   rcases(hR.next d i hi).1 hr with g|⟨j,g1,g2,g3⟩
   ·have:=zJX ho hR k d i (by omega) hi g;omega
   ·have h1:=zJX ho hR k d j (by omega) g1 g3;have h2:=zPG ho hi g1 n.l (o:=awR n F k) (fun _ h=>h) (zEq k) (zTv g2);omega
theorem zTt{n:Nw}{cs:LP}(ho:NwOk n){e k:Nat}(he:n.h.toNat<=e+1)(hk:e<=k):zAy n cs k=zAy n cs e:=by
 induction hk with
 |refl=>rfl|step h ih=>rename_i m;rw[zTR ho (by have:e<=m:=h;omega)];exact ih
theorem zS3{n:Nw}{i s:Int}{c:Nat}(ho:CrW n [(i,s)])(hc:c<8)(hf:(zAg n).getD i.toNat 0=c):Rch n (n.s.getD s.toNat []) fun e h=>zFl n (i,s) e h c:=by
 have hi:=ho.cs _ (bk.2 rfl);simp only at hi;refine⟨fun h hh=>?_,fun d h hh=>?_⟩
 ·refine Iff.trans ((zE4 ho).ge hh hc) ?_;constructor
  ·rintro(g|⟨y,g1,g2,g3,g4⟩)
   ·omega
   ·obtain⟨d,d1,d2⟩:=bX.1 g3;rw[bk.1 d1] at d2;simp only[hrB,bb,decide_eq_true_eq] at d2;exact d2.2
  ·intro g;refine .inr ⟨i.toNat,by omega,hf,bX.2 ⟨(i,s),bk.2 rfl,?_⟩,by omega⟩;simp only[hrB,bb,decide_eq_true_eq];exact⟨by omega,g⟩
 ·refine Iff.trans (zDA ho.nw (zBe d) hh hc) ?_;constructor
  ·rintro(g|⟨o,g1,g2⟩)
   ·exact .inl g
   ·exact .inr ⟨o,zHX g1,(bO.1 g1).2,g2⟩
  ·rintro(g|⟨o,g1,g2,g3⟩)
   ·exact .inl g
   ·exact .inr ⟨o,bO.2 ⟨bF.2 g1,g2⟩,g3⟩
theorem zRi{n:Nw}{i s:Int}{c:Nat}(ho:CrW n [(i,s)])(hc:c<8)(hf:(zAg n).getD i.toNat 0=c){e h:Nat}(hh:h<n.h.toNat):zFl n (i,s) e h c↔(awL n (n.s.getD s.toNat [])).getD h 0<=min (e:Int) (n.h-1):=by
 have hN:=ho.nw;have hH:=hN.h;have hR:=zS3 ho hc hf;have hb:=(zOj hN hR n.h.toNat).2 h (by rw[zEq];exact hh);constructor
 ·intro h1;by_cases he:e<=n.h.toNat-1
  ·have:=zJX hN hR n.h.toNat e h (by omega) hh h1;unfold awL;omega
  ·have h2:zFl n (i,s) (n.h.toNat-1) h c:=by
    unfold zFl at h1 ⊢;rwa[zTt hN (e:=n.h.toNat-1) (k:=e) (by omega) (by omega)] at h1
   have:=zJX hN hR n.h.toNat (n.h.toNat-1) h (by omega) hh h2;unfold awL;omega
 ·intro h1;unfold awL at h1;have h2:=(zOj hN hR n.h.toNat).1 h (by rw[zEq];exact hh) (by omega);exact fW h2 (zVu hN _ (by omega))
def zWB(n:Nw)(e:Int)(st:LI)(h:Int):Bool:=st.all fun s=>decide ((awL n (n.s.getD s.toNat [])).getD h.toNat 0>min e (n.h-1))
theorem zXK{n:Nw}{cs:LP}{e:Nat}{st:LI}(ho:CrW n cs)(yN:cs.length<=16)(yT:∀ s∈st,0<=s/\s<n.s.length){g:Int×Int}(hg:g∈zAA n (zAy n cs e)):has (zUl n cs e (zAA n (zAy n cs e)) st) g=zWB n e st g.1:=by
 have hN:=ho.nw;have h8:=hN.nl;obtain⟨h,x,hh,hx,rfl,hb⟩:=zD3 hg;have hf:=zBK hN x hx;obtain⟨l,a1,a2,a3,_⟩:=zEW hN hx;unfold chn at a3;rw[co,zTU ho yN yT hh hx hb a1];simp only[zWB,bi,decide_eq_true_eq,bR];have key:∀ s∈st,(zFl n ((l:Int),s) e h ((zAg n).getD x 0).toNat↔(awL n (n.s.getD s.toNat [])).getD h 0<=min (e:Int) (n.h-1)):=fun s hs=>
  zRi ⟨hN,by simp,fun c hc=>by rw[bk.1 hc];exact⟨by simp only;omega,yT s hs⟩⟩ (by omega) (by simp only[bR];omega) hh
 constructor
 ·intro h1 s hs;have:=h1 s hs;rw[key s hs] at this;omega
 ·intro h1 s hs hr;have:=h1 s hs;rw[key s hs] at hr;omega
end Go.Eng
set_option maxRecDepth 10000
set_option maxHeartbeats 4000000
namespace Go.Eng
open Go Go.Proofs
theorem zPU(a b c d:Int):eqT Tryz.prog 19 108 (.agg [I a,I b]) (.agg [I c,I d])=some (a==c&&b==d):=by
 have s1:eqT Tryz.prog 19 108 (.agg [I a,I b]) (.agg [I c,I d])=(match some (a==c) with|some true=>zQO (eqT Tryz.prog 18) (shT Tryz.prog) (.agg [I a,I b]) (.agg [I c,I d]) (zLf Tryz.prog 108).tail|r=>r):=by kernel_rfl
 have s2:zQO (eqT Tryz.prog 18) (shT Tryz.prog) (.agg [I a,I b]) (.agg [I c,I d]) (zLf Tryz.prog 108).tail=(match some (b==d) with|some true=>some true|r=>r):=by kernel_rfl
 rw[s1];cases a==c
 ·rfl
 simp only[s2,cy];cases b==d<;>rfl
abbrev ppK(p:Pp):PV := .agg [I p.1.1,I p.1.2,I p.2.1,I p.2.2]
theorem zZE(p q:Pp):eqT Tryz.prog 20 194 (ppK p) (ppK q)=some (decide (p=q)):=by
 obtain⟨⟨a,b⟩,c,d⟩:=p;obtain⟨⟨a',b'⟩,c',d'⟩:=q;have s1:eqT Tryz.prog 20 194 (.agg [I a,I b,I c,I d]) (.agg [I a',I b',I c',I d'])=(match eqT Tryz.prog 19 108 (.agg [I a,I b]) (.agg [I a',I b']) with|some true=>zUn (eqT Tryz.prog 19 108) (some 2) 2 (.agg [I a,I b,I c,I d]) (.agg [I a',I b',I c',I d']) 1 1|r=>r):=by kernel_rfl
 have s2:zUn (eqT Tryz.prog 19 108) (some 2) 2 (.agg [I a,I b,I c,I d]) (.agg [I a',I b',I c',I d']) 1 1=(match eqT Tryz.prog 19 108 (.agg [I c,I d]) (.agg [I c',I d']) with|some true=>some true|r=>r):=by kernel_rfl
 show eqT Tryz.prog 20 194 (.agg [I a,I b,I c,I d]) (.agg [I a',I b',I c',I d'])=_
 rw[s1,zPU];have e:decide (((a,b),(c,d))=((a',b'),(c',d')))=((a==a'&&b==b')&&(c==c'&&d==d')):=by
  rw[co];simp only[decide_eq_true_eq,bz,bb,beq_iff_eq]
 rw[e];cases a==a'&&b==b'
 ·rfl
 simp only[s2,zPU,cy];cases c==c'&&d==d'<;>rfl
theorem zLV{P:Program}{kt:TypeId}{α:Type}{g:α->PV×PV}{p:α->Bool}{key:PV}(h:∀ x,eqT P 20 kt key (g x).1=some (p x))(h2:∀ x,p x=true->zEn key.cells (g x).1.cells=some true):∀ (M:List α) (i:Nat),zCh P kt key (M.map g) i=some ((M.findIdx? p).map (· + i))
 |[],i=>rfl
 | x :: M,i=>by
  have h1:=h x;have h3:=h2 x;rw[bL,fd];have e:g x=((g x).1,(g x).2):=rfl;rw[e];simp only[zCh,h1]
  cases hc:p x with
  |true=>simp only[h3 hc];simp
  | false =>
   rw[zLV h h2 M (i+1)]
   cases M.findIdx? p with
   |none=>simp|some j=>
    simp only[bv,bp,if_false];congr 2;omega
theorem zOz{es es' es'':List (PV×PV)}(h:es'=es''):zAz (fun _=>some (.omap es')) (.omap es) []=some (.omap es'')/\zAI (.omap es) (.omap es'') []=true:=by
 subst h;exact⟨rfl,rfl⟩
theorem zYw(a b:Gp):decide (a≠b) = !(decide (a.1=b.1)&&decide (a.2=b.2)):=by
 rw[co];simp only[decide_eq_true_eq,bG,fh,decide_eq_false_iff_not,ne_eq,Prod.ext_iff];omega
abbrev ppV(p:Pp):PV×PV:=(ppK p,.bool (!(decide (p.1.1=p.2.1)&&decide (p.1.2=p.2.2))))
theorem zYm(p:Pp):zEn (ppK p).cells (ppK p).cells=some true:=by
 show some (p.1.1==p.1.1&&(p.1.2==p.1.2&&(p.2.1==p.2.1&&(p.2.2==p.2.2&&true))))=some true
 simp
theorem zTO(p:Pp)(M:List Pp):zCh Tryz.prog 194 (ppK p) (M.map ppV) 0=some (M.findIdx? fun q=>decide (p=q)):=by
 rw[zLV (p:=fun q=>decide (p=q)) (fun x=>zZE p x) (fun x h=>by
  rw[decide_eq_true_eq] at h;subst h;exact zYm p) M 0]
 simp
theorem zYH{p:Pp}{M:List Pp}(h:p∈M):∃ i,zCh Tryz.prog 194 (ppK p) (M.map ppV) 0=some (some i)/\zD4 (M.map ppV) i=some (.bool (!(decide (p.1.1=p.2.1)&&decide (p.1.2=p.2.2))))/\(M.map ppV).modify i (fun _=>ppV p)=M.map ppV:=by
 cases hf:M.findIdx? fun q=>decide (p=q) with
 |none=>
  rw[dm] at hf;have:=hf p h;simp at this
 | some i =>
  rw[da] at hf;obtain⟨hi,h1,_⟩:=hf;rw[decide_eq_true_eq] at h1;refine⟨i,?_,?_,?_⟩
  ·rw[zTO,da.2];refine⟨hi,by rw[decide_eq_true_eq];exact h1,fun j hj=>?_⟩;rename_i h2;exact h2 j hj
  ·simp only[zD4,cH,bl hi,bv,<- h1]
  ·apply cW;intro j;rw[List.getElem?_modify];by_cases hj:i=j
   ·subst hj;rw[cH,bl hi,bv,<- h1];simp
   ·cases (M.map ppV)[j]?<;>simp[hj]
theorem zYi{p:Pp}{M:List Pp}(h:p∉M):zCh Tryz.prog 194 (ppK p) (M.map ppV) 0=some none:=by
 rw[zTO,dm.2];intro y hy;rw[decide_eq_false_iff_not];rintro rfl;exact h hy
section
variable [Yo]
theorem f193(M:List Pp)(ll:LP)(i:Nat)(hi:i<ll.length)(uu:ll.length<=80)(g:Int×Int):FG 193 [prV g,.ref (.map (M.map ppV)),.ref (prs ll),.ref (I i)] (.bool (!(jpB M g (ll.getD i d0)))):=by
 by_cases hm:(g,ll.getD i d0)∈M
 ·obtain⟨j,yB,yj,_⟩:=zYH hm;have hj:jpB M g (ll.getD i d0) = !(decide (g.1=(ll.getD i d0).1)&&decide (g.2=(ll.getD i d0).2)):=by unfold jpB;rw[decide_eq_true hm,cy,zYw]
  rw[hj];refine zAd Tryz.f193 ?_;refine zAj 2<|zAl 4<|S_a [(2,.v (prV (ll.getD i d0)))] (ap (zBN d0 (by omega):(map prV ll)[i]? = some (prV (ll.getD i d0))) an)<|zAm 2<|S_a [(2,.ix (some j)),(0,.v (bool !(decide ((g,ll.getD i d0).fst.fst=(g,ll.getD i d0).snd.fst)&&decide ((g,ll.getD i d0).fst.snd=(g,ll.getD i d0).snd.snd))))] (ap yB<|ap (yj:zD4 (map ppV M) j=some (bool !(decide ((g,ll.getD i d0).fst.fst=(g,ll.getD i d0).snd.fst)&&decide ((g,ll.getD i d0).fst.snd=(g,ll.getD i d0).snd.snd)))) an)<|S_g 2<|zAn E_0
 ·have yB:=zYi hm;have hj:jpB M g (ll.getD i d0)=false:=by unfold jpB;rw[decide_eq_false hm,dB]
  rw[hj];refine zAd Tryz.f193 ?_;refine zAj 2<|zAl 4<|S_a [(2,.v (prV (ll.getD i d0)))] (ap (zBN d0 (by omega):(map prV ll)[i]? = some (prV (ll.getD i d0))) an)<|zAm 2<|S_a [(2,.ix none)] (ap yB an)<|S_g 2<|zAn E_0
theorem f212_9(M:List Pp)(ll:LP)(z:Nat)(hz:z<ll.length)(uu:ll.length<=80)(x:Int×Int):FG 212 [prV x,.ref (.func 193 [] [.ref (.map (M.map ppV)),.ref (prs ll),.ref (I z)])] (.bool (!(!(jpB M x (ll.getD z d0))))):=by
 refine zAd Tryz.f212 ?_;refine zAj 2<|zAl 2<|S_a [(9,.ret (bool !jpB M x (ll.getD z d0)) [])] (ap (f193 M ll z (by omega) (by omega) x) an)<|S_g 2<|zAn E_0
theorem f174_9(M:List Pp)(ll:LP)(z:Nat)(hz:z<ll.length)(uu:ll.length<=80)(l:LP)(hl:l.length<4294967296):FG 174 [.sl (l.map prV),.func 212 [] [.ref (.func 193 [] [.ref (.map (M.map ppV)),.ref (prs ll),.ref (I z)])]] (I (zDZ (fun x=>!(!(jpB M x (ll.getD z d0)))) l)):=by
 refine zAd Tryz.f174 ?_;refine zAj 1<|zAc<|zAl 1<|S_a [(0,.n l.length)] (ap (lnS prV l) an)<|S_g 1<|zAf 0 ?_
 refine zAr (fun i=>i<=l.length/\∀ j,j<i->(fun x=>!(!(jpB M x (ll.getD z d0)))) (l.getD j d0)=false) (fun i=>[(8,I (i:Nat))]) (fun i=>l.length-i) (0:Nat) (by simp) fun i ⟨hi,ha⟩=>?_;refine zAj 1<|zAc<|zCN ((i:Int)<(l.length:Int)) (fun k0=>(zAh<|zAc<|zAf 1<|zAj 2<|zAl 3<|S_a [(2,.v (prV (l.getD i d0)))] (ap (zBN d0 (by omega):(map prV l)[i]? = some (prV (l.getD i d0))) an)<|zAm 1<|S_a [(7,.ret (bool !!jpB M (l.getD i d0) (ll.getD z d0)) [])] (ap (f212_9 M ll z (by omega) (by omega) (l.getD i d0)) an)<|zA3<|zEx (!!jpB M (l.getD i d0) (ll.getD z d0)) (fun k1=>(zAj 2<|zAn<|E_a [] an (I (i:Int)) [] ?_ rfl)) (fun k1=>(zAh<|zAb<|S_i i<|S_g 1 ?_)))) (fun k0=>(zAD 0<|zAj 1<|zAn<|E_a [] an (I (-1)) [] ?_ rfl))
 ·rw[zBG (i:=i) (by omega) (fun j hj=>by rw[<- zAu (d:=d0)];exact ha j hj) (by rw[<- zAu (d:=d0)];first|assumption|exact decide_eq_true ‹_›|(simp only[bG,decide_eq_false_iff_not];assumption))]
 ·refine⟨i+1,⟨by omega,fun j hj=>?_⟩,by omega,by kernel_rfl,by kernel_rfl⟩;rcases bP.1 hj with h|rfl
  ·exact ha j h
  ·first|assumption|exact decide_eq_false ‹_›|(simp only[bE,decide_eq_true_eq];first|assumption|(apply cR;assumption))
 ·rw[zBY fun j hj=>by rw[<- zAu (d:=d0)];exact ha j (by omega)]
theorem f211_9(M:List Pp)(ll:LP)(z:Nat)(hz:z<ll.length)(uu:ll.length<=80)(l:LP)(hl:l.length<4294967296):FG 211 [.sl (l.map prV),.func 212 [] [.ref (.func 193 [] [.ref (.map (M.map ppV)),.ref (prs ll),.ref (I z)])]] (.bool (l.any (fun x=>!(!(jpB M x (ll.getD z d0)))))):=by
 refine zAd Tryz.f211 ?_;refine zAj 1<|zAl 2<|S_a [(7,.ret (I (zDZ (fun x=>!!jpB M x (ll.getD z d0)) l)) [])] (ap (f174_9 M ll z (by omega) (by omega) l (by omega)) an)<|S_g 2<|zAn<|E_a [] an (bool (decide (zDZ (fun x=>!!jpB M x (ll.getD z d0)) l>=0))) [] ?_ rfl
 rw[zDy]
theorem f192_9(M:List Pp)(ll:LP)(z:Nat)(hz:z<ll.length)(uu:ll.length<=80)(l:LP)(hl:l.length<4294967296):FG 192 [.sl (l.map prV),.func 193 [] [.ref (.map (M.map ppV)),.ref (prs ll),.ref (I z)]] (.bool (l.all (fun x=>!(jpB M x (ll.getD z d0))))):=by
 refine zAd Tryz.f192 ?_;refine zAj 2<|zAl 2<|S_a [(12,.ret (bool (l.any fun x=>!!jpB M x (ll.getD z d0))) [])] (ap (f211_9 M ll z (by omega) (by omega) l (by omega)) an)<|S_g 2<|zAn<|E_a [] an (bool !l.any fun x=>!!jpB M x (ll.getD z d0)) [] ?_ rfl
 simp[cX]
end
end Go.Eng
set_option maxRecDepth 10000
set_option maxHeartbeats 4000000
namespace Go.Eng
open Go Go.Proofs
abbrev Mp:=Gp×Bool
abbrev mpV(p:Mp):PV×PV:=(prV p.1,.bool p.2)
theorem zVg(p q:Gp):eqT Tryz.prog 20 108 (prV p) (prV q)=some (decide (p=q)):=by
 obtain⟨a,b⟩:=p;obtain⟨c,d⟩:=q;have s1:eqT Tryz.prog 20 108 (.agg [I a,I b]) (.agg [I c,I d])=(match some (a==c) with|some true=>zQO (eqT Tryz.prog 19) (shT Tryz.prog) (.agg [I a,I b]) (.agg [I c,I d]) (zLf Tryz.prog 108).tail|r=>r):=by kernel_rfl
 have s2:zQO (eqT Tryz.prog 19) (shT Tryz.prog) (.agg [I a,I b]) (.agg [I c,I d]) (zLf Tryz.prog 108).tail=(match some (b==d) with|some true=>some true|r=>r):=by kernel_rfl
 show eqT Tryz.prog 20 108 (.agg [I a,I b]) (.agg [I c,I d])=_
 rw[s1];have e:decide ((a,b)=(c,d))=(a==c&&b==d):=by
  rw[co];simp only[decide_eq_true_eq,bz,bb,beq_iff_eq]
 rw[e];cases a==c
 ·rfl
 simp only[s2,cy];cases b==d<;>rfl
theorem zY8(p:Gp):zEn (prV p).cells (prV p).cells=some true:=by
 show some (p.1==p.1&&(p.2==p.2&&true))=some true
 simp
theorem zOI(g:Gp)(M:List Mp):zCh Tryz.prog 108 (prV g) (M.map mpV) 0=some (M.findIdx? fun q=>decide (g=q.1)):=by
 rw[zLV (p:=fun q:Mp=>decide (g=q.1)) (fun x=>zVg g x.1) (fun x h=>by
  rw[decide_eq_true_eq] at h;subst h;exact zY8 _) M 0]
 simp
def atM:List Mp->Gp->Bool
 |[],_=>false|q::M,x=>if x=q.1 then q.2 else atM M x
def zOo:List Mp->Gp->Bool->List Mp
 |[],x,b=>[(x,b)]|q::M,x,b=>if x=q.1 then(x,b)::M else q::zOo M x b
theorem zV1{x y:Gp}{b:Bool}:∀ M:List Mp,atM (zOo M x b) y=if y=x then b else atM M y
 |[]=>rfl
 | q :: M=>by
  have ih:=zV1 (x:=x) (y:=y) (b:=b) M;unfold zOo;by_cases h:x=q.1
  ·rw[if_pos h];by_cases h2:y=x
   ·subst h2;simp[atM]
   ·simp only[atM,if_neg h2,if_neg (show ¬ y=q.1 from fun e=>h2 (e.trans h.symm))]
  ·rw[if_neg h];simp only[atM,ih];by_cases h2:y=q.1
   ·simp only[if_pos h2,if_neg (fun e:y=x=>h (e.symm.trans h2))]
   ·simp only[if_neg h2]
theorem zN8(x:Gp):∀ M:List Mp,(∃ i,(M.findIdx? fun q=>decide (x=q.1))=some i/\zD4 (M.map mpV) i=some (.bool (atM M x))/\∀ b,(M.map mpV).modify i (fun _=>mpV (x,b))=(zOo M x b).map mpV)\/((M.findIdx? fun q=>decide (x=q.1))=none/\atM M x=false/\∀ b,zOo M x b=M++[(x,b)])
 |[]=>.inr ⟨rfl,rfl,fun _=>rfl⟩
 | q :: M=>by
  rw[fd];by_cases h:x=q.1
  ·refine .inl ⟨0,by rw[decide_eq_true h];rfl,?_,fun b=>?_⟩
   ·simp only[atM,if_pos h];rfl
   ·simp only[zOo,if_pos h];rfl
  ·rw[decide_eq_false h];rcases zN8 x M with⟨i,h1,h2,h3⟩|⟨h1,h2,h3⟩
   ·refine .inl ⟨i+1,by rw[h1];rfl,?_,fun b=>?_⟩
    ·simp only[atM,if_neg h];exact h2
    ·simp only[zOo,if_neg h,bL,List.modify_succ_cons,h3 b]
   ·refine .inr ⟨by rw[h1];rfl,by simp only[atM,if_neg h];exact h2,fun b=>by simp only[zOo,if_neg h,h3 b];rfl⟩
def zWu(M:List Mp)(b:Bool)(C:List Gp):List Mp:=C.foldl (fun M x=>zOo M x (atM M x||b)) M
theorem zSn{b:Bool}{y:Gp}:∀ (C:List Gp) (M:List Mp),atM (zWu M b C) y=(atM M y||(b&&has C y))
 |[],M=>by simp[zWu,has]|x :: C,M=>by
  have ih:=zSn (b:=b) (y:=y) C (zOo M x (atM M x||b));unfold zWu at ih ⊢;rw[bM,ih,zV1];have e:has (x::C) y=(decide (y=x)||has C y):=rfl;rw[e];by_cases h:y=x
  ·subst h;rw[if_pos rfl,decide_eq_true rfl];cases atM M y<;>cases b<;>cases has C y<;>rfl
  ·rw[if_neg h,decide_eq_false h,ci]
theorem zR9{M:List Mp}{b:Bool}{C:List Gp}{j:Nat}(h:j<C.length):zWu M b (C.take (j+1))=zOo (zWu M b (C.take j)) (C.getD j d0) (atM (zWu M b (C.take j)) (C.getD j d0)||b):=zCk h
end Go.Eng
set_option maxRecDepth 10000
set_option maxHeartbeats 4000000
namespace Go.Eng
open Go Go.Proofs
theorem zPK{J:Gp->Gp->Bool}{l ch q:List Gp}{i:Nat}(h:i<l.length):srh J (l.drop i) ch q=if q.length<ch.length+(l.length-i) then srh J (l.drop (i+1)) ch (if okB J ch (l.getD i d0)=true then srh J (l.drop (i+1)) (ch++[l.getD i d0]) (btr (ch++[l.getD i d0]) q) else q) else q:=by
 have e1:l.length-(i+1)+1=l.length-i:=by omega
 rw[b6 h,srh,dz,e1,zAu h]
theorem zRZ{J:Gp->Gp->Bool}{l ch q:List Gp}{i:Nat}(h:l.length<=i):srh J (l.drop i) ch q=q:=by
 rw[dh h];rfl
section
variable [Yo]
abbrev zGG:List PV:=[.addr 50000000 [] 0 0 none,.addr 50000001 [] 0 0 none,.addr 50000002 [] 0 0 none,.addr 50000003 [] 0 0 none]
abbrev zLJ(l:LP)(M:List Pp)(o:LP):List PV:=[.box (.own 2 (o.map prV)),.box (.sl (l.map prV)),.box (.map (M.map ppV)),.box (.func 191 [] zGG)]
theorem f191(l:LP)(M:List Pp)(hl:l.length<=80):∀ (k fr:Nat) (ch o:LP),l.length-fr<k->fr<=l.length->ch.length<=fr->o.length<=80 ->
  zBD Tryz.prog zCx 191 (.sl (ch.map prV)::I fr::zGG) (zLJ l M o) (.tup []) (zLJ l M (srh (jpB M) (l.drop fr) ch (btr ch o))):=by
 intro k
 induction k with
 |zero=>intro fr ch o h;exact absurd h (cD _)
 | succ k ih =>
  intro fr ch o hk vC yc ho;have hb80:(btr ch o).length<=80:=by unfold btr;split<;>omega
  unfold zLJ;refine zAd Tryz.f191 ?_;generalize hR:srh (jpB M) (l.drop fr) ch (btr ch o)=R;refine zFJ (fun(q,_)=>q=btr ch o) (fun((q:LP),(x:Bool))=>[(13,.bool x),(50000000,.box (.own 2 (q.map prV)))]) [] ?_ fun(O,x) hO=>?_
  ·clear ih hR;by_cases hc:o.length<ch.length
   ·have j5:btr ch o=ch:=if_pos hc;rw[j5];refine zAl 1<|S_a [(0,.n ch.length)] (ap (lnS prV ch) an)<|S_a [(1,.v (bor 50000000 [(0,0)] 2 0 o.length))] (ap ((by simp):bor 50000000 [(0,0)] 2 0 (map prV o).length=bor 50000000 [(0,0)] 2 0 o.length) an)<|S_g 2<|zAM ((ch.length:Int)>(o.length:Int)) (by omega)<|zAb<|zAm 1<|S_a [(6,.ret (own 2 (map prV ch)) [])] (ap (f123 ch (by omega)) an)<|S_g 1 ?_
    exact⟨(ch,decide ((ch.length:Int)>o.length)),rfl,by kernel_rfl,by kernel_rfl⟩
   ·have j5:btr ch o=o:=if_neg hc;rw[j5];refine zAl 1<|S_a [(0,.n ch.length)] (ap (lnS prV ch) an)<|S_a [(1,.v (bor 50000000 [(0,0)] 2 0 o.length))] (ap ((by simp):bor 50000000 [(0,0)] 2 0 (map prV o).length=bor 50000000 [(0,0)] 2 0 o.length) an)<|S_g 2<|zAQ ((ch.length:Int)>(o.length:Int)) (by omega)<|zAh ?_
    exact⟨(o,decide ((ch.length:Int)>o.length)),rfl,by kernel_rfl,by kernel_rfl⟩
  rw[<- hO] at hR hb80;clear hO;refine zAj 3<|zAf 0 ?_
  refine zAr (fun(i,q)=>(fr<=i/\i<=l.length)/\q.length<=80/\srh (jpB M) (l.drop i) ch q=R) (fun((i:Nat),(q:LP))=>[(8,.box (I (i:Nat))),(50000000,.box (.own 2 (q.map prV)))]) (fun(i,_)=>l.length-i) (fr,O) ⟨⟨bf _,vC⟩,hb80,hR⟩ fun(i,q) ⟨⟨gI,yR⟩,hq,hs⟩=>?_;by_cases yG:i<l.length
  ·rw[zPK yG] at hs;by_cases hp:q.length<ch.length+(l.length-i)
   ·rw[if_pos hp] at hs;have yy:=f192_9 M l i yG hl ch (by omega);have hev2:(ch.all fun x=>!(jpB M x (l.getD i d0)))=okB (jpB M) ch (l.getD i d0):=rfl;rw[hev2] at yy
    cases yE:okB (jpB M) ch (l.getD i d0) with
    |true=>
     rw[yE] at yy;rw[yE,if_pos rfl] at hs;have ihc:=ih (i+1) (ch++[l.getD i d0]) q (by omega) (by omega) (by rw[bu,bT];omega) hq;have vR:(srh (jpB M) (l.drop (i+1)) (ch++[l.getD i d0]) (btr (ch++[l.getD i d0]) q)).length<=80:=zMw _ _ _ _ (by unfold btr;split<;>(try rw[bu,bT])<;>omega) (by rw[bu,bT,dz];omega);generalize srh (jpB M) (l.drop (i+1)) (ch++[l.getD i d0]) (btr (ch++[l.getD i d0]) q)=q2 at *;unfold zLJ at ihc;clear ih hR hev2 yE;refine zAc<|zAl 2<|S_a [(0,.n l.length)] (ap (lnS prV l) an)<|zAm 2<|zLi 21 ((i:Int)<(l.length:Int)) (by omega) (zAm 1<|S_a [(0,.n ch.length)] (ap (lnS prV ch) an)<|zAm 1<|S_a [(0,.n l.length)] (ap (lnS prV l) an)<|S_a [(1,.v (I (↑(ch.length+l.length):Int)))] (ap ((zBW (by omega) (by omega)):I (IntKind.i64.wrap ((ch.length:Int)+(l.length:Int)))=I (↑(ch.length+l.length):Int)) an)<|zAm 1<|S_a [(1,.v (I (↑(ch.length+l.length-i):Int)))] (ap ((zBW (by omega) (by omega)):I (IntKind.i64.wrap ((↑(ch.length+l.length):Int)-(i:Int)))=I (↑(ch.length+l.length-i):Int)) an)<|S_a [(1,.v (bor 50000000 [(0,0)] 2 0 q.length))] (ap ((by simp):bor 50000000 [(0,0)] 2 0 (map prV q).length=bor 50000000 [(0,0)] 2 0 q.length) an)<|S_g 3<|zAM ((↑(ch.length+l.length-i):Int)>(q.length:Int)) (by omega)<|zAh<|zAc<|zAf 1<|zAl 2<|S_a [(25,.ret (bool true) [])] (ap yy an)<|zA3<|zCy<|zAb<|zAm 2<|S_a [(6,.ret (own 2 (map prV ch)) [])] (ap (f123 ch (by omega)) an)<|zAm 2<|S_a [(2,.v (prV (l.getD i d0)))] (ap (zBN d0 (by omega):(map prV l)[i]? = some (prV (l.getD i d0))) an)<|zAm 2<|S_a [(4,.ob),(0,.ob),(0,.yes),(2,.v (own 2 (map prV (ch++[l.getD i d0]))))] (ap (blz (map prV ch))<|ap ((by exact zAR (by simp only[be,zzLn,zAO]<;>omega)):((map prV ch).length + [prV (l.getD i d0)].length).ble zAO=true)<|ap ((by exact zBq (by simp<;>omega)):(0+(map prV ch).length).beq (map prV ch).length=true)<|ap ((zAT (zBE (by kernel_rfl))):own 2 (map prV ch++[prV (l.getD i d0)])=own 2 (map prV (ch++[l.getD i d0]))) an)<|zAm 1<|S_i i<|S_a [(3,.ob),(0,.v (prs (ch++[l.getD i d0]))),(4,.ret (tup []) ([(own 2 (map prV q2)).box,(prs l).box,(PV.map (map ppV M)).box,(func 191 [] zGG).box])),(2,.no),(1,.envv ([(0,prs ch),(2,addr 50000000 [] 0 0 none),(3,addr 50000001 [] 0 0 none),(4,addr 50000002 [] 0 0 none),(5,addr 50000003 [] 0 0 none),(8,(I (i:Int)).box),(13,bool x),(32,bool (decide ((↑(ch.length+l.length-i):Int)>(q.length:Int)))),(37,bool true),(38,func 191 [] [addr 50000000 [] 0 0 none,addr 50000001 [] 0 0 none,addr 50000002 [] 0 0 none,addr 50000003 [] 0 0 none]),(39,prs ch),(40,bad),(41,prs l),(42,I (i:Int)),(43,(prV (l.getD i d0)).ref),(44,prV (l.getD i d0)),(45,bad),(46,prs (ch++[l.getD i d0])),(47,I (i:Int)),(48,I (↑(i+1):Int)),(50000000,(own 2 (map prV q)).box),(50000001,(prs l).box),(50000002,(PV.map (map ppV M)).box),(50000003,(func 191 [] [addr 50000000 [] 0 0 none,addr 50000001 [] 0 0 none,addr 50000002 [] 0 0 none,addr 50000003 [] 0 0 none]).box)]) (prs (ch++[l.getD i d0]))),(4,.ret (tup []) ([(own 2 (map prV q2)).box,(prs l).box,(PV.map (map ppV M)).box,(func 191 [] zGG).box]))] (ap (blz (map prV (ch++[l.getD i d0])))<|ap (frT prV (ch++[l.getD i d0]))<|ap ihc<|ap ((by simp[PV.free,zBM,zD1]):zD1 [(own 2 (map prV q2)).box,(prs l).box,(PV.map (map ppV M)).box,(func 191 [] zGG).box]=false)<|ap (And.intro (f9 (by kernel_rfl:Env.frz [(0,prs ch),(2,addr 50000000 [] 0 0 none),(3,addr 50000001 [] 0 0 none),(4,addr 50000002 [] 0 0 none),(5,addr 50000003 [] 0 0 none),(8,(I (i:Int)).box),(13,bool x),(32,bool (decide ((↑(ch.length+l.length-i):Int)>(q.length:Int)))),(37,bool true),(38,func 191 [] [addr 50000000 [] 0 0 none,addr 50000001 [] 0 0 none,addr 50000002 [] 0 0 none,addr 50000003 [] 0 0 none]),(39,prs ch),(40,bad),(41,prs l),(42,I (i:Int)),(43,(prV (l.getD i d0)).ref),(44,prV (l.getD i d0)),(45,bad),(46,own 2 (map prV (ch++[l.getD i d0]))),(47,I (i:Int)),(48,I (↑(i+1):Int)),(50000000,(own 2 (map prV q)).box),(50000001,(prs l).box),(50000002,(PV.map (map ppV M)).box),(50000003,(func 191 [] [addr 50000000 [] 0 0 none,addr 50000001 [] 0 0 none,addr 50000002 [] 0 0 none,addr 50000003 [] 0 0 none]).box)] 46 []=some [(0,prs ch),(2,addr 50000000 [] 0 0 none),(3,addr 50000001 [] 0 0 none),(4,addr 50000002 [] 0 0 none),(5,addr 50000003 [] 0 0 none),(8,(I (i:Int)).box),(13,bool x),(32,bool (decide ((↑(ch.length+l.length-i):Int)>(q.length:Int)))),(37,bool true),(38,func 191 [] [addr 50000000 [] 0 0 none,addr 50000001 [] 0 0 none,addr 50000002 [] 0 0 none,addr 50000003 [] 0 0 none]),(39,prs ch),(40,bad),(41,prs l),(42,I (i:Int)),(43,(prV (l.getD i d0)).ref),(44,prV (l.getD i d0)),(45,bad),(46,sl (zAt (map prV (ch++[l.getD i d0])))),(47,I (i:Int)),(48,I (↑(i+1):Int)),(50000000,(own 2 (map prV q)).box),(50000001,(prs l).box),(50000002,(PV.map (map ppV M)).box),(50000003,(func 191 [] [addr 50000000 [] 0 0 none,addr 50000001 [] 0 0 none,addr 50000002 [] 0 0 none,addr 50000003 [] 0 0 none]).box)]) ((by simp only[show zAt (map prV (ch++[l.getD i d0]))=map prV (ch++[l.getD i d0]) from(by first|exact zAs _|exact zAE _|exact zAx _|exact zAY (zAE _)|exact zAY (zAx _)|exact zB7 (by simp[zBF]) (zAs _))]):some [(0,prs ch),(2,addr 50000000 [] 0 0 none),(3,addr 50000001 [] 0 0 none),(4,addr 50000002 [] 0 0 none),(5,addr 50000003 [] 0 0 none),(8,(I (i:Int)).box),(13,bool x),(32,bool (decide ((↑(ch.length+l.length-i):Int)>(q.length:Int)))),(37,bool true),(38,func 191 [] [addr 50000000 [] 0 0 none,addr 50000001 [] 0 0 none,addr 50000002 [] 0 0 none,addr 50000003 [] 0 0 none]),(39,prs ch),(40,bad),(41,prs l),(42,I (i:Int)),(43,(prV (l.getD i d0)).ref),(44,prV (l.getD i d0)),(45,bad),(46,sl (zAt (map prV (ch++[l.getD i d0])))),(47,I (i:Int)),(48,I (↑(i+1):Int)),(50000000,(own 2 (map prV q)).box),(50000001,(prs l).box),(50000002,(PV.map (map ppV M)).box),(50000003,(func 191 [] [addr 50000000 [] 0 0 none,addr 50000001 [] 0 0 none,addr 50000002 [] 0 0 none,addr 50000003 [] 0 0 none]).box)]=some [(0,prs ch),(2,addr 50000000 [] 0 0 none),(3,addr 50000001 [] 0 0 none),(4,addr 50000002 [] 0 0 none),(5,addr 50000003 [] 0 0 none),(8,(I (i:Int)).box),(13,bool x),(32,bool (decide ((↑(ch.length+l.length-i):Int)>(q.length:Int)))),(37,bool true),(38,func 191 [] [addr 50000000 [] 0 0 none,addr 50000001 [] 0 0 none,addr 50000002 [] 0 0 none,addr 50000003 [] 0 0 none]),(39,prs ch),(40,bad),(41,prs l),(42,I (i:Int)),(43,(prV (l.getD i d0)).ref),(44,prV (l.getD i d0)),(45,bad),(46,prs (ch++[l.getD i d0])),(47,I (i:Int)),(48,I (↑(i+1):Int)),(50000000,(own 2 (map prV q)).box),(50000001,(prs l).box),(50000002,(PV.map (map ppV M)).box),(50000003,(func 191 [] [addr 50000000 [] 0 0 none,addr 50000001 [] 0 0 none,addr 50000002 [] 0 0 none,addr 50000003 [] 0 0 none]).box)])) (zH9 (by first|exact zAs _|exact zAE _|exact zAx _):PV.mapW (inl 46 [] (own 2 (map prV (ch++[l.getD i d0])))) (bor 46 [] 2 0 (map prV (ch++[l.getD i d0])).length)=prs (ch++[l.getD i d0])))<|ap ihc an)<|zA3<|zAc<|zAj 1<|zAb<|S_g 2<|zAb<|zAm 1<|S_i i<|S_g 1 ?_)
     exact rnd (i+1,q2) ⟨⟨by omega,by omega⟩,vR,hs⟩ (by simp only;omega)
    |false=>
     rw[yE] at yy;rw[yE,if_neg (by simp)] at hs;clear ih hR hev2 yE;refine zAc<|zAl 2<|S_a [(0,.n l.length)] (ap (lnS prV l) an)<|zAm 2<|zLi 21 ((i:Int)<(l.length:Int)) (by omega) (zAm 1<|S_a [(0,.n ch.length)] (ap (lnS prV ch) an)<|zAm 1<|S_a [(0,.n l.length)] (ap (lnS prV l) an)<|S_a [(1,.v (I (↑(ch.length+l.length):Int)))] (ap ((zBW (by omega) (by omega)):I (IntKind.i64.wrap ((ch.length:Int)+(l.length:Int)))=I (↑(ch.length+l.length):Int)) an)<|zAm 1<|S_a [(1,.v (I (↑(ch.length+l.length-i):Int)))] (ap ((zBW (by omega) (by omega)):I (IntKind.i64.wrap ((↑(ch.length+l.length):Int)-(i:Int)))=I (↑(ch.length+l.length-i):Int)) an)<|S_a [(1,.v (bor 50000000 [(0,0)] 2 0 q.length))] (ap ((by simp):bor 50000000 [(0,0)] 2 0 (map prV q).length=bor 50000000 [(0,0)] 2 0 q.length) an)<|S_g 3<|zAM ((↑(ch.length+l.length-i):Int)>(q.length:Int)) (by omega)<|zAh<|zAc<|zAf 1<|zAl 2<|S_a [(25,.ret (bool false) [])] (ap yy an)<|zA3<|zAB<|zAh<|zAc<|zAj 1<|zAb<|S_g 2<|zAb<|zAm 1<|S_i i<|S_g 1 ?_)
     exact rnd (i+1,q) ⟨⟨by omega,by omega⟩,hq,hs⟩ (by simp only;omega)
   ·rw[if_neg hp] at hs;rw[<- hs];clear ih hR hs;refine zAc<|zAl 2<|S_a [(0,.n l.length)] (ap (lnS prV l) an)<|zAm 2<|zLi 21 ((i:Int)<(l.length:Int)) (by omega) (zAm 1<|S_a [(0,.n ch.length)] (ap (lnS prV ch) an)<|zAm 1<|S_a [(0,.n l.length)] (ap (lnS prV l) an)<|S_a [(1,.v (I (↑(ch.length+l.length):Int)))] (ap ((zBW (by omega) (by omega)):I (IntKind.i64.wrap ((ch.length:Int)+(l.length:Int)))=I (↑(ch.length+l.length):Int)) an)<|zAm 1<|S_a [(1,.v (I (↑(ch.length+l.length-i):Int)))] (ap ((zBW (by omega) (by omega)):I (IntKind.i64.wrap ((↑(ch.length+l.length):Int)-(i:Int)))=I (↑(ch.length+l.length-i):Int)) an)<|S_a [(1,.v (bor 50000000 [(0,0)] 2 0 q.length))] (ap ((by simp):bor 50000000 [(0,0)] 2 0 (map prV q).length=bor 50000000 [(0,0)] 2 0 q.length) an)<|S_g 3<|zAQ ((↑(ch.length+l.length-i):Int)>(q.length:Int)) (by omega)<|zAD 0 E_0)
  ·rw[zRZ (by omega)] at hs;rw[<- hs];clear ih hR hs;refine zAc<|zAl 2<|S_a [(0,.n l.length)] (ap (lnS prV l) an)<|zAm 2<|zMS 21 ((i:Int)<(l.length:Int)) (by omega) (S_g 11<|zAB<|zAD 0 E_0)
abbrev zXH(M:List Pp)(l:LP)(i:Nat):PV := .func 193 [] [.ref (.map (M.map ppV)),.ref (prs l),.ref (I i)]
theorem f174_n(M:List Pp)(l:LP)(i:Nat):FG 174 [.nils 0,.func 212 [] [.ref (zXH M l i)]] (I (-1)):=by
 refine zAd Tryz.f174 ?_;refine zAj 1<|zAc<|zAj 3<|zAf 0 ?_
 refine zAr (fun(_:Nat)=>True) (fun(_:Nat)=>[(8,I 0)]) (fun(_:Nat)=>0) (0:Nat) trivial fun _ _=>?_;refine zAj 1<|zAc<|zAB<|zAD 0<|zAj 1<|zAn E_0
theorem f211_n(M:List Pp)(l:LP)(i:Nat):FG 211 [.nils 0,.func 212 [] [.ref (zXH M l i)]] (.bool false):=by
 refine zAd Tryz.f211 ?_;refine zAj 1<|zAl 2<|S_a [(7,.ret (I (-1)) [])] (ap (f174_n M l i) an)<|S_g 2<|zAn E_0
theorem f192_n(M:List Pp)(l:LP)(i:Nat):FG 192 [.nils 0,zXH M l i] (.bool true):=by
 refine zAd Tryz.f192 ?_;refine zAj 2<|zAl 2<|S_a [(12,.ret (bool false) [])] (ap (f211_n M l i) an)<|S_g 2<|zAn E_0
theorem f123a:FG 123 [.nils 0] (.own 2 []):=zIh (fn:=Tryz.f123)
theorem f191a(l:LP)(M:List Pp)(hl:l.length<=80) :
  zBD Tryz.prog zCx 191 (.nils 0::I 0::zGG) (zLJ l M []) (.tup []) (zLJ l M (aps (jpB M) l)):=by
 have hR:=zXk (jpB M) l;rw[show btr [] []=([]:List Gp) from rfl] at hR;generalize aps (jpB M) l=R at *;unfold zLJ;refine zAd Tryz.f191 ?_;refine zAc<|zAl 2<|zAm 1<|S_g 2<|zAB<|zAh<|zAj 3<|zAf 0 ?_
 refine zAr (fun(i,q)=>i<=l.length/\q.length<=80/\srh (jpB M) (l.drop i) [] q=R) (fun((i:Nat),(q:LP))=>[(8,.box (I (i:Nat))),(50000000,.box (.own 2 (q.map prV)))]) (fun(i,_)=>l.length-i) ((0:Nat),([]:LP)) ⟨bN _,by simp,hR⟩ fun(i,q) ⟨yR,hq,hs⟩=>?_;by_cases yG:i<l.length
 ·rw[zPK yG] at hs;by_cases hp:q.length<([]:LP).length+(l.length-i)
  ·rw[if_pos hp,if_pos (show okB (jpB M) [] (l.getD i d0)=true from rfl)] at hs;rw[b7,dq] at hp;have yy:=f192_n M l i;have ihc:=f191 l M hl (l.length+1) (i+1) ([]++[l.getD i d0]) q (by omega) (by omega) (by rw[bu,bT];simp) hq;have vR:(srh (jpB M) (l.drop (i+1)) ([]++[l.getD i d0]) (btr ([]++[l.getD i d0]) q)).length<=80:=zMw _ _ _ _ (by unfold btr;split<;>(try rw[bu,bT])<;>(try simp only[b7])<;>omega) (by rw[bu,bT,dz,b7];omega);generalize srh (jpB M) (l.drop (i+1)) ([]++[l.getD i d0]) (btr ([]++[l.getD i d0]) q)=q2 at *;unfold zLJ at ihc;clear hR;refine zAc<|zAl 2<|S_a [(0,.n l.length)] (ap (lnS prV l) an)<|zAm 2<|zLi 21 ((i:Int)<(l.length:Int)) (by omega) (zAm 3<|S_a [(0,.n l.length)] (ap (lnS prV l) an)<|S_a [(1,.v (I (↑(0+l.length):Int)))] (ap ((zBW (by omega) (by omega)):I (IntKind.i64.wrap ((↑0:Int)+(l.length:Int)))=I (↑(0+l.length):Int)) an)<|zAm 1<|S_a [(1,.v (I (↑(l.length-i):Int)))] (ap ((zBW (by omega) (by omega)):I (IntKind.i64.wrap ((↑(0+l.length):Int)-(i:Int)))=I (↑(l.length-i):Int)) an)<|S_a [(1,.v (bor 50000000 [(0,0)] 2 0 q.length))] (ap ((by simp):bor 50000000 [(0,0)] 2 0 (map prV q).length=bor 50000000 [(0,0)] 2 0 q.length) an)<|S_g 3<|zAM ((↑(l.length-i):Int)>(q.length:Int)) (by omega)<|zAh<|zAc<|zAf 1<|zAl 2<|S_a [(25,.ret (bool true) [])] (ap yy an)<|zA3<|zCy<|zAb<|zAm 2<|S_a [(6,.ret (own 2 []) [])] (ap f123a an)<|zAm 2<|S_a [(2,.v (prV (l.getD i d0)))] (ap (zBN d0 (by omega):(map prV l)[i]? = some (prV (l.getD i d0))) an)<|zAm 4<|S_i i<|S_a [(9,.ret (tup []) ([(own 2 (map prV q2)).box,(prs l).box,(PV.map (map ppV M)).box,(func 191 [] zGG).box])),(2,.no),(6,.ret (tup []) ([(own 2 (map prV q2)).box,(prs l).box,(PV.map (map ppV M)).box,(func 191 [] zGG).box]))] (ap ihc<|ap ((by simp[PV.free,zBM,zD1]):zD1 [(own 2 (map prV q2)).box,(prs l).box,(PV.map (map ppV M)).box,(func 191 [] zGG).box]=false)<|ap ihc an)<|zA3<|zAc<|zAj 1<|zAb<|S_g 2<|zAb<|zAm 1<|S_i i<|S_g 1 ?_)
   exact rnd (i+1,q2) ⟨by omega,vR,hs⟩ (by simp only;omega)
  ·rw[if_neg hp] at hs;rw[<- hs];rw[b7,dq] at hp;clear hR hs;refine zAc<|zAl 2<|S_a [(0,.n l.length)] (ap (lnS prV l) an)<|zAm 2<|zLi 21 ((i:Int)<(l.length:Int)) (by omega) (zAm 3<|S_a [(0,.n l.length)] (ap (lnS prV l) an)<|S_a [(1,.v (I (↑(0+l.length):Int)))] (ap ((zBW (by omega) (by omega)):I (IntKind.i64.wrap ((↑0:Int)+(l.length:Int)))=I (↑(0+l.length):Int)) an)<|zAm 1<|S_a [(1,.v (I (↑(l.length-i):Int)))] (ap ((zBW (by omega) (by omega)):I (IntKind.i64.wrap ((↑(0+l.length):Int)-(i:Int)))=I (↑(l.length-i):Int)) an)<|S_a [(1,.v (bor 50000000 [(0,0)] 2 0 q.length))] (ap ((by simp):bor 50000000 [(0,0)] 2 0 (map prV q).length=bor 50000000 [(0,0)] 2 0 q.length) an)<|S_g 3<|zAQ ((↑(l.length-i):Int)>(q.length:Int)) (by omega)<|zAD 0 E_0)
 ·rw[zRZ (by omega)] at hs;rw[<- hs];clear hR hs;refine zAc<|zAl 2<|S_a [(0,.n l.length)] (ap (lnS prV l) an)<|zAm 2<|zMS 21 ((i:Int)<(l.length:Int)) (by omega) (S_g 11<|zAB<|zAD 0 E_0)
theorem f145(l:LP)(M:List Pp)(hl:l.length<=80):FG 145 [.sl (l.map prV),.map (M.map ppV)] (.own 2 ((aps (jpB M) l).map prV)):=by
 have ur:=f191a l M hl;unfold zLJ at ur;refine zAd Tryz.f145 ?_;refine zAj 3<|zAj 1<|zAj 1<|zAj 2<|zAl 1<|S_a [(8,.ret (tup []) ([(own 2 (map prV (aps (jpB M) l))).box,(prs l).box,(PV.map (map ppV M)).box,(func 191 [] zGG).box]))] (ap ur an)<|zA3<|zAc<|zAb<|S_a [(1,.v (bor 5 [(0,0)] 2 0 (aps (jpB M) l).length))] (ap ((by simp):bor 5 [(0,0)] 2 0 (map prV (aps (jpB M) l)).length=bor 5 [(0,0)] 2 0 (aps (jpB M) l).length) an)<|S_g 1<|zAn<|E_z [(1,.yes),(1,.v (own 2 (map prV (aps (jpB M) l))))] (ap ((by exact zAR (by simp only[be,zzLn,zAO]<;>omega)):(0+(aps (jpB M) l).length).ble (map prV (aps (jpB M) l)).length=true)<|ap ((by simp[zBF]):own 2 (take (aps (jpB M) l).length (drop 0 (map prV (aps (jpB M) l))))=own 2 (map prV (aps (jpB M) l))) an)
end
end Go.Eng
set_option maxRecDepth 10000
set_option maxHeartbeats 4000000
namespace Go.Eng
open Go Go.Proofs
section
variable [Yo]
theorem f146(l:LP)(hl:l.length<=4294967296)(hb:l.all zXc=true):zBD Tryz.prog zCx 146 [.bor zAk [] 2 0 l.length,.func 147 [] []] [.own 2 (l.map prV)] (.tup []) [.own 2 ((zZC l).map prV)]:=zOV (g:=147) (fn:=Tryz.f146) l hl hb
end
theorem zUv{c:LP}{M:List Pp}{a:Int×Int}{j:Nat}(h:j<c.length):(c.take (j+1)).foldl (fun M b=>zUq M (a,b)) M=zUq ((c.take j).foldl (fun M b=>zUq M (a,b)) M) (a,c.getD j d0):=zCk h
theorem zVW{c:LP}{M:List Pp}{j:Nat}(h:j<c.length):(c.take (j+1)).foldl (jn1 c) M=jn1 c ((c.take j).foldl (jn1 c) M) (c.getD j d0):=zCk h
theorem zR4{n:Nw}{cs:LP}{e:Nat}{st:LI}(hn:NwOk n):∀ k,(apN n cs e st k).length<=k*80/\(apN n cs e st k).all zXc=true
 |0=>by simp[apN]|k + 1=>by
  obtain⟨h1,h2⟩:=zR4 (cs:=cs) (e:=e) (st:=st) hn k;have hs:=zFp (jnB n cs e (zAA n (zAy n cs e)) st) _ (ofL n k (zAA n (zAy n cs e))) (bf _);have kN:=hs.trans (dI (l:=zAA n (zAy n cs e)));have h3:=kN.length_le;have h4:=zCY (w:=zAy n cs e) hn;have hh:=hn.h;have h8:=hn.nl;rw[zQn];split
  ·refine⟨by rw[bu];omega,?_⟩;rw[fB,h2,cy,bi];intro g hg;obtain⟨h,x,hh,hx,rfl,_⟩:=zD3 (kN.subset hg);simp only[zXc,bb,decide_eq_true_eq];omega
  ·exact⟨by omega,h2⟩
theorem f73_1(n:Nw)(cs:LP)(e:Int)(st:LI)(ho:OffOk n cs e st):FG 73 [nwV n,prs cs,I e,zBT st] (.tup [.own 2 ((apL n cs e.toNat st).map prV),I 0]):=by
 have yy:=ho.ev;have kM:=yy.cr;have kO:=kM.w;have hn:=kM.nw;have uY:=kM.len;have he:=yy.ev;have vS:=hn.nl;have gY:=hn.sl.2;have hst6:=zV3 gY ho.rng ho.nd;have vm:=zCY (w:=zAy n cs e.toNat) hn;have uD:∀ g∈zAA n (zAy n cs e.toNat),(0<=g.1/\g.1<n.h)/\(0<=g.2/\g.2<n.n.length):=zMj;have kT:=f121_1 n cs e st ho (by omega);have yY:=zXr (n:=n) (cs:=cs) (e:=e.toNat) (st:=st) kO uY ho.rng;have gU:=fun i=>zZb (n:=n) (cs:=cs) (e:=e.toNat) (st:=st) (i:=i);have qn:=fun k=>zQn (n:=n) (cs:=cs) (e:=e.toNat) (st:=st) (k:=k);have yA:=fun k=>zR4 (n:=n) (cs:=cs) (e:=e.toNat) (st:=st) hn k;generalize apL n cs e.toNat st=R at *;generalize hG:zAA n (zAy n cs e.toNat)=G at *;refine zAd Tryz.f73 ?_;refine zAj 3<|zAl 4<|S_a [(12,.ret (tup [zE9 n cs,prs G,agg [zWk n cs e G],I 0]) [])] (ap kT an)<|S_g 10<|zAc<|zAj 2<|zAB<|zAh<|zAj 2<|zAc<|zAl 2<|S_a [(0,.n n.n.length)] (ap (lnS ntV n.n) an)<|S_g 1<|zAf 0 ?_
 refine zAr (fun(i,M)=>i<=n.n.length/\M=jnN n cs e.toNat G st i) (fun((i:Nat),(M:List Pp))=>[(14,.omap (M.map ppV)),(42,I (i:Nat))]) (fun(i,_)=>n.n.length-i) ((0:Nat),([]:List Pp)) ⟨bN _,rfl⟩ fun(i,M) ⟨hi,hM⟩=>?_;by_cases yR:i<n.n.length
 ·have yx:=zPZ (n:=n) (cs:=cs) (e:=e.toNat) (G:=G) (st:=st) (k:=i);rw[<- hM] at yx;clear hM qn gU yY yA kT;refine zAj 1<|zAc<|zAM ((i:Int)<(n.n.length:Int)) (by omega)<|zAh<|zAc<|zAf 1<|zAj 2<|zAl 1<|S_a [(0,.n st.length)] (ap (lnS I st) an)<|S_g 1<|zAf 2 ?_
  refine zAr (fun(j,M')=>j<=st.length/\M'=jnR n cs e.toNat G i M (st.take j)) (fun((j:Nat),(M':List Pp))=>[(14,.omap (M'.map ppV)),(47,I (j:Nat))]) (fun(j,_)=>st.length-j) ((0:Nat),M) ⟨bN _,rfl⟩ fun(j,M') ⟨hj,hM'⟩=>?_;by_cases y9:j<st.length
  ·have yM:=zVv (n:=n) (cs:=cs) (e:=e.toNat) (G:=G) (M:=M) (i:=i) y9;have yT:=zCl (d:=(0:Int)) ho.rng j y9;rw[<- hM'] at yM;have kB:(0<=(((i:Int),st.getD j 0):Int×Int).1/\(((i:Int),st.getD j 0):Int×Int).1<n.n.length)/\(0<=(((i:Int),st.getD j 0):Int×Int).2/\(((i:Int),st.getD j 0):Int×Int).2<n.s.length):=by simp only;omega
   have wi:=f173 n cs G e ((i:Int),st.getD j 0) kO uY (by omega) (by omega) uD kB;have yN:(zC0 n (zAy n (cs++[((i:Int),st.getD j 0)]) e.toNat) G).length<=1000:=bB (bC _ _) (by omega);generalize zC0 n (zAy n (cs++[((i:Int),st.getD j 0)]) e.toNat) G=C at *;clear hM' yx uD;refine zAj 1<|zAc<|zAM ((j:Int)<(st.length:Int)) (by omega)<|zAh<|zAc<|zAf 3<|zAc<|zAb<|S_a [(2,.v (I (st.getD j 0)))] (ap (zBN (0) (by omega):(map I st)[j]? = some (I (st.getD j 0))) an)<|S_g 2<|zAl 5<|S_a [(9,.ret (prs C) [])] (ap wi an)<|S_g 1<|zAl 1<|S_a [(0,.n C.length)] (ap (lnS prV C) an)<|S_g 1<|zAf 4 ?_
   refine zAr (fun(p,N)=>p<=C.length/\N=(C.take p).foldl (jn1 C) M') (fun((p:Nat),(N:List Pp))=>[(14,.omap (N.map ppV)),(59,I (p:Nat))]) (fun(p,_)=>C.length-p) ((0:Nat),M') ⟨bN _,rfl⟩ fun(p,N) ⟨hp,hN⟩=>?_;by_cases kR:p<C.length
   ·have jX:=zVW (c:=C) (M:=M') kR;rw[<- hN] at jX;clear hN yM;refine zAj 1<|zAc<|zAM ((p:Int)<(C.length:Int)) (by omega)<|zAh<|zAc<|zAf 5<|zAc<|zAb<|S_a [(2,.v (prV (C.getD p d0)))] (ap (zBN d0 (by omega):(map prV C)[p]? = some (prV (C.getD p d0))) an)<|S_g 3<|zAl 1<|S_a [(0,.n C.length)] (ap (lnS prV C) an)<|S_g 1<|zAf 6 ?_
    refine zAr (fun(q,O)=>q<=C.length/\O=(C.take q).foldl (fun M b=>zUq M (C.getD p d0,b)) N) (fun((q:Nat),(O:List Pp))=>[(14,.omap (O.map ppV)),(65,I (q:Nat))]) (fun(q,_)=>C.length-q) ((0:Nat),N) ⟨bN _,rfl⟩ fun(q,O) ⟨hq,hO⟩=>?_;by_cases wF:q<C.length
    ·have hn3:=zUv (c:=C) (M:=N) (a:=C.getD p d0) wF;rw[<- hO] at hn3;clear hO jX;by_cases hm:(C.getD p d0,C.getD q d0)∈O
     ·obtain⟨z,yB,_,yZ⟩:=zYH hm;have uZ:zUq O (C.getD p d0,C.getD q d0)=O:=if_pos hm;rw[uZ] at hn3;refine zAj 1<|zAc<|zAM ((q:Int)<(C.length:Int)) (by omega)<|zAh<|zAc<|zAf 7<|zAc<|zAb<|S_a [(2,.v (prV (C.getD q d0)))] (ap (zBN d0 (by omega):(map prV C)[q]? = some (prV (C.getD q d0))) an)<|S_g 3<|zAb<|zAm 6<|S_a [(0,.v (bool !(decide ((C.getD p d0).fst=(C.getD q d0).fst)&&decide ((C.getD p d0).snd=(C.getD q d0).snd))))] (ap (zLS:zG5 Tryz.prog BinOp.neq 108 (prV (C.getD p d0)) (prV (C.getD q d0))=some (bool !(decide ((C.getD p d0).fst=(C.getD q d0).fst)&&decide ((C.getD p d0).snd=(C.getD q d0).snd)))) an)<|S_a [(5,.ix (some z)),(1,.root (omap (map ppV O)) true)] (ap yB<|ap (zOz (es:=map ppV O) yZ) an)<|zA3<|zAb<|S_i q<|S_g 1 ?_
      exact rnd (q+1,O) ⟨by omega,hn3.symm⟩ (by simp only;omega)
     ·have yB:=zYi hm;have uZ:zUq O (C.getD p d0,C.getD q d0)=O++[(C.getD p d0,C.getD q d0)]:=if_neg hm;rw[uZ] at hn3;refine zAj 1<|zAc<|zAM ((q:Int)<(C.length:Int)) (by omega)<|zAh<|zAc<|zAf 7<|zAc<|zAb<|S_a [(2,.v (prV (C.getD q d0)))] (ap (zBN d0 (by omega):(map prV C)[q]? = some (prV (C.getD q d0))) an)<|S_g 3<|zAb<|zAm 6<|S_a [(0,.v (bool !(decide ((C.getD p d0).fst=(C.getD q d0).fst)&&decide ((C.getD p d0).snd=(C.getD q d0).snd))))] (ap (zLS:zG5 Tryz.prog BinOp.neq 108 (prV (C.getD p d0)) (prV (C.getD q d0))=some (bool !(decide ((C.getD p d0).fst=(C.getD q d0).fst)&&decide ((C.getD p d0).snd=(C.getD q d0).snd)))) an)<|S_a [(5,.ix none),(0,.v (omap (map ppV (O++[(C.getD p d0,C.getD q d0)]))))] (ap yB<|ap ((by simp):omap (map ppV O++[(agg [I (C.getD p d0).fst,I (C.getD p d0).snd,I (C.getD q d0).fst,I (C.getD q d0).snd],bool !(decide ((C.getD p d0).fst=(C.getD q d0).fst)&&decide ((C.getD p d0).snd=(C.getD q d0).snd)))])=omap (map ppV (O++[(C.getD p d0,C.getD q d0)]))) an)<|zA3<|zAb<|S_i q<|S_g 1 ?_
      exact rnd (q+1,O++[(C.getD p d0,C.getD q d0)]) ⟨by omega,hn3.symm⟩ (by simp only;omega)
    ·rw[bw (by omega)] at hO;have hO2:O=jn1 C N (C.getD p d0):=hO;rw[<- hO2] at jX;clear hO hO2;refine zAj 1<|zAc<|zAQ ((q:Int)<(C.length:Int)) (by omega)<|zAD 6<|zAb<|S_i p<|S_g 1 ?_
     exact rnd (p+1,O) ⟨by omega,jX.symm⟩ (by simp only;omega)
   ·rw[bw (by omega)] at hN;have hN2:N=jn2 M' C:=hN;rw[<- hN2] at yM;clear hN hN2;refine zAj 1<|zAc<|zAQ ((p:Int)<(C.length:Int)) (by omega)<|zAD 4<|zAb<|S_i j<|S_g 1 ?_
    exact rnd (j+1,N) ⟨by omega,yM.symm⟩ (by simp only;omega)
  ·rw[bw (by omega)] at hM';rw[<- hM'] at yx;clear hM' uD;refine zAj 1<|zAc<|zAQ ((j:Int)<(st.length:Int)) (by omega)<|zAD 2<|zAb<|S_i i<|S_g 1 ?_
   exact rnd (i+1,M') ⟨by omega,yx.symm⟩ (by simp only;omega)
 ·rw[show i=n.n.length by omega] at hM;rw[<- hM] at gU;refine zAj 1<|zAc<|zAQ ((i:Int)<(n.n.length:Int)) (by omega)<|zAD 0<|zAj 1<|zAc<|zAl 2<|S_a [(0,.n n.n.length)] (ap (lnS ntV n.n) an)<|S_g 1<|zAf 8 ?_
  refine zAr (fun(i,q)=>i<=n.n.length/\q=apN n cs e.toNat st i) (fun((i:Nat),(q:LP))=>[(23,.own 2 (q.map prV)),(83,I (i:Nat))]) (fun(i,_)=>n.n.length-i) ((0:Nat),([]:LP)) ⟨bN _,by simp[apN]⟩ fun(i,q) ⟨hi,hq⟩=>?_;have wF:q.length<=i*80:=by rw[hq];exact(yA i).1
  by_cases yR:i<n.n.length
  ·have yM:=qn i;have vI:=gU i;rw[<- hq] at yM;have qD:(ofL n i G).length<=80:=bB (bC _ _) vm;have LH:=f145 (ofL n i G) M qD;rw[vI] at LH;have hapl:(aps (jnB n cs e.toNat G st) (ofL n i G)).length<=80:=bB (zO1 _ _) qD;clear qn gU vI yY yA hq kT;generalize aps (jnB n cs e.toNat G st) (ofL n i G)=A at *;by_cases hb:(zAg n).getD i 0=i
   ·have j5:fwB n i=true:=decide_eq_true hb;rw[if_pos j5] at yM;refine zAj 1<|zAc<|zAM ((i:Int)<(n.n.length:Int)) (by omega)<|zAh<|zAc<|zAf 9<|zAj 2<|zAl 4<|S_a [(2,.ob),(0,.v ((I ((zAg n).getD i 0)).ref))] (ap ((by exact zAp (by omega)):decide (i<8)=true)<|ap (zD0 (F:=zAg n) (m:=8) (j:=i) (by omega):zBQ (agg (zA5 (zAg n) 8)).ref (i*(fun x=>x.size) Tryz.prog.types[3]) none=some (I ((zAg n).getD i 0)).ref) an)<|S_g 3<|zAM ((zAg n).getD i 0=(i:Int)) (by omega)<|zAb<|zAm 4<|S_a [(9,.ret (own 2 (map prV (ofL n (i:Int) G))) [])] (ap (f135 n cs G ((i:Int)) (by omega) (by omega) (by omega)) an)<|zAm 1<|S_a [(3,.ob),(0,.v (prs (ofL n (i:Int) G))),(3,.ret (own 2 (map prV A)) []),(1,.yes)] (ap (blz (map prV (ofL n (i:Int) G)))<|ap (frT prV (ofL n (i:Int) G))<|ap LH<|ap ((by exact zBM _):(own 2 (map prV A)).free=true) an)<|S_a [(0,.ob),(0,.ob),(2,.ob),(0,.ob),(0,.yes),(2,.v (own 2 (map prV (q++A))))] (ap ((by exact all_map _):((map prV A).all fun y=>y.cells.length.beq ((fun x=>x.size) Tryz.prog.types[108])&&y.cells.all fun q=>q.oneCell)=true)<|ap ((by exact d5.2 (zKj _)):(zBx (map prV A)).isEmpty=true)<|ap (blz (map prV q))<|ap ((by exact zAR (by simp only[be,zzLn,zAO]<;>omega)):((map prV q).length+(map prV A).length).ble zAO=true)<|ap ((by exact zBq (by simp<;>omega)):(0+(map prV q).length).beq (map prV q).length=true)<|ap ((by simp):own 2 (map prV q++map prV A)=own 2 (map prV (q++A))) an)<|S_g 1<|zAb<|S_i i<|S_g 1 ?_
    exact rnd (i+1,q++A) ⟨by omega,yM.symm⟩ (by simp only;omega)
   ·have hbf:fwB n i=false:=decide_eq_false hb;rw[if_neg (by rw[hbf];simp)] at yM;refine zAj 1<|zAc<|zAM ((i:Int)<(n.n.length:Int)) (by omega)<|zAh<|zAc<|zAf 9<|zAj 2<|zAl 4<|S_a [(2,.ob),(0,.v ((I ((zAg n).getD i 0)).ref))] (ap ((by exact zAp (by omega)):decide (i<8)=true)<|ap (zD0 (F:=zAg n) (m:=8) (j:=i) (by omega):zBQ (agg (zA5 (zAg n) 8)).ref (i*(fun x=>x.size) Tryz.prog.types[3]) none=some (I ((zAg n).getD i 0)).ref) an)<|S_g 3<|zAQ ((zAg n).getD i 0=(i:Int)) (by omega)<|zAh<|zAb<|S_i i<|S_g 1 ?_
    exact rnd (i+1,q) ⟨by omega,yM.symm⟩ (by simp only;omega)
  ·have e1:i=n.n.length:=by omega
   rw[e1] at hq;rw[<- hq] at yY;have hbq:=(yA n.n.length).2;rw[<- hq] at hbq;have jD:=f146 q (by omega) hbq;rw[yY] at jD;clear qn gU yY yA hq kT hbq;refine zAj 1<|zAc<|zAQ ((i:Int)<(n.n.length:Int)) (by omega)<|zAD 8<|zAl 1<|S_a [(4,.vs ([bor 50000000 [] 2 0 q.length,func 147 [] []])),(0,.ret (tup []) ([own 2 (map prV R)]))] (ap ((by simp) : [bor 50000000 [] 2 0 (map prV q).length,func 147 [] []]=[bor 50000000 [] 2 0 q.length,func 147 [] []])<|ap jD an)<|zA3<|zAl 1<|S_a [(2,.yes)] (ap ((by exact zBq (by simp<;>omega)):(beq 0 0&&(map prV R).length.beq (map prV R).length)=true) an)<|S_g 1<|zAn<|E_z [(1,.yes),(1,.v (own 2 (map prV R)))] (ap (blz (map prV R))<|ap ((zAT zA6):own 2 (take (map prV R).length (drop 0 (map prV R)))=own 2 (map prV R)) an)
end Go.Eng
set_option maxRecDepth 10000
set_option maxHeartbeats 4000000
namespace Go.Eng
open Go Go.Proofs
end Go.Eng
set_option maxRecDepth 100000
set_option maxHeartbeats 4000000
namespace Go.Eng
open Go Go.Proofs
def zDe:Nw:=⟨4,[(0,1),(1,2),(2,3)],[(-1,false),(0,true)],[[0],[0,3]]⟩
def zFH:LP:=[(0,1),(1,0)]
def zJE:LP:=[(2,0),(3,0)]
theorem zWe:NwOk zDe:=zXC (by decide +kernel)
theorem zK7:CrOk zDe zFH:=zXz (by decide +kernel)
theorem zP8:zAA zDe (zAy zDe zFH (1:Int).toNat)=zJE:=by decide +kernel
theorem zXO:OffOk zDe zFH 1 [0,1]:=⟨by decide +kernel,zTL (by decide +kernel),by decide,by decide⟩
theorem zY4:zC0 zDe (zAy zDe (zFH++[(1,0)]) (1:Int).toNat) zJE=[]:=by decide +kernel
theorem zZr:zC0 zDe (zAy zDe (zFH++[(1,1)]) (1:Int).toNat) zJE=zJE:=by decide +kernel
def zZ2:List (PV×PV):=[(.agg [I 1,I 0],.sl []),(.agg [I 1,I 1],.sl (zJE.map prV))]
abbrev zTc:List PV:=[.addr 50000000 [] 0 0 none,.addr 50000001 [] 0 0 none,.ref (.sl [prV (1,0),prV (1,1)]),.ref (.map [(prV (1,0),.sl []),(prV (1,1),prs zJE)]),.addr 50000002 [] 0 0 none]
abbrev zTw(b:Bool)(l:List PV):List PV:=[.box (.bool b),.box (.own 2 l),.box (.func 187 [] zTc)]
theorem zRd:zBD Tryz.prog zCx 187 (.nils 0::prs zJE::zTc) (zTw false []) (.tup []) (zTw true [prV (1,1)]):=zBD.closed 60
theorem zTl:FG 134 [zE9 zDe zFH,.agg [zWk zDe zFH 1 zJE],prs zJE,I 0,zBT [0,1]] (.tup [.own 2 [.agg [I 1,I 1]],.bool true]):=by
 have h0:FG 173 [.agg [I 1,I 0],.ref (zE9 zDe zFH),.ref (prs zJE),.ref (I 1)] (.sl []):=by
  have:=f173 zDe zFH zJE 1 (1,0) zK7.w (by decide) (by decide) (by decide) (by decide) (by decide);rw[zY4] at this;exact this
 have h1:FG 173 [.agg [I 1,I 1],.ref (zE9 zDe zFH),.ref (prs zJE),.ref (I 1)] (.sl (zJE.map prV)):=by
  have:=f173 zDe zFH zJE 1 (1,1) zK7.w (by decide) (by decide) (by decide) (by decide) (by decide);rw[zZr] at this;exact this
 refine zAd Tryz.f134 ?_;refine zAj 3<|zAj 3<|zAj 1<|zAc<|zAl 1<|zAm 1<|S_g 1<|zAf 0 ?_
 refine zAr (fun j=>j<=2) (fun(j:Nat)=>[(12,.box (.omap (zZ2.take j))),(13,.box (.own 2 (([(1,0),(1,1)]:LP).take j |>.map prV))),(23,I (j:Nat))]) (fun j=>2-j) (0:Nat) (by omega) fun j hj=>?_;have hj3:j=0\/j=1\/j=2:=by omega
 rcases hj3 with e|e|e
 ·subst e;refine zAj 1<|zAc<|zCy<|zAh<|zAc<|zAf 1<|zAj 3<|zAj 10<|zAb<|zAm 2<|zAm 1<|zAm 6<|S_a [(9,.ret (sl []) [])] (ap h0 an)<|S_g 4<|zAb<|S_g 2 ?_
  exact rnd 1 (by omega) (by omega)
 ·subst e;refine zAj 1<|zAc<|zCy<|zAh<|zAc<|zAf 1<|zAj 3<|zAj 10<|zAb<|zAm 2<|zAm 1<|zAm 6<|S_a [(9,.ret (prs zJE) [])] (ap h1 an)<|S_g 4<|zAb<|S_g 2 ?_
  exact rnd 2 (by omega) (by omega)
 ·subst e;have yc:=zRd;refine zAj 1<|zAc<|zAB<|zOw 0 ([(0,(agg (I zDe.h::sl [prV (0,1),prV (1,2),prV (2,3)]::sl [agg [I (-1,false).fst,bool false],agg [I (0,true).fst,bool true]]::sl [sl [I 0],sl [I 0,I 3]]::sl [prV (0,1),prV (1,0)]::PV.map [(prV (pr2 (0,1)),bool true),(prV (pr2 (1,2)),bool true),(prV (pr2 (2,3)),bool true)]::(zA5 (zAg zDe) 8++zA5 (zAN zDe) 8))).ref),(2,sl [prV (2,0),prV (3,0)]),(3,I 0),(4,sl [I 0,I 1]),(6,(agg [func 173 [] [(agg (I zDe.h::sl [prV (0,1),prV (1,2),prV (2,3)]::sl [agg [I (-1,false).fst,bool false],agg [I (0,true).fst,bool true]]::sl [sl [I 0],sl [I 0,I 3]]::sl [prV (0,1),prV (1,0)]::PV.map [(prV (pr2 (0,1)),bool true),(prV (pr2 (1,2)),bool true),(prV (pr2 (2,3)),bool true)]::(zA5 (zAg zDe) 8++zA5 (zAN zDe) 8))).ref.ref,(sl [prV (2,0),prV (3,0)]).ref,(I 1).ref]]).box),(12,(PV.map [(agg [I 1,I 0],sl []),(agg [I 1,I 1],sl [prV (2,0),prV (3,0)])]).ref),(13,(sl [prV (1,0),prV (1,1)]).ref),(21,sl [I 0,I 1]),(22,I (↑[I 0,I 1].length:Int)),(23,I (↑2:Int)),(24,bool false)]) ([(0,(agg (I zDe.h::sl [prV (0,1),prV (1,2),prV (2,3)]::sl [agg [I (-1,false).fst,bool false],agg [I (0,true).fst,bool true]]::sl [sl [I 0],sl [I 0,I 3]]::sl [prV (0,1),prV (1,0)]::PV.map [(prV (pr2 (0,1)),bool true),(prV (pr2 (1,2)),bool true),(prV (pr2 (2,3)),bool true)]::(zA5 (zAg zDe) 8++zA5 (zAN zDe) 8))).ref),(2,sl [prV (2,0),prV (3,0)]),(3,I 0),(4,sl [I 0,I 1]),(6,(agg [func 173 [] [(agg (I zDe.h::sl [prV (0,1),prV (1,2),prV (2,3)]::sl [agg [I (-1,false).fst,bool false],agg [I (0,true).fst,bool true]]::sl [sl [I 0],sl [I 0,I 3]]::sl [prV (0,1),prV (1,0)]::PV.map [(prV (pr2 (0,1)),bool true),(prV (pr2 (1,2)),bool true),(prV (pr2 (2,3)),bool true)]::(zA5 (zAg zDe) 8++zA5 (zAN zDe) 8))).ref.ref,(sl [prV (2,0),prV (3,0)]).ref,(I 1).ref]]).box),(12,(PV.map [(agg [I 1,I 0],sl []),(agg [I 1,I 1],sl [prV (2,0),prV (3,0)])]).ref),(13,(sl [prV (1,0),prV (1,1)]).ref),(21,sl [I 0,I 1]),(22,I (↑[I 0,I 1].length:Int)),(23,I (↑2:Int)),(24,bool false)]) rfl<|zAj 1<|zAj 2<|zAj 1<|zAj 2<|zAl 2<|S_a [(10,.ret (tup []) (zTw true [prV (1,1)]))] (ap yc an)<|zA3<|zAl 1<|zAm 1<|zAm 1<|S_g 1<|zAn E_0
theorem zQX:FG 57 [nwV zDe,prs zFH,I 1,zBT [0,1]] (.tup [.own 2 [.agg [I 1,I 1]],I 0]):=by
 have ho:=f121_1 zDe zFH 1 [0,1] zXO (by decide);rw[zP8] at ho;have kT:FG 135 [zE9 zDe zFH,prs zJE,I 0] (.own 2 (zJE.map prV)):=by
  have:=f135 zDe zFH zJE 0 zWe (by decide) (by decide);rwa[show ofL zDe 0 zJE=zJE from by decide +kernel] at this
 have hc:=zTl;refine zAd Tryz.f57 ?_;refine zAj 3<|zAl 4<|S_a [(12,.ret (tup [zE9 zDe zFH,prs zJE,agg [zWk zDe zFH 1 zJE],I 0]) [])] (ap ho an)<|S_g 10<|zAc<|zAj 2<|zAB<|zAh<|zAj 1<|zAc<|zAl 2<|zAm 1<|S_g 1<|zAf 0 ?_
 refine zAr (fun j=>j<=2) (fun(j:Nat)=>[(14,.own 2 (([(1,1)]:LP).take j |>.map prV)),(34,I (j:Nat))]) (fun j=>2-j) (0:Nat) (by omega) fun j hj=>?_;have hj3:j=0\/j=1\/j=2:=by omega
 rcases hj3 with e|e|e
 ·subst e;refine zAj 1<|zAc<|zCy<|zAh<|zAc<|zAf 1<|zAj 2<|zAc<|zAj 8<|zAB<|zAh<|zAl 5<|S_a [(9,.ret (own 2 (map prV zJE)) [])] (ap kT an)<|zAm 2<|S_a [(14,.ret (tup [own 2 [agg [I 1,I 1]],bool true]) [])] (ap hc an)<|S_g 5<|zAc<|zAj 2<|zAB<|zAh<|zAb<|S_g 4<|zAb<|S_g 2 ?_
  exact rnd 1 (by omega) (by omega)
 ·subst e;refine zAj 1<|zAc<|zCy<|zAh<|zAc<|zAf 1<|zAj 2<|zAc<|zAj 8<|zCy<|zAD 1<|zAb<|S_g 2 ?_
  exact rnd 2 (by omega) (by omega)
 ·subst e;refine zAj 1<|zAc<|zAB<|zAD 0<|zAj 3<|zAn E_0
end Go.Eng
set_option maxRecDepth 100000
set_option maxHeartbeats 4000000
namespace Go.Eng
open Go Go.Proofs
theorem zXT:FG 83 [] (.tup [nwO zDe,.own 2 (zFH.map prV)]):=zBD.closed 20
theorem zU5:FG 22 [nwV zDe,prs zFH,I 1] (.tup [.own 2 [.agg [I 2,I 0],.agg [I 3,I 0]],I 0]):=by
 have:=f22_1 zDe zFH 1 (zTL (by decide +kernel));rw[zP8] at this;exact this
theorem zO7:FG 29 [nwV zDe,prs zFH] (.tup [I 3,I 0]):=f29_1 zDe zFH 3 zK7 (by decide) (by decide +kernel) (by decide +kernel)
theorem zUU:FG 38 [nwV zDe,prs zFH,I 2,I 0] (.tup [.own 1 [I 3,I 2],I 0]):=by
 have:=f38_1 zDe zFH 2 0 1 zK7 (by decide) (by decide) (by decide) (by decide +kernel) (by decide +kernel);rw[show bkL zDe zFH ((zAg zDe).getD (0:Int).toNat 0).toNat 0 1 [2]=[3,2] from by decide +kernel] at this;exact this
theorem zYB:FG 38 [nwV zDe,prs zFH,I 1,I 0] (.tup [.own 1 [],I 6]):=f38_2 zDe zFH 1 0 zK7 (by decide) (by decide) (by decide +kernel)
theorem zRY:FG 31 [nwV zDe,prs zFH] (.tup [I 3,I 0]):=by
 have:=f31_1 zDe zFH zK7;rw[if_pos (show zAA zDe (zAy zDe zFH 12)=[] from by decide +kernel),if_pos (show zAA zDe (zAy zDe zFH 12)=[] from by decide +kernel),show zXe zDe zFH 12=3 from by decide +kernel] at this;exact this
theorem zRl:FG 26 [nwV zDe,prs zFH,I 0] (.tup [.own 1 [I 3],I 0]):=by
 have:=f26_1 zDe zFH 0 (zTL (by decide +kernel));rw[show zHk (msl zDe (zAA zDe (zAy zDe zFH (0:Int).toNat)))=[3] from by decide +kernel] at this;exact this
theorem zRH:FG 86 [nwV zDe] (.tup [.own 1 [],I 0]):=by
 have:=f86_1 zDe zWe;rw[show zGa (zVE zDe) zDe.n.length=[] from by decide +kernel] at this;exact this
theorem f17:FG 17 [] (.bool true):=by
 have h1:=zXT;have h2:=zU5;have h3:=zO7;have h4:=zUU;have h5:=zYB;have h6:=zQX;have h7:=zRY;have h8:=zRl;have h9:=zRH;have l1:FG 78 [.sl [.agg [I 2,I 0],.agg [I 3,I 0]],.sl [.agg [I 2,I 0],.agg [I 3,I 0]]] (.bool true):=f78 [(2,0),(3,0)] [(2,0),(3,0)] (by decide);have l2:FG 28 [.sl [I 3,I 2],.sl [I 3,I 2]] (.bool true):=f28 [3,2] [3,2] (by decide);have l3:FG 34 [.sl [.agg [I 1,I 1]],.sl [.agg [I 1,I 1]]] (.bool true):=f34 [(1,1)] [(1,1)] (by decide);have l4:FG 28 [.sl [I 3],.sl [I 3]] (.bool true):=f28 [3] [3] (by decide);refine zAd Tryz.f17 ?_;refine zAj 1<|zAc<|zAb<|S_a [(4,.ret (tup [nwO zDe,own 2 (map prV zFH)]) [])] (ap h1 an)<|S_g 6<|zAl 2<|S_a [(21,.ret (tup [own 2 [agg [I 2,I 0],agg [I 3,I 0]],I 0]) [])] (ap h2 an)<|S_g 5<|zAl 2<|S_a [(19,.ret (tup [I 3,I 0]) [])] (ap h3 an)<|S_g 5<|zAl 2<|S_a [(23,.ret (tup [own 1 [I 3,I 2],I 0]) [])] (ap h4 an)<|S_g 5<|zAl 2<|S_a [(23,.ret (tup [own 1 [],I 6]) [])] (ap h5 an)<|S_g 5<|zAc<|zAl 19<|S_a [(10,.ret (bool true) [])] (ap l1 an)<|zAm 9<|S_a [(10,.ret (bool true) [])] (ap l2 an)<|S_g 2<|zAB<|zAh<|zAl 3<|S_a [(24,.ret (tup [own 2 [agg [I 1,I 1]],I 0]) [])] (ap h6 an)<|S_g 5<|zAl 2<|S_a [(19,.ret (tup [I 3,I 0]) [])] (ap h7 an)<|S_g 5<|zAl 2<|S_a [(21,.ret (tup [own 1 [I 3],I 0]) [])] (ap h8 an)<|S_g 5<|zAl 1<|S_a [(16,.ret (tup [own 1 [],I 0]) [])] (ap h9 an)<|S_g 5<|zAl 18<|S_a [(10,.ret (bool true) [])] (ap l3 an)<|zAm 8<|S_a [(10,.ret (bool true) [])] (ap l4 an)<|zAm 3<|S_g 4<|zAn E_0
end Go.Eng
set_option maxRecDepth 10000
set_option maxHeartbeats 4000000
namespace Go.Eng
open Go Go.Proofs
theorem zZN{n:Nw}{cs:LP}(h:zG4 n=0)(hl:cs.length<=16)(hc:∀ c∈cs,(0<=c.1/\c.1<n.n.length)/\(0<=c.2/\c.2<n.s.length)):CrOk n cs:=by
 refine zXz ?_;have ha:(cs.all fun c=>zHp n c)=true:=bi.2 fun c hm=>by
  have:=hc c hm;simp only[zHp,inB,bb,decide_eq_true_eq];omega
 have vR:¬ (cs.length:Int)>16:=by omega
 simp only[zQV,h,vR,ha,if_true,if_false];rfl
theorem zZK{n:Nw}{cs:LP}{e:Int}(h:CrOk n cs)(he:0<=e/\e<=12):EvOk n cs e:=by
 refine zTL ?_;have hi:inB e 0 12=true:=by simp only[inB,bb,decide_eq_true_eq];omega
 simp only[zQR,h.err,hi,if_true]
end Go.Eng
set_option maxHeartbeats 1000000
namespace Go.Eng
open Go
end Go.Eng
