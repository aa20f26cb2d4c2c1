/- No cry at a stand that is offered mends two of the gaps that are apart, so that there are never more of them than further cries are needed; each other gap is mended by a cry that mends one of them; a gap is stuck just if none of these stands is jM near enough to its jN; and with all stands none is; for every list of numbers, evening and stands. -/
import Derived.Test.YtppbomajegnkeaaGreatPf
import Derived.Test.YtppbomajegnkeaaGreatPd
import Derived.Test.YtppbomajegnkeaaGreatPe
set_option linter.unusedVariables false
set_option linter.unusedSimpArgs false
set_option linter.unusedSectionVars false
open Nat (beq ble blt)
open List (map replicate take drop range length filter)
open Go.Eng.PV (own agg addr func sl bor tup omap bad bool int)
namespace Go.Eng
open Go Go.Proofs
theorem zHz{n:Nw}(ho:NwOk n)(j:Nat):∀ i,j<i->i<=n.n.length->(zPr n.n i).getD j 0=(zPr n.n (j+1)).getD j 0
 |0,h,_=>absurd h (cD j)|i + 1,h,hi=>by
  have h8:=ho.nl.2;by_cases hj:j=i
  ·subst hj;rfl
  ·rw[zPr,zI8 (zHy i) (by omega) (ho.na i (by omega)),if_neg hj];exact zHz ho j i (by omega) (by omega)
theorem zRQ{n:Nw}(ho:NwOk n){i:Nat}(hi:i<n.n.length):(zAg n).getD i 0=if (n.n.getD i d0).1 = -1 then(i:Int) else(zAg n).getD (n.n.getD i d0).1.toNat 0:=by
 have h8:=ho.nl.2;have ha:=ho.na i hi;unfold zAg;rw[zHz ho i n.n.length hi (bf _),zPr,zI8 (zHy i) (by omega) ha,if_pos rfl];split
 ·rfl
 ·rename_i hI;rw[zHz ho (n.n.getD i d0).1.toNat i (by omega) (by omega),zHz ho (n.n.getD i d0).1.toNat n.n.length (by omega) (bf _)]
theorem zJ7{n:Nw}(ho:NwOk n):∀ (i:Nat),i<n.n.length->(zAg n).getD ((zAg n).getD i 0).toNat 0=(zAg n).getD i 0:=by
 intro i
 induction i using Nat.strongRecOn with
 |ind i ih=>
  intro hi;have ha:=ho.na i hi;have hr:=zRQ ho hi;by_cases h:(n.n.getD i d0).1 = -1
  ·rw[if_pos h] at hr;rw[hr,bR,hr]
  ·rw[if_neg h] at hr;rw[hr];exact ih (n.n.getD i d0).1.toNat (by omega) (by omega)
def chn(n:Nw)(i j:Nat):Prop:=(zAg n).getD i 0=(zAg n).getD j 0
theorem zGl{F L:LI}{i j:Nat}(h:i≠j):∀ k,(zUH F i L k).getD j 0=L.getD j 0
 |0=>rfl|k+1=>by
  rw[zHm,zNe];split
  ·rw[zBL,if_neg (fun h2=>h h2.1)];exact zGl h k
  ·exact zGl h k
theorem zRI{F L:LI}{i:Nat}(hL:L.length=8)(hi:i<8)(h0:L.getD i 0=0):∀ k,∃ l:Nat,(zUH F i L k).getD i 0=l/\(l=0\/l<k/\F.getD l 0=F.getD i 0)/\∀ j,j<k->F.getD j 0=F.getD i 0->j<=l
 |0=>⟨0,h0,.inl rfl,fun j hj=>absurd hj (cD j)⟩
 | k + 1 => by
  obtain⟨l,h1,h2,h3⟩:=zRI hL hi h0 k;rw[zHm,zNe];split
  ·rename_i hk;refine⟨max l k,?_,?_,fun j hj hf=>?_⟩
   ·rw[zBL,if_pos ⟨rfl,by rw[zIJ];omega⟩,h1];omega
   ·by_cases yJ:l<=k
    ·right;rw[Nat.max_eq_right yJ];exact⟨by omega,hk⟩
    ·rw[Nat.max_eq_left (by omega)];rcases h2 with h2|⟨h2,h4⟩
     ·exact .inl h2
     ·exact .inr ⟨by omega,h4⟩
   ·by_cases hjk:j=k
    ·omega
    ·have:=h3 j (by omega) hf;omega
  ·rename_i hk;refine⟨l,h1,?_,fun j hj hf=>?_⟩
   ·rcases h2 with h2|⟨h2,h4⟩
    ·exact .inl h2
    ·exact .inr ⟨by omega,h4⟩
   ·by_cases hjk:j=k
    ·subst hjk;exact absurd hf hk
    ·exact h3 j (by omega) hf
theorem zNl{F:LI}{m:Nat}:∀ i j,i<=j->(zRv F m i).getD j 0=0
 |0,j,_=>by
  simp only[zRv,List.range_zero,cv,bU,List.getElem?_replicate];split<;>rfl
 |i+1,j,h=>by rw[zF8,zGl (by omega)];exact zNl i j (by omega)
theorem zNB{F:LI}{m j:Nat}:∀ i,j<i->(zRv F m i).getD j 0=(zRv F m (j+1)).getD j 0
 |0,h=>absurd h (cD j)|i+1,h=>by
  by_cases hj:j=i
  ·subst hj;rfl
  ·rw[zF8,zGl (by omega)];exact zNB i (by omega)
theorem zEW{n:Nw}(ho:NwOk n){i:Nat}(hi:i<n.n.length):∃ l:Nat,(zAN n).getD i 0=l/\l<n.n.length/\chn n l i/\i<=l/\∀ k,k<n.n.length->chn n k i->k<=l:=by
 have h8:=ho.nl.2;obtain⟨l,h1,h2,h3⟩:=zRI (F:=zAg n) (i:=i) (zIS (F:=zAg n) (m:=n.n.length) i) (by omega) (zNl i i (bf i)) n.n.length;have yR:=h3 i hi rfl;refine⟨l,?_,?_,?_,yR,fun k hk hc=>h3 k hk hc⟩
 ·unfold zAN;rw[zNB n.n.length hi,zF8];exact h1
 ·rcases h2 with h2|⟨h2,_⟩<;>omega
 ·rcases h2 with h2|⟨_,h4⟩
  ·have:i=l:=by omega
   subst this;rfl
  ·exact h4
end Go.Eng
set_option maxRecDepth 10000
set_option maxHeartbeats 4000000
namespace Go.Eng
open Go Go.Proofs
def zPM(a b:Int)(x:Int×Int):Bool:=decide (x.1=a/\x.2=b\/x.1=b/\x.2=a)
def zY3(n:Nw)(a b:Int):Bool:=n.l.any (zPM a b)
theorem zWo{a b:Int}{x:Int×Int}:pr2 x=pr2 (a,b)↔x.1=a/\x.2=b\/x.1=b/\x.2=a:=by
 obtain⟨c,d⟩:=x;simp only[pr2,bz];constructor
 ·rintro⟨h1,h2⟩
  repeat' split at h1
  all_goals (repeat' split at h2)
  all_goals omega
 ·intro h;constructor
  ·repeat' split
   all_goals omega
  ·repeat' split
   all_goals omega
theorem zXX{n:Nw}{a b:Int}:zY3 n a b=zDu n a b:=by
 rw[co];simp only[zY3,zDu,bX,zPM,decide_eq_true_eq,b4];constructor
 ·rintro⟨x,hx,h⟩;exact⟨x,hx,zWo.2 h⟩
 ·rintro⟨x,hx,h⟩;exact⟨x,hx,zWo.1 h⟩
end Go.Eng
set_option maxRecDepth 10000
set_option maxHeartbeats 4000000
namespace Go.Eng
open Go Go.Proofs
abbrev bls(l:List Bool):PV := .sl (l.map bool)
def kn(K:List (List Bool))(h i:Nat):Bool:=(K.getD h []).getD i false
structure RelK (n:Nw) (K:List (List Bool)) (w:LI):Prop where
 len:K.length=n.h.toNat
 row:∀ r∈K,r.length=n.n.length
 wl:w.length=80
 top:∀ h i,h<n.h.toNat->i<n.n.length->kn K h i=true->(i:Int)<=w.getD (h*8+((zAg n).getD i 0).toNat) 0
 at_:∀ h c,h<n.h.toNat->c<8->w.getD (h*8+c) 0 = -1\/∃ i,i<n.n.length/\(zAg n).getD i 0=c/\w.getD (h*8+c) 0=i/\kn K h i=true
def hld(n:Nw)(w:LI)(h i:Nat):Bool:=decide (w.getD (h*8+((zAg n).getD i 0).toNat) 0=i)
end Go.Eng
set_option maxRecDepth 10000
set_option maxHeartbeats 4000000
namespace Go.Eng
open Go Go.Proofs
def hrB(n:Nw)(h i:Int)(c:Int×Int):Bool:=decide (c.1=i)&&has (n.s.getD c.2.toNat []) h
def zID(n:Nw)(cs:LP)(h i:Int):Bool:=cs.any (hrB n h i)
end Go.Eng
set_option maxRecDepth 10000
set_option maxHeartbeats 4000000
namespace Go.Eng
open Go Go.Proofs
abbrev lsB(l:List Bool):PV := .own 1 (l.map bool)
instance:FrzOf lsB bls:=⟨fun x=>by simp only[zA0,zFx]⟩
end Go.Eng
namespace Go.Eng
open Go Go.Proofs
structure Tr (n:Nw) (w:LI) (S:Nat->Nat->Prop):Prop where
 wl:w.length=80
 at_:∀ h c,h<n.h.toNat->c<8->w.getD (h*8+c) 0 = -1\/∃ i,i<n.n.length/\(zAg n).getD i 0=(c:Int)/\w.getD (h*8+c) 0=i/\S h i
 top:∀ h i,h<n.h.toNat->i<n.n.length->S h i->(i:Int)<=w.getD (h*8+((zAg n).getD i 0).toNat) 0
theorem zIK{w:LI}{i j:Nat}{x:Int}(hi:i<w.length):(zRt w i x).getD j 0=if i=j then max (w.getD j 0) x else w.getD j 0:=by
 unfold zRt;rw[zBL];by_cases h:i=j
 ·subst h;rw[if_pos ⟨rfl,hi⟩,if_pos rfl]
 ·rw[if_neg (fun h2=>h h2.1),if_neg h]
theorem Tr.upd{n:Nw}{w:LI}{S:Nat->Nat->Prop}(ho:NwOk n)(ht:Tr n w S){h0 i0:Nat}(hh:h0<n.h.toNat)(hi:i0<n.n.length):Tr n (zRt w (h0*8+((zAg n).getD i0 0).toNat) i0) (fun h i=>S h i\/h=h0/\i=i0):=by
 have vS:=ho.nl.2;have hH:=ho.h.2;have qZ:=zBK ho i0 hi;have yG:h0*8+((zAg n).getD i0 0).toNat<w.length:=by rw[ht.wl];omega
 refine⟨by rw[zIH];exact ht.wl,fun h c gh hc=>?_,fun h i gh hi1 hS=>?_⟩
 ·rw[zIK yG];split
  ·rename_i he;have e1:h=h0:=by omega
   have e2:((zAg n).getD i0 0).toNat=c:=by omega
   have e3:(zAg n).getD i0 0=(c:Int):=by omega
   subst e1;have hw:=ht.at_ h c gh hc;by_cases hm:w.getD (h*8+c) 0<=(i0:Int)
   ·right;exact⟨i0,hi,e3,by rw[iC hm],.inr ⟨rfl,rfl⟩⟩
   ·rcases hw with hw|⟨i,g1,g2,g3,g4⟩
    ·omega
    ·right;exact⟨i,g1,g2,by rw[fV (by omega)];exact g3,.inl g4⟩
  ·rcases ht.at_ h c gh hc with hw|⟨i,g1,g2,g3,g4⟩
   ·exact .inl hw
   ·exact .inr ⟨i,g1,g2,g3,.inl g4⟩
 ·rw[zIK yG];have gI:=zBK ho i hi1;rcases hS with hS|⟨rfl,rfl⟩
  ·have:=ht.top h i gh hi1 hS;split<;>omega
  ·rw[if_pos rfl];omega
theorem Tr.same{n:Nw}{w:LI}{S S':Nat->Nat->Prop}(ht:Tr n w S)(h:∀ a i,a<n.h.toNat->i<n.n.length->(S a i↔S' a i)):Tr n w S' :=
 ⟨ht.wl,fun a c ha hc=>by
  rcases ht.at_ a c ha hc with h1|⟨i,g1,g2,g3,g4⟩
  ·exact .inl h1
  ·exact .inr ⟨i,g1,g2,g3,(h a i ha g1).1 g4⟩,fun a i ha hi hs=>ht.top a i ha hi ((h a i ha hi).2 hs)⟩
theorem Tr.none(n:Nw)(ho:NwOk n):Tr n (replicate 80 (-1)) (fun _ _=>False):=by
 have hH:=ho.h.2;refine⟨by simp,fun h c hh hc=>.inl ?_,fun _ _ _ _ h=>h.elim⟩;rw[zAu (by rw[dC];omega),fG]
end Go.Eng
namespace Go.Eng
open Go Go.Proofs
theorem Tr.begC{n:Nw}{w:LI}{S:Nat->Nat->Prop}(ho:NwOk n)(ht:Tr n w S){h:Nat}(hh:h<n.h.toNat){c:Int×Int}(hc:0<=c.1/\c.1<n.n.length):Tr n (begC n h w c) (fun a i=>S a i\/a=h/\hrB n h i c=true):=by
 unfold Go.Eng.begC;split
 ·rename_i hs;have:=ht.upd ho hh (i0:=c.1.toNat) (by omega);rw[d9 hc.1] at this;refine this.same fun a i _ _=>?_;simp only[hrB,hs,fb,decide_eq_true_eq];refine or_congr fQ (and_congr fQ ⟨fun e=>by omega,fun e=>by omega⟩)
 ·rename_i hs;refine ht.same fun a i _ _=>?_;have h2:has (n.s.getD c.2.toNat []) h=false:=by
   cases hx:has (n.s.getD c.2.toNat []) h
   ·rfl
   ·exact absurd hx hs
  simp only[hrB,h2,fi,bp,and_false,or_false]
theorem Tr.begH{n:Nw}(ho:NwOk n){h:Nat}(hh:h<n.h.toNat):∀ (cs:LP) {w:LI} {S:Nat->Nat->Prop},Tr n w S->(∀ c∈cs,0<=c.1/\c.1<n.n.length)->Tr n (begH n h w cs) (fun a i=>S a i\/a=h/\zID n cs h i=true)
 |[],w,S,ht,_=>ht.same fun a i _ _=>by simp[zID]
 |c::cs,w,S,ht,hc=>by
  have h1:=Tr.begH ho hh cs (ht.begC ho hh (hc c cf)) fun d hd=>hc d (bZ _ hd);refine Tr.same (w:=Go.Eng.begH n h w (c::cs)) h1 fun a i _ _=>?_;simp only[zID,fK,bW,or_assoc,and_or_left]
theorem Tr.begN{n:Nw}{cs:LP}(ho:CrW n cs):∀ k,k<=n.h.toNat->Tr n (begN n cs k) (fun a i=>a<k/\zID n cs a i=true)
 |0,_=>(Tr.none n ho.nw).same fun a i _ _=>by simp
 | k + 1,hk=>by
  rw[zJZ];refine(Tr.begH ho.nw (by omega) cs (Tr.begN ho k (by omega)) fun c hc=>(ho.cs c hc).1).same fun a i _ _=>?_;constructor
  ·rintro(⟨h1,h2⟩|⟨rfl,h2⟩)
   ·exact⟨by omega,h2⟩
   ·exact⟨by omega,h2⟩
  ·rintro⟨h1,h2⟩;by_cases e:a=k
   ·subst e;exact .inr ⟨rfl,h2⟩
   ·exact .inl ⟨by omega,h2⟩
end Go.Eng
namespace Go.Eng
open Go Go.Proofs
theorem Tr.skip{n:Nw}{w:LI}{S:Nat->Nat->Prop}(ho:NwOk n)(ht:Tr n w S){h0 c0:Nat}(hh:h0<n.h.toNat)(hc:c0<8):Tr n (zRt w (h0*8+c0) (-1)) S:=by
 have hH:=ho.h.2;have yG:h0*8+c0<w.length:=by rw[ht.wl];omega
 have hge : -1<=w.getD (h0*8+c0) 0:=by
  rcases ht.at_ h0 c0 hh hc with h|⟨i,_,_,h,_⟩<;>omega
 have he:∀ j,(zRt w (h0*8+c0) (-1)).getD j 0=w.getD j 0:=fun j=>by
  rw[zIK yG];split
  ·rename_i e;subst e;exact fV hge
  ·rfl
 exact⟨by rw[zIH];exact ht.wl,fun h c h1 h2=>by rw[he];exact ht.at_ h c h1 h2,fun h i h1 h2 h3=>by rw[he];exact ht.top h i h1 h2 h3⟩
theorem Tr.nxtR{n:Nw}{now:LI}{S0:Nat->Nat->Prop}(ho:NwOk n)(h0:Tr n now S0){h o:Nat}(hh:h<n.h.toNat)(gX:o<n.h.toNat){w:LI}{S:Nat->Nat->Prop}(ht:Tr n w S):∀ k,k<=8->Tr n (nxtR now h o w k) (fun a i=>S a i\/a=h/\(zAg n).getD i 0<(k:Int)/\hld n now o i=true)
 |0,_=>Tr.same (w:=Go.Eng.nxtR now h o w 0) ht fun a i _ hi=>by
  have:=zBK ho i hi;exact⟨.inl,fun h=>h.elim id fun h=>by have:=h.2.1;omega⟩
 | k + 1,hk=>by
  have ih:=Tr.nxtR ho h0 hh gX ht k (by omega);have e:Go.Eng.nxtR now h o w (k+1)=zRt (Go.Eng.nxtR now h o w k) (h*8+k) (now.getD (o*8+k) 0):=by
   simp only[Go.Eng.nxtR,b9,cE,bM,cv]
  rw[e];rcases h0.at_ o k gX (by omega) with hm|⟨j,g1,g2,g3,_⟩
  ·rw[hm];refine(ih.skip ho hh (by omega)).same fun a i _ hi=>or_congr fQ (and_congr fQ ⟨fun⟨x,y⟩=>⟨by omega,y⟩,fun⟨x,y⟩=>⟨?_,y⟩⟩);have hf:=zBK ho i hi;by_cases ek:(zAg n).getD i 0=(k:Int)
   ·simp only[hld,decide_eq_true_eq,ek,bR,hm] at y;omega
   ·omega
  ·have:=ih.upd ho hh g1;rw[g2,bR] at this;rw[g3];refine this.same fun a i _ hi=>?_;have hf:=zBK ho i hi;constructor
   ·rintro((x|⟨x,y,z⟩)|⟨rfl,rfl⟩)
    ·exact .inl x
    ·exact .inr ⟨x,by omega,z⟩
    ·refine .inr ⟨rfl,by omega,?_⟩;simp only[hld,decide_eq_true_eq,g2,bR,g3]
   ·rintro(x|⟨rfl,y,z⟩)
    ·exact .inl (.inl x)
    ·by_cases ek:(zAg n).getD i 0=(k:Int)
     ·simp only[hld,decide_eq_true_eq,ek,bR,g3] at z;exact .inr ⟨rfl,by omega⟩
     ·exact .inl (.inr ⟨rfl,by omega,z⟩)
theorem Tr.nxtH{n:Nw}{now:LI}{S0:Nat->Nat->Prop}(ho:NwOk n)(h0:Tr n now S0){h:Nat}(hh:h<n.h.toNat):∀ (l:LN),(∀ o∈l,o<n.h.toNat)->∀ {w:LI} {S:Nat->Nat->Prop},Tr n w S->Tr n (nxtH now h w l) (fun a i=>S a i\/a=h/\(l.any fun o=>hld n now o i)=true)
 |[],_,w,S,ht=>Tr.same (w:=Go.Eng.nxtH now h w []) ht fun a i _ _=>by simp
 |o::l,hl,w,S,ht=>by
  have h1:=Tr.nxtH ho h0 hh l (fun x hx=>hl x (bZ _ hx)) (Tr.nxtR ho h0 hh (hl o cf) ht 8 (bf _));refine Tr.same (w:=Go.Eng.nxtH now h w (o::l)) h1 fun a i _ hi=>?_;have hf:=zBK ho i hi;have vS:=ho.nl.2;simp only[fK,bW,and_or_left,or_assoc];refine or_congr fQ (or_congr (and_congr fQ ⟨fun x=>x.2,fun x=>⟨by omega,x⟩⟩) fQ)
theorem Tr.nxtN{n:Nw}{now:LI}{S0:Nat->Nat->Prop}(ho:NwOk n)(h0:Tr n now S0):∀ k,k<=n.h.toNat->Tr n (nxtN n now k) (fun a i=>S0 a i\/a<k/\((zHN n a n.h.toNat).any fun o=>hld n now o i)=true)
 |0,_=>Tr.same (w:=Go.Eng.nxtN n now 0) h0 fun a i _ _=>by simp
 | k + 1,hk=>by
  have ih:=Tr.nxtN ho h0 k (by omega);have e:Go.Eng.nxtN n now (k+1)=Go.Eng.nxtH now k (Go.Eng.nxtN n now k) (zHN n k n.h.toNat):=by
   simp only[Go.Eng.nxtN,b9,cE,bM,cv]
  rw[e];refine(Tr.nxtH ho h0 (by omega) _ (fun o hm=>bF.1 (bO.1 hm).1) ih).same fun a i _ _=>?_;constructor
  ·rintro((x|⟨x,y⟩)|⟨rfl,y⟩)
   ·exact .inl x
   ·exact .inr ⟨by omega,y⟩
   ·exact .inr ⟨by omega,y⟩
  ·rintro(x|⟨x,y⟩)
   ·exact .inl (.inl x)
   ·by_cases ea:a=k
    ·subst ea;exact .inr ⟨rfl,y⟩
    ·exact .inl (.inr ⟨by omega,y⟩)
end Go.Eng
set_option maxRecDepth 10000
set_option maxHeartbeats 4000000
namespace Go.Eng
open Go Go.Proofs
instance (n:Nw) (i j:Nat):Decidable (chn n i j):=inferInstanceAs (Decidable ((zAg n).getD i 0=(zAg n).getD j 0))
end Go.Eng
set_option maxRecDepth 10000
set_option maxHeartbeats 4000000
namespace Go.Eng
open Go Go.Proofs
end Go.Eng
set_option maxRecDepth 10000
set_option maxHeartbeats 4000000
namespace Go.Eng
open Go Go.Proofs
end Go.Eng
set_option maxRecDepth 10000
set_option maxHeartbeats 4000000
namespace Go.Eng
open Go Go.Proofs
end Go.Eng
namespace Go.Eng
open Go Go.Proofs
end Go.Eng
namespace Go.Eng
open Go Go.Proofs
theorem zKZ{α:Type}{p q:α->Bool}:∀ {l:List α},(∀ x∈l,p x=true->q x=true)->l.countP p<=l.countP q
 |[],_=>bf _|a::l,h=>by
  have ih:=zKZ (l:=l) fun x hx=>h x (bZ _ hx);have h1:=h a cf;rw[fO,fO];cases hp:p a
  ·rw[if_neg (by simp)];split<;>omega
  ·rw[h1 hp,if_pos rfl];omega
theorem zKU{α:Type}{p q:α->Bool}:∀ {l:List α},(∀ x∈l,p x=true->q x=true)->(∃ x∈l,q x=true/\p x=false)->l.countP p<l.countP q
 |[],_,⟨_,h,_⟩=>absurd h du
 | a :: l,h,⟨x,hx,h1,h2⟩=>by
  have hl:=fun x (hx:x∈l)=>h x (bZ _ hx);have ha:=h a cf;rw[fO,fO];rcases bx.1 hx with e|hm
  ·subst e;have ih:=zKZ hl;rw[h2,if_neg (by simp),h1,if_pos rfl];omega
  ·have ih:=zKU hl ⟨x,hm,h1,h2⟩;cases hp:p a
   ·rw[if_neg (by simp)];split<;>omega
   ·rw[ha hp,if_pos rfl];omega
theorem zZJ{H:Nat}(p:Nat->Nat->Bool)(hm:∀ e h,h<H->p e h=true->p (e+1) h=true)(hd:∀ e,(∀ h,h<H->p (e+1) h=p e h)->∀ h,h<H->p (e+1+1) h=p (e+1) h)(h0:(∀ h,h<H->p 0 h=false)->∀ h,h<H->p 1 h=false){e:Nat}(he:H<=e+1):∀ h,h<H->p (e+1) h=p e h:=by
 have uC:∀ k e,(∀ h,h<H->p (e+1) h=p e h)->∀ h,h<H->p (e+k+1) h=p (e+k) h:=by
  intro k
  induction k with
  |zero=>intro e h;exact h|succ k ih=>intro e h;exact hd (e+k) (ih e h)
 apply b5;intro hI;have qA:∀ e',e'<=e->∃ h,h<H/\p (e'+1) h=true/\p e' h=false:=by
  intro e' h1;apply b5;intro h2;apply hI;have h3:∀ h,h<H->p (e'+1) h=p e' h:=by
   intro h hh;cases hp:p e' h
   ·cases hq:p (e'+1) h
    ·rfl
    ·exact absurd ⟨h,hh,hq,hp⟩ h2
   ·exact hm e' h hh hp
  have:=uC (e-e') e' h3;rwa[show e'+(e-e')=e by omega] at this
 have hc:∀ k,k<=e+1->k+1<=(range H).countP (p k):=by
  intro k
  induction k with
  |zero=>
   intro _;apply b5;intro hz;have kK:(range H).countP (p 0)=0:=by omega
   rw[List.countP_eq_zero] at kK;obtain⟨h,hh,h1,_⟩:=qA 0 (bN _);have:=h0 (fun h hh=>by simpa using kK h (bF.2 hh)) h hh;rw[this] at h1;cases h1
  |succ k ih=>
   intro hk;have ih:=ih (by omega);obtain⟨h,hh,h1,h2⟩:=qA k (by omega);have:=zKU (l:=range H) (fun x hx=>hm k x (bF.1 hx)) ⟨h,bF.2 hh,h1,h2⟩;omega
 have h1:=hc (e+1) (bf _);have h2:=List.countP_le_length (p:=p (e+1)) (l:=range H);rw[ig] at h2;omega
theorem zWZ{a b v:Int}:v<=max a b↔v<=a\/v<=b:=by omega
theorem zRP{now w:LI}{h o:Nat}(hw:w.length=80)(hh:h<10){j:Nat}{v:Int}:∀ k,k<=8->(v<=(nxtR now h o w k).getD j 0↔v<=w.getD j 0\/∃ c,c<k/\j=h*8+c/\v<=now.getD (o*8+c) 0)
 |0,_=>by
  refine⟨.inl,fun h=>h.elim id fun⟨c,h,_⟩=>absurd h (cD c)⟩
 | k + 1,hk=>by
  have ih:=zRP (now:=now) (o:=o) hw hh (j:=j) (v:=v) k (by omega);rw[zJR,zIK (by rw[zHF,hw];omega)];split
  ·rename_i e;rw[zWZ,ih];constructor
   ·rintro((h1|⟨c,h1,h2,h3⟩)|h1)
    ·exact .inl h1
    ·exact .inr ⟨c,by omega,h2,h3⟩
    ·exact .inr ⟨k,by omega,e.symm,h1⟩
   ·rintro(h1|⟨c,h1,h2,h3⟩)
    ·exact .inl (.inl h1)
    ·obtain rfl:c=k:=by omega
     exact .inr h3
  ·rename_i e;rw[ih];refine or_congr fQ ⟨fun⟨c,h1,h2,h3⟩=>⟨c,by omega,h2,h3⟩,fun⟨c,h1,h2,h3⟩=>⟨c,?_,h2,h3⟩⟩;by_cases hc:c=k
   ·subst hc;exact absurd h2.symm e
   ·omega
theorem zSp{now:LI}{h:Nat}(hh:h<10){j:Nat}{v:Int}:∀ (l:LN) {w:LI},w.length=80->(v<=(nxtH now h w l).getD j 0↔v<=w.getD j 0\/∃ o∈l,∃ c,c<8/\j=h*8+c/\v<=now.getD (o*8+c) 0)
 |[],w,hw=>⟨.inl,fun h=>h.elim id fun⟨o,h,_⟩=>absurd h du⟩
 | o :: l,w,hw=>by
  have ih:=zSp (now:=now) hh (j:=j) (v:=v) l (w:=nxtR now h o w 8) (by rw[zHF,hw]);show v<=(nxtH now h (nxtR now h o w 8) l).getD j 0↔_
  rw[ih,zRP hw hh 8 (bf _)];constructor
  ·rintro((h1|h1)|⟨o2,h1,h2⟩)
   ·exact .inl h1
   ·exact .inr ⟨o,cf,h1⟩
   ·exact .inr ⟨o2,bZ _ h1,h2⟩
  ·rintro(h1|⟨o2,h1,h2⟩)
   ·exact .inl (.inl h1)
   ·rcases bx.1 h1 with e|h3
    ·subst e;exact .inl (.inr h2)
    ·exact .inr ⟨o2,h3,h2⟩
theorem zMf{n:Nw}{now:LI}(hw:now.length=80){j:Nat}{v:Int}:∀ k,k<=10->(v<=(nxtN n now k).getD j 0↔v<=now.getD j 0\/∃ h,h<k/\∃ o∈zHN n h n.h.toNat,∃ c,c<8/\j=h*8+c/\v<=now.getD (o*8+c) 0)
 |0,_=>⟨.inl,fun h=>h.elim id fun⟨c,h,_⟩=>absurd h (cD c)⟩
 | k + 1,hk=>by
  have ih:=zMf (n:=n) hw (j:=j) (v:=v) k (by omega);rw[zKb,zSp (by omega) _ (by rw[zI5,hw]),ih];constructor
  ·rintro((h1|⟨h,h1,h2⟩)|h2)
   ·exact .inl h1
   ·exact .inr ⟨h,by omega,h2⟩
   ·exact .inr ⟨k,by omega,h2⟩
  ·rintro(h1|⟨h,h1,h2⟩)
   ·exact .inl (.inl h1)
   ·by_cases e:h=k
    ·subst e;exact .inr h2
    ·exact .inl (.inr ⟨h,by omega,h2⟩)
theorem zDA{n:Nw}(ho:NwOk n){w:LI}(hw:w.length=80){h c:Nat}(hh:h<n.h.toNat)(hc:c<8){v:Int}:v<=(zCf n w).getD (h*8+c) 0↔v<=w.getD (h*8+c) 0\/∃ o∈zHN n h n.h.toNat,v<=w.getD (o*8+c) 0:=by
 have hH:=ho.h;unfold zCf;rw[zMf hw _ (by omega)];refine or_congr fQ ⟨fun⟨h2,h3,o,h4,c2,h5,h6,h7⟩=>?_,fun⟨o,h1,h2⟩=>⟨h,hh,o,h1,c,hc,rfl,h2⟩⟩;obtain rfl:h2=h:=by omega
 obtain rfl:c2=c:=by omega
 exact⟨o,h4,h7⟩
theorem zSu{n:Nw}(ho:NwOk n){w:LI}(hw:w.length=80){j:Nat}(hj:n.h.toNat*8<=j):(zCf n w).getD j 0=w.getD j 0:=by
 have hH:=ho.h;have key:∀ v:Int,v<=(zCf n w).getD j 0↔v<=w.getD j 0:=fun v=>by
  unfold zCf;rw[zMf hw _ (by omega)];refine⟨fun h=>h.elim id fun⟨h2,h3,o,h4,c2,h5,h6,h7⟩=>?_,.inl⟩;omega
 have h1:=(key _).1 (di _);have h2:=(key _).2 (di _);omega
theorem zSx{n:Nw}(ho:NwOk n){w:LI}(hw:w.length=80)(j:Nat):w.getD j 0<=(zCf n w).getD j 0:=by
 have hH:=ho.h;unfold zCf;rw[zMf hw _ (by omega)];exact .inl (di _)
theorem zVu{n:Nw}{cs:LP}(ho:NwOk n){e k:Nat}(j:Nat)(hek:e<=k):(zAy n cs e).getD j 0<=(zAy n cs k).getD j 0:=by
 induction hek with
 |refl=>exact di _|step h ih=>exact fW ih (zSx ho (zBe _) j)
theorem zLR{n:Nw}{cs:LP}(ho:NwOk n){j:Nat}(hj:n.h.toNat*8<=j):∀ e,(zAy n cs e).getD j 0=(zAy n cs 0).getD j 0
 |0=>rfl|e+1=>by
  show(zCf n (zAy n cs e)).getD j 0=_
  rw[zSu ho (zBe e) hj,zLR ho hj e]
theorem zXB{a b:LI}(hl:a.length=b.length)(h:∀ j,j<a.length->a.getD j 0=b.getD j 0):a=b :=
 iz hl fun j h1 h2=>by have:=h j h1;rwa[zAu h1,zAu h2] at this
theorem zTR{n:Nw}{cs:LP}(ho:NwOk n){e:Nat}(he:n.h.toNat<=e+1):zAy n cs (e+1)=zAy n cs e:=by
 refine zXB (by rw[zBe,zBe]) fun j hj=>?_;rw[zBe] at hj;by_cases hr:n.h.toNat*8<=j
 ·rw[zLR ho hr,zLR (n:=n) ho hr e]
 ·have hc:j % 8<8:=Nat.mod_lt _ (by omega);have hh:j / 8<n.h.toNat:=by omega
  have hj2:j=j / 8*8+j % 8:=by omega
  have key:∀ v:Int,v<=(zAy n cs (e+1)).getD j 0↔v<=(zAy n cs e).getD j 0:=fun v=>by
   have yD:∀ k h,h<n.h.toNat->(v<=(zAy n cs (k+1)).getD (h*8+j % 8) 0↔v<=(zAy n cs k).getD (h*8+j % 8) 0\/∃ o∈zHN n h n.h.toNat,v<=(zAy n cs k).getD (o*8+j % 8) 0):=fun k h hh=>zDA ho (zBe k) hh hc;have u7:∀ h o,o∈zHN n h n.h.toNat->o<n.h.toNat:=fun h o hm=>bF.1 (bO.1 hm).1;have:=zZJ (H:=n.h.toNat) (fun k h=>decide (v<=(zAy n cs k).getD (h*8+j % 8) 0)) (fun k h hh h1=>?_) (fun k h1 h hh=>?_) (fun h1 h hh=>?_) he (j / 8) hh
   ·simp only[decide_eq_decide] at this;rw[<- hj2] at this;exact this
   ·simp only[decide_eq_true_eq] at h1 ⊢;exact(yD k h hh).2 (.inl h1)
   ·simp only[decide_eq_decide] at h1 ⊢;rw[yD (k+1) h hh,yD k h hh];constructor
    ·rintro(h2|⟨o,h2,h3⟩)
     ·exact h2
     ·exact .inr ⟨o,h2,(h1 o (u7 h o h2)).1 h3⟩
    ·exact .inl
   ·simp only[decide_eq_false_iff_not] at h1 ⊢;rw[yD 0 h hh];rintro(h2|⟨o,h2,h3⟩)
    ·exact h1 h hh h2
    ·exact h1 o (u7 h o h2) h3
  have h1:=(key _).1 (di _);have h2:=(key _).2 (di _);omega
end Go.Eng
set_option maxRecDepth 10000
set_option maxHeartbeats 4000000
namespace Go.Eng
open Go Go.Proofs
def zVE(n:Nw)(i:Nat):Bool:=decide ((zAN n).getD i 0=i) && !(n.n.getD i d0).2
def zGa(p:Nat->Bool)(k:Nat):LI:=((range k).filter p).map fun(i:Nat)=>(i:Int)
theorem zLA{p:Nat->Bool}{k:Nat}:zGa p (k+1)=if p k=true then zGa p k++[(k:Int)] else zGa p k:=by
 unfold zGa;rw[b9,dv,cT];by_cases hn:p k=true
 ·rw[if_pos hn];simp[hn]
 ·rw[if_neg hn];simp[hn]
theorem zUc{p:Nat->Bool}{k:Nat}:(zGa p k).length<=k:=by
 unfold zGa;rw[be];exact bB (bC _ _) (by simp)
theorem f86_1(n:Nw)(ho:NwOk n):FG 86 [nwV n] (.tup [.own 1 ((zGa (zVE n) n.n.length).map I),I 0]):=by
 have vS:=ho.nl;refine zAd Tryz.f86 ?_;refine zAj 3<|zAl 1<|S_a [(6,.ret (tup [(zBt n (own 2 []) (zDL (map pr2 n.l)) (zAg n) (zAN n)).box,I 0]) [])] (ap (f139_1 n (by omega)) an)<|S_g 5<|zAc<|zAj 2<|zAB<|zAh<|zAj 1<|zAc<|zAl 2<|S_a [(0,.n n.n.length)] (ap (lnS ntV n.n) an)<|S_g 1<|zAf 0 ?_
 refine zAr (fun(i,l)=>i<=n.n.length/\l=zGa (zVE n) i) (fun(i,l)=>[(6,.own 1 (l.map I)),(20,I (i:Nat))]) (fun(i,_)=>n.n.length-i) ((0:Nat),([]:LI)) ⟨by omega,by simp[zGa]⟩ fun(i,l) ⟨hi,hl⟩=>?_;have uu:l.length<=i:=by rw[hl];exact zUc
 by_cases yR:i<n.n.length
 ·have yM:=zLA (p:=zVE n) (k:=i);rw[<- hl] at yM;have jf:zVE n i=false->l=zGa (zVE n) (i+1):=fun h=>by rw[yM,if_neg (by rw[h];simp)]
  refine zAj 1<|zAc<|zAM ((i:Int)<(n.n.length:Int)) (by omega)<|zAh<|zAc<|zAf 1<|zAl 1<|S_a [(2,.v (agg [I (n.n.getD i d0).fst,bool (n.n.getD i d0).snd]))] (ap (zBN d0 (by omega):(map ntV n.n)[i]? = some (agg [I (n.n.getD i d0).fst,bool (n.n.getD i d0).snd])) an)<|S_g 4<|zAl 4<|S_a [(2,.ob),(1,.v (addr 4 [] 0 (14+i) none))] (ap ((by exact zAp (by omega)):decide (i<8)=true)<|ap ((zF9 (by kernel_rfl)):addr 4 [] 0 (14+i*(fun x=>x.size) Tryz.prog.types[3]) none=addr 4 [] 0 (14+i) none) an)<|S_a [(0,.cs true ([I ((zAN n).getD i 0)]))] (ap (zCn (q:=(agg (I n.h::prs n.l::sl (map ntV n.n)::sl (map zBT n.s)::own 2 []::omap (map zDW (map pr2 n.l))::(zA5 (zAg n) 8++zA5 (zAN n) 8))).box) (xs:=[agg (I n.h::prs n.l::sl (map ntV n.n)::sl (map zBT n.s)::own 2 []::omap (map zDW (map pr2 n.l))::(zA5 (zAg n) 8++zA5 (zAN n) 8))]) (x:=agg (I n.h::prs n.l::sl (map ntV n.n)::sl (map zBT n.s)::own 2 []::omap (map zDW (map pr2 n.l))::(zA5 (zAg n) 8++zA5 (zAN n) 8))) rfl rfl (zK8 (A:=I n.h::prs n.l::sl (map ntV n.n)::sl (map zBT n.s)::own 2 []::omap (map zDW (map pr2 n.l))::zA5 (zAg n) 8) (B:=[]) (F:=zAN n) (m:=8) (j:=i) (by first|rfl|exact zCc (by kernel_rfl)|exact zCd (by kernel_rfl)|exact zDQ (by kernel_rfl) (by kernel_rfl)|exact zDY (by kernel_rfl)|exact zD7 (by kernel_rfl) (by kernel_rfl)|exact zDR (by kernel_rfl)|(simp;done)) (by omega)):zAq 4 (agg (I n.h::prs n.l::sl (map ntV n.n)::sl (map zBT n.s)::own 2 []::omap (map zDW (map pr2 n.l))::(zA5 (zAg n) 8++zA5 (zAN n) 8))).box [] 0 (14+i) 1=some (true,[I ((zAN n).getD i 0)])) an)<|zAm 3<|zNU 33 ((zAN n).getD i 0=(i:Int)) (fun k0=>(S_g 4<|zEx (!(n.n.getD i d0).snd) (fun k1=>(zAb<|zAm 3<|S_a [(4,.ob),(0,.ob),(0,.yes),(2,.v (own 1 (map I (l++[(i:Int)]))))] (ap (blz (map I l))<|ap ((by exact zAR (by simp only[be,zzLn,zAO]<;>omega)):((map I l).length + [I (i:Int)].length).ble zAO=true)<|ap ((by exact zBq (by simp<;>omega)):(0+(map I l).length).beq (map I l).length=true)<|ap ((zAT (zBE (by kernel_rfl))):own 1 (map I l++[I (i:Int)])=own 1 (map I (l++[(i:Int)]))) an)<|S_g 1<|zAb<|S_i i<|S_g 1 ?_)) (fun k1=>(zAh<|zAb<|S_i i<|S_g 1 ?_)))) (fun k0=>(S_g 4<|zAB<|zAh<|zAb<|S_i i<|S_g 1 ?_))
  ·rw[if_pos (by simp only[zVE,decide_eq_true k0,k1];rfl)] at yM;exact rnd (i+1,l++[(i:Int)]) ⟨by omega,yM.symm⟩ (by simp only;omega)
  ·exact rnd (i+1,l) ⟨by omega,jf (by simp only[zVE,decide_eq_true k0,k1];rfl)⟩ (by simp only;omega)
  ·exact rnd (i+1,l) ⟨by omega,jf (by simp only[zVE,decide_eq_false k0,dB])⟩ (by simp only;omega)
 ·refine zAj 1<|zAc<|zAQ ((i:Int)<(n.n.length:Int)) (by omega)<|zAD 0<|zAl 1<|S_a [(2,.yes)] (ap ((by exact zBq (by simp<;>omega)):(beq 0 0&&(map I l).length.beq (map I l).length)=true) an)<|S_g 1<|zAn<|E_a [(1,.yes),(1,.v (own 1 (map I l)))] (ap (blz (map I l))<|ap ((zAT zA6):own 1 (take (map I l).length (drop 0 (map I l)))=own 1 (map I l)) an) (tup [own 1 (map I l),I 0]) [] ?_ rfl
  rw[hl,show i=n.n.length by omega]
def bkL(n:Nw)(cs:LP)(c:Nat)(x:Int):Nat->LI->LI
 |0,out=>out|k+1,out=>bkL n cs c x k (match(zHN n (out.getD 0 0).toNat n.h.toNat).find? fun o=>decide ((zAy n cs k).getD (o*8+c) 0=x) with|some o=>(o:Int)::out|none=>out)
abbrev zWg(S:List LI):PV := .box (.own 80 (S.map hdV))
def zT9(n:Nw)(cs:LP)(k:Nat):List LI:=(range k).map fun k=>zAy n cs k
theorem zNX{n:Nw}{cs:LP}{k:Nat}:zT9 n cs (k+1)=zT9 n cs k++[zAy n cs k]:=by
 simp only[zT9,b9,cT,bL,dZ]
theorem zMl{n:Nw}{cs:LP}{k j:Nat}(h:j<k):(zT9 n cs k).getD j []=zAy n cs j:=by
 simp[zT9,bU,h]
theorem zX5(n:Nw)(cs:LP)(h:Int)(ho:NwOk n)(hh:0<=h/\h<n.h):zGs 169 [] [.ref (zE9 n cs),.ref (I h)] (zJA n h.toNat n.h.toNat):=by
 obtain⟨g,rfl⟩:∃ g:Nat,h=g:=⟨h.toNat,by omega⟩;exact zV4 n cs g ho hh.2
theorem zKY{p:Nat->Bool}:∀ {l:LN} {j o:Nat},l[j]? = some o->p o=true->(∀ i,i<j->p (l.getD i 0)=false)->l.find? p=some o
 |[],j,o,h,_,_=>by cases h|x::l,0,o,h,hp,_=>by
  simp only[bJ,ba] at h;subst h;rw[List.find?_cons,hp]
 |x::l,j+1,o,h,hp,ha=>by
  have h0:=ha 0 (by omega);simp only[List.getD_cons_zero] at h0;rw[List.find?_cons,h0];exact zKY (by simpa using h) hp fun i hi=>by simpa using ha (i+1) (by omega)
theorem zQE{p:Nat->Bool}{l:LN}(ha:∀ i,i<l.length->p (l.getD i 0)=false):l.find? p=none:=by
 rw[List.find?_eq_none];intro x hx;obtain⟨i,hi,rfl⟩:=fY hx;have:=ha i hi;rw[zAu hi] at this;simp[this]
theorem f38_1(n:Nw)(cs:LP)(h:Int)(x:Int)(k:Nat)(ho:CrOk n cs)(hh:0<=h/\h<n.h)(hx:0<=x/\x<n.n.length)(hk:k<=12)(yj:(zAy n cs k).getD (h.toNat*8+((zAg n).getD x.toNat 0).toNat) 0=x)(hm:∀ j,j<k->(zAy n cs j).getD (h.toNat*8+((zAg n).getD x.toNat 0).toNat) 0≠x):FG 38 [nwV n,prs cs,I h,I x] (.tup [.own 1 ((bkL n cs ((zAg n).getD x.toNat 0).toNat x k [h]).map I),I 0]):=by
 have hn:=ho.nw;have kO:=ho.w;have hb:=hn.h;have vS:=hn.nl;have hin:inB x 0 (n.n.length-1)=true:=by simp only[inB,bb,decide_eq_true_eq];omega
 have hih:inB h 0 (n.h-1)=true:=by simp only[inB,bb,decide_eq_true_eq];omega
 have gW:=zBK hn x.toNat (by omega);refine zAd Tryz.f38 ?_;refine zAj 4<|zAl 2<|S_a [(8,.ret (tup [zE9 n cs,I 0]) [])] (ap (f99_1 n cs (by omega)) an)<|S_g 5<|zAc<|zAf 0<|zAj 3<|zAB<|zAl 2<|S_a [(8,.ret (bool (inB h 0 (n.h-1))) [])] (ap (f109 n h (by omega)) an)<|zAm 2<|zGK 32 (!inB h 0 (n.h-1)) (fun k1=>(S_g 6<|zCy<|zAj 2<|zAn<|E_a [] an (tup [own 1 [],I 1]) [] ?_ rfl)) (fun k1=>(zAm 2<|S_a [(8,.ret (bool (inB x 0 ((n.n.length:Int)-1))) [])] (ap (f106 n x (by first|omega|(simp<;>omega))) an)<|S_g 3<|zEx (!inB x 0 ((n.n.length:Int)-1)) (fun k2=>(zAj 2<|zAn<|E_a [] an (tup [own 1 [],I 1]) [] ?_ rfl)) (fun k2=>(zAh<|zAl 4<|S_a [(0,.ob),(1,.ob),(0,.v ((I ((zAg n).getD x.toNat 0)).ref))] (ap ((by exact zAp (by omega)):decide (0<=x)=true)<|ap ((by exact zAp (by omega)):decide (x.toNat<8)=true)<|ap (zD0 (F:=zAg n) (m:=8) (j:=x.toNat) (by omega):zBQ (agg (zA5 (zAg n) 8)).ref (x.toNat*(fun x=>x.size) Tryz.prog.types[3]) none=some (I ((zAg n).getD x.toNat 0)).ref) an)<|S_g 3<|zAl 1<|S_a [(5,.ret (hdV (zKC n cs)) [])] (ap (f100 n cs (by omega)) an)<|S_g 3<|zAc<|zAf 1 ?_))))
 ·rw[hih] at k1;cases k1
 ·rw[hin] at k2;cases k2
 ·generalize hc:((zAg n).getD x.toNat 0)=c at *;refine zAr (fun(j,S)=>j<=k/\S=zT9 n cs (j+1)) (fun(j,S)=>[(13,zWg S)]) (fun(j,_)=>k-j) ((0:Nat),[zKC n cs]) ⟨by omega,rfl⟩ fun(j,S) ⟨hj,hS⟩=>?_;have wh:S.length=j+1:=by rw[hS];simp[zT9]
  have qm:S.getD (S.length-1) []=zAy n cs j:=by rw[wh,hS];exact zMl (by omega)
  have qE:(S.getD (S.length-1) []).length=80:=by rw[qm];exact zBe j
  by_cases hjk:j<k
  ·have hI:=hm j hjk;rw[<- qm] at hI;have hSS:S++[zCf n (S.getD (S.length-1) [])]=zT9 n cs (j+1+1):=by rw[zNX (k:=j+1),<- hS,qm];rfl
   refine zAc<|zAc<|zAb<|S_a [(1,.v (bor 13 [(0,0)] 80 0 S.length))] (ap ((by simp):bor 13 [(0,0)] 80 0 (map hdV S).length=bor 13 [(0,0)] 80 0 S.length) an)<|S_a [(1,.v (bor 13 [(0,0)] 80 0 S.length))] (ap ((by simp):bor 13 [(0,0)] 80 0 (map hdV S).length=bor 13 [(0,0)] 80 0 S.length) an)<|zAm 1<|S_a [(1,.v (I (↑(S.length-1):Int)))] (ap ((zBW (by omega) (by omega)):I (IntKind.i64.wrap ((S.length:Int)-1))=I (↑(S.length-1):Int)) an)<|zAm 2<|S_a [(2,.ob),(1,.n (S.length-1))] (ap ((by exact zAp (by omega)):decide (S.length-1<S.length)=true)<|ap ((by simp):some (0+(S.length-1))=some (S.length-1)) an)<|S_a [(0,.ob),(1,.ob)] (ap ((by exact zAp (by omega)):decide (0<=h)=true)<|ap ((by exact zAp (by omega)):decide (h.toNat<10)=true) an)<|S_a [(0,.ob),(1,.ob)] (ap ((by exact zAp (by omega)):decide (0<=c)=true)<|ap ((by exact zAp (by omega)):decide (c.toNat<8)=true) an)<|S_a [(0,.cs true ([I ((S.getD (S.length-1) []).getD (h.toNat*8+c.toNat) 0)]))] (ap (zCn (q:=own 80 (map hdV S)) (xs:=map hdV S) (x:=agg (zA5 (S.getD (S.length-1) []) 80)) (zNt (xs:=[own 80 (map hdV S)]) (x:=own 80 (map hdV S)) (y:=own 80 (map hdV S)) rfl rfl) (zBN [] (by omega)) (zFk (F:=S.getD (S.length-1) []) (m:=80) (j:=h.toNat*8+c.toNat) (by first|rfl|exact zCc (by kernel_rfl)|exact zCd (by kernel_rfl)|exact zDQ (by kernel_rfl) (by kernel_rfl)|exact zDY (by kernel_rfl)|exact zD7 (by kernel_rfl) (by kernel_rfl)|exact zDR (by kernel_rfl)|(simp;done)) (by omega)):zAq 13 (own 80 (map hdV S)).box [(0,0)] (S.length-1) (0+h.toNat*(fun x=>x.size) Tryz.prog.types[128]+c.toNat*(fun x=>x.size) Tryz.prog.types[3]) 1=some (true,[I ((S.getD (S.length-1) []).getD (h.toNat*8+c.toNat) 0)])) an)<|S_g 2<|zJB ((S.getD (S.length-1) []).getD (h.toNat*8+c.toNat) 0=x) (by omega)<|zAh<|zAf 2<|zAc<|zAc<|zAb<|S_a [(1,.v (bor 13 [(0,0)] 80 0 S.length))] (ap ((by simp):bor 13 [(0,0)] 80 0 (map hdV S).length=bor 13 [(0,0)] 80 0 S.length) an)<|S_g 2<|zAQ ((S.length:Int)>12) (by omega)<|zAh<|zAb<|S_a [(1,.v (bor 13 [(0,0)] 80 0 S.length))] (ap ((by simp):bor 13 [(0,0)] 80 0 (map hdV S).length=bor 13 [(0,0)] 80 0 S.length) an)<|zAm 1<|S_a [(1,.v (bor 13 [(0,0)] 80 0 S.length))] (ap ((by simp):bor 13 [(0,0)] 80 0 (map hdV S).length=bor 13 [(0,0)] 80 0 S.length) an)<|S_a [(1,.v (bor 13 [(0,0)] 80 0 S.length))] (ap ((by simp):bor 13 [(0,0)] 80 0 (map hdV S).length=bor 13 [(0,0)] 80 0 S.length) an)<|zAm 1<|S_a [(1,.v (I (↑(S.length-1):Int)))] (ap ((zBW (by omega) (by omega)):I (IntKind.i64.wrap ((S.length:Int)-1))=I (↑(S.length-1):Int)) an)<|S_a [(2,.ob),(1,.n (S.length-1))] (ap ((by exact zAp (by omega)):decide (S.length-1<S.length)=true)<|ap ((by simp):some (0+(S.length-1))=some (S.length-1)) an)<|S_a [(0,.cs true (zA5 (S.getD (S.length-1) []) 80))] (ap (zCn (q:=own 80 (map hdV S)) (xs:=map hdV S) (x:=agg (zA5 (S.getD (S.length-1) []) 80)) (zNt (xs:=[own 80 (map hdV S)]) (x:=own 80 (map hdV S)) (y:=own 80 (map hdV S)) rfl rfl) (zBN [] (by omega)):zAq 13 (own 80 (map hdV S)).box [(0,0)] (S.length-1) 0 Tryz.prog.types[130].size=some (true,zA5 (S.getD (S.length-1) []) 80)) an)<|S_a [(7,.ret (hdV (zCf n (S.getD (S.length-1) []))) [])] (ap (f101 n cs (S.getD (S.length-1) []) (by omega) (by omega)) an)<|zAm 1<|S_a [(4,.ob),(0,.ob),(0,.yes),(2,.v (own 80 (map hdV (S++[zCf n (S.getD (S.length-1) [])]))))] (ap ((by exact zAR (by simp only[be,zzLn,zAO]<;>omega)):(0+S.length).ble (map hdV S).length=true)<|ap ((by exact zAR (by simp only[be,zzLn,zAO]<;>omega)):((map hdV S).length + [agg (zA5 (zCf n (S.getD (S.length-1) [])) 80)].length).ble zAO=true)<|ap ((by exact zBq (by simp<;>omega)):(0+S.length).beq (map hdV S).length=true)<|ap ((zAT (zBE (by kernel_rfl))):own 80 (map hdV S++[agg (zA5 (zCf n (S.getD (S.length-1) [])) 80)])=own 80 (map hdV (S++[zCf n (S.getD (S.length-1) [])]))) an)<|S_g 1 ?_
   exact rnd (j+1,S++[zCf n (S.getD (S.length-1) [])]) ⟨by omega,hSS⟩ (by simp only;omega)
  ·have e:j=k:=by omega
   subst e;rw[<- qm] at yj;refine zAc<|zAc<|zAb<|S_a [(1,.v (bor 13 [(0,0)] 80 0 S.length))] (ap ((by simp):bor 13 [(0,0)] 80 0 (map hdV S).length=bor 13 [(0,0)] 80 0 S.length) an)<|S_a [(1,.v (bor 13 [(0,0)] 80 0 S.length))] (ap ((by simp):bor 13 [(0,0)] 80 0 (map hdV S).length=bor 13 [(0,0)] 80 0 S.length) an)<|zAm 1<|S_a [(1,.v (I (↑(S.length-1):Int)))] (ap ((zBW (by omega) (by omega)):I (IntKind.i64.wrap ((S.length:Int)-1))=I (↑(S.length-1):Int)) an)<|zAm 2<|S_a [(2,.ob),(1,.n (S.length-1))] (ap ((by exact zAp (by omega)):decide (S.length-1<S.length)=true)<|ap ((by simp):some (0+(S.length-1))=some (S.length-1)) an)<|S_a [(0,.ob),(1,.ob)] (ap ((by exact zAp (by omega)):decide (0<=h)=true)<|ap ((by exact zAp (by omega)):decide (h.toNat<10)=true) an)<|S_a [(0,.ob),(1,.ob)] (ap ((by exact zAp (by omega)):decide (0<=c)=true)<|ap ((by exact zAp (by omega)):decide (c.toNat<8)=true) an)<|S_a [(0,.cs true ([I ((S.getD (S.length-1) []).getD (h.toNat*8+c.toNat) 0)]))] (ap (zCn (q:=own 80 (map hdV S)) (xs:=map hdV S) (x:=agg (zA5 (S.getD (S.length-1) []) 80)) (zNt (xs:=[own 80 (map hdV S)]) (x:=own 80 (map hdV S)) (y:=own 80 (map hdV S)) rfl rfl) (zBN [] (by omega)) (zFk (F:=S.getD (S.length-1) []) (m:=80) (j:=h.toNat*8+c.toNat) (by first|rfl|exact zCc (by kernel_rfl)|exact zCd (by kernel_rfl)|exact zDQ (by kernel_rfl) (by kernel_rfl)|exact zDY (by kernel_rfl)|exact zD7 (by kernel_rfl) (by kernel_rfl)|exact zDR (by kernel_rfl)|(simp;done)) (by omega)):zAq 13 (own 80 (map hdV S)).box [(0,0)] (S.length-1) (0+h.toNat*(fun x=>x.size) Tryz.prog.types[128]+c.toNat*(fun x=>x.size) Tryz.prog.types[3]) 1=some (true,[I ((S.getD (S.length-1) []).getD (h.toNat*8+c.toNat) 0)])) an)<|S_g 2<|zMB ((S.getD (S.length-1) []).getD (h.toNat*8+c.toNat) 0=x) (by omega)<|zAD 1<|zAj 4<|zAc<|zAc<|zAb<|S_a [(1,.v (bor 13 [(0,0)] 80 0 S.length))] (ap ((by simp):bor 13 [(0,0)] 80 0 (map hdV S).length=bor 13 [(0,0)] 80 0 S.length) an)<|zAm 1<|S_a [(1,.v (I ((S.length:Int)-2)))] (ap ((zBW rfl (by omega)):I (IntKind.i64.wrap ((S.length:Int)-2))=I ((S.length:Int)-2)) an)<|S_g 2<|zAf 3 ?_
   have hS0:∀ r:Nat,r<S.length->(S.getD r []).length=80/\S.getD r []=zAy n cs r:=fun r hr=>by
    rw[hS,zMl (by omega)];exact⟨zBe r,rfl⟩
   have hSm:((S.length:Nat):Int)-2=(j:Int)-1:=by omega
   generalize yO:bkL n cs c.toNat x j [h]=fin;clear hS qm qE yj hm;refine zAr (fun((m:Int),(out:LI))=>-1<=m/\m<j/\out.length<=20-m/\0<out.length/\(0<=out.getD 0 0/\out.getD 0 0<n.h)/\bkL n cs c.toNat x (m+1).toNat out=fin) (fun(m,out)=>[(14,.box (.own 1 (out.map I))),(15,.box (I m))]) (fun(m,_)=>(m+1).toNat) (((S.length:Nat):Int)-2,[h]) ⟨by omega,by omega,by simp only[bD,b7];omega,by simp,by simpa using hh,by rw[<- yO];congr 1;omega⟩ fun(m,out) ⟨hm1,vo,ho1,ho2,ho3,hbk⟩=>?_;by_cases gy:0<=m
   ·have hA:=zX5 n cs (out.getD 0 0) hn ho3;obtain⟨vA,kN⟩:=hS0 m.toNat (by omega);rw[show(m+1).toNat=m.toNat+1 by omega,bkL,<- kN] at hbk;refine zAc<|zAj 2<|zAM (m>=0) (by omega)<|zAh<|zAc<|zAf 4<|zXD<|zAc<|zWU (zAl 1<|S_a [(1,.v (bor 14 [(0,0)] 1 0 out.length))] (ap ((by simp):bor 14 [(0,0)] 1 0 (map I out).length=bor 14 [(0,0)] 1 0 out.length) an)<|S_a [(2,.ob)] (ap ((by exact zAp (by omega)):decide (0<out.length)=true) an)<|S_a [(0,.cs false ([I (out.getD 0 0)]))] (ap (zCn (q:=own 1 (map I out)) (xs:=map I out) (x:=I (out.getD 0 0)) (zNt (xs:=[own 1 (map I out)]) (x:=own 1 (map I out)) (y:=own 1 (map I out)) rfl rfl) (zBN (0) (by omega)):zAq 14 (own 1 (map I out)).box [(0,0)] 0 0 1=some (false,[I (out.getD 0 0)])) an)<|S_a [(7,.ret (func 169 [] [(zE9 n cs).ref,(I (out.getD 0 0)).ref]) [])] (ap (f116 n cs (out.getD 0 0)) an)<|zA3<|zAf 5 ?_)
    refine zPc (t:=86) hA (fun i (_:Unit)=>∀ r,r<i->decide ((S.getD m.toNat []).getD ((zHN n (out.getD 0 0).toNat n.h.toNat).getD r 0*8+c.toNat) 0=x)=false) (fun _=>[]) () (fun r hr=>absurd hr (cD r)) (fun i y _ hy hi=>?_) (fun _ hi=>?_)
    ·rw[cH] at hy;obtain⟨o,hmo,rfl⟩:=bm.1 hy;have qD:o<n.h.toNat:=zHX (bH hmo);refine zPt ?_;refine zAb<|S_g 1 ?_
     have j4:(zHN n (out.getD 0 0).toNat n.h.toNat).getD i 0=o:=by rw[bU,hmo];rfl
     refine⟨rfl,by kernel_rfl,?_⟩;refine zAf 6<|zAc<|zAb<|S_a [(1,.v (bor 13 [(0,0)] 80 0 S.length))] (ap ((by simp):bor 13 [(0,0)] 80 0 (map hdV S).length=bor 13 [(0,0)] 80 0 S.length) an)<|zAm 3<|S_a [(0,.ob),(1,.ob),(1,.n m.toNat)] (ap ((by exact zAp (by omega)):decide (0<=m)=true)<|ap ((by exact zAp (by omega)):decide (m.toNat<S.length)=true)<|ap ((by simp):some (0+m.toNat)=some m.toNat) an)<|S_a [(2,.ob)] (ap ((by exact zAp (by omega)):decide (o<10)=true) an)<|S_a [(0,.ob),(1,.ob)] (ap ((by exact zAp (by omega)):decide (0<=c)=true)<|ap ((by exact zAp (by omega)):decide (c.toNat<8)=true) an)<|S_a [(0,.cs true ([I ((S.getD m.toNat []).getD (o*8+c.toNat) 0)]))] (ap (zCn (q:=own 80 (map hdV S)) (xs:=map hdV S) (x:=agg (zA5 (S.getD m.toNat []) 80)) (zNt (xs:=[own 80 (map hdV S)]) (x:=own 80 (map hdV S)) (y:=own 80 (map hdV S)) rfl rfl) (zBN [] (by omega)) (zFk (F:=S.getD m.toNat []) (m:=80) (j:=o*8+c.toNat) (by first|rfl|exact zCc (by kernel_rfl)|exact zCd (by kernel_rfl)|exact zDQ (by kernel_rfl) (by kernel_rfl)|exact zDY (by kernel_rfl)|exact zD7 (by kernel_rfl) (by kernel_rfl)|exact zDR (by kernel_rfl)|(simp;done)) (by omega)):zAq 13 (own 80 (map hdV S)).box [(0,0)] m.toNat (0+(o:Int).toNat*(fun x=>x.size) Tryz.prog.types[128]+c.toNat*(fun x=>x.size) Tryz.prog.types[3]) 1=some (true,[I ((S.getD m.toNat []).getD (o*8+c.toNat) 0)])) an)<|S_g 2<|zCN ((S.getD m.toNat []).getD (o*8+c.toNat) 0=x) (fun k2=>(zAl 2<|S_a [(1,.v (bor 14 [(0,0)] 1 0 out.length))] (ap ((by simp):bor 14 [(0,0)] 1 0 (map I out).length=bor 14 [(0,0)] 1 0 out.length) an)<|S_a [(1,.ob),(0,.vs (map I out)),(0,.ob),(0,.ob),(0,.ob),(3,.ob)] (ap ((by exact zAR (by simp only[be,zzLn,zAO]<;>omega)):(0+out.length).ble (map I out).length=true)<|ap ((by simp[zBF]):take out.length (drop 0 (map I out))=map I out)<|ap ((by exact all_map _):((map I out).all fun x=>x.plain)=true)<|ap ((by exact all_map _):((map I out).all fun y=>y.cells.length.beq ((fun x=>x.size) Tryz.prog.types[3])&&y.cells.all fun q=>q.oneCell)=true)<|ap ((by exact d5.2 (zKj _)):(zBx (map I out)).isEmpty=true)<|ap ((by exact zAR (by simp only[be,zzLn,zAO]<;>omega)):([I (o:Int)].length+(map I out).length).ble zAO=true) an)<|S_g 1<|zAD 5 ?_)) (fun k2=>(zAh ?_))
     ·rw[zKY hmo (decide_eq_true (by assumption)) hi] at hbk;clear hi hmo hA;refine⟨by kernel_rfl,?_⟩;refine zAc<|zAj 1<|zAb<|S_g 2<|zAb<|zAm 1<|S_a [(1,.v (I (m-1)))] (ap ((zBW rfl (by omega)):I (IntKind.i64.wrap (m-1))=I (m-1)) an)<|S_g 1 ?_
      exact rnd (m-1,(o:Int)::out) ⟨by omega,by omega,by simp only[bD];omega,by simp,by simp only[List.getD_cons_zero];omega,by rw[show(m-1+1).toNat=m.toNat by omega];exact hbk⟩ (by simp only;omega)
     ·refine⟨by kernel_rfl,(),fun r hr=>?_,by kernel_rfl⟩;rcases bP.1 hr with h|rfl
      ·exact hi r h
      ·rw[j4];exact decide_eq_false (by assumption)
    ·rw[zQE (by simpa using hi)] at hbk;clear hi hA;show W _ _ _ _ _ _ _ _
     refine zAc<|zAj 1<|zAb<|S_g 2<|zAb<|zAm 1<|S_a [(1,.v (I (m-1)))] (ap ((zBW rfl (by omega)):I (IntKind.i64.wrap (m-1))=I (m-1)) an)<|S_g 1 ?_
     exact rnd (m-1,out) ⟨by omega,by omega,by omega,ho2,ho3,by rw[show(m-1+1).toNat=m.toNat by omega];exact hbk⟩ (by simp only;omega)
   ·have hm3:(m+1).toNat=0:=by omega
    rw[hm3,bkL] at hbk;rw[<- hbk];refine zAc<|zAj 2<|zAQ (m>=0) (by omega)<|zAD 3<|zAc<|zAb<|S_a [(1,.v (bor 14 [(0,0)] 1 0 out.length))] (ap ((by simp):bor 14 [(0,0)] 1 0 (map I out).length=bor 14 [(0,0)] 1 0 out.length) an)<|S_a [(2,.yes)] (ap ((by exact zBq (by simp<;>omega)):(beq 0 0&&out.length.beq (map I out).length)=true) an)<|S_g 1<|zAn<|E_z [(1,.yes),(1,.v (own 1 (map I out)))] (ap (blz (map I out))<|ap ((zAT zA6):own 1 (take (map I out).length (drop 0 (map I out)))=own 1 (map I out)) an)
end Go.Eng
namespace Go.Eng
open Go Go.Proofs
theorem zM8{p:Nat->Bool}{k:Nat}{x:Int}:x∈zGa p k↔∃ i:Nat,i<k/\p i=true/\x=i:=by
 simp only[zGa,b4,bO,bF];exact⟨fun⟨i,⟨h1,h2⟩,h3⟩=>⟨i,h1,h2,h3.symm⟩,fun⟨i,h1,h2,h3⟩=>⟨i,⟨h1,h2⟩,h3.symm⟩⟩
end Go.Eng
set_option maxRecDepth 10000
set_option maxHeartbeats 4000000
namespace Go.Eng
open Go Go.Proofs
theorem zLF{n:Nw}{cs:LP}{c:Int×Int}(h:CrW n cs)(hl:cs.length<1000)(hc:(0<=c.1/\c.1<n.n.length)/\(0<=c.2/\c.2<n.s.length)):CrW n (cs++[c]) :=
 ⟨h.nw,by simp;omega,fun x hx=>by
  rcases bj.1 hx with h1|h1
  ·exact h.cs x h1
  ·rw[bk] at h1;subst h1;exact hc⟩
theorem f171(n:Nw)(cs:LP)(c:Int×Int)(hl:cs.length<=16):FG 171 [zE9 n cs,prV c] (.box (zBt n (.own 2 ((cs++[c]).map prV)) (mapM (n.l.map pr2)) (zAg n) (zAN n))):=by
 rcases cs with _|⟨x0,_|⟨x1,_|⟨x2,_|⟨x3,_|⟨x4,_|⟨x5,_|⟨x6,_|⟨x7,_|⟨x8,_|⟨x9,_|⟨x10,_|⟨x11,_|⟨x12,_|⟨x13,_|⟨x14,_|⟨x15,_|⟨x16,cs⟩⟩⟩⟩⟩⟩⟩⟩⟩⟩⟩⟩⟩⟩⟩⟩⟩
 case cons.cons.cons.cons.cons.cons.cons.cons.cons.cons.cons.cons.cons.cons.cons.cons.cons=>simp only[bD] at hl;omega
 all_goals
  refine zAd Tryz.f171 ?_;exact zAc (zAb (zAm 2 (zA3 (zAc (zAb (zAm 5 (zA3 (zAc (zAb (zAm 4 (zAm 1 (zAm 4 (zAm 1 (zAm 1 (zAm 3 (zA3 (zAc (zAb (zAm 1 (zAm 1 (zAm 4 (zAm 1 (zA3 (zAc (zAb (zAm 1 (zAm 1 (zAm 5 (zA3 (zAc (zAb (zAm 1 (zA3 (zAn (E_0)))))))))))))))))))))))))))))))))))
def zVs(n:Nw)(w:LI)(g:Int×Int):Bool:=decide (w.getD (g.1.toNat*8+((zAg n).getD g.2.toNat 0).toNat) 0≠g.2)
def zC0(n:Nw)(w:LI)(l:LP):LP:=l.filter (zVs n w)
theorem zUL{n:Nw}{w:LI}{l:LP}{i:Nat}(hi:i<l.length):zC0 n w (l.take (i+1))=if zVs n w (l.getD i d0)=true then zC0 n w (l.take i)++[l.getD i d0] else zC0 n w (l.take i):=by
 unfold zC0;rw[zB5 (d:=d0) hi,dv];split
 ·rw[cq (by assumption)];rfl
 ·rw[bV (by assumption)];simp
theorem f119(n:Nw)(cs l:LP)(e:Int)(c:Int×Int)(ho:CrW n cs)(hl:cs.length<=16)(he:0<=e/\e<=1000)(uu:l.length<=1000)(hm:∀ g∈l,(0<=g.1/\g.1<n.h)/\(0<=g.2/\g.2<n.n.length))(hc:(0<=c.1/\c.1<n.n.length)/\(0<=c.2/\c.2<n.s.length)):FG 119 [zE9 n cs,prs l,I e,prV c] (.own 2 ((zC0 n (zAy n (cs++[c]) e.toNat) l).map prV)):=by
 have hw:=zLF ho (by omega) hc;have hb:=ho.nw.h;have hn:=ho.nw;have vS:=hn.nl;have qE:=zBe (n:=n) (cs:=cs++[c]) e.toNat;have ha:=f92 n (cs++[c]) e hw he;generalize zAy n (cs++[c]) e.toNat=w at *;refine zAd Tryz.f119 ?_;refine zAj 2<|zAl 2<|S_a [(7,.ret ((zBt n (own 2 (map prV (cs++[c]))) (mapM (map pr2 n.l)) (zAg n) (zAN n)).box) [])] (ap (f171 n cs c (by omega)) an)<|zAm 1<|S_a [(7,.v (agg (I n.h::prs n.l::sl (map ntV n.n)::sl (map zBT n.s)::prs (cs++[c])::PV.map (map zDW (map pr2 n.l))::(zA5 (zAg n) 8++zA5 (zAN n) 8)))),(4,.ret (hdV w) [])] (ap ((by simp only[show zAt (map prV (cs++[c]))=map prV (cs++[c]) from(by first|exact zAs _|exact zAE _|exact zAx _|exact zAY (zAE _)|exact zAY (zAx _)|exact zB7 (by simp[zBF]) (zAs _))]):agg (I n.h::prs n.l::sl (map ntV n.n)::sl (map zBT n.s)::sl (zAt (map prV (cs++[c])))::PV.map (map zDW (map pr2 n.l))::(zA5 (zAg n) 8++zA5 (zAN n) 8))=agg (I n.h::prs n.l::sl (map ntV n.n)::sl (map zBT n.s)::prs (cs++[c])::PV.map (map zDW (map pr2 n.l))::(zA5 (zAg n) 8++zA5 (zAN n) 8)))<|ap ha an)<|S_g 2<|zAj 1<|zAc<|zAl 1<|S_a [(0,.n l.length)] (ap (lnS prV l) an)<|S_g 1<|zAf 0 ?_
 refine zAr (fun(i,q)=>i<=l.length/\q=zC0 n w (l.take i)) (fun(i,q)=>[(10,.own 2 (q.map prV)),(20,I (i:Nat))]) (fun(i,_)=>l.length-i) ((0:Nat),([]:LP)) ⟨by omega,by simp[zC0]⟩ fun(i,q) ⟨hi,hq⟩=>?_;have wF:q.length<=i:=by
  rw[hq,zC0];exact bB (bC _ _) (by rw[cj];omega)
 by_cases yR:i<l.length
 ·have yM:=zUL (n:=n) (w:=w) yR;rw[<- hq] at yM;obtain⟨jq,vn⟩:=zCl (d:=d0) hm i yR;have gW:=zBK hn (l.getD i d0).2.toNat (by omega);clear hm ha hq;refine zAj 1<|zAc<|zAM ((i:Int)<(l.length:Int)) (by omega)<|zAh<|zAc<|zAf 1<|zAc<|zAb<|S_a [(2,.v (prV (l.getD i d0)))] (ap (zBN d0 (by omega):(map prV l)[i]? = some (prV (l.getD i d0))) an)<|S_g 3<|zAl 7<|S_a [(0,.ob),(1,.ob),(0,.v ((I ((zAg n).getD (l.getD i d0).snd.toNat 0)).ref))] (ap ((by exact zAp (by omega)):decide (0<=(l.getD i d0).snd)=true)<|ap ((by exact zAp (by omega)):decide ((l.getD i d0).snd.toNat<8)=true)<|ap (zD0 (F:=zAg n) (m:=8) (j:=(l.getD i d0).snd.toNat) (by omega):zBQ (agg (zA5 (zAg n) 8)).ref ((l.getD i d0).snd.toNat*(fun x=>x.size) Tryz.prog.types[3]) none=some (I ((zAg n).getD (l.getD i d0).snd.toNat 0)).ref) an)<|zAm 1<|S_a [(0,.ob),(1,.ob)] (ap ((by exact zAp (by omega)):decide (0<=(l.getD i d0).fst)=true)<|ap ((by exact zAp (by omega)):decide ((l.getD i d0).fst.toNat<10)=true) an)<|S_a [(0,.ob),(1,.ob)] (ap ((by exact zAp (by omega)):decide (0<=(zAg n).getD (l.getD i d0).snd.toNat 0)=true)<|ap ((by exact zAp (by omega)):decide (((zAg n).getD (l.getD i d0).snd.toNat 0).toNat<8)=true) an)<|S_a [(0,.cs true ([I (w.getD ((l.getD i d0).fst.toNat*8+((zAg n).getD (l.getD i d0).snd.toNat 0).toNat) 0)]))] (ap (zCn (q:=(agg (zA5 w 80)).box) (xs:=[agg (zA5 w 80)]) (x:=agg (zA5 w 80)) rfl rfl (zFk (F:=w) (m:=80) (j:=(l.getD i d0).fst.toNat*8+((zAg n).getD (l.getD i d0).snd.toNat 0).toNat) (by first|rfl|exact zCc (by kernel_rfl)|exact zCd (by kernel_rfl)|exact zDQ (by kernel_rfl) (by kernel_rfl)|exact zDY (by kernel_rfl)|exact zD7 (by kernel_rfl) (by kernel_rfl)|exact zDR (by kernel_rfl)|(simp;done)) (by omega)):zAq 9 (agg (zA5 w 80)).box [] 0 (0+(l.getD i d0).fst.toNat*(fun x=>x.size) Tryz.prog.types[128]+((zAg n).getD (l.getD i d0).snd.toNat 0).toNat*(fun x=>x.size) Tryz.prog.types[3]) 1=some (true,[I (w.getD ((l.getD i d0).fst.toNat*8+((zAg n).getD (l.getD i d0).snd.toNat 0).toNat) 0)])) an)<|S_g 3<|zEk (w.getD ((l.getD i d0).fst.toNat*8+((zAg n).getD (l.getD i d0).snd.toNat 0).toNat) 0=(l.getD i d0).snd) (fun k0=>(zAb<|zAm 3<|S_a [(4,.ob),(0,.ob),(0,.yes),(2,.v (own 2 (map prV (q++[l.getD i d0]))))] (ap (blz (map prV q))<|ap ((by exact zAR (by simp only[be,zzLn,zAO]<;>omega)):((map prV q).length + [prV (l.getD i d0)].length).ble zAO=true)<|ap ((by exact zBq (by simp<;>omega)):(0+(map prV q).length).beq (map prV q).length=true)<|ap ((zAT (zBE (by kernel_rfl))):own 2 (map prV q++[prV (l.getD i d0)])=own 2 (map prV (q++[l.getD i d0]))) an)<|S_g 1<|zAb<|S_i i<|S_g 1 ?_)) (fun k0=>(zAh<|zAb<|S_i i<|S_g 1 ?_))
  ·have hb:zVs n w (l.getD i d0)=true:=by simp only[zVs,decide_eq_true_eq];exact k0
   rw[if_pos hb] at yM;exact rnd (i+1,q++[l.getD i d0]) ⟨by omega,yM.symm⟩ (by simp only;omega)
  ·have hb:zVs n w (l.getD i d0)=false:=by simp only[zVs,decide_eq_false_iff_not];exact fun h=>h k0
   rw[if_neg (by rw[hb];simp)] at yM;exact rnd (i+1,q) ⟨by omega,yM.symm⟩ (by simp only;omega)
 ·refine zAj 1<|zAc<|zAQ ((i:Int)<(l.length:Int)) (by omega)<|zAD 0<|zAl 1<|S_a [(2,.yes)] (ap ((by exact zBq (by simp<;>omega)):(beq 0 0&&(map prV q).length.beq (map prV q).length)=true) an)<|zA3<|zAn<|E_a [(1,.yes),(1,.v (own 2 (map prV q)))] (ap (blz (map prV q))<|ap ((zAT zA6):own 2 (take (map prV q).length (drop 0 (map prV q)))=own 2 (map prV q)) an) (own 2 (map prV q)) [] ?_ rfl
  rw[bw (by omega)] at hq;rw[hq]
theorem zWG{n:Nw}{w:LI}:∀ g∈zAA n w,(0<=g.1/\g.1<n.h)/\(0<=g.2/\g.2<n.n.length):=fun g hg=>by
 obtain⟨h,i,h1,h2,rfl,_⟩:=zD3 hg;simp only;omega
theorem zYs{n:Nw}{c:Int×Int}(h:zHp n c=true):(0<=c.1/\c.1<n.n.length)/\(0<=c.2/\c.2<n.s.length):=by
 simp only[zHp,bb] at h;have b1:=zEI h.1;have b2:=zEI h.2;omega
theorem f42_1(n:Nw)(cs:LP)(e:Int)(c:Int×Int)(ho:EvOk n cs e)(hc:zHp n c=true):FG 42 [nwV n,prs cs,I e,prV c] (.tup [.own 2 ((zC0 n (zAy n (cs++[c]) e.toNat) (zAA n (zAy n cs e.toNat))).map prV),I 0]):=by
 have kM:=ho.cr;have hw:=kM.w;have yN:=kM.len;have hn:=kM.nw;have he:=ho.ev;have qE:=zBe (n:=n) (cs:=cs) e.toNat;have vm:=zCY (w:=zAy n cs e.toNat) hn;have hgr:=zWG (n:=n) (w:=zAy n cs e.toNat);have kB:=zYs hc;refine zAd Tryz.f42 ?_;refine zAj 4<|zAl 3<|S_a [(10,.ret (tup [zE9 n cs,I 0]) [])] (ap (f90_1 n cs e (by omega)) an)<|S_g 5<|zAc<|zAf 0<|zAj 3<|zAB<|zAl 2<|S_a [(7,.ret (bool (zHp n c)) [])] (ap (f118 n c (prs cs) (map pr2 n.l) (zAg n) (zAN n) (by omega)) an)<|S_g 2<|zEx (!zHp n c) (fun k0=>(zAj 2<|zAn<|E_a [] an (tup [own 2 [],I 1]) [] ?_ rfl)) (fun k0=>(zAh<|zAl 4<|S_a [(7,.ret (hdV (zAy n cs e.toNat)) [])] (ap (f92 n cs e (by omega) (by omega)) an)<|S_a [(7,.ret (own 2 (map prV (zAA n (zAy n cs e.toNat)))) [])] (ap (f91 n cs (zAy n cs e.toNat) (by omega) (by omega)) an)<|zAm 2<|S_a [(4,.ob),(0,.v (prs (zAA n (zAy n cs e.toNat)))),(6,.ret (own 2 (map prV (zC0 n (zAy n (cs++[c]) e.toNat) (zAA n (zAy n cs e.toNat))))) []),(1,.yes)] (ap (blz (map prV (zAA n (zAy n cs e.toNat))))<|ap (frT prV (zAA n (zAy n cs e.toNat)))<|ap (f119 n cs (zAA n (zAy n cs e.toNat)) e c (by omega) (by omega) (by omega) (by omega) (by omega) (by omega))<|ap ((by exact zBM _):(own 2 (map prV (zC0 n (zAy n (cs++[c]) e.toNat) (zAA n (zAy n cs e.toNat))))).free=true) an)<|S_g 2<|zAn<|E_z [(1,.yes),(1,.v (own 2 (map prV (zC0 n (zAy n (cs++[c]) e.toNat) (zAA n (zAy n cs e.toNat))))))] (ap (blz (map prV (zC0 n (zAy n (cs++[c]) e.toNat) (zAA n (zAy n cs e.toNat)))))<|ap ((zAT zA6):own 2 (take (map prV (zC0 n (zAy n (cs++[c]) e.toNat) (zAA n (zAy n cs e.toNat)))).length (drop 0 (map prV (zC0 n (zAy n (cs++[c]) e.toNat) (zAA n (zAy n cs e.toNat))))))=own 2 (map prV (zC0 n (zAy n (cs++[c]) e.toNat) (zAA n (zAy n cs e.toNat))))) an)))
 rw[hc] at k0;cases k0
end Go.Eng
set_option maxRecDepth 10000
set_option maxHeartbeats 4000000
namespace Go.Eng
open Go Go.Proofs
theorem zMc{α:Type}(φ:α->Bool)(l:List α):(zDZ φ l = -1->l.filter (fun x=>!φ x)=l)/\(zDZ φ l≠-1->∃ i:Nat,zDZ φ l=i/\i<l.length/\l.take i=(l.take (i+1)).filter (fun x=>!φ x)):=by
 constructor
 ·intro h;have:l.any φ=false:=by rw[<- zDy,h];rfl
  rw[dl];intro x hx;rw[dG] at this;simpa using this x hx
 ·intro h;unfold zDZ at h ⊢;split
  ·rename_i yG;refine⟨_,rfl,yG,?_⟩;have hp:=fo (w:=yG);rw[ff,bl yG,dv];simp only[Option.toList,iv,hp,dy,bp,if_false,iJ,dR];symm;rw[dl];intro x hx;obtain⟨j,hj,rfl⟩:=ip.1 hx;have:=List.not_of_lt_findIdx (show j<l.findIdx φ by omega);simpa using this
  ·rename_i hn;rw[if_neg hn] at h;exact absurd rfl h
theorem zFt{α:Type}{S:List α}{p:Nat}{x:α}(h:p<S.length):(S.set p x).take (p+1)=S.take p++[x]:=by
 rw[zB5 (d:=x) (by simpa using h),List.take_set_of_le (bf p)];simp[bU,h]
theorem zGY{α:Type}{S:List α}{i j:Nat}{x d:α}(h:i≠j):(S.set i x).getD j d=S.getD j d:=by
 simp[bU,dV,h]
theorem zGZ{α:Type}(p:α->Bool)(l:List α)(j:Nat)(d:α)(h:j<l.length):(l.take (j+1)).filter p=if p (l.getD j d)=true then(l.take j).filter p++[l.getD j d] else(l.take j).filter p:=by
 rw[zB5 (d:=d) h,dv];split
 ·rw[cq (by assumption)];rfl
 ·rw[bV (by assumption)];simp
theorem f189(n:Nw)(cs:LP)(f:Int)(ho:NwOk n)(g:Int×Int)(hg:0<=g.2/\g.2<n.n.length):FG 189 [prV g,.ref (zE9 n cs),.ref (I f)] (.bool (decide ((zAg n).getD g.2.toNat 0≠f))):=by
 have vS:=ho.nl;refine zAd Tryz.f189 ?_;refine zAj 2<|zAl 5<|S_a [(0,.ob),(1,.ob),(0,.v ((I ((zAg n).getD g.snd.toNat 0)).ref))] (ap ((by exact zAp (by omega)):decide (0<=g.snd)=true)<|ap ((by exact zAp (by omega)):decide (g.snd.toNat<8)=true)<|ap (zD0 (F:=zAg n) (m:=8) (j:=g.snd.toNat) (by omega):zBQ (agg (zA5 (zAg n) 8)).ref (g.snd.toNat*(fun x=>x.size) Tryz.prog.types[3]) none=some (I ((zAg n).getD g.snd.toNat 0)).ref) an)<|S_g 4<|zAn<|E_a [] an (bool ((zAg n).getD g.snd.toNat 0 != f)) [] ?_ rfl
 congr 1;rw[co];simp
theorem f174_1(n:Nw)(cs:LP)(f:Int)(ho:NwOk n)(l:LP)(hl:l.length<4294967296)(hr:∀ x∈l,(fun z:Int×Int=>0<=z.2/\z.2<n.n.length) x):FG 174 [.sl (l.map prV),.func 189 [] [.ref (zE9 n cs),.ref (I f)]] (I (zDZ (fun x=>decide ((zAg n).getD x.2.toNat 0≠f)) l)):=by
 refine zAd Tryz.f174 ?_;refine zAj 1<|zAc<|zAl 1<|S_a [(0,.n l.length)] (ap (lnS prV l) an)<|S_g 1<|zAf 0 ?_
 refine zAr (fun i=>i<=l.length/\∀ j,j<i->(fun x=>decide ((zAg n).getD x.2.toNat 0≠f)) (l.getD j d0)=false) (fun i=>[(8,I (i:Nat))]) (fun i=>l.length-i) (0:Nat) (by simp) fun i ⟨hi,ha⟩=>?_;by_cases yR:i<l.length
 ·have gV:=zCl (d:=d0) hr i yR;refine zAj 1<|zAc<|zAM ((i:Int)<(l.length:Int)) (by omega)<|zAh<|zAc<|zAf 1<|zAj 2<|zAl 3<|S_a [(2,.v (prV (l.getD i d0)))] (ap (zBN d0 (by omega):(map prV l)[i]? = some (prV (l.getD i d0))) an)<|zAm 1<|S_a [(8,.ret (bool (decide ((zAg n).getD (l.getD i d0).snd.toNat 0≠f))) [])] (ap (f189 n cs f (by omega) (l.getD i d0) (by omega)) an)<|zA3<|zCN ((zAg n).getD (l.getD i d0).snd.toNat 0≠f) (fun k0=>(zAj 2<|zAn<|E_a [] an (I (i:Int)) [] ?_ rfl)) (fun k0=>(zAh<|zAb<|S_i i<|S_g 1 ?_))
  ·rw[zBG (i:=i) yR (fun j hj=>by rw[<- zAu (d:=d0)];exact ha j hj) (by rw[<- zAu (d:=d0)];first|assumption|exact decide_eq_true ‹_›)]
  ·refine⟨i+1,⟨by omega,fun j hj=>?_⟩,by omega,by kernel_rfl,by kernel_rfl⟩;rcases bP.1 hj with h|rfl
   ·exact ha j h
   ·first|assumption|exact decide_eq_false ‹_›|(simp only[bE,decide_eq_true_eq];assumption)
 ·refine zAj 1<|zAc<|zAQ ((i:Int)<(l.length:Int)) (by omega)<|zAD 0<|zAj 1<|zAn<|E_a [] an (I (-1)) [] ?_ rfl
  rw[zBY fun j hj=>by rw[<- zAu (d:=d0)];exact ha j (by omega)]
theorem f122_1(n:Nw)(cs:LP)(f:Int)(ho:NwOk n)(l:LP)(hl:l.length<4294967296)(hr:∀ x∈l,(fun z:Int×Int=>0<=z.2/\z.2<n.n.length) x):FG 122 [.own 2 (l.map prV),.func 189 [] [.ref (zE9 n cs),.ref (I f)]] (.own 2 ((l.filter fun x=>!(decide ((zAg n).getD x.2.toNat 0≠f))).map prV)):=by
 have h1:=zMc (fun x=>decide ((zAg n).getD x.2.toNat 0≠f)) l;have y5:=f174_1 n cs f ho l hl hr;by_cases hm:zDZ (fun x=>decide ((zAg n).getD x.2.toNat 0≠f)) l = -1
 ·rw[hm] at y5;rw[h1.1 hm];refine zAd Tryz.f122 ?_;refine zAj 1<|zAl 2<|S_a [(3,.ob),(0,.v (prs l)),(3,.ret (I (-1)) [])] (ap (blz (map prV l))<|ap (frT prV l)<|ap y5 an)<|S_g 1<|zAc<|zAj 2<|zCy<|zAl 1<|S_a [(2,.yes)] (ap ((by exact zBq (by simp<;>omega)):(beq 0 0&&(map prV l).length.beq (map prV l).length)=true) an)<|zA3<|zAn<|E_z [(1,.yes),(1,.v (own 2 (map prV l)))] (ap (blz (map prV l))<|ap ((zAT zA6):own 2 (take (map prV l).length (drop 0 (map prV l)))=own 2 (map prV l)) an)
 ·obtain⟨i0,j8,hil0,qZ⟩:=h1.2 hm;rw[j8] at y5;clear h1 hm;refine zAd Tryz.f122 ?_;refine zAj 1<|zAl 2<|S_a [(3,.ob),(0,.v (prs l)),(3,.ret (I (i0:Int)) [])] (ap (blz (map prV l))<|ap (frT prV l)<|ap y5 an)<|S_g 1<|zAc<|zAj 2<|zAB<|zAh<|zAc<|zAl 1<|S_i i0<|S_g 1<|zAf 0 ?_
  refine zAr (fun(i,j,S)=>j<=l.length/\i<j/\S.length=l.length/\S.take i=(l.take j).filter (fun x=>!(decide ((zAg n).getD x.2.toNat 0≠f)))/\∀ r,j<=r->S.getD r d0=l.getD r d0) (fun(i,j,S)=>[(0,.own 2 (S.map prV)),(5,I (i:Nat)),(6,I (j:Nat))]) (fun(_,j,_)=>l.length-j) (i0,i0+1,l) ⟨by omega,by omega,rfl,qZ,fun _ _=>rfl⟩ fun(i,j,S) ⟨hj,hij,hS,ht,hd⟩=>?_;by_cases y9:j<l.length
  ·have gV:=zCl (d:=d0) hr j y9;have hx:=hd j (bf j);have yD:=zGZ (fun x=>!(decide ((zAg n).getD x.2.toNat 0≠f))) l j d0 y9;rw[<- hx] at yD gV;clear y5;have vi:=hd;clear hd hx;refine zAc<|zAl 2<|S_a [(0,.n S.length)] (ap (lnS prV S) an)<|S_g 1<|zAM ((j:Int)<(S.length:Int)) (by omega)<|zAh<|zAc<|zAf 1<|zAl 2<|S_a [(2,.ob),(1,.n j)] (ap ((by exact zAp (by simp only[be,zzLn]<;>omega)):decide (j<(map prV S).length)=true)<|ap ((by simp):some (0+j)=some j) an)<|S_a [(0,.cs true ([I (S.getD j d0).fst,I (S.getD j d0).snd]))] (ap (zCn (q:=own 2 (map prV S)) (xs:=map prV S) (x:=prV (S.getD j d0)) rfl (zBN d0 (by omega)):zAq 0 (own 2 (map prV S)) [] j 0 Tryz.prog.types[108].size=some (true,[I (S.getD j d0).fst,I (S.getD j d0).snd])) an)<|S_g 2<|zAl 2<|S_a [(8,.ret (bool (decide ((zAg n).getD (S.getD j d0).snd.toNat 0≠f))) [])] (ap (f189 n cs f (by omega) (S.getD j d0) (by omega)) an)<|S_g 1<|zEk ((zAg n).getD (S.getD j d0).snd.toNat 0≠f) (fun k0=>(zAl 3<|S_a [(2,.ob),(1,.n i)] (ap ((by exact zAp (by simp only[be,zzLn]<;>omega)):decide (i<(map prV S).length)=true)<|ap ((by simp):some (0+i)=some i) an)<|S_a [(8,.root (own 2 (map prV (S.set i (S.getD j d0)))) true)] (ap (zKK (zBN d0 (by omega)) zDJ:zBv (own 2 (map prV S)) [] i 0 (prV (S.getD j d0)).cells=some (own 2 (map prV (S.set i (S.getD j d0))))/\zAI (own 2 (map prV S)) (own 2 (map prV (S.set i (S.getD j d0)))) []=true) an)<|zA3<|zAb<|zAm 1<|S_i i<|S_g 1<|zAb<|zAm 1<|S_i j<|S_g 1 ?_)) (fun k0=>(zAh<|zAb<|zAm 1<|S_i j<|S_g 1 ?_))
   ·have hb:((fun x=>!(decide ((zAg n).getD x.2.toNat 0≠f))) (S.getD j d0))=true:=by first|assumption|(simp only[bG,decide_eq_false_iff_not];assumption)
    rw[if_pos hb] at yD;refine⟨(i+1,j+1,S.set i (S.getD j d0)),⟨by omega,by omega,by simpa using hS,?_,fun r uF=>?_⟩,by simp only;omega,by kernel_rfl,by kernel_rfl⟩
    ·rw[yD,<- ht,zFt (by omega)]
    ·rw[zGY (by omega)];exact vi r (by omega)
   ·have hb:((fun x=>!(decide ((zAg n).getD x.2.toNat 0≠f))) (S.getD j d0))=false:=by first|assumption|(simp only[bE,decide_eq_true_eq];assumption)
    rw[if_neg (fun h=>Bool.noConfusion (hb.symm.trans h))] at yD;exact rnd (i,j+1,S) ⟨by omega,by omega,hS,by rw[yD,ht],fun r uF=>vi r (by omega)⟩ (by simp only;omega)
  ·refine zAc<|zAl 2<|S_a [(0,.n S.length)] (ap (lnS prV S) an)<|S_g 1<|zAQ ((j:Int)<(S.length:Int)) (by omega)<|zAD 0<|zAl 2<|S_a [(3,.ob),(0,.yes),(0,.yes),(0,.v (bor 0 [] 2 i (S.length-i)))] (ap ((by exact zAR (by simp only[be,zzLn,zAO]<;>omega)):i.ble (map prV S).length=true)<|ap ((by exact zAR (by simp only[be,zzLn,zAO]<;>omega)):(map prV S).length.ble (map prV S).length=true)<|ap ((by simp<;>omega):(i.beq 0||i.blt (map prV S).length)=true)<|ap ((by simp):bor 0 [] 2 (0+i) ((map prV S).length-i)=bor 0 [] 2 i (S.length-i)) an)<|zLC (g:=prV) (fun q=>q) 0 2 i (S.length-i) S ((0,0)) (by first|omega|(simp<;>omega)) ⟨rfl,rfl⟩ (fun _=>(by first|exact zIN|exact⟨rfl,rfl,rfl,rfl,bf _,rfl⟩)) zRs.nil (zA3<|zAl 2<|S_a [(4,.yes)] (ap ((by exact zAR (by simp<;>omega)):i.ble (map prV (take i S++replicate (S.length-i) (0,0)++drop (i+(S.length-i)) S)).length=true) an)<|S_g 1<|zAn<|E_a [(1,.yes),(1,.v (own 2 (map prV (take i (take i S++replicate (S.length-i) (0,0)++drop (i+(S.length-i)) S)))))] (ap ((by exact zAR (by simp<;>omega)):(0+((i:Int).toNat-0)).ble (map prV (take i S++replicate (S.length-i) (0,0)++drop (i+(S.length-i)) S)).length=true)<|ap ((by simp):own 2 (take i (drop 0 (map prV (take i S++replicate (S.length-i) (0,0)++drop (i+(S.length-i)) S))))=own 2 (map prV (take i (take i S++replicate (S.length-i) (0,0)++drop (i+(S.length-i)) S)))) an) (own 2 (map prV (take i (take i S++replicate (S.length-i) (0,0)++drop (i+(S.length-i)) S)))) [] ?_ rfl)
   rw[bw (d4 y9)] at ht;rw[<- ht,cO,cP (by rw[cj];omega),fC,iB]
def ofL(n:Nw)(f:Int)(l:LP):LP:=l.filter fun x=>!decide ((zAg n).getD x.2.toNat 0≠f)
theorem f135(n:Nw)(cs l:LP)(f:Int)(ho:NwOk n)(hl:l.length<=1000)(hr:∀ g∈l,(0<=g.1/\g.1<n.h)/\(0<=g.2/\g.2<n.n.length)):FG 135 [zE9 n cs,prs l,I f] (.own 2 ((ofL n f l).map prV)):=by
 have h1:=f122_1 n cs f ho l (by omega) fun x hx=>(hr x hx).2;refine zAd Tryz.f135 ?_;refine zAj 3<|zAl 1<|S_a [(6,.ret (own 2 (map prV l)) [])] (ap (f123 l (by omega)) an)<|zAm 1<|S_a [(3,.ob),(1,.v (own 2 (map prV l))),(14,.ret (own 2 (map prV (filter (fun x=>!decide ((zAg n).getD x.snd.toNat 0≠f)) l))) []),(1,.yes)] (ap ((by exact zAR (by simp only[be,zzLn,zAO]<;>omega)):(map prV l).length.ble (map prV l).length=true)<|ap ((zAT zA6):own 2 (take (map prV l).length (drop 0 (map prV l)))=own 2 (map prV l))<|ap h1<|ap ((by exact zBM _):(own 2 (map prV (filter (fun x=>!decide ((zAg n).getD x.snd.toNat 0≠f)) l))).free=true) an)<|S_g 1<|zAn<|E_z [(1,.yes),(1,.v (own 2 (map prV (filter (fun x=>!decide ((zAg n).getD x.snd.toNat 0≠f)) l))))] (ap (blz (map prV (filter (fun x=>!decide ((zAg n).getD x.snd.toNat 0≠f)) l)))<|ap ((zAT zA6):own 2 (take (map prV (filter (fun x=>!decide ((zAg n).getD x.snd.toNat 0≠f)) l)).length (drop 0 (map prV (filter (fun x=>!decide ((zAg n).getD x.snd.toNat 0≠f)) l))))=own 2 (map prV (filter (fun x=>!decide ((zAg n).getD x.snd.toNat 0≠f)) l))) an)
end Go.Eng
set_option maxRecDepth 10000
set_option maxHeartbeats 4000000
namespace Go.Eng
open Go Go.Proofs
def zP7(n:Nw)(cs:LP)(e:Int)(st:LI):Int:=if zQR n cs e=0 then if (!st.all fun x=>inB x 0 (n.s.length-1))=true then 1 else if st.Nodup then 0 else 5 else zQR n cs e
structure OffOk (n:Nw) (cs:LP) (e:Int) (st:LI):Prop where
 err:zP7 n cs e st=0
 ev:EvOk n cs e
 rng:∀ s∈st,0<=s/\s<n.s.length
 nd:st.Nodup
abbrev zWk(n:Nw)(cs:LP)(e:Int)(l:LP):PV := .func 173 [] [.ref (zE9 n cs),.ref (prs l),.ref (I e)]
theorem f168_2(n:Nw)(hb:n.s.length<=6)(x:Int):FG 168 [I x,.ref (.func 170 [nwV n] [])] (.bool (!(inB x 0 (n.s.length-1)))):=by
 refine zAd Tryz.f168 ?_;refine zAj 1<|zAl 2<|S_a [(8,.ret (bool (inB x 0 ((n.s.length:Int)-1))) [])] (ap (f170 n x (by omega)) an)<|S_g 2<|zAn E_0
theorem f131_2(n:Nw)(hb:n.s.length<=6)(l:List (Int))(hl:l.length<4294967296):FG 131 [.sl (l.map I),.func 168 [] [.ref (.func 170 [nwV n] [])]] (I (zDZ (fun x=>!(inB x 0 (n.s.length-1))) l)):=by
 refine zAd Tryz.f131 ?_;refine zAj 1<|zAc<|zAl 1<|S_a [(0,.n l.length)] (ap (lnS I l) an)<|S_g 1<|zAf 0 ?_
 refine zAr (fun i=>i<=l.length/\∀ j,j<i->(fun x=>!(inB x 0 (n.s.length-1))) (l.getD j 0)=false) (fun i=>[(8,I (i:Nat))]) (fun i=>l.length-i) (0:Nat) (by simp) fun i ⟨hi,ha⟩=>?_;refine zAj 1<|zAc<|zCN ((i:Int)<(l.length:Int)) (fun k0=>(zAh<|zAc<|zAf 1<|zAj 2<|zAl 3<|S_a [(2,.v (I (l.getD i 0)))] (ap (zBN (0) (by omega):(map I l)[i]? = some (I (l.getD i 0))) an)<|zAm 1<|S_a [(7,.ret (bool !inB (l.getD i 0) 0 ((n.s.length:Int)-1)) [])] (ap (f168_2 n (by omega) (l.getD i 0)) an)<|zA3<|zEx (!inB (l.getD i 0) 0 ((n.s.length:Int)-1)) (fun k1=>(zAj 2<|zAn<|E_a [] an (I (i:Int)) [] ?_ rfl)) (fun k1=>(zAh<|zAb<|S_i i<|S_g 1 ?_)))) (fun k0=>(zAD 0<|zAj 1<|zAn<|E_a [] an (I (-1)) [] ?_ rfl))
 ·rw[zBG (i:=i) (by omega) (fun j hj=>by rw[<- zAu (d:=0)];exact ha j hj) (by rw[<- zAu (d:=0)];first|assumption|exact decide_eq_true ‹_›|(simp only[bG,decide_eq_false_iff_not];assumption))]
 ·refine⟨i+1,⟨by omega,fun j hj=>?_⟩,by omega,by kernel_rfl,by kernel_rfl⟩;rcases bP.1 hj with h|rfl
  ·exact ha j h
  ·first|assumption|exact decide_eq_false ‹_›|(simp only[bE,decide_eq_true_eq];first|assumption|(apply cR;assumption))
 ·rw[zBY fun j hj=>by rw[<- zAu (d:=0)];exact ha j (by omega)]
theorem f52_2(n:Nw)(hb:n.s.length<=6)(l:List (Int))(hl:l.length<4294967296):FG 52 [.sl (l.map I),.func 168 [] [.ref (.func 170 [nwV n] [])]] (.bool (l.any (fun x=>!(inB x 0 (n.s.length-1))))):=by
 refine zAd Tryz.f52 ?_;refine zAj 1<|zAl 2<|S_a [(7,.ret (I (zDZ (fun x=>!inB x 0 ((n.s.length:Int)-1)) l)) [])] (ap (f131_2 n (by omega) l (by omega)) an)<|S_g 2<|zAn<|E_a [] an (bool (decide (zDZ (fun x=>!inB x 0 ((n.s.length:Int)-1)) l>=0))) [] ?_ rfl
 rw[zDy]
theorem f108_2(n:Nw)(hb:n.s.length<=6)(l:List (Int))(hl:l.length<4294967296):FG 108 [.sl (l.map I),.func 170 [nwV n] []] (.bool (l.all (fun x=>inB x 0 (n.s.length-1)))):=by
 refine zAd Tryz.f108 ?_;refine zAj 2<|zAl 2<|S_a [(12,.ret (bool (l.any fun x=>!inB x 0 ((n.s.length:Int)-1))) [])] (ap (f52_2 n (by omega) l (by omega)) an)<|S_g 2<|zAn<|E_a [] an (bool !l.any fun x=>!inB x 0 ((n.s.length:Int)-1)) [] ?_ rfl
 simp[cX]
theorem f121_1(n:Nw)(cs:LP)(e:Int)(st:LI)(ho:OffOk n cs e st)(yD:st.length<1000000):FG 121 [nwV n,prs cs,I e,zBT st] (.tup [zE9 n cs,prs (zAA n (zAy n cs e.toNat)),.agg [zWk n cs e (zAA n (zAy n cs e.toNat))],I 0]):=by
 have yy:=ho.ev;have kM:=yy.cr;have kO:=kM.w;have hn:=kM.nw;have he:=yy.ev;have gY:=hn.sl.2;have qE:=zBe (n:=n) (cs:=cs) e.toNat;have vm:=zCY (w:=zAy n cs e.toNat) hn;have hin:(!st.all fun x=>inB x 0 (n.s.length-1))=false:=by
  simp only[bE,bi];intro s hs;have:=ho.rng s hs
  simp only[inB,bb,decide_eq_true_eq];omega
 refine zAd Tryz.f121 ?_;refine zAj 6<|zAl 3<|S_a [(10,.ret (tup [zE9 n cs,I 0]) [])] (ap (f90_1 n cs e (by omega)) an)<|S_g 6<|zAc<|zAf 0<|zAj 3<|zAB<|zAl 3<|S_a [(7,.ret (bool (st.all fun x=>inB x 0 ((n.s.length:Int)-1))) [])] (ap (f108_2 n (by omega) st (by omega)) an)<|S_g 2<|zEx (!st.all fun x=>inB x 0 ((n.s.length:Int)-1)) (fun k0=>(zAj 5<|zAn<|E_a [] an (tup [PV.nilp,sl [],agg [PV.nilf],I 1]) [] ?_ rfl)) (fun k0=>(zAh<|zAc<|zAl 1<|S_a [(0,.n st.length)] (ap (lnS I st) an)<|S_g 1<|zAf 1 ?_))
 ·rw[hin] at k0;cases k0
 ·refine zAr (fun i=>i<=st.length) (fun(i:Nat)=>[(38,I (i:Nat))]) (fun i=>st.length-i) (0:Nat) (by omega) fun i hi=>?_;by_cases yR:i<st.length
  ·have jf:has (st.take i) (st.getD i 0)=false:=by
    rw[zW5,decide_eq_false_iff_not];intro hm;have y6:=ho.nd;rw[<- cw i st,bK] at y6;refine y6.2.2 _ hm _ ?_ rfl;rw[b6 yR,zAu yR];exact cf
   refine zAj 1<|zAc<|zAM ((i:Int)<(st.length:Int)) (by omega)<|zAh<|zAc<|zAf 2<|zAl 1<|S_a [(2,.v (I (st.getD i 0)))] (ap (zBN (0) (by omega):(map I st)[i]? = some (I (st.getD i 0))) an)<|S_g 3<|zAl 2<|S_a [(3,.ob),(0,.ob),(0,.v (zBT (take i st)))] (ap ((by exact zAR (by simp only[be,zzLn,zAO]<;>omega)):i.ble (map I st).length=true)<|ap ((by exact all_map _):((map I st).all fun x=>x.cells.length.beq ((fun x=>x.size) Tryz.prog.types[3]))=true)<|ap ((by simp):sl (take i (drop 0 (map I st)))=zBT (take i st)) an)<|zAm 1<|S_a [(8,.ret (bool (has (take i st) (st.getD i 0))) [])] (ap (f58 (take i st) (st.getD i 0) (by first|omega|(simp<;>omega))) an)<|zA3<|zEx (has (take i st) (st.getD i 0)) (fun k1=>(zAj 5<|zAn<|E_a [] an (tup [PV.nilp,sl [],agg [PV.nilf],I 5]) [] ?_ rfl)) (fun k1=>(zAh<|zAb<|S_i i<|S_g 1 ?_))
   ·rw[jf] at k1;cases k1
   ·exact rnd (i+1) (by omega) (by omega)
  ·refine zAj 1<|zAc<|zAQ ((i:Int)<(st.length:Int)) (by omega)<|zAD 1<|zAl 3<|S_a [(7,.ret (hdV (zAy n cs e.toNat)) [])] (ap (f92 n cs e (by omega) (by omega)) an)<|S_a [(7,.ret (own 2 (map prV (zAA n (zAy n cs e.toNat)))) [])] (ap (f91 n cs (zAy n cs e.toNat) (by omega) (by omega)) an)<|zAm 1<|S_a [(3,.v (prs (zAA n (zAy n cs e.toNat))))] (ap ((zWm (zAs _)):sl (zAt (map prV (zAA n (zAy n cs e.toNat))))=prs (zAA n (zAy n cs e.toNat))) an)<|zA3<|zAj 8<|zAn E_0
theorem f173(n:Nw)(cs l:LP)(e:Int)(c:Int×Int)(ho:CrW n cs)(hl:cs.length<=16)(he:0<=e/\e<=1000)(uu:l.length<=1000)(hm:∀ g∈l,(0<=g.1/\g.1<n.h)/\(0<=g.2/\g.2<n.n.length))(hc:(0<=c.1/\c.1<n.n.length)/\(0<=c.2/\c.2<n.s.length)):FG 173 [prV c,.ref (zE9 n cs),.ref (prs l),.ref (I e)] (.sl ((zC0 n (zAy n (cs++[c]) e.toNat) l).map prV)):=by
 refine zAd Tryz.f173 ?_;refine zAj 2<|zAl 4<|S_a [(11,.ret (own 2 (map prV (zC0 n (zAy n (cs++[c]) e.toNat) l))) [])] (ap (f119 n cs l e c (by omega) (by omega) (by omega) (by omega) (by omega) (by omega)) an)<|S_g 1<|zAn<|E_z [(1,.envv ([(4,(prV c).box),(5,prs (zC0 n (zAy n (cs++[c]) e.toNat) l))]) (prs (zC0 n (zAy n (cs++[c]) e.toNat) l)))] (ap (And.intro (f9 (by kernel_rfl:Env.frz [(4,(prV c).box),(5,own 2 (map prV (zC0 n (zAy n (cs++[c]) e.toNat) l)))] 5 []=some [(4,(prV c).box),(5,sl (zAt (map prV (zC0 n (zAy n (cs++[c]) e.toNat) l))))]) ((by simp only[show zAt (map prV (zC0 n (zAy n (cs++[c]) e.toNat) l))=map prV (zC0 n (zAy n (cs++[c]) e.toNat) l) from(by first|exact zAs _|exact zAE _|exact zAx _|exact zAY (zAE _)|exact zAY (zAx _)|exact zB7 (by simp[zBF]) (zAs _))]):some [(4,(prV c).box),(5,sl (zAt (map prV (zC0 n (zAy n (cs++[c]) e.toNat) l))))]=some [(4,(prV c).box),(5,prs (zC0 n (zAy n (cs++[c]) e.toNat) l))])) (zH9 (by first|exact zAs _|exact zAE _|exact zAx _):PV.mapW (inl 5 [] (own 2 (map prV (zC0 n (zAy n (cs++[c]) e.toNat) l)))) (bor 5 [] 2 0 (map prV (zC0 n (zAy n (cs++[c]) e.toNat) l)).length)=prs (zC0 n (zAy n (cs++[c]) e.toNat) l))) an)
end Go.Eng
namespace Go.Eng
open Go Go.Proofs
def zZZ(n:Nw)(g:Int×Int):Prop:=(0<=g.1/\g.1<n.h)/\(0<=g.2/\g.2<n.n.length)
theorem zMj{n:Nw}{w:LI}(g:Int×Int)(hg:g∈zAA n w):zZZ n g:=by
 obtain⟨h,i,h1,h2,rfl,_⟩:=zD3 hg;unfold zZZ;simp only;omega
def zWp(n:Nw)(cs:LP)(e:Nat)(G:LP)(st:LI)(k:Nat):List LP:=(range k).flatMap fun(i:Nat)=>st.map fun s=>zC0 n (zAy n (cs++[((i:Int),s)]) e) G
def zUl(n:Nw)(cs:LP)(e:Nat)(G:LP)(st:LI):LP:=G.filter fun g=>!(zWp n cs e G st n.n.length).any fun r=>has r g
theorem zFT{α β:Type}(p:β->α->Bool):∀ (l:List β) (L:List α),l.foldl (fun L s=>L.filter (p s)) L=L.filter fun g=>l.all fun s=>p s g
 |[],L=>by
  symm;exact dl.2 fun _ _=>rfl
 |s::l,L=>by
  rw[bM,zFT p l,dQ];refine dk fun g _=>?_;rw[cF,iP]
def zWj(n:Nw)(cs:LP)(e:Nat)(G:LP)(i:Nat)(L:LP)(st:LI):LP:=st.foldl (fun L s=>L.filter fun g=>!has (zC0 n (zAy n (cs++[((i:Int),s)]) e) G) g) L
def zX7(n:Nw)(cs:LP)(e:Nat)(G:LP)(st:LI)(k:Nat):LP:=(range k).foldl (fun L i=>zWj n cs e G i L st) G
theorem zMQ{n:Nw}{cs:LP}{e:Nat}{G L:LP}{i j:Nat}{st:LI}(h:j<st.length):zWj n cs e G i L (st.take (j+1))=(zWj n cs e G i L (st.take j)).filter fun g=>!has (zC0 n (zAy n (cs++[((i:Int),st.getD j 0)]) e) G) g:=zCk h
theorem zMO{n:Nw}{cs:LP}{e:Nat}{G:LP}{st:LI}{k:Nat}:zX7 n cs e G st (k+1)=zWj n cs e G k (zX7 n cs e G st k) st:=by
 simp only[zX7,b9,cE,bM,cv]
theorem zYq{n:Nw}{cs:LP}{e:Nat}{G:LP}{st:LI}:zX7 n cs e G st n.n.length=zUl n cs e G st:=by
 have h1:∀ i L,zWj n cs e G i L st=L.filter fun g=>st.all fun s=>!has (zC0 n (zAy n (cs++[((i:Int),s)]) e) G) g:=fun i L=>zFT _ st L;unfold zX7;simp only[h1];rw[zFT (fun(i:Nat) g=>st.all fun s=>!has (zC0 n (zAy n (cs++[((i:Int),s)]) e) G) g)];unfold zUl;refine dk fun g _=>?_;unfold zWp;rw[co];simp[List.any_flatMap]
theorem zI4{n:Nw}{cs:LP}{e:Nat}{G:LP}{i:Nat}:∀ (st:LI) (L:LP),(zWj n cs e G i L st).length<=L.length
 |[],_=>bf _|s::st,L=>bB (zI4 st _) (bC _ _)
theorem zQc{n:Nw}{cs:LP}{e:Nat}{G:LP}{st:LI}:∀ k,(zX7 n cs e G st k).length<=G.length
 |0=>bf _|k+1=>by rw[zMO];exact bB (zI4 st _) (zQc k)
theorem zZg{n:Nw}{cs:LP}{e:Int}{st:LI}(h:zP7 n cs e st=0):OffOk n cs e st:=by
 have h0:=h;unfold zP7 at h;split at h
 case isFalse h2=>exact absurd h h2
 rename_i c1;split at h
 ·cases h
 rename_i c2;split at h
 case isFalse=>cases h
 rename_i c3;simp only[cA,bE,bi] at c2;exact⟨h0,zTL c1,fun s hs=>by have:=zEI (c2 s hs);omega,c3⟩
end Go.Eng
namespace Go.Eng
abbrev Gp:=Int×Int
def zUk(J:Gp->Gp->Bool):Nat->List Gp->List Gp
 |0,_=>[]|_,[]=>[]|k+1,x::t=>if (zUk J k t).length<=(zUk J k (t.filter fun y=>!J x y)).length+1 then x::zUk J k (t.filter fun y=>!J x y) else zUk J k t
def aps(J:Gp->Gp->Bool)(l:List Gp):List Gp:=zUk J l.length l
section
variable (J:Gp->Gp->Bool)
theorem zIP:∀ (k:Nat) (l:List Gp),l.length<=k->zUk J k l=zUk J l.length l
 |0,[],_=>rfl|0,x::t,h=>absurd h (by simp)|k+1,[],_=>rfl|k+1,x::t,h=>by
  have h1:=bC (fun y=>!J x y) t;simp only[bD] at h;rw[bD,zUk,zUk,zIP k t (by omega),zIP k (t.filter fun y=>!J x y) (by omega),<- zIP t.length (t.filter fun y=>!J x y) (by omega)]
theorem zTs:aps J []=[]:=rfl
theorem zDG{x:Gp}{t:List Gp}:aps J (x::t)=if (aps J t).length<=(aps J (t.filter fun y=>!J x y)).length+1 then x::aps J (t.filter fun y=>!J x y) else aps J t:=by
 unfold aps;rw[bD,zUk,zIP J t.length (t.filter fun y=>!J x y) (bC _ _)]
theorem zFp:∀ (k:Nat) (l:List Gp),l.length<=k->(aps J l).Sublist l
 |_,[],_=>by rw[zTs];exact List.Sublist.slnil|0,x::t,h=>absurd h (by simp)|k+1,x::t,h=>by
  have h1:=bC (fun y=>!J x y) t;simp only[bD] at h;rw[zDG];split
  ·exact((zFp k _ (by omega)).trans dI).cons_cons x
  ·exact(zFp k t (by omega)).cons x
theorem zO1(l:List Gp):(aps J l).length<=l.length:=(zFp J _ l (bf _)).length_le
def btr(ch out:List Gp):List Gp:=if out.length<ch.length then ch else out
def okB(ch:List Gp)(y:Gp):Bool:=ch.all fun g=>!J g y
def srh:List Gp->List Gp->List Gp->List Gp
 |[],_,out=>out|x::t,ch,out=>if out.length<ch.length+(t.length+1) then srh t ch (if okB J ch x=true then srh t (ch++[x]) (btr (ch++[x]) out) else out) else out
theorem zPX:∀ (t ch out:List Gp),ch.length<=out.length->srh J t ch out=if out.length<ch.length+(aps J (t.filter (okB J ch))).length then ch++aps J (t.filter (okB J ch)) else out
 |[],ch,out,h=>by
  rw[srh,iJ,zTs,if_neg (by simp only[b7];omega)]
 | x :: t, ch,out,h=>by
  have hR:=zO1 J ((x::t).filter (okB J ch));have hF:=bC (okB J ch) (x::t);rw[bD] at hF;rw[srh];split
  case isFalse h1=>rw[if_neg (by omega)]
  case isTrue h1=>
   clear hR hF;by_cases hx:okB J ch x=true
   ·rw[if_pos hx,cq hx];have e1:(t.filter (okB J (ch++[x])))=(t.filter (okB J ch)).filter fun y=>!J x y:=by
     rw[dQ];refine dk fun y _=>?_;simp only[okB,fB,cF,iS,fb];exact iP _ _
    have hb:(ch++[x]).length<=(btr (ch++[x]) out).length:=by unfold btr;split<;>omega
    rw[zPX t (ch++[x]) _ hb,e1];have ih:=zPX t ch;generalize t.filter (okB J ch)=R at *;rw[zDG];generalize aps J (R.filter fun y=>!J x y)=A;have e2:(if (btr (ch++[x]) out).length<(ch++[x]).length+A.length then ch++[x]++A else btr (ch++[x]) out)=if out.length<ch.length+(A.length+1) then ch++x::A else out:=by
     unfold btr;simp only[bu,bD,b7];by_cases c1:out.length<ch.length+(0+1)
     ·rw[if_pos c1,if_pos (show out.length<ch.length+(A.length+1) by omega)]
      cases A with
      |nil=>simp|cons a A=>rw[if_pos (by simp)];simp
     ·rw[if_neg c1];by_cases c2:out.length<ch.length+(A.length+1)
      ·rw[if_pos (by omega),if_pos c2];simp
      ·rw[if_neg (by omega),if_neg c2]
    rw[e2,ih _ (by split<;>(try simp only[bu,bD])<;>omega)];generalize aps J R=B;by_cases c2:out.length<ch.length+(A.length+1)
    ·rw[if_pos c2];simp only[bu,bD];by_cases c3:B.length<=A.length+1
     ·rw[if_pos c3,if_neg (by omega),if_pos (by simp only[bD];omega)]
     ·rw[if_neg c3,if_pos (by omega),if_pos (by omega)]
    ·rw[if_neg c2];by_cases c3:B.length<=A.length+1
     ·rw[if_pos c3,if_neg (by omega),if_neg (by simp only[bD];omega)]
     ·rw[if_neg c3]
   ·rw[if_neg hx,bV hx];exact zPX t ch out h
theorem zXk(l:List Gp):srh J l [] (btr [] [])=aps J l:=by
 have e1:l.filter (okB J [])=l:=dl.2 fun _ _=>rfl;rw[zPX J l [] _ (bN _),e1];show(if 0<0+(aps J l).length then[]++aps J l else[])=_
 cases aps J l with
 |nil=>rfl|cons a t=>rw[if_pos (by simp)];rfl
theorem zMw{m:Nat}:∀ (t ch out:List Gp),out.length<=m->ch.length+t.length<=m->(srh J t ch out).length<=m
 |[],_,_,h,_=>h
 | x :: t,ch,out,h,h2=>by
  rw[bD] at h2;rw[srh];split
  ·refine zMw t ch _ ?_ (by omega);split
   ·refine zMw t _ _ ?_ (by simp only[bu,bD,b7];omega);unfold btr;split
    ·simp only[bu,bD,b7];omega
    ·exact h
   ·exact h
  ·exact h
end
theorem zJJ{J J':Gp->Gp->Bool}:∀ (k:Nat) (l:List Gp),l.length<=k->l.Nodup->(∀ x∈l,∀ y∈l,x≠y->J x y=J' x y)->aps J l=aps J' l
 |_,[],_,_,_=>rfl|0,x::t,h,_,_=>absurd h (by simp)
 | k + 1,x::t,h,hn,he=>by
  have h1:=bC (fun y=>!J x y) t;simp only[bD] at h;rw[cB] at hn;have ef:(t.filter fun y=>!J x y)=t.filter fun y=>!J' x y:=dk fun y hy=>by
   rw[he x (cf ..) y (bZ _ hy) fun e=>hn.1 (e▸hy)]
  have e1:=zJJ k t (by omega) hn.2 fun a ha b hb=>he a (bZ _ ha) b (bZ _ hb);have e2:=zJJ k (t.filter fun y=>!J x y) (by omega) (hn.2.sublist dI) fun a ha b hb=>he a (bZ _ (bO.1 ha).1) b (bZ _ (bO.1 hb).1);rw[zDG,zDG,e1,e2,ef]
theorem zKe{α:Type}(P:α->Bool):∀ l:List α,l.length=(l.filter P).length+(l.filter fun x=>!P x).length
 |[]=>rfl|x::l=>by
  have ih:=zKe P l;cases h:P x<;>simp[h]<;>omega
theorem zHS{J:Gp->Gp->Bool}:∀ (k:Nat) (l:List Gp),l.length<=k->∀ P:Gp->Bool,(∀ x y,J x y=true->P x=P y)->(aps J l).filter P=aps J (l.filter P)
 |_,[],_,_,_=>rfl|0,x::t,h,_,_=>absurd h (by simp)
 | k + 1,x::t,h,P,hP=>by
  have h1:=bC (fun y=>!J x y) t;simp only[bD] at h;have hQ:∀ a b,J a b=true->(!P a) = !P b:=fun a b hab=>by rw[hP a b hab]
  have ih1:=zHS (J:=J) k t (by omega);have ih2:=zHS (J:=J) k (t.filter fun y=>!J x y) (by omega);by_cases hx:P x=true
  ·have q1:=ih1 (fun y=>!P y) hQ;have q2:=ih2 (fun y=>!P y) hQ;have eQ:(t.filter fun y=>!J x y).filter (fun y=>!P y)=t.filter fun y=>!P y:=by
    rw[dQ];refine dk fun y _=>?_;cases hj:J x y
    ·simp
    ·rw[<- hP x y hj,hx];rfl
   rw[eQ,<- q1] at q2;have eP:(t.filter fun y=>!J x y).filter P=(t.filter P).filter fun y=>!J x y:=by
    rw[dQ,dQ];exact dk fun y _=>iP _ _
   have p1:=ih1 P hP;have p2:=ih2 P hP;rw[eP] at p2;have l1:=zKe P (aps J t);have l2:=zKe P (aps J (t.filter fun y=>!J x y));rw[p1] at l1;rw[p2,q2] at l2;rw[cq hx,zDG,zDG];by_cases c:(aps J t).length<=(aps J (t.filter fun y=>!J x y)).length+1
   ·rw[if_pos c,if_pos (by omega),cq hx,p2]
   ·rw[if_neg c,if_neg (by omega),p1]
  ·have eP:(t.filter fun y=>!J x y).filter P=t.filter P:=by
    rw[dQ];refine dk fun y _=>?_;cases hj:J x y
    ·simp
    ·rw[<- hP x y hj,cA] at *;simp[hx]
   rw[bV hx,zDG];split
   ·rw[bV hx,ih2 P hP,eP]
   ·rw[ih1 P hP]
theorem zIy{α:Type}(p q:α->Bool)(hd:∀ x,p x=true->q x=false):∀ l:List α,(l.filter p++l.filter q).Perm (l.filter fun x=>p x||q x)
 |[]=>List.Perm.refl _
 | x :: l=>by
  have ih:=zIy p q hd l;cases hp:p x
  ·cases hq:q x
   ·rw[bV (by simp[hp]),bV (by simp[hq]),bV (by simp[hp,hq])];exact ih
   ·rw[bV (by simp[hp]),cq hq,cq (by simp[hq])];exact List.perm_middle.trans (ih.cons x)
  ·rw[cq hp,bV (by simp[hd x hp]),cq (by simp[hp])];exact ih.cons x
theorem zKQ{α:Type}(key:α->Nat)(l:List α):∀ k,((range k).flatMap fun i=>l.filter fun x=>decide (key x=i)).Perm (l.filter fun x=>decide (key x<k))
 |0=>by
  rw[iN.2 (by simp)];exact List.Perm.refl _
 |k + 1=>by
  rw[b9,fy,dU,List.flatMap_nil,dR];refine((zKQ key l k).append_right _).trans ((zIy _ _ ?_ l).trans ?_)
  ·intro x h;simp only[decide_eq_true_eq] at h;rw[decide_eq_false_iff_not];omega
  ·rw[dk];intro x _;rw[co];simp only[bW,decide_eq_true_eq];omega
def zZC(l:List Gp):List Gp:=l.mergeSort zLd
theorem zXE{l m:List Gp}(h:l.Perm m)(hm:m.Pairwise fun x y=>zLd x y=true):zZC l=m:=by
 have ht:∀ a b c:Gp,zLd a b=true->zLd b c=true->zLd a c=true:=fun a b c h1 h2=>by
  simp only[zLd,bW,bb,decide_eq_true_eq] at *;omega
 have htt:∀ a b:Gp,(zLd a b||zLd b a)=true:=fun a b=>by
  simp only[zLd,bW,bb,decide_eq_true_eq];omega
 have h1:=List.pairwise_mergeSort ht htt l;have h2:=(List.mergeSort_perm l zLd).trans h;refine h2.eq_of_pairwise (fun a b _ _ h3 h4=>?_) h1 hm;simp only[zLd,bW,bb,decide_eq_true_eq] at *;exact fZ (by omega) (by omega)
end Go.Eng
namespace Go.Eng
open Go Go.Proofs
def zQk(n:Nw):Int:=if zCQ n.h n.l=0 then if zD9 n.n=0 then if (!n.s.all fun x=>zMD n.h x)=true then 1 else if (!n.s.all fun x=>zEv x)=true then 4 else 0 else zD9 n.n else zCQ n.h n.l
theorem zXZ{n:Nw}(h1:(!inB n.h 1 10)=false)(h2:¬ (n.l.length:Int)>15)(h3:(!inB n.n.length 1 8)=false)(h4:(!inB n.s.length 1 6)=false):zG4 n=zQk n:=by
 simp only[zG4,h1,h2,h3,h4,if_false];rfl
theorem zZU{n:Nw}(h:∀ i,i<n.n.length->inB (n.n.getD i d0).1 (-1) ((i:Int)-1)=true):zUe n.n=true:=by
 simp only[zUe,bi,bF];exact h
theorem zYo{l:List (Int×Bool)}{i:Nat}(hi:i<l.length)(hr:inB (l.getD i d0).1 (-1) ((i:Int)-1)=true):zNc l i=true↔∃ k,k<i/\0<=(l.getD i d0).1/\(l.getD i d0).1=(l.getD k d0).1:=by
 have hr:=zEI hr;simp only[zNc,bb,decide_eq_true_eq,bX];constructor
 ·rintro⟨h1,x,h2,h3⟩;obtain⟨k,hk,rfl⟩:=fY h2;rw[cj] at hk;refine⟨k,by omega,by omega,?_⟩;rw[zAu (l:=l) (i:=k) (by omega)];rw[ij] at h3;exact h3.symm
 ·rintro ⟨k,h1,h2,h3⟩;refine ⟨by omega, (l.take i)[k]'(by rw [cj]; omega), cM _, ?_⟩;rw [ij,h3,zAu (l:=l) (i:=k) (by omega)]
theorem zYO{n:Nw}(hn:zUe n.n=true)(h:∀ i,i<n.n.length->∀ k,k<i->¬ ((n.n.getD i d0).1>=0/\(n.n.getD i d0).1=(n.n.getD k d0).1)):zD9 n.n=0:=by
 have:(range n.n.length).any (zNc n.n)=false:=by
  simp only[dG,bF];intro i hi ht;have hr:inB (n.n.getD i d0).1 (-1) ((i:Int)-1)=true:=by
   simp only[zUe,bi,bF] at hn;exact hn i hi
  obtain⟨k,h1,h2,h3⟩:=(zYo hi hr).1 ht;exact h i hi k h1 ⟨h2,h3⟩
 simp only[zD9,hn,this,if_true];rfl
theorem zYR{n:Nw}(hl:zCQ n.h n.l=0)(hn:zD9 n.n=0)(hs:(n.s.all fun x=>zMD n.h x)=true)(ho:(n.s.all fun x=>zEv x)=true):zQk n=0:=by
 simp only[zQk,hl,hn,hs,ho];rfl
end Go.Eng
set_option maxRecDepth 10000
set_option maxHeartbeats 4000000
namespace Go.Eng
open Go Go.Proofs
end Go.Eng
set_option maxRecDepth 10000
set_option maxHeartbeats 4000000
namespace Go.Eng
open Go Go.Proofs
end Go.Eng
set_option maxRecDepth 10000
set_option maxHeartbeats 4000000
namespace Go.Eng
open Go Go.Proofs
end Go.Eng
set_option maxRecDepth 10000
set_option maxHeartbeats 4000000
namespace Go.Eng
open Go Go.Proofs
end Go.Eng
set_option maxRecDepth 10000
set_option maxHeartbeats 4000000
namespace Go.Eng
open Go Go.Proofs
end Go.Eng
set_option maxRecDepth 10000
set_option maxHeartbeats 4000000
namespace Go.Eng
open Go Go.Proofs
abbrev gpO(l:LP):PV := .own 2 (l.map prV)
instance:FrzOf gpO prs:=⟨fun l=>by simp only[zA0,zAx (g:=prV) (g':=prV) l]⟩
end Go.Eng
set_option maxRecDepth 10000
set_option maxHeartbeats 4000000
namespace Go.Eng
open Go Go.Proofs
end Go.Eng
set_option maxHeartbeats 1000000
namespace Go.Eng
open Go
end Go.Eng
namespace Go.Eng
open Go Go.Proofs
theorem Tr.ge{n:Nw}{w:LI}{S:Nat->Nat->Prop}(ht:Tr n w S){h c:Nat}(hh:h<n.h.toNat)(hc:c<8){v:Int}:v<=w.getD (h*8+c) 0↔v<=-1\/∃ i,i<n.n.length/\(zAg n).getD i 0=(c:Int)/\S h i/\v<=i:=by
 have ha:=ht.at_ h c hh hc;constructor
 ·intro hv;rcases ha with h1|⟨i,g1,g2,g3,g4⟩
  ·exact .inl (by omega)
  ·exact .inr ⟨i,g1,g2,g4,by omega⟩
 ·rintro(h1|⟨i,g1,g2,g3,g4⟩)
  ·rcases ha with h2|⟨i,_,_,g3,_⟩<;>omega
  ·have:=ht.top h i hh g1 g3;rw[g2,bR] at this;omega
theorem zE4{n:Nw}{cs:LP}(ho:CrW n cs):Tr n (zKC n cs) fun a i=>zID n cs a i=true :=
 (Tr.begN ho n.h.toNat (bf _)).same fun a i ha _=>⟨fun h=>h.2,fun h=>⟨ha,h⟩⟩
theorem zFX{n:Nw}{cs ds:LP}(h1:CrW n cs)(h2:CrW n ds)(h3:CrW n (cs++ds)){c:Nat}(hc:c<8):∀ (e:Nat) (h:Nat) (v:Int),h<n.h.toNat->(v<=(zAy n (cs++ds) e).getD (h*8+c) 0↔v<=(zAy n cs e).getD (h*8+c) 0\/v<=(zAy n ds e).getD (h*8+c) 0)
 | 0,h,v,hh=>by
  have e:∀ i:Int,zID n (cs++ds) h i=(zID n cs h i||zID n ds h i):=fun i=>by simp[zID]
  show v<=(zKC n (cs++ds)).getD _ 0↔v<=(zKC n cs).getD _ 0\/v<=(zKC n ds).getD _ 0
  rw[(zE4 h3).ge hh hc,(zE4 h1).ge hh hc,(zE4 h2).ge hh hc];constructor
  ·rintro(g|⟨i,g1,g2,g3,g4⟩)
   ·exact .inl (.inl g)
   ·rw[e,bW] at g3;rcases g3 with g3|g3
    ·exact .inl (.inr ⟨i,g1,g2,g3,g4⟩)
    ·exact .inr (.inr ⟨i,g1,g2,g3,g4⟩)
  ·rintro((g|⟨i,g1,g2,g3,g4⟩)|(g|⟨i,g1,g2,g3,g4⟩))
   ·exact .inl g
   ·exact .inr ⟨i,g1,g2,by rw[e,g3];rfl,g4⟩
   ·exact .inl g
   ·exact .inr ⟨i,g1,g2,by rw[e,g3,Bool.or_true],g4⟩
 | e + 1,h,v,hh=>by
  have ih:=zFX h1 h2 h3 hc e;have u7:∀ o,o∈zHN n h n.h.toNat->o<n.h.toNat:=fun o hm=>bF.1 (bO.1 hm).1;show v<=(zCf n (zAy n (cs++ds) e)).getD _ 0↔v<=(zCf n (zAy n cs e)).getD _ 0\/v<=(zCf n (zAy n ds e)).getD _ 0
  rw[zDA h1.nw (zBe _) hh hc,zDA h1.nw (zBe _) hh hc,zDA h1.nw (zBe _) hh hc,ih h v hh];constructor
  ·rintro((g|g)|⟨o,g1,g2⟩)
   ·exact .inl (.inl g)
   ·exact .inr (.inl g)
   ·rcases(ih o v (u7 o g1)).1 g2 with g|g
    ·exact .inl (.inr ⟨o,g1,g⟩)
    ·exact .inr (.inr ⟨o,g1,g⟩)
  ·rintro((g|⟨o,g1,g2⟩)|(g|⟨o,g1,g2⟩))
   ·exact .inl (.inl g)
   ·exact .inr ⟨o,g1,(ih o v (u7 o g1)).2 (.inl g2)⟩
   ·exact .inl (.inr g)
   ·exact .inr ⟨o,g1,(ih o v (u7 o g1)).2 (.inr g2)⟩
theorem zT4{n:Nw}{d:Int×Int}(h1:CrW n [d]){c:Nat}(hc:c<8):∀ (e:Nat) (h:Nat) (v:Int),h<n.h.toNat->-1<v->(v<=(zAy n [d] e).getD (h*8+c) 0↔v<=d.1/\0<=(zAy n [d] e).getD (h*8+c) 0)
 | 0,h,v,hh,hv=>by
  have hd:=(h1.cs d cf).1;have e:∀ i:Int,zID n [d] h i=true->d.1=i:=fun i hi=>by
   simp only[zID,fK,List.any_nil,iO,hrB,bb,decide_eq_true_eq] at hi;exact hi.1
  show v<=(zKC n [d]).getD _ 0↔v<=d.1/\0<=(zKC n [d]).getD _ 0
  rw[(zE4 h1).ge hh hc,(zE4 h1).ge hh hc];constructor
  ·rintro(g|⟨i,g1,g2,g3,g4⟩)
   ·omega
   ·have:=e i g3;exact⟨by omega,.inr ⟨i,g1,g2,g3,by omega⟩⟩
  ·rintro⟨g0,(g|⟨i,g1,g2,g3,g4⟩)⟩
   ·omega
   ·have:=e i g3;exact .inr ⟨i,g1,g2,g3,by omega⟩
 | e + 1,h,v,hh,hv=>by
  have ih:=zT4 h1 hc e;have u7:∀ o,o∈zHN n h n.h.toNat->o<n.h.toNat:=fun o hm=>bF.1 (bO.1 hm).1;show v<=(zCf n (zAy n [d] e)).getD _ 0↔v<=d.1/\0<=(zCf n (zAy n [d] e)).getD _ 0
  rw[zDA h1.nw (zBe _) hh hc,zDA h1.nw (zBe _) hh hc,ih h v hh hv];constructor
  ·rintro(⟨g1,g2⟩|⟨o,g1,g2⟩)
   ·exact⟨g1,.inl g2⟩
   ·have:=(ih o v (u7 o g1) hv).1 g2;exact⟨this.1,.inr ⟨o,g1,this.2⟩⟩
  ·rintro⟨g0,(g|⟨o,g1,g2⟩)⟩
   ·exact .inl ⟨g0,g⟩
   ·exact .inr ⟨o,g1,(ih o v (u7 o g1) hv).2 ⟨g0,g2⟩⟩
theorem zVx{n:Nw}{w:LI}{g:Int×Int}:g∈zAA n w↔∃ h i:Nat,h<n.h.toNat/\i<n.n.length/\g=((h:Int),(i:Int))/\zLr n w h i=true:=by
 refine⟨zD3,?_⟩;rintro⟨h,i,h1,h2,rfl,h3⟩;simp only[zAA,zUm,cG,bF,zN9,b4,bO];exact⟨h,h1,i,⟨h2,h3⟩,rfl⟩
theorem zKk{n:Nw}{w:LI}{h i:Nat}(hh:h<n.h.toNat)(hi:i<n.n.length):((h:Int),(i:Int))∈zAA n w↔zLr n w h i=true:=by
 rw[zVx];constructor
 ·rintro⟨h',i',_,_,he,hb⟩;simp only[bz] at he;obtain rfl:h=h':=by omega
  obtain rfl:i=i':=by omega
  exact hb
 ·exact fun hb=>⟨h,i,hh,hi,rfl,hb⟩
theorem zUC{n:Nw}{w w':LI}{g:Int×Int}(hg:g∈zAA n w):(g∈zC0 n w' (zAA n w))↔g∉zAA n w':=by
 obtain⟨h,i,h1,h2,rfl,h3⟩:=zD3 hg;rw[zKk h1 h2];simp only[zC0,bO,hg,true_and,zVs,decide_eq_true_eq,bR];simp only[zLr,bb,decide_eq_true_eq] at h3 ⊢;constructor
 ·exact fun a b=>a b.1
 ·exact fun a b=>a ⟨b,h3.2⟩
end Go.Eng
set_option maxHeartbeats 1000000
namespace Go.Eng
open Go
end Go.Eng
set_option maxHeartbeats 1000000
namespace Go.Eng
open Go
end Go.Eng
set_option maxHeartbeats 1000000
namespace Go.Eng
open Go
theorem zIT{n:Nw}{a:LP}(ho:NwOk n){c:Nat}(hc:c<8)(h0:∀ h,h<n.h.toNat->¬ 0<=(zKC n a).getD (h*8+c) 0) :
  ∀ e h,h<n.h.toNat->¬ 0<=(zAy n a e).getD (h*8+c) 0
 |0=>h0|e+1=>fun h hh=>by
  have ih:=zIT ho hc h0 e;show ¬ 0<=(zCf n (zAy n a e)).getD (h*8+c) 0
  rw[zDA ho (zBe e) hh hc];rintro(h1|⟨o,h1,h2⟩)
  ·exact ih h hh h1
  ·exact ih o (zHX h1) h2
end Go.Eng
set_option maxHeartbeats 1000000
namespace Go.Eng
open Go
def zFl(n:Nw)(c:Int×Int)(e h k:Nat):Prop:=0<=(zAy n [c] e).getD (h*8+k) 0
theorem zEa{n:Nw}{cs ds:LP}(h:CrW n (cs++ds)):CrW n cs/\CrW n ds:=by
 have hl:=h.len;rw[bu] at hl;exact⟨⟨h.nw,by omega,fun c hc=>h.cs c (bj.2 (.inl hc))⟩,⟨h.nw,by omega,fun c hc=>h.cs c (bj.2 (.inr hc))⟩⟩
theorem zPf{n:Nw}{la:Int}{k:Nat}(hk:k<8)(e:Nat){h:Nat}(hh:h<n.h.toNat){v:Int}(hv : -1<v):∀ (ext:LP),CrW n ext->(∀ c∈ext,c.1=la) ->
  (v<=(zAy n ext e).getD (h*8+k) 0↔v<=la/\∃ c∈ext,zFl n c e h k)
 | [],ho,_=>by
  have h0:¬ 0<=(zAy n [] e).getD (h*8+k) 0:=zIT ho.nw hk (fun a ha=>by
   rw[(zE4 ho).ge ha hk];rintro(h1|⟨i,_,_,h3,_⟩)
   ·omega
   ·simp[zID] at h3) e h hh
  constructor
  ·intro h1;exact absurd (by omega) h0
  ·rintro⟨_,c,hc,_⟩;simp at hc
 | c :: ext,ho,qf=>by
  have hp:=zEa (cs:=[c]) (ds:=ext) ho;have ih:=zPf hk e hh hv ext hp.2 fun x hx=>qf x (bZ _ hx);rw[show c::ext=[c]++ext from rfl,zFX hp.1 hp.2 ho hk e h v hh,ih,zT4 hp.1 hk e h v hh hv,qf c (by simp)];constructor
  ·rintro(⟨h1,h2⟩|⟨h1,x,hx,h2⟩)
   ·exact⟨h1,c,by simp,h2⟩
   ·exact⟨h1,x,by simp[hx],h2⟩
  ·rintro⟨h1,x,hx,h2⟩;rcases bj.1 hx with hx|hx
   ·rw[bk.1 hx] at h2;exact .inl ⟨h1,h2⟩
   ·exact .inr ⟨h1,x,hx,h2⟩
theorem zVa{n:Nw}{cs ext:LP}{la:Int}(ho:CrW n (cs++ext))(qf:∀ c∈ext,c.1=la)(e:Nat){h x:Nat}(hh:h<n.h.toNat)(hx:x<n.n.length)(hl:(zAN n).getD x 0=la) :
  zLr n (zAy n (cs++ext) e) h x=true↔zLr n (zAy n cs e) h x=true/\¬ ∃ c∈ext,zFl n c e h ((zAg n).getD x 0).toNat:=by
 have hp:=zEa ho;have hn:=ho.nw;have hf:=zBK hn x hx;have h8:=hn.nl;have hu:=fun v=>zFX hp.1 hp.2 ho (c:=((zAg n).getD x 0).toNat) (by omega) e h v hh;have hm:=fun(v:Int) (hv : -1<v)=>zPf (la:=la) (k:=((zAg n).getD x 0).toNat) (by omega) e hh hv ext hp.2 qf;obtain⟨l,vp,vR,_,hl4,_⟩:=zEW hn hx;have vZ:(x:Int)<=la:=by omega
 simp only[zLr,bb,decide_eq_true_eq,hl];generalize (zAy n (cs++ext) e).getD (h*8+((zAg n).getD x 0).toNat) 0=U at *;generalize (zAy n cs e).getD (h*8+((zAg n).getD x 0).toNat) 0=A at *;generalize (zAy n ext e).getD (h*8+((zAg n).getD x 0).toNat) 0=B at *;have e1:=(hu A).2 (.inl (di _));constructor
 ·rintro⟨h1,h2⟩;have jf:¬ ∃ c∈ext,zFl n c e h ((zAg n).getD x 0).toNat:=fun hc=>by
   have h3:=(hm la (by omega)).2 ⟨di _,hc⟩;have h4:=(hu la).2 (.inr h3);omega
  refine⟨⟨?_,h2⟩,jf⟩;rcases(hu x).1 (by omega) with h3|h3
  ·omega
  ·exact absurd ((hm x (by omega)).1 h3).2 jf
 ·rintro⟨⟨h1,h2⟩,jf⟩;refine⟨?_,h2⟩;by_cases hU:U<=-1
  ·omega
  ·rcases(hu U).1 (di _) with h3|h3
   ·omega
   ·exact absurd ((hm U (by omega)).1 h3).2 jf
end Go.Eng
