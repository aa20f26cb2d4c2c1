/- Just those ye are left with an earlier notice alone that are told; who jN a notice has it by a path; and with the further cries that are told nobody is left, or gaps are told that no cry mends; for every list of numbers, evening and stands. -/
import Derived.Test.YtppbomajegnkeaaGreatPf
import Derived.Test.YtppbomajegnkeaaGreatPd
import Derived.Test.YtppbomajegnkeaaGreatPe
set_option linter.unusedVariables false
set_option linter.unusedSimpArgs false
set_option linter.unusedSectionVars false
open Nat (beq ble blt)
open List (map replicate take drop range length filter)
open Go.Eng.PV (own agg addr func sl bor tup omap bad bool int)
namespace Go.Eng
open Go Go.Proofs
theorem zHr{n:Nw}(ho:NwOk n)(j:Nat):∀ i,j<i->i<=n.n.length->(zQa n.n i).getD j 0=(zQa n.n (j+1)).getD j 0
 |0,h,_=>absurd h (b8 j)|i + 1,h,hi=>by
  have h8:=ho.nl.2;by_cases hj:j=i
  ·subst hj;rfl
  ·rw[zQa,zJT (zHy i) (by omega) (ho.na i (by omega)),if_neg hj];exact zHr ho j i (by omega) (by omega)
theorem zHz{n:Nw}(ho:NwOk n){i:Nat}(hi:i<n.n.length):(zAd n).getD i 0=if (n.n.getD i d0).1 = -1 then(i:Int) else(zAd n).getD (n.n.getD i d0).1.toNat 0:=by
 have h8:=ho.nl.2;have ha:=ho.na i hi;unfold zAd;rw[zHr ho i n.n.length hi (bi _),zQa,zJT (zHy i) (by omega) ha,if_pos rfl];split
 ·rfl
 ·rename_i hI;rw[zHr ho (n.n.getD i d0).1.toNat i (by omega) (by omega),zHr ho (n.n.getD i d0).1.toNat n.n.length (by omega) (bi _)]
theorem zKv{n:Nw}(ho:NwOk n):∀ (i:Nat),i<n.n.length->(zAd n).getD ((zAd n).getD i 0).toNat 0=(zAd n).getD i 0:=by
 intro i
 induction i using Nat.strongRecOn with
 |ind i ih=>
  intro hi;have ha:=ho.na i hi;have hr:=zHz ho hi;by_cases h:(n.n.getD i d0).1 = -1
  ·rw[if_pos h] at hr;rw[hr,bQ,hr]
  ·rw[if_neg h] at hr;rw[hr];exact ih (n.n.getD i d0).1.toNat (by omega) (by omega)
def chn(n:Nw)(i j:Nat):Prop:=(zAd n).getD i 0=(zAd n).getD j 0
theorem zVy{n:Nw}(ho:NwOk n):∀ (j i:Nat),i<j->j<n.n.length->chn n i j->∃ k,i<k/\k<=j/\k<n.n.length/\(n.n.getD k d0).1=i/\chn n k j:=by
 intro j
 induction j using Nat.strongRecOn with
 | ind j ih =>
  intro i wu hj hc;have ha:=ho.na j hj;have hr:=zHz ho hj;have uh:=zBk ho i (by omega);by_cases h:(n.n.getD j d0).1 = -1
  ·rw[if_pos h] at hr;unfold chn at hc;omega
  ·rw[if_neg h] at hr;by_cases he:(n.n.getD j d0).1=(i:Int)
   ·exact⟨j,wu,bi _,hj,he,rfl⟩
   ·by_cases yL:(i:Int)<(n.n.getD j d0).1
    ·obtain⟨k,h1,h2,h3,h4,h5⟩:=ih (n.n.getD j d0).1.toNat (by omega) i (by omega) (by omega) (by unfold chn at hc ⊢;rw[hc,hr]);exact⟨k,h1,by omega,h3,h4,by unfold chn at h5 ⊢;rw[h5,hr]⟩
    ·
     exfalso;obtain⟨k,h1,h2,h3,h4,_⟩:=ih i wu (n.n.getD j d0).1.toNat (by omega) (by omega) (by unfold chn at hc ⊢;rw[<- hr,hc]);exact ho.nd j k (by omega) hj h (by rw[h4];omega)
theorem zGw{F L:LI}{i j:Nat}(h:i≠j):∀ k,(zUA F i L k).getD j 0=L.getD j 0
 |0=>rfl|k+1=>by
  rw[zHQ,zM9];split
  ·rw[zC6,if_neg (fun h2=>h h2.1)];exact zGw h k
  ·exact zGw h k
theorem zSb{F L:LI}{i:Nat}(hL:L.length=8)(hi:i<8)(h0:L.getD i 0=0):∀ k,∃ l:Nat,(zUA F i L k).getD i 0=l/\(l=0\/l<k/\F.getD l 0=F.getD i 0)/\∀ j,j<k->F.getD j 0=F.getD i 0->j<=l
 |0=>⟨0,h0,.inl rfl,fun j hj=>absurd hj (b8 j)⟩
 | k + 1 => by
  obtain⟨l,h1,h2,h3⟩:=zSb hL hi h0 k;rw[zHQ,zM9];split
  ·rename_i hk;refine⟨max l k,?_,?_,fun j hj hf=>?_⟩
   ·rw[zC6,if_pos ⟨rfl,by rw[zI7];omega⟩,h1];omega
   ·by_cases yF:l<=k
    ·right;rw[Nat.max_eq_right yF];exact⟨by omega,hk⟩
    ·rw[Nat.max_eq_left (by omega)];rcases h2 with h2|⟨h2,h4⟩
     ·exact .inl h2
     ·exact .inr ⟨by omega,h4⟩
   ·by_cases hjk:j=k
    ·omega
    ·have:=h3 j (by omega) hf;omega
  ·rename_i hk;refine⟨l,h1,?_,fun j hj hf=>?_⟩
   ·rcases h2 with h2|⟨h2,h4⟩
    ·exact .inl h2
    ·exact .inr ⟨by omega,h4⟩
   ·by_cases hjk:j=k
    ·subst hjk;exact absurd hf hk
    ·exact h3 j (by omega) hf
theorem zMU{F:LI}{m:Nat}:∀ i j,i<=j->(zRg F m i).getD j 0=0
 |0,j,_=>by
  simp only[zRg,List.range_zero,cM,bK,iC];split<;>rfl
 |i+1,j,h=>by rw[zF8,zGw (by omega)];exact zMU i j (by omega)
theorem zML{F:LI}{m j:Nat}:∀ i,j<i->(zRg F m i).getD j 0=(zRg F m (j+1)).getD j 0
 |0,h=>absurd h (b8 j)|i+1,h=>by
  by_cases hj:j=i
  ·subst hj;rfl
  ·rw[zF8,zGw (by omega)];exact zML i (by omega)
theorem zCC{n:Nw}(ho:NwOk n){i:Nat}(hi:i<n.n.length):∃ l:Nat,(zAA n).getD i 0=l/\l<n.n.length/\chn n l i/\i<=l/\∀ k,k<n.n.length->chn n k i->k<=l:=by
 have h8:=ho.nl.2;obtain⟨l,h1,h2,h3⟩:=zSb (F:=zAd n) (i:=i) (zI9 (F:=zAd n) (m:=n.n.length) i) (by omega) (zMU i i (bi i)) n.n.length;have yH:=h3 i hi rfl;refine⟨l,?_,?_,?_,yH,fun k hk hc=>h3 k hk hc⟩
 ·unfold zAA;rw[zML n.n.length hi,zF8];exact h1
 ·rcases h2 with h2|⟨h2,_⟩<;>omega
 ·rcases h2 with h2|⟨_,h4⟩
  ·have:i=l:=by omega
   subst this;rfl
  ·exact h4
end Go.Eng
set_option maxRecDepth 10000
set_option maxHeartbeats 4000000
namespace Go.Eng
open Go Go.Proofs
def zPB(a b:Int)(x:Int×Int):Bool:=decide (x.1=a/\x.2=b\/x.1=b/\x.2=a)
def zYC(n:Nw)(a b:Int):Bool:=n.l.any (zPB a b)
theorem zVT{a b:Int}{x:Int×Int}:pr2 x=pr2 (a,b)↔x.1=a/\x.2=b\/x.1=b/\x.2=a:=by
 obtain⟨c,d⟩:=x;simp only[pr2,bw];constructor
 ·rintro⟨h1,h2⟩
  repeat' split at h1
  all_goals (repeat' split at h2)
  all_goals omega
 ·intro h;constructor
  ·repeat' split
   all_goals omega
  ·repeat' split
   all_goals omega
theorem zXw{n:Nw}{a b:Int}:zYC n a b=zDe n a b:=by
 rw[cZ];simp only[zYC,zDe,bN,zPB,decide_eq_true_eq,bT];constructor
 ·rintro⟨x,hx,h⟩;exact⟨x,hx,zVT.2 h⟩
 ·rintro⟨x,hx,h⟩;exact⟨x,hx,zVT.1 h⟩
end Go.Eng
set_option maxRecDepth 10000
set_option maxHeartbeats 4000000
namespace Go.Eng
open Go Go.Proofs
abbrev bls(l:List Bool):PV := .sl (l.map bool)
def kn(K:List (List Bool))(h i:Nat):Bool:=(K.getD h []).getD i false
structure RelK (n:Nw) (K:List (List Bool)) (w:LI):Prop where
 len:K.length=n.h.toNat
 row:∀ r∈K,r.length=n.n.length
 wl:w.length=80
 top:∀ h i,h<n.h.toNat->i<n.n.length->kn K h i=true->(i:Int)<=w.getD (h*8+((zAd n).getD i 0).toNat) 0
 at_:∀ h c,h<n.h.toNat->c<8->w.getD (h*8+c) 0 = -1\/∃ i,i<n.n.length/\(zAd n).getD i 0=c/\w.getD (h*8+c) 0=i/\kn K h i=true
def hld(n:Nw)(w:LI)(h i:Nat):Bool:=decide (w.getD (h*8+((zAd n).getD i 0).toNat) 0=i)
theorem zXs{n:Nw}(ho:NwOk n){i k:Nat}(hk:k<n.n.length)(h:(n.n.getD k d0).1=i):i<k/\chn n k i:=by
 have ha:=ho.na k hk;have hr:=zHz ho hk;refine⟨by omega,?_⟩;rw[if_neg (by omega),h,bQ] at hr;exact hr
theorem zZj{n:Nw}{K:List (List Bool)}{w:LI}{h i:Nat}(ho:NwOk n)(hr:RelK n K w)(hh:h<n.h.toNat)(hi:i<n.n.length)(h1:kn K h i=true)(h2:∀ k,k<n.n.length->chn n k i->i<k->kn K h k=false):hld n w h i=true:=by
 have ww:=zBk ho i hi;have kY:=ho.nl.2;have ht:=hr.top h i hh hi h1;rcases hr.at_ h ((zAd n).getD i 0).toNat hh (by omega) with h3|⟨j,g1,g2,g3,g4⟩
 ·omega
 ·by_cases hj:j=i
  ·subst hj;simpa only [hld,decide_eq_true_eq] using g3
  ·have:=h2 j g1 (by unfold chn;omega) (by omega);rw[this] at g4;cases g4
theorem zYe{n:Nw}{K:List (List Bool)}{w:LI}{h i:Nat}(ho:NwOk n)(hr:RelK n K w)(hh:h<n.h.toNat)(hi:i<n.n.length)(h1:kn K h i=false\/∃ k,k<n.n.length/\chn n k i/\i<k/\kn K h k=true):hld n w h i=false:=by
 have ww:=zBk ho i hi;have kY:=ho.nl.2;simp only[hld,decide_eq_false_iff_not];intro he;rcases h1 with h1|⟨k,g1,g2,g3,g4⟩
 ·rcases hr.at_ h ((zAd n).getD i 0).toNat hh (by omega) with h3|⟨j,g1,g2,g3,g4⟩
  ·omega
  ·have:j=i:=by omega
   subst this;rw[h1] at g4;cases g4
 ·have:=hr.top h k hh g1 g4;unfold chn at g2;rw[g2] at this;omega
end Go.Eng
set_option maxRecDepth 10000
set_option maxHeartbeats 4000000
namespace Go.Eng
open Go Go.Proofs
def hrB(n:Nw)(h i:Int)(c:Int×Int):Bool:=decide (c.1=i)&&has (n.s.getD c.2.toNat []) h
def zHm(n:Nw)(cs:LP)(h i:Int):Bool:=cs.any (hrB n h i)
end Go.Eng
set_option maxRecDepth 10000
set_option maxHeartbeats 4000000
namespace Go.Eng
open Go Go.Proofs
abbrev lsB(l:List Bool):PV := .own 1 (l.map bool)
instance:FrzOf lsB bls:=⟨fun x=>by simp only[zA2,zFs]⟩
def zY1(n:Nw)(cs:LP)(h k:Nat):List Bool:=(range k).map fun(i:Nat)=>zHm n cs h i
def zX7(n:Nw)(cs:LP)(k:Nat):List (List Bool):=(range k).map fun h=>zY1 n cs h n.n.length
end Go.Eng
namespace Go.Eng
open Go Go.Proofs
structure Tr (n:Nw) (w:LI) (S:Nat->Nat->Prop):Prop where
 wl:w.length=80
 at_:∀ h c,h<n.h.toNat->c<8->w.getD (h*8+c) 0 = -1\/∃ i,i<n.n.length/\(zAd n).getD i 0=(c:Int)/\w.getD (h*8+c) 0=i/\S h i
 top:∀ h i,h<n.h.toNat->i<n.n.length->S h i->(i:Int)<=w.getD (h*8+((zAd n).getD i 0).toNat) 0
theorem zI5{w:LI}{i j:Nat}{x:Int}(hi:i<w.length):(zRh w i x).getD j 0=if i=j then max (w.getD j 0) x else w.getD j 0:=by
 unfold zRh;rw[zC6];by_cases h:i=j
 ·subst h;rw[if_pos ⟨rfl,hi⟩,if_pos rfl]
 ·rw[if_neg (fun h2=>h h2.1),if_neg h]
theorem Tr.upd{n:Nw}{w:LI}{S:Nat->Nat->Prop}(ho:NwOk n)(ht:Tr n w S){h0 i0:Nat}(hh:h0<n.h.toNat)(hi:i0<n.n.length):Tr n (zRh w (h0*8+((zAd n).getD i0 0).toNat) i0) (fun h i=>S h i\/h=h0/\i=i0):=by
 have kY:=ho.nl.2;have hH:=ho.h.2;have qn:=zBk ho i0 hi;have yL:h0*8+((zAd n).getD i0 0).toNat<w.length:=by rw[ht.wl];omega
 refine⟨by rw[zIL];exact ht.wl,fun h c gv hc=>?_,fun h i gv hi1 hS=>?_⟩
 ·rw[zI5 yL];split
  ·rename_i he;have e1:h=h0:=by omega
   have e2:((zAd n).getD i0 0).toNat=c:=by omega
   have e3:(zAd n).getD i0 0=(c:Int):=by omega
   subst e1;have hw:=ht.at_ h c gv hc;by_cases hm:w.getD (h*8+c) 0<=(i0:Int)
   ·right;exact⟨i0,hi,e3,by rw[iz hm],.inr ⟨rfl,rfl⟩⟩
   ·rcases hw with hw|⟨i,g1,g2,g3,g4⟩
    ·omega
    ·right;exact⟨i,g1,g2,by rw[fY (by omega)];exact g3,.inl g4⟩
  ·rcases ht.at_ h c gv hc with hw|⟨i,g1,g2,g3,g4⟩
   ·exact .inl hw
   ·exact .inr ⟨i,g1,g2,g3,.inl g4⟩
 ·rw[zI5 yL];have qm:=zBk ho i hi1;rcases hS with hS|⟨rfl,rfl⟩
  ·have:=ht.top h i gv hi1 hS;split<;>omega
  ·rw[if_pos rfl];omega
theorem Tr.same{n:Nw}{w:LI}{S S':Nat->Nat->Prop}(ht:Tr n w S)(h:∀ a i,a<n.h.toNat->i<n.n.length->(S a i↔S' a i)):Tr n w S' :=
 ⟨ht.wl,fun a c ha hc=>by
  rcases ht.at_ a c ha hc with h1|⟨i,g1,g2,g3,g4⟩
  ·exact .inl h1
  ·exact .inr ⟨i,g1,g2,g3,(h a i ha g1).1 g4⟩,fun a i ha hi hs=>ht.top a i ha hi ((h a i ha hi).2 hs)⟩
theorem Tr.none(n:Nw)(ho:NwOk n):Tr n (replicate 80 (-1)) (fun _ _=>False):=by
 have hH:=ho.h.2;refine⟨by simp,fun h c hh hc=>.inl ?_,fun _ _ _ _ h=>h.elim⟩;rw[zAr (by rw[fQ];omega),fJ]
end Go.Eng
namespace Go.Eng
open Go Go.Proofs
theorem Tr.begC{n:Nw}{w:LI}{S:Nat->Nat->Prop}(ho:NwOk n)(ht:Tr n w S){h:Nat}(hh:h<n.h.toNat){c:Int×Int}(hc:0<=c.1/\c.1<n.n.length):Tr n (begC n h w c) (fun a i=>S a i\/a=h/\hrB n h i c=true):=by
 unfold Go.Eng.begC;split
 ·rename_i hs;have:=ht.upd ho hh (i0:=c.1.toNat) (by omega);rw[dK hc.1] at this;refine this.same fun a i _ _=>?_;simp only[hrB,hs,ig,decide_eq_true_eq];refine or_congr dG (and_congr dG ⟨fun e=>by omega,fun e=>by omega⟩)
 ·rename_i hs;refine ht.same fun a i _ _=>?_;have h2:has (n.s.getD c.2.toNat []) h=false:=by
   cases hx:has (n.s.getD c.2.toNat []) h
   ·rfl
   ·exact absurd hx hs
  simp only[hrB,h2,dO,bp,and_false,or_false]
theorem Tr.begH{n:Nw}(ho:NwOk n){h:Nat}(hh:h<n.h.toNat):∀ (cs:LP) {w:LI} {S:Nat->Nat->Prop},Tr n w S->(∀ c∈cs,0<=c.1/\c.1<n.n.length)->Tr n (begH n h w cs) (fun a i=>S a i\/a=h/\zHm n cs h i=true)
 |[],w,S,ht,_=>ht.same fun a i _ _=>by simp[zHm]
 |c::cs,w,S,ht,hc=>by
  have h1:=Tr.begH ho hh cs (ht.begC ho hh (hc c dT)) fun d hd=>hc d (dg _ hd);refine Tr.same (w:=Go.Eng.begH n h w (c::cs)) h1 fun a i _ _=>?_;simp only[zHm,fL,bV,or_assoc,and_or_left]
theorem Tr.begN{n:Nw}{cs:LP}(ho:CrW n cs):∀ k,k<=n.h.toNat->Tr n (begN n cs k) (fun a i=>a<k/\zHm n cs a i=true)
 |0,_=>(Tr.none n ho.nw).same fun a i _ _=>by simp
 | k + 1,hk=>by
  rw[zJu];refine(Tr.begH ho.nw (by omega) cs (Tr.begN ho k (by omega)) fun c hc=>(ho.cs c hc).1).same fun a i _ _=>?_;constructor
  ·rintro(⟨h1,h2⟩|⟨rfl,h2⟩)
   ·exact⟨by omega,h2⟩
   ·exact⟨by omega,h2⟩
  ·rintro⟨h1,h2⟩;by_cases e:a=k
   ·subst e;exact .inr ⟨rfl,h2⟩
   ·exact .inl ⟨by omega,h2⟩
theorem RelK.of_tr{n:Nw}{K:List (List Bool)}{w:LI}(h1:K.length=n.h.toNat)(h2:∀ r∈K,r.length=n.n.length)(ht:Tr n w fun a i=>kn K a i=true):RelK n K w :=
 ⟨h1,h2,ht.wl,ht.top,ht.at_⟩
theorem RelK.tr{n:Nw}{K:List (List Bool)}{w:LI}(h:RelK n K w):Tr n w fun a i=>kn K a i=true:=⟨h.wl,h.at_,h.top⟩
theorem zYk{n:Nw}{cs:LP}{a i:Nat}(ha:a<n.h.toNat)(hi:i<n.n.length):kn (zX7 n cs n.h.toNat) a i=zHm n cs a i:=by
 unfold kn zX7;rw[zAr (l:=(range n.h.toNat).map fun h=>zY1 n cs h n.n.length) (by rw[be,fm];exact ha)];simp only[dz,dS];unfold zY1;rw[zAr (by rw[be,fm];exact hi)];simp only[dz,dS]
theorem zWY{n:Nw}{cs:LP}(ho:CrW n cs):RelK n (zX7 n cs n.h.toNat) (zIi n cs):=by
 refine RelK.of_tr (by simp[zX7]) (fun r hr=>?_) ?_
 ·obtain⟨h,_,rfl⟩:=bT.1 hr;simp[zY1]
 ·refine(Tr.begN ho n.h.toNat (bi _)).same fun a i ha hi=>?_;rw[zYk ha hi];exact⟨fun h=>h.2,fun h=>⟨ha,h⟩⟩
end Go.Eng
namespace Go.Eng
open Go Go.Proofs
def nxB(n:Nw)(K:List (List Bool))(w:LI)(h i:Nat):Bool:=kn K h i||(zG4 n h n.h.toNat).any fun o=>hld n w o i
def zNH(n:Nw)(K:List (List Bool))(w:LI)(h:Nat):List Bool:=(range n.n.length).map fun i=>nxB n K w h i
def zQr(n:Nw)(K:List (List Bool))(w:LI):List (List Bool):=(range n.h.toNat).map fun h=>zNH n K w h
theorem zXk{n:Nw}{K:List (List Bool)}{w:LI}{a i:Nat}(ha:a<n.h.toNat)(hi:i<n.n.length):kn (zQr n K w) a i=nxB n K w a i:=by
 unfold kn zQr;rw[zAr (l:=(range n.h.toNat).map fun h=>zNH n K w h) (by rw[be,fm];exact ha)];simp only[dz,dS];unfold zNH;rw[zAr (by rw[be,fm];exact hi)];simp only[dz,dS]
theorem Tr.skip{n:Nw}{w:LI}{S:Nat->Nat->Prop}(ho:NwOk n)(ht:Tr n w S){h0 c0:Nat}(hh:h0<n.h.toNat)(hc:c0<8):Tr n (zRh w (h0*8+c0) (-1)) S:=by
 have hH:=ho.h.2;have yL:h0*8+c0<w.length:=by rw[ht.wl];omega
 have hge : -1<=w.getD (h0*8+c0) 0:=by
  rcases ht.at_ h0 c0 hh hc with h|⟨i,_,_,h,_⟩<;>omega
 have he:∀ j,(zRh w (h0*8+c0) (-1)).getD j 0=w.getD j 0:=fun j=>by
  rw[zI5 yL];split
  ·rename_i e;subst e;exact fY hge
  ·rfl
 exact⟨by rw[zIL];exact ht.wl,fun h c h1 h2=>by rw[he];exact ht.at_ h c h1 h2,fun h i h1 h2 h3=>by rw[he];exact ht.top h i h1 h2 h3⟩
theorem Tr.nxtR{n:Nw}{now:LI}{S0:Nat->Nat->Prop}(ho:NwOk n)(h0:Tr n now S0){h o:Nat}(hh:h<n.h.toNat)(hoo:o<n.h.toNat){w:LI}{S:Nat->Nat->Prop}(ht:Tr n w S):∀ k,k<=8->Tr n (nxtR now h o w k) (fun a i=>S a i\/a=h/\(zAd n).getD i 0<(k:Int)/\hld n now o i=true)
 |0,_=>Tr.same (w:=Go.Eng.nxtR now h o w 0) ht fun a i _ hi=>by
  have:=zBk ho i hi;exact⟨.inl,fun h=>h.elim id fun h=>by have:=h.2.1;omega⟩
 | k + 1,hk=>by
  have ih:=Tr.nxtR ho h0 hh hoo ht k (by omega);have e:Go.Eng.nxtR now h o w (k+1)=zRh (Go.Eng.nxtR now h o w k) (h*8+k) (now.getD (o*8+k) 0):=by
   simp only[Go.Eng.nxtR,cw,cH,bZ,cM]
  rw[e];rcases h0.at_ o k hoo (by omega) with hm|⟨j,g1,g2,g3,_⟩
  ·rw[hm];refine(ih.skip ho hh (by omega)).same fun a i _ hi=>or_congr dG (and_congr dG ⟨fun⟨x,y⟩=>⟨by omega,y⟩,fun⟨x,y⟩=>⟨?_,y⟩⟩);have hf:=zBk ho i hi;by_cases ek:(zAd n).getD i 0=(k:Int)
   ·simp only[hld,decide_eq_true_eq,ek,bQ,hm] at y;omega
   ·omega
  ·have:=ih.upd ho hh g1;rw[g2,bQ] at this;rw[g3];refine this.same fun a i _ hi=>?_;have hf:=zBk ho i hi;constructor
   ·rintro((x|⟨x,y,z⟩)|⟨rfl,rfl⟩)
    ·exact .inl x
    ·exact .inr ⟨x,by omega,z⟩
    ·refine .inr ⟨rfl,by omega,?_⟩;simp only[hld,decide_eq_true_eq,g2,bQ,g3]
   ·rintro(x|⟨rfl,y,z⟩)
    ·exact .inl (.inl x)
    ·by_cases ek:(zAd n).getD i 0=(k:Int)
     ·simp only[hld,decide_eq_true_eq,ek,bQ,g3] at z;exact .inr ⟨rfl,by omega⟩
     ·exact .inl (.inr ⟨rfl,by omega,z⟩)
theorem Tr.nxtH{n:Nw}{now:LI}{S0:Nat->Nat->Prop}(ho:NwOk n)(h0:Tr n now S0){h:Nat}(hh:h<n.h.toNat):∀ (l:LN),(∀ o∈l,o<n.h.toNat)->∀ {w:LI} {S:Nat->Nat->Prop},Tr n w S->Tr n (nxtH now h w l) (fun a i=>S a i\/a=h/\(l.any fun o=>hld n now o i)=true)
 |[],_,w,S,ht=>Tr.same (w:=Go.Eng.nxtH now h w []) ht fun a i _ _=>by simp
 |o::l,hl,w,S,ht=>by
  have h1:=Tr.nxtH ho h0 hh l (fun x hx=>hl x (dg _ hx)) (Tr.nxtR ho h0 hh (hl o dT) ht 8 (bi _));refine Tr.same (w:=Go.Eng.nxtH now h w (o::l)) h1 fun a i _ hi=>?_;have hf:=zBk ho i hi;have kY:=ho.nl.2;simp only[fL,bV,and_or_left,or_assoc];refine or_congr dG (or_congr (and_congr dG ⟨fun x=>x.2,fun x=>⟨by omega,x⟩⟩) dG)
theorem Tr.nxtN{n:Nw}{now:LI}{S0:Nat->Nat->Prop}(ho:NwOk n)(h0:Tr n now S0):∀ k,k<=n.h.toNat->Tr n (nxtN n now k) (fun a i=>S0 a i\/a<k/\((zG4 n a n.h.toNat).any fun o=>hld n now o i)=true)
 |0,_=>Tr.same (w:=Go.Eng.nxtN n now 0) h0 fun a i _ _=>by simp
 | k + 1,hk=>by
  have ih:=Tr.nxtN ho h0 k (by omega);have e:Go.Eng.nxtN n now (k+1)=Go.Eng.nxtH now k (Go.Eng.nxtN n now k) (zG4 n k n.h.toNat):=by
   simp only[Go.Eng.nxtN,cw,cH,bZ,cM]
  rw[e];refine(Tr.nxtH ho h0 (by omega) _ (fun o hm=>bC.1 (bP.1 hm).1) ih).same fun a i _ _=>?_;constructor
  ·rintro((x|⟨x,y⟩)|⟨rfl,y⟩)
   ·exact .inl x
   ·exact .inr ⟨by omega,y⟩
   ·exact .inr ⟨by omega,y⟩
  ·rintro(x|⟨x,y⟩)
   ·exact .inl (.inl x)
   ·by_cases ea:a=k
    ·subst ea;exact .inr ⟨rfl,y⟩
    ·exact .inl (.inr ⟨by omega,y⟩)
theorem zUP{n:Nw}(ho:NwOk n){K:List (List Bool)}{w:LI}(h:RelK n K w):RelK n (zQr n K w) (zB8 n w):=by
 refine RelK.of_tr (by simp[zQr]) (fun r hr=>?_) ?_
 ·obtain⟨h,_,rfl⟩:=bT.1 hr;simp[zNH]
 ·refine(Tr.nxtN ho h.tr n.h.toNat (bi _)).same fun a i ha hi=>?_;rw[zXk ha hi,nxB,bV];exact or_congr dG ⟨fun x=>x.2,fun x=>⟨ha,x⟩⟩
end Go.Eng
set_option maxRecDepth 10000
set_option maxHeartbeats 4000000
namespace Go.Eng
open Go Go.Proofs
instance (n:Nw) (i j:Nat):Decidable (chn n i j):=inferInstanceAs (Decidable ((zAd n).getD i 0=(zAd n).getD j 0))
def zZk(n:Nw)(K:List (List Bool))(h i:Nat):Bool:=kn K h i && !((range n.n.length).any fun k=>decide (i<k)&&(decide (chn n k i)&&kn K h k))
theorem zZa{n:Nw}{K:List (List Bool)}{w:LI}{h i:Nat}(ho:NwOk n)(hr:RelK n K w)(hh:h<n.h.toNat)(hi:i<n.n.length):zZk n K h i=hld n w h i:=by
 unfold zZk;cases h1:kn K h i
 ·rw[zYe ho hr hh hi (.inl h1)];rfl
 ·cases h2:(range n.n.length).any fun k=>decide (i<k)&&(decide (chn n k i)&&kn K h k)
  ·rw[zZj ho hr hh hi h1 fun k hk hc hik=>?_]
   ·rfl
   ·have h3:=(cV.1 h2) k (bC.2 hk);simpa[hik,hc] using h3
  ·obtain⟨k,hk,h3⟩:=bN.1 h2;simp only[bb,decide_eq_true_eq] at h3;rw[zYe ho hr hh hi (.inr ⟨k,bC.1 hk,h3.2.1,h3.1,h3.2.2⟩)];rfl
end Go.Eng
set_option maxRecDepth 10000
set_option maxHeartbeats 4000000
namespace Go.Eng
open Go Go.Proofs
def zVs(n:Nw)(K:List (List Bool)):List (List Bool):=(range n.h.toNat).map fun h=>(range n.n.length).map fun i=>kn K h i||(zG4 n h n.h.toNat).any fun o=>zZk n K o i
theorem zUq{n:Nw}{K:List (List Bool)}{w:LI}(ho:NwOk n)(hr:RelK n K w):zVs n K=zQr n K w:=by
 unfold zVs zQr zNH nxB;refine dJ fun h _=>dJ fun i hi=>?_;congr 1;rw[cZ,bN,bN];refine exists_congr fun o=>and_congr_right fun hm=>?_;rw[zZa ho hr (bC.1 (bP.1 hm).1) (bC.1 hi)]
def zZd(n:Nw)(cs:LP):Nat->List (List Bool)
 |0=>zX7 n cs n.h.toNat|k+1=>zVs n (zZd n cs k)
theorem zTe{n:Nw}{cs:LP}(ho:CrW n cs):∀ k,RelK n (zZd n cs k) (zAD n cs k)
 |0=>zWY ho|k+1=>by
  have ih:=zTe ho k;show RelK n (zVs n (zZd n cs k)) (zB8 n (zAD n cs k))
  rw[zUq ho.nw ih];exact zUP ho.nw ih
end Go.Eng
set_option maxRecDepth 10000
set_option maxHeartbeats 4000000
namespace Go.Eng
open Go Go.Proofs
end Go.Eng
set_option maxRecDepth 10000
set_option maxHeartbeats 4000000
namespace Go.Eng
open Go Go.Proofs
end Go.Eng
namespace Go.Eng
open Go Go.Proofs
end Go.Eng
namespace Go.Eng
open Go Go.Proofs
theorem zWw{a b v:Int}:v<=max a b↔v<=a\/v<=b:=by omega
theorem zS6{now w:LI}{h o:Nat}(hw:w.length=80)(hh:h<10){j:Nat}{v:Int}:∀ k,k<=8->(v<=(nxtR now h o w k).getD j 0↔v<=w.getD j 0\/∃ c,c<k/\j=h*8+c/\v<=now.getD (o*8+c) 0)
 |0,_=>by
  refine⟨.inl,fun h=>h.elim id fun⟨c,h,_⟩=>absurd h (b8 c)⟩
 | k + 1,hk=>by
  have ih:=zS6 (now:=now) (o:=o) hw hh (j:=j) (v:=v) k (by omega);rw[zJK,zI5 (by rw[zHt,hw];omega)];split
  ·rename_i e;rw[zWw,ih];constructor
   ·rintro((h1|⟨c,h1,h2,h3⟩)|h1)
    ·exact .inl h1
    ·exact .inr ⟨c,by omega,h2,h3⟩
    ·exact .inr ⟨k,by omega,e.symm,h1⟩
   ·rintro(h1|⟨c,h1,h2,h3⟩)
    ·exact .inl (.inl h1)
    ·obtain rfl:c=k:=by omega
     exact .inr h3
  ·rename_i e;rw[ih];refine or_congr dG ⟨fun⟨c,h1,h2,h3⟩=>⟨c,by omega,h2,h3⟩,fun⟨c,h1,h2,h3⟩=>⟨c,?_,h2,h3⟩⟩;by_cases hc:c=k
   ·subst hc;exact absurd h2.symm e
   ·omega
theorem zR8{now:LI}{h:Nat}(hh:h<10){j:Nat}{v:Int}:∀ (l:LN) {w:LI},w.length=80->(v<=(nxtH now h w l).getD j 0↔v<=w.getD j 0\/∃ o∈l,∃ c,c<8/\j=h*8+c/\v<=now.getD (o*8+c) 0)
 |[],w,hw=>⟨.inl,fun h=>h.elim id fun⟨o,h,_⟩=>absurd h du⟩
 | o :: l,w,hw=>by
  have ih:=zR8 (now:=now) hh (j:=j) (v:=v) l (w:=nxtR now h o w 8) (by rw[zHt,hw]);show v<=(nxtH now h (nxtR now h o w 8) l).getD j 0↔_
  rw[ih,zS6 hw hh 8 (bi _)];constructor
  ·rintro((h1|h1)|⟨o2,h1,h2⟩)
   ·exact .inl h1
   ·exact .inr ⟨o,dT,h1⟩
   ·exact .inr ⟨o2,dg _ h1,h2⟩
  ·rintro(h1|⟨o2,h1,h2⟩)
   ·exact .inl (.inl h1)
   ·rcases bv.1 h1 with e|h3
    ·subst e;exact .inl (.inr h2)
    ·exact .inr ⟨o2,h3,h2⟩
theorem zOr{n:Nw}{now:LI}(hw:now.length=80){j:Nat}{v:Int}:∀ k,k<=10->(v<=(nxtN n now k).getD j 0↔v<=now.getD j 0\/∃ h,h<k/\∃ o∈zG4 n h n.h.toNat,∃ c,c<8/\j=h*8+c/\v<=now.getD (o*8+c) 0)
 |0,_=>⟨.inl,fun h=>h.elim id fun⟨c,h,_⟩=>absurd h (b8 c)⟩
 | k + 1,hk=>by
  have ih:=zOr (n:=n) hw (j:=j) (v:=v) k (by omega);rw[zKy,zR8 (by omega) _ (by rw[zI6,hw]),ih];constructor
  ·rintro((h1|⟨h,h1,h2⟩)|h2)
   ·exact .inl h1
   ·exact .inr ⟨h,by omega,h2⟩
   ·exact .inr ⟨k,by omega,h2⟩
  ·rintro(h1|⟨h,h1,h2⟩)
   ·exact .inl (.inl h1)
   ·by_cases e:h=k
    ·subst e;exact .inr h2
    ·exact .inl (.inr ⟨h,by omega,h2⟩)
theorem zDK{n:Nw}(ho:NwOk n){w:LI}(hw:w.length=80){h c:Nat}(hh:h<n.h.toNat)(hc:c<8){v:Int}:v<=(zB8 n w).getD (h*8+c) 0↔v<=w.getD (h*8+c) 0\/∃ o∈zG4 n h n.h.toNat,v<=w.getD (o*8+c) 0:=by
 have hH:=ho.h;unfold zB8;rw[zOr hw _ (by omega)];refine or_congr dG ⟨fun⟨h2,h3,o,h4,c2,h5,h6,h7⟩=>?_,fun⟨o,h1,h2⟩=>⟨h,hh,o,h1,c,hc,rfl,h2⟩⟩;obtain rfl:h2=h:=by omega
 obtain rfl:c2=c:=by omega
 exact⟨o,h4,h7⟩
theorem zTb{n:Nw}(ho:NwOk n){w:LI}(hw:w.length=80)(j:Nat):w.getD j 0<=(zB8 n w).getD j 0:=by
 have hH:=ho.h;unfold zB8;rw[zOr hw _ (by omega)];exact .inl (dj _)
theorem zUT{n:Nw}{cs:LP}(ho:NwOk n){e k:Nat}(j:Nat)(hek:e<=k):(zAD n cs e).getD j 0<=(zAD n cs k).getD j 0:=by
 induction hek with
 |refl=>exact dj _|step h ih=>exact Int.le_trans ih (zTb ho (zBr _) j)
end Go.Eng
set_option maxRecDepth 10000
set_option maxHeartbeats 4000000
namespace Go.Eng
open Go Go.Proofs
def zU6(n:Nw)(i:Nat):Bool:=decide ((zAA n).getD i 0=i) && !(n.n.getD i d0).2
def zEf(p:Nat->Bool)(k:Nat):LI:=((range k).filter p).map fun(i:Nat)=>(i:Int)
theorem zLn{p:Nat->Bool}{k:Nat}:zEf p (k+1)=if p k=true then zEf p k++[(k:Int)] else zEf p k:=by
 unfold zEf;rw[cw,db,cB];by_cases hn:p k=true
 ·rw[if_pos hn];simp[hn]
 ·rw[if_neg hn];simp[hn]
theorem zM2{p:Nat->Bool}{k:Nat}:(zEf p k).length<=k:=by
 unfold zEf;rw[be];exact bF (bU _ _) (by simp)
theorem f86_1(n:Nw)(ho:NwOk n):FG 86 [nwV n] (.tup [.own 1 ((zEf (zU6 n) n.n.length).map I),I 0]):=by
 have kY:=ho.nl;refine zAe Tryz.f86 ?_;refine zAj 3<|zAn 1<|S_a [(6,.ret (tup [(zBx n (own 2 []) (zDS (map pr2 n.l)) (zAd n) (zAA n)).box,I 0]) [])] (ap (f139_1 n (by omega)) an)<|S_g 5<|zAc<|zAj 2<|zAB<|zAh<|zAj 1<|zAc<|zAn 2<|S_a [(0,.n n.n.length)] (ap (lnS ntV n.n) an)<|S_g 1<|zAg 0 ?_
 refine zAu (fun(i,l)=>i<=n.n.length/\l=zEf (zU6 n) i) (fun(i,l)=>[(6,.own 1 (l.map I)),(20,I (i:Nat))]) (fun(i,_)=>n.n.length-i) ((0:Nat),([]:LI)) ⟨by omega,by simp[zEf]⟩ fun(i,l) ⟨hi,hl⟩=>?_;have gA:l.length<=i:=by rw[hl];exact zM2
 by_cases yH:i<n.n.length
 ·have yK:=zLn (p:=zU6 n) (k:=i);rw[<- hl] at yK;have jA:zU6 n i=false->l=zEf (zU6 n) (i+1):=fun h=>by rw[yK,if_neg (by rw[h];simp)]
  refine zAj 1<|zAc<|zAL ((i:Int)<(n.n.length:Int)) (by omega)<|zAh<|zAc<|zAg 1<|zAn 1<|S_a [(2,.v (agg [I (n.n.getD i d0).fst,bool (n.n.getD i d0).snd]))] (ap (zBN d0 (by omega):(map ntV n.n)[i]? = some (agg [I (n.n.getD i d0).fst,bool (n.n.getD i d0).snd])) an)<|S_g 4<|zAn 4<|S_a [(2,.ob),(1,.v (addr 4 [] 0 (14+i) none))] (ap ((by exact zAl (by omega)):decide (i<8)=true)<|ap ((zF2 (by kernel_rfl)):addr 4 [] 0 (14+i*(fun x=>x.size) Tryz.prog.types[3]) none=addr 4 [] 0 (14+i) none) an)<|S_a [(0,.cs true ([I ((zAA n).getD i 0)]))] (ap (zB2 (q:=(agg (I n.h::prs n.l::sl (map ntV n.n)::sl (map zBi n.s)::own 2 []::omap (map zDD (map pr2 n.l))::(zAY (zAd n) 8++zAY (zAA n) 8))).box) (xs:=[agg (I n.h::prs n.l::sl (map ntV n.n)::sl (map zBi n.s)::own 2 []::omap (map zDD (map pr2 n.l))::(zAY (zAd n) 8++zAY (zAA n) 8))]) (x:=agg (I n.h::prs n.l::sl (map ntV n.n)::sl (map zBi n.s)::own 2 []::omap (map zDD (map pr2 n.l))::(zAY (zAd n) 8++zAY (zAA n) 8))) rfl rfl (zKW (A:=I n.h::prs n.l::sl (map ntV n.n)::sl (map zBi n.s)::own 2 []::omap (map zDD (map pr2 n.l))::zAY (zAd n) 8) (B:=[]) (F:=zAA n) (m:=8) (j:=i) (by first|rfl|exact zB7 (by kernel_rfl)|exact zB6 (by kernel_rfl)|exact zDl (by kernel_rfl) (by kernel_rfl)|exact zC0 (by kernel_rfl)|exact zDr (by kernel_rfl) (by kernel_rfl)|exact zDg (by kernel_rfl)|(simp;done)) (by omega)):zAo 4 (agg (I n.h::prs n.l::sl (map ntV n.n)::sl (map zBi n.s)::own 2 []::omap (map zDD (map pr2 n.l))::(zAY (zAd n) 8++zAY (zAA n) 8))).box [] 0 (14+i) 1=some (true,[I ((zAA n).getD i 0)])) an)<|zAp 3<|zJ5 33 ((zAA n).getD i 0=(i:Int)) (fun k0=>(S_g 4<|zEE (!(n.n.getD i d0).snd) (fun k1=>(zAb<|zAp 3<|S_a [(4,.ob),(0,.ob),(0,.yes),(2,.v (own 1 (map I (l++[(i:Int)]))))] (ap (blz (map I l))<|ap ((by exact zAP (by simp only[be,zzLn,zAJ]<;>omega)):((map I l).length + [I (i:Int)].length).ble zAJ=true)<|ap ((by exact zBj (by simp<;>omega)):(0+(map I l).length).beq (map I l).length=true)<|ap ((zAQ (zBF (by kernel_rfl))):own 1 (map I l++[I (i:Int)])=own 1 (map I (l++[(i:Int)]))) an)<|S_g 1<|zAb<|S_i i<|S_g 1 ?_)) (fun k1=>(zAh<|zAb<|S_i i<|S_g 1 ?_)))) (fun k0=>(S_g 4<|zAB<|zAh<|zAb<|S_i i<|S_g 1 ?_))
  ·rw[if_pos (by simp only[zU6,decide_eq_true k0,k1];rfl)] at yK;exact rnd (i+1,l++[(i:Int)]) ⟨by omega,yK.symm⟩ (by simp only;omega)
  ·exact rnd (i+1,l) ⟨by omega,jA (by simp only[zU6,decide_eq_true k0,k1];rfl)⟩ (by simp only;omega)
  ·exact rnd (i+1,l) ⟨by omega,jA (by simp only[zU6,decide_eq_false k0,cX])⟩ (by simp only;omega)
 ·refine zAj 1<|zAc<|zAS ((i:Int)<(n.n.length:Int)) (by omega)<|zAG 0<|zAn 1<|S_a [(2,.yes)] (ap ((by exact zBj (by simp<;>omega)):(beq 0 0&&(map I l).length.beq (map I l).length)=true) an)<|S_g 1<|zAm<|E_a [(1,.yes),(1,.v (own 1 (map I l)))] (ap (blz (map I l))<|ap ((zAQ zAW):own 1 (take (map I l).length (drop 0 (map I l)))=own 1 (map I l)) an) (tup [own 1 (map I l),I 0]) [] ?_ rfl
  rw[hl,show i=n.n.length by omega]
def bkL(n:Nw)(cs:LP)(c:Nat)(x:Int):Nat->LI->LI
 |0,out=>out|k+1,out=>bkL n cs c x k (match(zG4 n (out.getD 0 0).toNat n.h.toNat).find? fun o=>decide ((zAD n cs k).getD (o*8+c) 0=x) with|some o=>(o:Int)::out|none=>out)
abbrev zVU(S:List LI):PV := .box (.own 80 (S.map hdV))
def zRs(n:Nw)(cs:LP)(k:Nat):List LI:=(range k).map fun k=>zAD n cs k
theorem zNC{n:Nw}{cs:LP}{k:Nat}:zRs n cs (k+1)=zRs n cs k++[zAD n cs k]:=by
 simp only[zRs,cw,cB,bM,d4]
theorem zLT{n:Nw}{cs:LP}{k j:Nat}(h:j<k):(zRs n cs k).getD j []=zAD n cs j:=by
 simp[zRs,bK,h]
theorem zW3(n:Nw)(cs:LP)(h:Int)(ho:NwOk n)(hh:0<=h/\h<n.h):zGr 169 [] [.ref (zE8 n cs),.ref (I h)] (zJQ n h.toNat n.h.toNat):=by
 obtain⟨g,rfl⟩:∃ g:Nat,h=g:=⟨h.toNat,by omega⟩;exact zVZ n cs g ho hh.2
theorem zLg{p:Nat->Bool}:∀ {l:LN} {j o:Nat},l[j]? = some o->p o=true->(∀ i,i<j->p (l.getD i 0)=false)->l.find? p=some o
 |[],j,o,h,_,_=>by cases h|x::l,0,o,h,hp,_=>by
  simp only[bJ,ba] at h;subst h;rw[List.find?_cons,hp]
 |x::l,j+1,o,h,hp,ha=>by
  have h0:=ha 0 (by omega);simp only[fa] at h0;rw[List.find?_cons,h0];exact zLg (by simpa using h) hp fun i hi=>by simpa using ha (i+1) (by omega)
theorem zQ0{p:Nat->Bool}{l:LN}(ha:∀ i,i<l.length->p (l.getD i 0)=false):l.find? p=none:=by
 rw[List.find?_eq_none];intro x hx;obtain⟨i,hi,rfl⟩:=dv hx;have:=ha i hi;rw[zAr hi] at this;simp[this]
theorem f38_1(n:Nw)(cs:LP)(h:Int)(x:Int)(k:Nat)(ho:CrOk n cs)(hh:0<=h/\h<n.h)(hx:0<=x/\x<n.n.length)(hk:k<=12)(jQ:(zAD n cs k).getD (h.toNat*8+((zAd n).getD x.toNat 0).toNat) 0=x)(hm:∀ j,j<k->(zAD n cs j).getD (h.toNat*8+((zAd n).getD x.toNat 0).toNat) 0≠x):FG 38 [nwV n,prs cs,I h,I x] (.tup [.own 1 ((bkL n cs ((zAd n).getD x.toNat 0).toNat x k [h]).map I),I 0]):=by
 have hn:=ho.nw;have jr:=ho.w;have hb:=hn.h;have kY:=hn.nl;have hin:inB x 0 (n.n.length-1)=true:=by simp only[inB,bb,decide_eq_true_eq];omega
 have hih:inB h 0 (n.h-1)=true:=by simp only[inB,bb,decide_eq_true_eq];omega
 have ww:=zBk hn x.toNat (by omega);refine zAe Tryz.f38 ?_;refine zAj 4<|zAn 2<|S_a [(8,.ret (tup [zE8 n cs,I 0]) [])] (ap (f99_1 n cs (by omega)) an)<|S_g 5<|zAc<|zAg 0<|zAj 3<|zAB<|zAn 2<|S_a [(8,.ret (bool (inB h 0 (n.h-1))) [])] (ap (f109 n h (by omega)) an)<|zAp 2<|zFD 32 (!inB h 0 (n.h-1)) (fun k1=>(S_g 6<|zB9<|zAj 2<|zAm<|E_a [] an (tup [own 1 [],I 1]) [] ?_ rfl)) (fun k1=>(zAp 2<|S_a [(8,.ret (bool (inB x 0 ((n.n.length:Int)-1))) [])] (ap (f106 n x (by first|omega|(simp<;>omega))) an)<|S_g 3<|zEE (!inB x 0 ((n.n.length:Int)-1)) (fun k2=>(zAj 2<|zAm<|E_a [] an (tup [own 1 [],I 1]) [] ?_ rfl)) (fun k2=>(zAh<|zAn 4<|S_a [(0,.ob),(1,.ob),(0,.v ((I ((zAd n).getD x.toNat 0)).ref))] (ap ((by exact zAl (by omega)):decide (0<=x)=true)<|ap ((by exact zAl (by omega)):decide (x.toNat<8)=true)<|ap (zDE (F:=zAd n) (m:=8) (j:=x.toNat) (by omega):zBT (agg (zAY (zAd n) 8)).ref (x.toNat*(fun x=>x.size) Tryz.prog.types[3]) none=some (I ((zAd n).getD x.toNat 0)).ref) an)<|S_g 3<|zAn 1<|S_a [(5,.ret (hdV (zIi n cs)) [])] (ap (f100 n cs (by omega)) an)<|S_g 3<|zAc<|zAg 1 ?_))))
 ·rw[hih] at k1;cases k1
 ·rw[hin] at k2;cases k2
 ·generalize hc:((zAd n).getD x.toNat 0)=c at *;refine zAu (fun(j,S)=>j<=k/\S=zRs n cs (j+1)) (fun(j,S)=>[(13,zVU S)]) (fun(j,_)=>k-j) ((0:Nat),[zIi n cs]) ⟨by omega,rfl⟩ fun(j,S) ⟨hj,hS⟩=>?_;have v8:S.length=j+1:=by rw[hS];simp[zRs]
  have gB:S.getD (S.length-1) []=zAD n cs j:=by rw[v8,hS];exact zLT (by omega)
  have wx:(S.getD (S.length-1) []).length=80:=by rw[gB];exact zBr j
  by_cases hjk:j<k
  ·have hI:=hm j hjk;rw[<- gB] at hI;have hSS:S++[zB8 n (S.getD (S.length-1) [])]=zRs n cs (j+1+1):=by rw[zNC (k:=j+1),<- hS,gB];rfl
   refine zAc<|zAc<|zAb<|S_a [(1,.v (bor 13 [(0,0)] 80 0 S.length))] (ap ((by simp):bor 13 [(0,0)] 80 0 (map hdV S).length=bor 13 [(0,0)] 80 0 S.length) an)<|S_a [(1,.v (bor 13 [(0,0)] 80 0 S.length))] (ap ((by simp):bor 13 [(0,0)] 80 0 (map hdV S).length=bor 13 [(0,0)] 80 0 S.length) an)<|zAp 1<|S_a [(1,.v (I (↑(S.length-1):Int)))] (ap ((zCj (by omega) (by omega)):I (IntKind.i64.wrap ((S.length:Int)-1))=I (↑(S.length-1):Int)) an)<|zAp 2<|S_a [(2,.ob),(1,.n (S.length-1))] (ap ((by exact zAl (by omega)):decide (S.length-1<S.length)=true)<|ap ((by simp):some (0+(S.length-1))=some (S.length-1)) an)<|S_a [(0,.ob),(1,.ob)] (ap ((by exact zAl (by omega)):decide (0<=h)=true)<|ap ((by exact zAl (by omega)):decide (h.toNat<10)=true) an)<|S_a [(0,.ob),(1,.ob)] (ap ((by exact zAl (by omega)):decide (0<=c)=true)<|ap ((by exact zAl (by omega)):decide (c.toNat<8)=true) an)<|S_a [(0,.cs true ([I ((S.getD (S.length-1) []).getD (h.toNat*8+c.toNat) 0)]))] (ap (zB2 (q:=own 80 (map hdV S)) (xs:=map hdV S) (x:=agg (zAY (S.getD (S.length-1) []) 80)) (zFV (xs:=[own 80 (map hdV S)]) (x:=own 80 (map hdV S)) (y:=own 80 (map hdV S)) rfl rfl) (zBN [] (by omega)) (zD5 (F:=S.getD (S.length-1) []) (m:=80) (j:=h.toNat*8+c.toNat) (by first|rfl|exact zB7 (by kernel_rfl)|exact zB6 (by kernel_rfl)|exact zDl (by kernel_rfl) (by kernel_rfl)|exact zC0 (by kernel_rfl)|exact zDr (by kernel_rfl) (by kernel_rfl)|exact zDg (by kernel_rfl)|(simp;done)) (by omega)):zAo 13 (own 80 (map hdV S)).box [(0,0)] (S.length-1) (0+h.toNat*(fun x=>x.size) Tryz.prog.types[128]+c.toNat*(fun x=>x.size) Tryz.prog.types[3]) 1=some (true,[I ((S.getD (S.length-1) []).getD (h.toNat*8+c.toNat) 0)])) an)<|S_g 2<|zIb ((S.getD (S.length-1) []).getD (h.toNat*8+c.toNat) 0=x) (by omega)<|zAh<|zAg 2<|zAc<|zAc<|zAb<|S_a [(1,.v (bor 13 [(0,0)] 80 0 S.length))] (ap ((by simp):bor 13 [(0,0)] 80 0 (map hdV S).length=bor 13 [(0,0)] 80 0 S.length) an)<|S_g 2<|zAS ((S.length:Int)>12) (by omega)<|zAh<|zAb<|S_a [(1,.v (bor 13 [(0,0)] 80 0 S.length))] (ap ((by simp):bor 13 [(0,0)] 80 0 (map hdV S).length=bor 13 [(0,0)] 80 0 S.length) an)<|zAp 1<|S_a [(1,.v (bor 13 [(0,0)] 80 0 S.length))] (ap ((by simp):bor 13 [(0,0)] 80 0 (map hdV S).length=bor 13 [(0,0)] 80 0 S.length) an)<|S_a [(1,.v (bor 13 [(0,0)] 80 0 S.length))] (ap ((by simp):bor 13 [(0,0)] 80 0 (map hdV S).length=bor 13 [(0,0)] 80 0 S.length) an)<|zAp 1<|S_a [(1,.v (I (↑(S.length-1):Int)))] (ap ((zCj (by omega) (by omega)):I (IntKind.i64.wrap ((S.length:Int)-1))=I (↑(S.length-1):Int)) an)<|S_a [(2,.ob),(1,.n (S.length-1))] (ap ((by exact zAl (by omega)):decide (S.length-1<S.length)=true)<|ap ((by simp):some (0+(S.length-1))=some (S.length-1)) an)<|S_a [(0,.cs true (zAY (S.getD (S.length-1) []) 80))] (ap (zB2 (q:=own 80 (map hdV S)) (xs:=map hdV S) (x:=agg (zAY (S.getD (S.length-1) []) 80)) (zFV (xs:=[own 80 (map hdV S)]) (x:=own 80 (map hdV S)) (y:=own 80 (map hdV S)) rfl rfl) (zBN [] (by omega)):zAo 13 (own 80 (map hdV S)).box [(0,0)] (S.length-1) 0 Tryz.prog.types[130].size=some (true,zAY (S.getD (S.length-1) []) 80)) an)<|S_a [(7,.ret (hdV (zB8 n (S.getD (S.length-1) []))) [])] (ap (f101 n cs (S.getD (S.length-1) []) (by omega) (by omega)) an)<|zAp 1<|S_a [(4,.ob),(0,.ob),(0,.yes),(2,.v (own 80 (map hdV (S++[zB8 n (S.getD (S.length-1) [])]))))] (ap ((by exact zAP (by simp only[be,zzLn,zAJ]<;>omega)):(0+S.length).ble (map hdV S).length=true)<|ap ((by exact zAP (by simp only[be,zzLn,zAJ]<;>omega)):((map hdV S).length + [agg (zAY (zB8 n (S.getD (S.length-1) [])) 80)].length).ble zAJ=true)<|ap ((by exact zBj (by simp<;>omega)):(0+S.length).beq (map hdV S).length=true)<|ap ((zAQ (zBF (by kernel_rfl))):own 80 (map hdV S++[agg (zAY (zB8 n (S.getD (S.length-1) [])) 80)])=own 80 (map hdV (S++[zB8 n (S.getD (S.length-1) [])]))) an)<|S_g 1 ?_
   exact rnd (j+1,S++[zB8 n (S.getD (S.length-1) [])]) ⟨by omega,hSS⟩ (by simp only;omega)
  ·have e:j=k:=by omega
   subst e;rw[<- gB] at jQ;refine zAc<|zAc<|zAb<|S_a [(1,.v (bor 13 [(0,0)] 80 0 S.length))] (ap ((by simp):bor 13 [(0,0)] 80 0 (map hdV S).length=bor 13 [(0,0)] 80 0 S.length) an)<|S_a [(1,.v (bor 13 [(0,0)] 80 0 S.length))] (ap ((by simp):bor 13 [(0,0)] 80 0 (map hdV S).length=bor 13 [(0,0)] 80 0 S.length) an)<|zAp 1<|S_a [(1,.v (I (↑(S.length-1):Int)))] (ap ((zCj (by omega) (by omega)):I (IntKind.i64.wrap ((S.length:Int)-1))=I (↑(S.length-1):Int)) an)<|zAp 2<|S_a [(2,.ob),(1,.n (S.length-1))] (ap ((by exact zAl (by omega)):decide (S.length-1<S.length)=true)<|ap ((by simp):some (0+(S.length-1))=some (S.length-1)) an)<|S_a [(0,.ob),(1,.ob)] (ap ((by exact zAl (by omega)):decide (0<=h)=true)<|ap ((by exact zAl (by omega)):decide (h.toNat<10)=true) an)<|S_a [(0,.ob),(1,.ob)] (ap ((by exact zAl (by omega)):decide (0<=c)=true)<|ap ((by exact zAl (by omega)):decide (c.toNat<8)=true) an)<|S_a [(0,.cs true ([I ((S.getD (S.length-1) []).getD (h.toNat*8+c.toNat) 0)]))] (ap (zB2 (q:=own 80 (map hdV S)) (xs:=map hdV S) (x:=agg (zAY (S.getD (S.length-1) []) 80)) (zFV (xs:=[own 80 (map hdV S)]) (x:=own 80 (map hdV S)) (y:=own 80 (map hdV S)) rfl rfl) (zBN [] (by omega)) (zD5 (F:=S.getD (S.length-1) []) (m:=80) (j:=h.toNat*8+c.toNat) (by first|rfl|exact zB7 (by kernel_rfl)|exact zB6 (by kernel_rfl)|exact zDl (by kernel_rfl) (by kernel_rfl)|exact zC0 (by kernel_rfl)|exact zDr (by kernel_rfl) (by kernel_rfl)|exact zDg (by kernel_rfl)|(simp;done)) (by omega)):zAo 13 (own 80 (map hdV S)).box [(0,0)] (S.length-1) (0+h.toNat*(fun x=>x.size) Tryz.prog.types[128]+c.toNat*(fun x=>x.size) Tryz.prog.types[3]) 1=some (true,[I ((S.getD (S.length-1) []).getD (h.toNat*8+c.toNat) 0)])) an)<|S_g 2<|zH6 ((S.getD (S.length-1) []).getD (h.toNat*8+c.toNat) 0=x) (by omega)<|zAG 1<|zAj 4<|zAc<|zAc<|zAb<|S_a [(1,.v (bor 13 [(0,0)] 80 0 S.length))] (ap ((by simp):bor 13 [(0,0)] 80 0 (map hdV S).length=bor 13 [(0,0)] 80 0 S.length) an)<|zAp 1<|S_a [(1,.v (I ((S.length:Int)-2)))] (ap ((zCj rfl (by omega)):I (IntKind.i64.wrap ((S.length:Int)-2))=I ((S.length:Int)-2)) an)<|S_g 2<|zAg 3 ?_
   have hS0:∀ r:Nat,r<S.length->(S.getD r []).length=80/\S.getD r []=zAD n cs r:=fun r hr=>by
    rw[hS,zLT (by omega)];exact⟨zBr r,rfl⟩
   have hSm:((S.length:Nat):Int)-2=(j:Int)-1:=by omega
   generalize yM:bkL n cs c.toNat x j [h]=fin;clear hS gB wx jQ hm;refine zAu (fun((m:Int),(out:LI))=>-1<=m/\m<j/\out.length<=20-m/\0<out.length/\(0<=out.getD 0 0/\out.getD 0 0<n.h)/\bkL n cs c.toNat x (m+1).toNat out=fin) (fun(m,out)=>[(14,.box (.own 1 (out.map I))),(15,.box (I m))]) (fun(m,_)=>(m+1).toNat) (((S.length:Nat):Int)-2,[h]) ⟨by omega,by omega,by simp only[b9,cN];omega,by simp,by simpa using hh,by rw[<- yM];congr 1;omega⟩ fun(m,out) ⟨hm1,vG,ho1,ho2,ho3,hbk⟩=>?_;by_cases LG:0<=m
   ·have hA:=zW3 n cs (out.getD 0 0) hn ho3;obtain⟨vJ,uH⟩:=hS0 m.toNat (by omega);rw[show(m+1).toNat=m.toNat+1 by omega,bkL,<- uH] at hbk;refine zAc<|zAj 2<|zAL (m>=0) (by omega)<|zAh<|zAc<|zAg 4<|zW8<|zAc<|zWW (zAn 1<|S_a [(1,.v (bor 14 [(0,0)] 1 0 out.length))] (ap ((by simp):bor 14 [(0,0)] 1 0 (map I out).length=bor 14 [(0,0)] 1 0 out.length) an)<|S_a [(2,.ob)] (ap ((by exact zAl (by omega)):decide (0<out.length)=true) an)<|S_a [(0,.cs false ([I (out.getD 0 0)]))] (ap (zB2 (q:=own 1 (map I out)) (xs:=map I out) (x:=I (out.getD 0 0)) (zFV (xs:=[own 1 (map I out)]) (x:=own 1 (map I out)) (y:=own 1 (map I out)) rfl rfl) (zBN (0) (by omega)):zAo 14 (own 1 (map I out)).box [(0,0)] 0 0 1=some (false,[I (out.getD 0 0)])) an)<|S_a [(7,.ret (func 169 [] [(zE8 n cs).ref,(I (out.getD 0 0)).ref]) [])] (ap (f116 n cs (out.getD 0 0)) an)<|zA6<|zAg 5 ?_)
    refine zQd (t:=86) hA (fun i (_:Unit)=>∀ r,r<i->decide ((S.getD m.toNat []).getD ((zG4 n (out.getD 0 0).toNat n.h.toNat).getD r 0*8+c.toNat) 0=x)=false) (fun _=>[]) () (fun r hr=>absurd hr (b8 r)) (fun i y _ hy hi=>?_) (fun _ hi=>?_)
    ·rw[ce] at hy;obtain⟨o,hmo,rfl⟩:=bm.1 hy;have qS:o<n.h.toNat:=zH7 (bG hmo);refine zPW ?_;refine zAb<|S_g 1 ?_
     have j6:(zG4 n (out.getD 0 0).toNat n.h.toNat).getD i 0=o:=by rw[bK,hmo];rfl
     refine⟨rfl,by kernel_rfl,?_⟩;refine zAg 6<|zAc<|zAb<|S_a [(1,.v (bor 13 [(0,0)] 80 0 S.length))] (ap ((by simp):bor 13 [(0,0)] 80 0 (map hdV S).length=bor 13 [(0,0)] 80 0 S.length) an)<|zAp 3<|S_a [(0,.ob),(1,.ob),(1,.n m.toNat)] (ap ((by exact zAl (by omega)):decide (0<=m)=true)<|ap ((by exact zAl (by omega)):decide (m.toNat<S.length)=true)<|ap ((by simp):some (0+m.toNat)=some m.toNat) an)<|S_a [(2,.ob)] (ap ((by exact zAl (by omega)):decide (o<10)=true) an)<|S_a [(0,.ob),(1,.ob)] (ap ((by exact zAl (by omega)):decide (0<=c)=true)<|ap ((by exact zAl (by omega)):decide (c.toNat<8)=true) an)<|S_a [(0,.cs true ([I ((S.getD m.toNat []).getD (o*8+c.toNat) 0)]))] (ap (zB2 (q:=own 80 (map hdV S)) (xs:=map hdV S) (x:=agg (zAY (S.getD m.toNat []) 80)) (zFV (xs:=[own 80 (map hdV S)]) (x:=own 80 (map hdV S)) (y:=own 80 (map hdV S)) rfl rfl) (zBN [] (by omega)) (zD5 (F:=S.getD m.toNat []) (m:=80) (j:=o*8+c.toNat) (by first|rfl|exact zB7 (by kernel_rfl)|exact zB6 (by kernel_rfl)|exact zDl (by kernel_rfl) (by kernel_rfl)|exact zC0 (by kernel_rfl)|exact zDr (by kernel_rfl) (by kernel_rfl)|exact zDg (by kernel_rfl)|(simp;done)) (by omega)):zAo 13 (own 80 (map hdV S)).box [(0,0)] m.toNat (0+(o:Int).toNat*(fun x=>x.size) Tryz.prog.types[128]+c.toNat*(fun x=>x.size) Tryz.prog.types[3]) 1=some (true,[I ((S.getD m.toNat []).getD (o*8+c.toNat) 0)])) an)<|S_g 2<|zC4 ((S.getD m.toNat []).getD (o*8+c.toNat) 0=x) (fun k2=>(zAn 2<|S_a [(1,.v (bor 14 [(0,0)] 1 0 out.length))] (ap ((by simp):bor 14 [(0,0)] 1 0 (map I out).length=bor 14 [(0,0)] 1 0 out.length) an)<|S_a [(1,.ob),(0,.vs (map I out)),(0,.ob),(0,.ob),(0,.ob),(3,.ob)] (ap ((by exact zAP (by simp only[be,zzLn,zAJ]<;>omega)):(0+out.length).ble (map I out).length=true)<|ap ((by simp[zBd]):take out.length (drop 0 (map I out))=map I out)<|ap ((by exact all_map _):((map I out).all fun x=>x.plain)=true)<|ap ((by exact all_map _):((map I out).all fun y=>y.cells.length.beq ((fun x=>x.size) Tryz.prog.types[3])&&y.cells.all fun q=>q.oneCell)=true)<|ap ((by exact d6.2 (zJ6 _)):(zBE (map I out)).isEmpty=true)<|ap ((by exact zAP (by simp only[be,zzLn,zAJ]<;>omega)):([I (o:Int)].length+(map I out).length).ble zAJ=true) an)<|S_g 1<|zAG 5 ?_)) (fun k2=>(zAh ?_))
     ·rw[zLg hmo (decide_eq_true (by assumption)) hi] at hbk;clear hi hmo hA;refine⟨by kernel_rfl,?_⟩;refine zAc<|zAj 1<|zAb<|S_g 2<|zAb<|zAp 1<|S_a [(1,.v (I (m-1)))] (ap ((zCj rfl (by omega)):I (IntKind.i64.wrap (m-1))=I (m-1)) an)<|S_g 1 ?_
      exact rnd (m-1,(o:Int)::out) ⟨by omega,by omega,by simp only[b9];omega,by simp,by simp only[fa];omega,by rw[show(m-1+1).toNat=m.toNat by omega];exact hbk⟩ (by simp only;omega)
     ·refine⟨by kernel_rfl,(),fun r hr=>?_,by kernel_rfl⟩;rcases bE.1 hr with h|rfl
      ·exact hi r h
      ·rw[j6];exact decide_eq_false (by assumption)
    ·rw[zQ0 (by simpa using hi)] at hbk;clear hi hA;show W _ _ _ _ _ _ _ _
     refine zAc<|zAj 1<|zAb<|S_g 2<|zAb<|zAp 1<|S_a [(1,.v (I (m-1)))] (ap ((zCj rfl (by omega)):I (IntKind.i64.wrap (m-1))=I (m-1)) an)<|S_g 1 ?_
     exact rnd (m-1,out) ⟨by omega,by omega,by omega,ho2,ho3,by rw[show(m-1+1).toNat=m.toNat by omega];exact hbk⟩ (by simp only;omega)
   ·have hm3:(m+1).toNat=0:=by omega
    rw[hm3,bkL] at hbk;rw[<- hbk];refine zAc<|zAj 2<|zAS (m>=0) (by omega)<|zAG 3<|zAc<|zAb<|S_a [(1,.v (bor 14 [(0,0)] 1 0 out.length))] (ap ((by simp):bor 14 [(0,0)] 1 0 (map I out).length=bor 14 [(0,0)] 1 0 out.length) an)<|S_a [(2,.yes)] (ap ((by exact zBj (by simp<;>omega)):(beq 0 0&&out.length.beq (map I out).length)=true) an)<|S_g 1<|zAm<|E_z [(1,.yes),(1,.v (own 1 (map I out)))] (ap (blz (map I out))<|ap ((zAQ zAW):own 1 (take (map I out).length (drop 0 (map I out)))=own 1 (map I out)) an)
end Go.Eng
namespace Go.Eng
open Go Go.Proofs
theorem zTz{p:Nat->Bool}{k:Nat}{x:Int}:x∈zEf p k↔∃ i:Nat,i<k/\p i=true/\x=i:=by
 simp only[zEf,bT,bP,bC];exact⟨fun⟨i,⟨h1,h2⟩,h3⟩=>⟨i,h1,h2,h3.symm⟩,fun⟨i,h1,h2,h3⟩=>⟨i,⟨h1,h2⟩,h3.symm⟩⟩
end Go.Eng
set_option maxRecDepth 10000
set_option maxHeartbeats 4000000
namespace Go.Eng
open Go Go.Proofs
theorem zPZ{n:Nw}{cs:LP}{c:Int×Int}(h:CrW n cs)(hl:cs.length<1000)(hc:(0<=c.1/\c.1<n.n.length)/\(0<=c.2/\c.2<n.s.length)):CrW n (cs++[c]) :=
 ⟨h.nw,by simp;omega,fun x hx=>by
  rcases bg.1 hx with h1|h1
  ·exact h.cs x h1
  ·rw[bl] at h1;subst h1;exact hc⟩
theorem f171(n:Nw)(cs:LP)(c:Int×Int)(hl:cs.length<=16):FG 171 [zE8 n cs,prV c] (.box (zBx n (.own 2 ((cs++[c]).map prV)) (mapM (n.l.map pr2)) (zAd n) (zAA n))):=by
 rcases cs with _|⟨x0,_|⟨x1,_|⟨x2,_|⟨x3,_|⟨x4,_|⟨x5,_|⟨x6,_|⟨x7,_|⟨x8,_|⟨x9,_|⟨x10,_|⟨x11,_|⟨x12,_|⟨x13,_|⟨x14,_|⟨x15,_|⟨x16,cs⟩⟩⟩⟩⟩⟩⟩⟩⟩⟩⟩⟩⟩⟩⟩⟩⟩
 case cons.cons.cons.cons.cons.cons.cons.cons.cons.cons.cons.cons.cons.cons.cons.cons.cons=>simp only[b9] at hl;omega
 all_goals
  refine zAe Tryz.f171 ?_;exact zAc (zAb (zAp 2 (zA6 (zAc (zAb (zAp 5 (zA6 (zAc (zAb (zAp 4 (zAp 1 (zAp 4 (zAp 1 (zAp 1 (zAp 3 (zA6 (zAc (zAb (zAp 1 (zAp 1 (zAp 4 (zAp 1 (zA6 (zAc (zAb (zAp 1 (zAp 1 (zAp 5 (zA6 (zAc (zAb (zAp 1 (zA6 (zAm (E_0)))))))))))))))))))))))))))))))))))
def zVM(n:Nw)(w:LI)(g:Int×Int):Bool:=decide (w.getD (g.1.toNat*8+((zAd n).getD g.2.toNat 0).toNat) 0≠g.2)
def zFb(n:Nw)(w:LI)(l:LP):LP:=l.filter (zVM n w)
theorem zUY{n:Nw}{w:LI}{l:LP}{i:Nat}(hi:i<l.length):zFb n w (l.take (i+1))=if zVM n w (l.getD i d0)=true then zFb n w (l.take i)++[l.getD i d0] else zFb n w (l.take i):=by
 unfold zFb;rw[zBI (d:=d0) hi,db];split
 ·rw[fc (by assumption)];rfl
 ·rw[cG (by assumption)];simp
theorem f119(n:Nw)(cs l:LP)(e:Int)(c:Int×Int)(ho:CrW n cs)(hl:cs.length<=16)(he:0<=e/\e<=1000)(gA:l.length<=1000)(hm:∀ g∈l,(0<=g.1/\g.1<n.h)/\(0<=g.2/\g.2<n.n.length))(hc:(0<=c.1/\c.1<n.n.length)/\(0<=c.2/\c.2<n.s.length)):FG 119 [zE8 n cs,prs l,I e,prV c] (.own 2 ((zFb n (zAD n (cs++[c]) e.toNat) l).map prV)):=by
 have hw:=zPZ ho (by omega) hc;have hb:=ho.nw.h;have hn:=ho.nw;have kY:=hn.nl;have wx:=zBr (n:=n) (cs:=cs++[c]) e.toNat;have ha:=f92 n (cs++[c]) e hw he;generalize zAD n (cs++[c]) e.toNat=w at *;refine zAe Tryz.f119 ?_;refine zAj 2<|zAn 2<|S_a [(7,.ret ((zBx n (own 2 (map prV (cs++[c]))) (mapM (map pr2 n.l)) (zAd n) (zAA n)).box) [])] (ap (f171 n cs c (by omega)) an)<|zAp 1<|S_a [(7,.v (agg (I n.h::prs n.l::sl (map ntV n.n)::sl (map zBi n.s)::prs (cs++[c])::PV.map (map zDD (map pr2 n.l))::(zAY (zAd n) 8++zAY (zAA n) 8)))),(4,.ret (hdV w) [])] (ap ((by simp only[show zAt (map prV (cs++[c]))=map prV (cs++[c]) from(by first|exact zAq _|exact zAw _|exact zAv _|exact zAO (zAw _)|exact zAO (zAv _)|exact zBL (by simp[zBd]) (zAq _))]):agg (I n.h::prs n.l::sl (map ntV n.n)::sl (map zBi n.s)::sl (zAt (map prV (cs++[c])))::PV.map (map zDD (map pr2 n.l))::(zAY (zAd n) 8++zAY (zAA n) 8))=agg (I n.h::prs n.l::sl (map ntV n.n)::sl (map zBi n.s)::prs (cs++[c])::PV.map (map zDD (map pr2 n.l))::(zAY (zAd n) 8++zAY (zAA n) 8)))<|ap ha an)<|S_g 2<|zAj 1<|zAc<|zAn 1<|S_a [(0,.n l.length)] (ap (lnS prV l) an)<|S_g 1<|zAg 0 ?_
 refine zAu (fun(i,q)=>i<=l.length/\q=zFb n w (l.take i)) (fun(i,q)=>[(10,.own 2 (q.map prV)),(20,I (i:Nat))]) (fun(i,_)=>l.length-i) ((0:Nat),([]:LP)) ⟨by omega,by simp[zFb]⟩ fun(i,q) ⟨hi,hq⟩=>?_;have wB:q.length<=i:=by
  rw[hq,zFb];exact bF (bU _ _) (by rw[bY];omega)
 by_cases yH:i<l.length
 ·have yK:=zUY (n:=n) (w:=w) yH;rw[<- hq] at yK;obtain⟨jh,u6⟩:=zBP (d:=d0) hm i yH;have ww:=zBk hn (l.getD i d0).2.toNat (by omega);clear hm ha hq;refine zAj 1<|zAc<|zAL ((i:Int)<(l.length:Int)) (by omega)<|zAh<|zAc<|zAg 1<|zAc<|zAb<|S_a [(2,.v (prV (l.getD i d0)))] (ap (zBN d0 (by omega):(map prV l)[i]? = some (prV (l.getD i d0))) an)<|S_g 3<|zAn 7<|S_a [(0,.ob),(1,.ob),(0,.v ((I ((zAd n).getD (l.getD i d0).snd.toNat 0)).ref))] (ap ((by exact zAl (by omega)):decide (0<=(l.getD i d0).snd)=true)<|ap ((by exact zAl (by omega)):decide ((l.getD i d0).snd.toNat<8)=true)<|ap (zDE (F:=zAd n) (m:=8) (j:=(l.getD i d0).snd.toNat) (by omega):zBT (agg (zAY (zAd n) 8)).ref ((l.getD i d0).snd.toNat*(fun x=>x.size) Tryz.prog.types[3]) none=some (I ((zAd n).getD (l.getD i d0).snd.toNat 0)).ref) an)<|zAp 1<|S_a [(0,.ob),(1,.ob)] (ap ((by exact zAl (by omega)):decide (0<=(l.getD i d0).fst)=true)<|ap ((by exact zAl (by omega)):decide ((l.getD i d0).fst.toNat<10)=true) an)<|S_a [(0,.ob),(1,.ob)] (ap ((by exact zAl (by omega)):decide (0<=(zAd n).getD (l.getD i d0).snd.toNat 0)=true)<|ap ((by exact zAl (by omega)):decide (((zAd n).getD (l.getD i d0).snd.toNat 0).toNat<8)=true) an)<|S_a [(0,.cs true ([I (w.getD ((l.getD i d0).fst.toNat*8+((zAd n).getD (l.getD i d0).snd.toNat 0).toNat) 0)]))] (ap (zB2 (q:=(agg (zAY w 80)).box) (xs:=[agg (zAY w 80)]) (x:=agg (zAY w 80)) rfl rfl (zD5 (F:=w) (m:=80) (j:=(l.getD i d0).fst.toNat*8+((zAd n).getD (l.getD i d0).snd.toNat 0).toNat) (by first|rfl|exact zB7 (by kernel_rfl)|exact zB6 (by kernel_rfl)|exact zDl (by kernel_rfl) (by kernel_rfl)|exact zC0 (by kernel_rfl)|exact zDr (by kernel_rfl) (by kernel_rfl)|exact zDg (by kernel_rfl)|(simp;done)) (by omega)):zAo 9 (agg (zAY w 80)).box [] 0 (0+(l.getD i d0).fst.toNat*(fun x=>x.size) Tryz.prog.types[128]+((zAd n).getD (l.getD i d0).snd.toNat 0).toNat*(fun x=>x.size) Tryz.prog.types[3]) 1=some (true,[I (w.getD ((l.getD i d0).fst.toNat*8+((zAd n).getD (l.getD i d0).snd.toNat 0).toNat) 0)])) an)<|S_g 3<|zDZ (w.getD ((l.getD i d0).fst.toNat*8+((zAd n).getD (l.getD i d0).snd.toNat 0).toNat) 0=(l.getD i d0).snd) (fun k0=>(zAb<|zAp 3<|S_a [(4,.ob),(0,.ob),(0,.yes),(2,.v (own 2 (map prV (q++[l.getD i d0]))))] (ap (blz (map prV q))<|ap ((by exact zAP (by simp only[be,zzLn,zAJ]<;>omega)):((map prV q).length + [prV (l.getD i d0)].length).ble zAJ=true)<|ap ((by exact zBj (by simp<;>omega)):(0+(map prV q).length).beq (map prV q).length=true)<|ap ((zAQ (zBF (by kernel_rfl))):own 2 (map prV q++[prV (l.getD i d0)])=own 2 (map prV (q++[l.getD i d0]))) an)<|S_g 1<|zAb<|S_i i<|S_g 1 ?_)) (fun k0=>(zAh<|zAb<|S_i i<|S_g 1 ?_))
  ·have hb:zVM n w (l.getD i d0)=true:=by simp only[zVM,decide_eq_true_eq];exact k0
   rw[if_pos hb] at yK;exact rnd (i+1,q++[l.getD i d0]) ⟨by omega,yK.symm⟩ (by simp only;omega)
  ·have hb:zVM n w (l.getD i d0)=false:=by simp only[zVM,decide_eq_false_iff_not];exact fun h=>h k0
   rw[if_neg (by rw[hb];simp)] at yK;exact rnd (i+1,q) ⟨by omega,yK.symm⟩ (by simp only;omega)
 ·refine zAj 1<|zAc<|zAS ((i:Int)<(l.length:Int)) (by omega)<|zAG 0<|zAn 1<|S_a [(2,.yes)] (ap ((by exact zBj (by simp<;>omega)):(beq 0 0&&(map prV q).length.beq (map prV q).length)=true) an)<|zA6<|zAm<|E_a [(1,.yes),(1,.v (own 2 (map prV q)))] (ap (blz (map prV q))<|ap ((zAQ zAW):own 2 (take (map prV q).length (drop 0 (map prV q)))=own 2 (map prV q)) an) (own 2 (map prV q)) [] ?_ rfl
  rw[bz (by omega)] at hq;rw[hq]
end Go.Eng
set_option maxRecDepth 10000
set_option maxHeartbeats 4000000
namespace Go.Eng
open Go Go.Proofs
theorem zLG{α:Type}(φ:α->Bool)(l:List α):(zDI φ l = -1->l.filter (fun x=>!φ x)=l)/\(zDI φ l≠-1->∃ i:Nat,zDI φ l=i/\i<l.length/\l.take i=(l.take (i+1)).filter (fun x=>!φ x)):=by
 constructor
 ·intro h;have:l.any φ=false:=by rw[<- zDA,h];rfl
  rw[f6];intro x hx;rw[cV] at this;simpa using this x hx
 ·intro h;unfold zDI at h ⊢;split
  ·rename_i yL;refine⟨_,rfl,yL,?_⟩;have hp:=fw (w:=yL);rw[fo,bk yL,db];simp only[Option.toList,fp,hp,dy,bp,if_false,fW,dn];symm;rw[f6];intro x hx;obtain⟨j,hj,rfl⟩:=io.1 hx;have:=List.not_of_lt_findIdx (show j<l.findIdx φ by omega);simpa using this
  ·rename_i hn;rw[if_neg hn] at h;exact absurd rfl h
theorem zFl{α:Type}{S:List α}{p:Nat}{x:α}(h:p<S.length):(S.set p x).take (p+1)=S.take p++[x]:=by
 rw[zBI (d:=x) (by simpa using h),List.take_set_of_le (bi p)];simp[bK,h]
theorem zG7{α:Type}{S:List α}{i j:Nat}{x d:α}(h:i≠j):(S.set i x).getD j d=S.getD j d:=by
 simp[bK,dV,h]
theorem zGY{α:Type}(p:α->Bool)(l:List α)(j:Nat)(d:α)(h:j<l.length):(l.take (j+1)).filter p=if p (l.getD j d)=true then(l.take j).filter p++[l.getD j d] else(l.take j).filter p:=by
 rw[zBI (d:=d) h,db];split
 ·rw[fc (by assumption)];rfl
 ·rw[cG (by assumption)];simp
theorem f189(n:Nw)(cs:LP)(f:Int)(ho:NwOk n)(g:Int×Int)(hg:0<=g.2/\g.2<n.n.length):FG 189 [prV g,.ref (zE8 n cs),.ref (I f)] (.bool (decide ((zAd n).getD g.2.toNat 0≠f))):=by
 have kY:=ho.nl;refine zAe Tryz.f189 ?_;refine zAj 2<|zAn 5<|S_a [(0,.ob),(1,.ob),(0,.v ((I ((zAd n).getD g.snd.toNat 0)).ref))] (ap ((by exact zAl (by omega)):decide (0<=g.snd)=true)<|ap ((by exact zAl (by omega)):decide (g.snd.toNat<8)=true)<|ap (zDE (F:=zAd n) (m:=8) (j:=g.snd.toNat) (by omega):zBT (agg (zAY (zAd n) 8)).ref (g.snd.toNat*(fun x=>x.size) Tryz.prog.types[3]) none=some (I ((zAd n).getD g.snd.toNat 0)).ref) an)<|S_g 4<|zAm<|E_a [] an (bool ((zAd n).getD g.snd.toNat 0 != f)) [] ?_ rfl
 congr 1;rw[cZ];simp
theorem f174_1(n:Nw)(cs:LP)(f:Int)(ho:NwOk n)(l:LP)(hl:l.length<4294967296)(hr:∀ x∈l,(fun z:Int×Int=>0<=z.2/\z.2<n.n.length) x):FG 174 [.sl (l.map prV),.func 189 [] [.ref (zE8 n cs),.ref (I f)]] (I (zDI (fun x=>decide ((zAd n).getD x.2.toNat 0≠f)) l)):=by
 refine zAe Tryz.f174 ?_;refine zAj 1<|zAc<|zAn 1<|S_a [(0,.n l.length)] (ap (lnS prV l) an)<|S_g 1<|zAg 0 ?_
 refine zAu (fun i=>i<=l.length/\∀ j,j<i->(fun x=>decide ((zAd n).getD x.2.toNat 0≠f)) (l.getD j d0)=false) (fun i=>[(8,I (i:Nat))]) (fun i=>l.length-i) (0:Nat) (by simp) fun i ⟨hi,ha⟩=>?_;by_cases yH:i<l.length
 ·have ud:=zBP (d:=d0) hr i yH;refine zAj 1<|zAc<|zAL ((i:Int)<(l.length:Int)) (by omega)<|zAh<|zAc<|zAg 1<|zAj 2<|zAn 3<|S_a [(2,.v (prV (l.getD i d0)))] (ap (zBN d0 (by omega):(map prV l)[i]? = some (prV (l.getD i d0))) an)<|zAp 1<|S_a [(8,.ret (bool (decide ((zAd n).getD (l.getD i d0).snd.toNat 0≠f))) [])] (ap (f189 n cs f (by omega) (l.getD i d0) (by omega)) an)<|zA6<|zC4 ((zAd n).getD (l.getD i d0).snd.toNat 0≠f) (fun k0=>(zAj 2<|zAm<|E_a [] an (I (i:Int)) [] ?_ rfl)) (fun k0=>(zAh<|zAb<|S_i i<|S_g 1 ?_))
  ·rw[zBK (i:=i) yH (fun j hj=>by rw[<- zAr (d:=d0)];exact ha j hj) (by rw[<- zAr (d:=d0)];first|assumption|exact decide_eq_true ‹_›)]
  ·refine⟨i+1,⟨by omega,fun j hj=>?_⟩,by omega,by kernel_rfl,by kernel_rfl⟩;rcases bE.1 hj with h|rfl
   ·exact ha j h
   ·first|assumption|exact decide_eq_false ‹_›|(simp only[bB,decide_eq_true_eq];assumption)
 ·refine zAj 1<|zAc<|zAS ((i:Int)<(l.length:Int)) (by omega)<|zAG 0<|zAj 1<|zAm<|E_a [] an (I (-1)) [] ?_ rfl
  rw[zBV fun j hj=>by rw[<- zAr (d:=d0)];exact ha j (by omega)]
theorem f122_1(n:Nw)(cs:LP)(f:Int)(ho:NwOk n)(l:LP)(hl:l.length<4294967296)(hr:∀ x∈l,(fun z:Int×Int=>0<=z.2/\z.2<n.n.length) x):FG 122 [.own 2 (l.map prV),.func 189 [] [.ref (zE8 n cs),.ref (I f)]] (.own 2 ((l.filter fun x=>!(decide ((zAd n).getD x.2.toNat 0≠f))).map prV)):=by
 have h1:=zLG (fun x=>decide ((zAd n).getD x.2.toNat 0≠f)) l;have y4:=f174_1 n cs f ho l hl hr;by_cases hm:zDI (fun x=>decide ((zAd n).getD x.2.toNat 0≠f)) l = -1
 ·rw[hm] at y4;rw[h1.1 hm];refine zAe Tryz.f122 ?_;refine zAj 1<|zAn 2<|S_a [(3,.ob),(0,.v (prs l)),(3,.ret (I (-1)) [])] (ap (blz (map prV l))<|ap (frT prV l)<|ap y4 an)<|S_g 1<|zAc<|zAj 2<|zB9<|zAn 1<|S_a [(2,.yes)] (ap ((by exact zBj (by simp<;>omega)):(beq 0 0&&(map prV l).length.beq (map prV l).length)=true) an)<|zA6<|zAm<|E_z [(1,.yes),(1,.v (own 2 (map prV l)))] (ap (blz (map prV l))<|ap ((zAQ zAW):own 2 (take (map prV l).length (drop 0 (map prV l)))=own 2 (map prV l)) an)
 ·obtain⟨i0,jY,hil0,qn⟩:=h1.2 hm;rw[jY] at y4;clear h1 hm;refine zAe Tryz.f122 ?_;refine zAj 1<|zAn 2<|S_a [(3,.ob),(0,.v (prs l)),(3,.ret (I (i0:Int)) [])] (ap (blz (map prV l))<|ap (frT prV l)<|ap y4 an)<|S_g 1<|zAc<|zAj 2<|zAB<|zAh<|zAc<|zAn 1<|S_i i0<|S_g 1<|zAg 0 ?_
  refine zAu (fun(i,j,S)=>j<=l.length/\i<j/\S.length=l.length/\S.take i=(l.take j).filter (fun x=>!(decide ((zAd n).getD x.2.toNat 0≠f)))/\∀ r,j<=r->S.getD r d0=l.getD r d0) (fun(i,j,S)=>[(0,.own 2 (S.map prV)),(5,I (i:Nat)),(6,I (j:Nat))]) (fun(_,j,_)=>l.length-j) (i0,i0+1,l) ⟨by omega,by omega,rfl,qn,fun _ _=>rfl⟩ fun(i,j,S) ⟨hj,wu,hS,ht,hd⟩=>?_;by_cases y5:j<l.length
  ·have ud:=zBP (d:=d0) hr j y5;have hx:=hd j (bi j);have yC:=zGY (fun x=>!(decide ((zAd n).getD x.2.toNat 0≠f))) l j d0 y5;rw[<- hx] at yC ud;clear y4;have vp:=hd;clear hd hx;refine zAc<|zAn 2<|S_a [(0,.n S.length)] (ap (lnS prV S) an)<|S_g 1<|zAL ((j:Int)<(S.length:Int)) (by omega)<|zAh<|zAc<|zAg 1<|zAn 2<|S_a [(2,.ob),(1,.n j)] (ap ((by exact zAl (by simp only[be,zzLn]<;>omega)):decide (j<(map prV S).length)=true)<|ap ((by simp):some (0+j)=some j) an)<|S_a [(0,.cs true ([I (S.getD j d0).fst,I (S.getD j d0).snd]))] (ap (zB2 (q:=own 2 (map prV S)) (xs:=map prV S) (x:=prV (S.getD j d0)) rfl (zBN d0 (by omega)):zAo 0 (own 2 (map prV S)) [] j 0 Tryz.prog.types[108].size=some (true,[I (S.getD j d0).fst,I (S.getD j d0).snd])) an)<|S_g 2<|zAn 2<|S_a [(8,.ret (bool (decide ((zAd n).getD (S.getD j d0).snd.toNat 0≠f))) [])] (ap (f189 n cs f (by omega) (S.getD j d0) (by omega)) an)<|S_g 1<|zDZ ((zAd n).getD (S.getD j d0).snd.toNat 0≠f) (fun k0=>(zAn 3<|S_a [(2,.ob),(1,.n i)] (ap ((by exact zAl (by simp only[be,zzLn]<;>omega)):decide (i<(map prV S).length)=true)<|ap ((by simp):some (0+i)=some i) an)<|S_a [(8,.root (own 2 (map prV (S.set i (S.getD j d0)))) true)] (ap (zNy (zBN d0 (by omega)) zFm:zBO (own 2 (map prV S)) [] i 0 (prV (S.getD j d0)).cells=some (own 2 (map prV (S.set i (S.getD j d0))))/\zAH (own 2 (map prV S)) (own 2 (map prV (S.set i (S.getD j d0)))) []=true) an)<|zA6<|zAb<|zAp 1<|S_i i<|S_g 1<|zAb<|zAp 1<|S_i j<|S_g 1 ?_)) (fun k0=>(zAh<|zAb<|zAp 1<|S_i j<|S_g 1 ?_))
   ·have hb:((fun x=>!(decide ((zAd n).getD x.2.toNat 0≠f))) (S.getD j d0))=true:=by first|assumption|(simp only[bD,decide_eq_false_iff_not];assumption)
    rw[if_pos hb] at yC;refine⟨(i+1,j+1,S.set i (S.getD j d0)),⟨by omega,by omega,by simpa using hS,?_,fun r uF=>?_⟩,by simp only;omega,by kernel_rfl,by kernel_rfl⟩
    ·rw[yC,<- ht,zFl (by omega)]
    ·rw[zG7 (by omega)];exact vp r (by omega)
   ·have hb:((fun x=>!(decide ((zAd n).getD x.2.toNat 0≠f))) (S.getD j d0))=false:=by first|assumption|(simp only[bB,decide_eq_true_eq];assumption)
    rw[if_neg (fun h=>Bool.noConfusion (hb.symm.trans h))] at yC;exact rnd (i,j+1,S) ⟨by omega,by omega,hS,by rw[yC,ht],fun r uF=>vp r (by omega)⟩ (by simp only;omega)
  ·refine zAc<|zAn 2<|S_a [(0,.n S.length)] (ap (lnS prV S) an)<|S_g 1<|zAS ((j:Int)<(S.length:Int)) (by omega)<|zAG 0<|zAn 2<|S_a [(3,.ob),(0,.yes),(0,.yes),(0,.v (bor 0 [] 2 i (S.length-i)))] (ap ((by exact zAP (by simp only[be,zzLn,zAJ]<;>omega)):i.ble (map prV S).length=true)<|ap ((by exact zAP (by simp only[be,zzLn,zAJ]<;>omega)):(map prV S).length.ble (map prV S).length=true)<|ap ((by simp<;>omega):(i.beq 0||i.blt (map prV S).length)=true)<|ap ((by simp):bor 0 [] 2 (0+i) ((map prV S).length-i)=bor 0 [] 2 i (S.length-i)) an)<|zMi (g:=prV) (fun q=>q) 0 2 i (S.length-i) S ((0,0)) (by first|omega|(simp<;>omega)) ⟨rfl,rfl⟩ (fun _=>(by first|exact zGD|exact⟨rfl,rfl,rfl,rfl,bi _,rfl⟩)) zOo.nil (zA6<|zAn 2<|S_a [(4,.yes)] (ap ((by exact zAP (by simp<;>omega)):i.ble (map prV (take i S++replicate (S.length-i) (0,0)++drop (i+(S.length-i)) S)).length=true) an)<|S_g 1<|zAm<|E_a [(1,.yes),(1,.v (own 2 (map prV (take i (take i S++replicate (S.length-i) (0,0)++drop (i+(S.length-i)) S)))))] (ap ((by exact zAP (by simp<;>omega)):(0+((i:Int).toNat-0)).ble (map prV (take i S++replicate (S.length-i) (0,0)++drop (i+(S.length-i)) S)).length=true)<|ap ((by simp):own 2 (take i (drop 0 (map prV (take i S++replicate (S.length-i) (0,0)++drop (i+(S.length-i)) S))))=own 2 (map prV (take i (take i S++replicate (S.length-i) (0,0)++drop (i+(S.length-i)) S)))) an) (own 2 (map prV (take i (take i S++replicate (S.length-i) (0,0)++drop (i+(S.length-i)) S)))) [] ?_ rfl)
   rw[bz (d5 y5)] at ht;rw[<- ht,cx,cI (by rw[bY];omega),fF,iy]
def ofL(n:Nw)(f:Int)(l:LP):LP:=l.filter fun x=>!decide ((zAd n).getD x.2.toNat 0≠f)
theorem f135(n:Nw)(cs l:LP)(f:Int)(ho:NwOk n)(hl:l.length<=1000)(hr:∀ g∈l,(0<=g.1/\g.1<n.h)/\(0<=g.2/\g.2<n.n.length)):FG 135 [zE8 n cs,prs l,I f] (.own 2 ((ofL n f l).map prV)):=by
 have h1:=f122_1 n cs f ho l (by omega) fun x hx=>(hr x hx).2;refine zAe Tryz.f135 ?_;refine zAj 3<|zAn 1<|S_a [(6,.ret (own 2 (map prV l)) [])] (ap (f123 l (by omega)) an)<|zAp 1<|S_a [(3,.ob),(1,.v (own 2 (map prV l))),(14,.ret (own 2 (map prV (filter (fun x=>!decide ((zAd n).getD x.snd.toNat 0≠f)) l))) []),(1,.yes)] (ap ((by exact zAP (by simp only[be,zzLn,zAJ]<;>omega)):(map prV l).length.ble (map prV l).length=true)<|ap ((zAQ zAW):own 2 (take (map prV l).length (drop 0 (map prV l)))=own 2 (map prV l))<|ap h1<|ap ((by exact zBv _):(own 2 (map prV (filter (fun x=>!decide ((zAd n).getD x.snd.toNat 0≠f)) l))).free=true) an)<|S_g 1<|zAm<|E_z [(1,.yes),(1,.v (own 2 (map prV (filter (fun x=>!decide ((zAd n).getD x.snd.toNat 0≠f)) l))))] (ap (blz (map prV (filter (fun x=>!decide ((zAd n).getD x.snd.toNat 0≠f)) l)))<|ap ((zAQ zAW):own 2 (take (map prV (filter (fun x=>!decide ((zAd n).getD x.snd.toNat 0≠f)) l)).length (drop 0 (map prV (filter (fun x=>!decide ((zAd n).getD x.snd.toNat 0≠f)) l))))=own 2 (map prV (filter (fun x=>!decide ((zAd n).getD x.snd.toNat 0≠f)) l))) an)
end Go.Eng
set_option maxRecDepth 10000
set_option maxHeartbeats 4000000
namespace Go.Eng
open Go Go.Proofs
def zQg(n:Nw)(cs:LP)(e:Int)(st:LI):Int:=if zQZ n cs e=0 then if (!st.all fun x=>inB x 0 (n.s.length-1))=true then 1 else if st.Nodup then 0 else 5 else zQZ n cs e
structure OffOk (n:Nw) (cs:LP) (e:Int) (st:LI):Prop where
 err:zQg n cs e st=0
 ev:EvOk n cs e
 rng:∀ s∈st,0<=s/\s<n.s.length
 nd:st.Nodup
abbrev zWH(n:Nw)(cs:LP)(e:Int)(l:LP):PV := .func 173 [] [.ref (zE8 n cs),.ref (prs l),.ref (I e)]
theorem f168_2(n:Nw)(hb:n.s.length<=6)(x:Int):FG 168 [I x,.ref (.func 170 [nwV n] [])] (.bool (!(inB x 0 (n.s.length-1)))):=by
 refine zAe Tryz.f168 ?_;refine zAj 1<|zAn 2<|S_a [(8,.ret (bool (inB x 0 ((n.s.length:Int)-1))) [])] (ap (f170 n x (by omega)) an)<|S_g 2<|zAm E_0
theorem f131_2(n:Nw)(hb:n.s.length<=6)(l:List (Int))(hl:l.length<4294967296):FG 131 [.sl (l.map I),.func 168 [] [.ref (.func 170 [nwV n] [])]] (I (zDI (fun x=>!(inB x 0 (n.s.length-1))) l)):=by
 refine zAe Tryz.f131 ?_;refine zAj 1<|zAc<|zAn 1<|S_a [(0,.n l.length)] (ap (lnS I l) an)<|S_g 1<|zAg 0 ?_
 refine zAu (fun i=>i<=l.length/\∀ j,j<i->(fun x=>!(inB x 0 (n.s.length-1))) (l.getD j 0)=false) (fun i=>[(8,I (i:Nat))]) (fun i=>l.length-i) (0:Nat) (by simp) fun i ⟨hi,ha⟩=>?_;refine zAj 1<|zAc<|zC4 ((i:Int)<(l.length:Int)) (fun k0=>(zAh<|zAc<|zAg 1<|zAj 2<|zAn 3<|S_a [(2,.v (I (l.getD i 0)))] (ap (zBN (0) (by omega):(map I l)[i]? = some (I (l.getD i 0))) an)<|zAp 1<|S_a [(7,.ret (bool !inB (l.getD i 0) 0 ((n.s.length:Int)-1)) [])] (ap (f168_2 n (by omega) (l.getD i 0)) an)<|zA6<|zEE (!inB (l.getD i 0) 0 ((n.s.length:Int)-1)) (fun k1=>(zAj 2<|zAm<|E_a [] an (I (i:Int)) [] ?_ rfl)) (fun k1=>(zAh<|zAb<|S_i i<|S_g 1 ?_)))) (fun k0=>(zAG 0<|zAj 1<|zAm<|E_a [] an (I (-1)) [] ?_ rfl))
 ·rw[zBK (i:=i) (by omega) (fun j hj=>by rw[<- zAr (d:=0)];exact ha j hj) (by rw[<- zAr (d:=0)];first|assumption|exact decide_eq_true ‹_›|(simp only[bD,decide_eq_false_iff_not];assumption))]
 ·refine⟨i+1,⟨by omega,fun j hj=>?_⟩,by omega,by kernel_rfl,by kernel_rfl⟩;rcases bE.1 hj with h|rfl
  ·exact ha j h
  ·first|assumption|exact decide_eq_false ‹_›|(simp only[bB,decide_eq_true_eq];first|assumption|(apply cJ;assumption))
 ·rw[zBV fun j hj=>by rw[<- zAr (d:=0)];exact ha j (by omega)]
theorem f52_2(n:Nw)(hb:n.s.length<=6)(l:List (Int))(hl:l.length<4294967296):FG 52 [.sl (l.map I),.func 168 [] [.ref (.func 170 [nwV n] [])]] (.bool (l.any (fun x=>!(inB x 0 (n.s.length-1))))):=by
 refine zAe Tryz.f52 ?_;refine zAj 1<|zAn 2<|S_a [(7,.ret (I (zDI (fun x=>!inB x 0 ((n.s.length:Int)-1)) l)) [])] (ap (f131_2 n (by omega) l (by omega)) an)<|S_g 2<|zAm<|E_a [] an (bool (decide (zDI (fun x=>!inB x 0 ((n.s.length:Int)-1)) l>=0))) [] ?_ rfl
 rw[zDA]
theorem f108_2(n:Nw)(hb:n.s.length<=6)(l:List (Int))(hl:l.length<4294967296):FG 108 [.sl (l.map I),.func 170 [nwV n] []] (.bool (l.all (fun x=>inB x 0 (n.s.length-1)))):=by
 refine zAe Tryz.f108 ?_;refine zAj 2<|zAn 2<|S_a [(12,.ret (bool (l.any fun x=>!inB x 0 ((n.s.length:Int)-1))) [])] (ap (f52_2 n (by omega) l (by omega)) an)<|S_g 2<|zAm<|E_a [] an (bool !l.any fun x=>!inB x 0 ((n.s.length:Int)-1)) [] ?_ rfl
 simp[dc]
theorem f121_1(n:Nw)(cs:LP)(e:Int)(st:LI)(ho:OffOk n cs e st)(yC:st.length<1000000):FG 121 [nwV n,prs cs,I e,zBi st] (.tup [zE8 n cs,prs (zAV n (zAD n cs e.toNat)),.agg [zWH n cs e (zAV n (zAD n cs e.toNat))],I 0]):=by
 have je:=ho.ev;have vE:=je.cr;have jr:=vE.w;have hn:=vE.nw;have he:=je.ev;have hs6:=hn.sl.2;have wx:=zBr (n:=n) (cs:=cs) e.toNat;have gi:=zEj (w:=zAD n cs e.toNat) hn;have hin:(!st.all fun x=>inB x 0 (n.s.length-1))=false:=by
  simp only[bB,bj];intro s hs;have:=ho.rng s hs
  simp only[inB,bb,decide_eq_true_eq];omega
 refine zAe Tryz.f121 ?_;refine zAj 6<|zAn 3<|S_a [(10,.ret (tup [zE8 n cs,I 0]) [])] (ap (f90_1 n cs e (by omega)) an)<|S_g 6<|zAc<|zAg 0<|zAj 3<|zAB<|zAn 3<|S_a [(7,.ret (bool (st.all fun x=>inB x 0 ((n.s.length:Int)-1))) [])] (ap (f108_2 n (by omega) st (by omega)) an)<|S_g 2<|zEE (!st.all fun x=>inB x 0 ((n.s.length:Int)-1)) (fun k0=>(zAj 5<|zAm<|E_a [] an (tup [PV.nilp,sl [],agg [PV.nilf],I 1]) [] ?_ rfl)) (fun k0=>(zAh<|zAc<|zAn 1<|S_a [(0,.n st.length)] (ap (lnS I st) an)<|S_g 1<|zAg 1 ?_))
 ·rw[hin] at k0;cases k0
 ·refine zAu (fun i=>i<=st.length) (fun(i:Nat)=>[(38,I (i:Nat))]) (fun i=>st.length-i) (0:Nat) (by omega) fun i hi=>?_;by_cases yH:i<st.length
  ·have jA:has (st.take i) (st.getD i 0)=false:=by
    rw[zSW,decide_eq_false_iff_not];intro hm;have yV:=ho.nd;rw[<- cm i st,bI] at yV;refine yV.2.2 _ hm _ ?_ rfl;rw[bX yH,zAr yH];exact dT
   refine zAj 1<|zAc<|zAL ((i:Int)<(st.length:Int)) (by omega)<|zAh<|zAc<|zAg 2<|zAn 1<|S_a [(2,.v (I (st.getD i 0)))] (ap (zBN (0) (by omega):(map I st)[i]? = some (I (st.getD i 0))) an)<|S_g 3<|zAn 2<|S_a [(3,.ob),(0,.ob),(0,.v (zBi (take i st)))] (ap ((by exact zAP (by simp only[be,zzLn,zAJ]<;>omega)):i.ble (map I st).length=true)<|ap ((by exact all_map _):((map I st).all fun x=>x.cells.length.beq ((fun x=>x.size) Tryz.prog.types[3]))=true)<|ap ((by simp):sl (take i (drop 0 (map I st)))=zBi (take i st)) an)<|zAp 1<|S_a [(8,.ret (bool (has (take i st) (st.getD i 0))) [])] (ap (f58 (take i st) (st.getD i 0) (by first|omega|(simp<;>omega))) an)<|zA6<|zEE (has (take i st) (st.getD i 0)) (fun k1=>(zAj 5<|zAm<|E_a [] an (tup [PV.nilp,sl [],agg [PV.nilf],I 5]) [] ?_ rfl)) (fun k1=>(zAh<|zAb<|S_i i<|S_g 1 ?_))
   ·rw[jA] at k1;cases k1
   ·exact rnd (i+1) (by omega) (by omega)
  ·refine zAj 1<|zAc<|zAS ((i:Int)<(st.length:Int)) (by omega)<|zAG 1<|zAn 3<|S_a [(7,.ret (hdV (zAD n cs e.toNat)) [])] (ap (f92 n cs e (by omega) (by omega)) an)<|S_a [(7,.ret (own 2 (map prV (zAV n (zAD n cs e.toNat)))) [])] (ap (f91 n cs (zAD n cs e.toNat) (by omega) (by omega)) an)<|zAp 1<|S_a [(3,.v (prs (zAV n (zAD n cs e.toNat))))] (ap ((zJ7 (zAq _)):sl (zAt (map prV (zAV n (zAD n cs e.toNat))))=prs (zAV n (zAD n cs e.toNat))) an)<|zA6<|zAj 8<|zAm E_0
theorem f173(n:Nw)(cs l:LP)(e:Int)(c:Int×Int)(ho:CrW n cs)(hl:cs.length<=16)(he:0<=e/\e<=1000)(gA:l.length<=1000)(hm:∀ g∈l,(0<=g.1/\g.1<n.h)/\(0<=g.2/\g.2<n.n.length))(hc:(0<=c.1/\c.1<n.n.length)/\(0<=c.2/\c.2<n.s.length)):FG 173 [prV c,.ref (zE8 n cs),.ref (prs l),.ref (I e)] (.sl ((zFb n (zAD n (cs++[c]) e.toNat) l).map prV)):=by
 refine zAe Tryz.f173 ?_;refine zAj 2<|zAn 4<|S_a [(11,.ret (own 2 (map prV (zFb n (zAD n (cs++[c]) e.toNat) l))) [])] (ap (f119 n cs l e c (by omega) (by omega) (by omega) (by omega) (by omega) (by omega)) an)<|S_g 1<|zAm<|E_z [(1,.envv ([(4,(prV c).box),(5,prs (zFb n (zAD n (cs++[c]) e.toNat) l))]) (prs (zFb n (zAD n (cs++[c]) e.toNat) l)))] (ap (And.intro (fv (by kernel_rfl:Env.frz [(4,(prV c).box),(5,own 2 (map prV (zFb n (zAD n (cs++[c]) e.toNat) l)))] 5 []=some [(4,(prV c).box),(5,sl (zAt (map prV (zFb n (zAD n (cs++[c]) e.toNat) l))))]) ((by simp only[show zAt (map prV (zFb n (zAD n (cs++[c]) e.toNat) l))=map prV (zFb n (zAD n (cs++[c]) e.toNat) l) from(by first|exact zAq _|exact zAw _|exact zAv _|exact zAO (zAw _)|exact zAO (zAv _)|exact zBL (by simp[zBd]) (zAq _))]):some [(4,(prV c).box),(5,sl (zAt (map prV (zFb n (zAD n (cs++[c]) e.toNat) l))))]=some [(4,(prV c).box),(5,prs (zFb n (zAD n (cs++[c]) e.toNat) l))])) (zG5 (by first|exact zAq _|exact zAw _|exact zAv _):PV.mapW (inl 5 [] (own 2 (map prV (zFb n (zAD n (cs++[c]) e.toNat) l)))) (bor 5 [] 2 0 (map prV (zFb n (zAD n (cs++[c]) e.toNat) l)).length)=prs (zFb n (zAD n (cs++[c]) e.toNat) l))) an)
end Go.Eng
namespace Go.Eng
open Go Go.Proofs
def zZA(n:Nw)(g:Int×Int):Prop:=(0<=g.1/\g.1<n.h)/\(0<=g.2/\g.2<n.n.length)
theorem zSE{n:Nw}{w:LI}(g:Int×Int)(hg:g∈zAV n w):zZA n g:=by
 obtain⟨h,i,h1,h2,rfl,_⟩:=zFQ hg;unfold zZA;simp only;omega
def zY2(n:Nw)(cs:LP)(e:Nat)(G:LP)(st:LI)(k:Nat):List LP:=(range k).flatMap fun(i:Nat)=>st.map fun s=>zFb n (zAD n (cs++[((i:Int),s)]) e) G
def zWn(n:Nw)(cs:LP)(e:Nat)(G:LP)(st:LI):LP:=G.filter fun g=>!(zY2 n cs e G st n.n.length).any fun r=>has r g
theorem zF9{α β:Type}(p:β->α->Bool):∀ (l:List β) (L:List α),l.foldl (fun L s=>L.filter (p s)) L=L.filter fun g=>l.all fun s=>p s g
 |[],L=>by
  symm;exact f6.2 fun _ _=>rfl
 |s::l,L=>by
  rw[bZ,zF9 p l,List.filter_filter];refine ii fun g _=>?_;rw[cO,Bool.and_comm]
def zWh(n:Nw)(cs:LP)(e:Nat)(G:LP)(i:Nat)(L:LP)(st:LI):LP:=st.foldl (fun L s=>L.filter fun g=>!has (zFb n (zAD n (cs++[((i:Int),s)]) e) G) g) L
def zXE(n:Nw)(cs:LP)(e:Nat)(G:LP)(st:LI)(k:Nat):LP:=(range k).foldl (fun L i=>zWh n cs e G i L st) G
theorem zMZ{n:Nw}{cs:LP}{e:Nat}{G L:LP}{i j:Nat}{st:LI}(h:j<st.length):zWh n cs e G i L (st.take (j+1))=(zWh n cs e G i L (st.take j)).filter fun g=>!has (zFb n (zAD n (cs++[((i:Int),st.getD j 0)]) e) G) g:=zFy h
theorem zMy{n:Nw}{cs:LP}{e:Nat}{G:LP}{st:LI}{k:Nat}:zXE n cs e G st (k+1)=zWh n cs e G k (zXE n cs e G st k) st:=by
 simp only[zXE,cw,cH,bZ,cM]
theorem zYF{n:Nw}{cs:LP}{e:Nat}{G:LP}{st:LI}:zXE n cs e G st n.n.length=zWn n cs e G st:=by
 have h1:∀ i L,zWh n cs e G i L st=L.filter fun g=>st.all fun s=>!has (zFb n (zAD n (cs++[((i:Int),s)]) e) G) g:=fun i L=>zF9 _ st L;unfold zXE;simp only[h1];rw[zF9 (fun(i:Nat) g=>st.all fun s=>!has (zFb n (zAD n (cs++[((i:Int),s)]) e) G) g)];unfold zWn;refine ii fun g _=>?_;unfold zY2;rw[cZ];simp[List.any_flatMap]
theorem zIY{n:Nw}{cs:LP}{e:Nat}{G:LP}{i:Nat}:∀ (st:LI) (L:LP),(zWh n cs e G i L st).length<=L.length
 |[],_=>bi _|s::st,L=>bF (zIY st _) (bU _ _)
theorem zPq{n:Nw}{cs:LP}{e:Nat}{G:LP}{st:LI}:∀ k,(zXE n cs e G st k).length<=G.length
 |0=>bi _|k+1=>by rw[zMy];exact bF (zIY st _) (zPq k)
theorem zYd{n:Nw}{cs:LP}{e:Int}{st:LI}(h:zQg n cs e st=0):OffOk n cs e st:=by
 have h0:=h;unfold zQg at h;split at h
 case isFalse h2=>exact absurd h h2
 rename_i c1;split at h
 ·cases h
 rename_i c2;split at h
 case isFalse=>cases h
 rename_i c3;simp only[cu,bB,bj] at c2;exact⟨h0,zRQ c1,fun s hs=>by have:=zEn (c2 s hs);omega,c3⟩
end Go.Eng
namespace Go.Eng
abbrev Gp:=Int×Int
section
variable (J:Gp->Gp->Bool)
end
end Go.Eng
namespace Go.Eng
open Go Go.Proofs
def zO0(n:Nw):Int:=if zCW n.h n.l=0 then if zD7 n.n=0 then if (!n.s.all fun x=>zLN n.h x)=true then 1 else if (!n.s.all fun x=>zEv x)=true then 4 else 0 else zD7 n.n else zCW n.h n.l
theorem zWN{n:Nw}(h1:(!inB n.h 1 10)=false)(h2:¬ (n.l.length:Int)>15)(h3:(!inB n.n.length 1 8)=false)(h4:(!inB n.s.length 1 6)=false):zFK n=zO0 n:=by
 simp only[zFK,h1,h2,h3,h4,if_false];rfl
theorem zZw{n:Nw}(h:∀ i,i<n.n.length->inB (n.n.getD i d0).1 (-1) ((i:Int)-1)=true):zRr n.n=true:=by
 simp only[zRr,bj,bC];exact h
theorem zX6{l:List (Int×Bool)}{i:Nat}(hi:i<l.length)(hr:inB (l.getD i d0).1 (-1) ((i:Int)-1)=true):zNE l i=true↔∃ k,k<i/\0<=(l.getD i d0).1/\(l.getD i d0).1=(l.getD k d0).1:=by
 have hr:=zEn hr;simp only[zNE,bb,decide_eq_true_eq,bN];constructor
 ·rintro⟨h1,x,h2,h3⟩;obtain⟨k,hk,rfl⟩:=dv h2;rw[bY] at hk;refine⟨k,by omega,by omega,?_⟩;rw[zAr (l:=l) (i:=k) (by omega)];rw[ij] at h3;exact h3.symm
 ·rintro ⟨k,h1,h2,h3⟩;refine ⟨by omega, (l.take i)[k]'(by rw [bY]; omega), cC _, ?_⟩;rw [ij,h3,zAr (l:=l) (i:=k) (by omega)]
theorem zYs{n:Nw}(hn:zRr n.n=true)(h:∀ i,i<n.n.length->∀ k,k<i->¬ ((n.n.getD i d0).1>=0/\(n.n.getD i d0).1=(n.n.getD k d0).1)):zD7 n.n=0:=by
 have:(range n.n.length).any (zNE n.n)=false:=by
  simp only[cV,bC];intro i hi ht;have hr:inB (n.n.getD i d0).1 (-1) ((i:Int)-1)=true:=by
   simp only[zRr,bj,bC] at hn;exact hn i hi
  obtain⟨k,h1,h2,h3⟩:=(zX6 hi hr).1 ht;exact h i hi k h1 ⟨h2,h3⟩
 simp only[zD7,hn,this,if_true];rfl
theorem zYx{n:Nw}(hl:zCW n.h n.l=0)(hn:zD7 n.n=0)(hs:(n.s.all fun x=>zLN n.h x)=true)(ho:(n.s.all fun x=>zEv x)=true):zO0 n=0:=by
 simp only[zO0,hl,hn,hs,ho];rfl
end Go.Eng
set_option maxRecDepth 10000
set_option maxHeartbeats 4000000
namespace Go.Eng
open Go Go.Proofs
end Go.Eng
set_option maxRecDepth 10000
set_option maxHeartbeats 4000000
namespace Go.Eng
open Go Go.Proofs
end Go.Eng
set_option maxRecDepth 10000
set_option maxHeartbeats 4000000
namespace Go.Eng
open Go Go.Proofs
end Go.Eng
set_option maxRecDepth 10000
set_option maxHeartbeats 4000000
namespace Go.Eng
open Go Go.Proofs
end Go.Eng
set_option maxRecDepth 10000
set_option maxHeartbeats 4000000
namespace Go.Eng
open Go Go.Proofs
end Go.Eng
set_option maxRecDepth 10000
set_option maxHeartbeats 4000000
namespace Go.Eng
open Go Go.Proofs
abbrev gpO(l:LP):PV := .own 2 (l.map prV)
instance:FrzOf gpO prs:=⟨fun l=>by simp only[zA2,zAv (g:=prV) (g':=prV) l]⟩
end Go.Eng
set_option maxRecDepth 10000
set_option maxHeartbeats 4000000
namespace Go.Eng
open Go Go.Proofs
end Go.Eng
set_option maxHeartbeats 1000000
namespace Go.Eng
open Go
end Go.Eng
namespace Go.Eng
open Go Go.Proofs
theorem Tr.ge{n:Nw}{w:LI}{S:Nat->Nat->Prop}(ht:Tr n w S){h c:Nat}(hh:h<n.h.toNat)(hc:c<8){v:Int}:v<=w.getD (h*8+c) 0↔v<=-1\/∃ i,i<n.n.length/\(zAd n).getD i 0=(c:Int)/\S h i/\v<=i:=by
 have ha:=ht.at_ h c hh hc;constructor
 ·intro hv;rcases ha with h1|⟨i,g1,g2,g3,g4⟩
  ·exact .inl (by omega)
  ·exact .inr ⟨i,g1,g2,g4,by omega⟩
 ·rintro(h1|⟨i,g1,g2,g3,g4⟩)
  ·rcases ha with h2|⟨i,_,_,g3,_⟩<;>omega
  ·have:=ht.top h i hh g1 g3;rw[g2,bQ] at this;omega
theorem zFE{n:Nw}{cs:LP}(ho:CrW n cs):Tr n (zIi n cs) fun a i=>zHm n cs a i=true :=
 (Tr.begN ho n.h.toNat (bi _)).same fun a i ha _=>⟨fun h=>h.2,fun h=>⟨ha,h⟩⟩
theorem zEu{n:Nw}{cs ds:LP}(h1:CrW n cs)(h2:CrW n ds)(h3:CrW n (cs++ds)){c:Nat}(hc:c<8):∀ (e:Nat) (h:Nat) (v:Int),h<n.h.toNat->(v<=(zAD n (cs++ds) e).getD (h*8+c) 0↔v<=(zAD n cs e).getD (h*8+c) 0\/v<=(zAD n ds e).getD (h*8+c) 0)
 | 0,h,v,hh=>by
  have e:∀ i:Int,zHm n (cs++ds) h i=(zHm n cs h i||zHm n ds h i):=fun i=>by simp[zHm]
  show v<=(zIi n (cs++ds)).getD _ 0↔v<=(zIi n cs).getD _ 0\/v<=(zIi n ds).getD _ 0
  rw[(zFE h3).ge hh hc,(zFE h1).ge hh hc,(zFE h2).ge hh hc];constructor
  ·rintro(g|⟨i,g1,g2,g3,g4⟩)
   ·exact .inl (.inl g)
   ·rw[e,bV] at g3;rcases g3 with g3|g3
    ·exact .inl (.inr ⟨i,g1,g2,g3,g4⟩)
    ·exact .inr (.inr ⟨i,g1,g2,g3,g4⟩)
  ·rintro((g|⟨i,g1,g2,g3,g4⟩)|(g|⟨i,g1,g2,g3,g4⟩))
   ·exact .inl g
   ·exact .inr ⟨i,g1,g2,by rw[e,g3];rfl,g4⟩
   ·exact .inl g
   ·exact .inr ⟨i,g1,g2,by rw[e,g3,Bool.or_true],g4⟩
 | e + 1,h,v,hh=>by
  have ih:=zEu h1 h2 h3 hc e;have vu:∀ o,o∈zG4 n h n.h.toNat->o<n.h.toNat:=fun o hm=>bC.1 (bP.1 hm).1;show v<=(zB8 n (zAD n (cs++ds) e)).getD _ 0↔v<=(zB8 n (zAD n cs e)).getD _ 0\/v<=(zB8 n (zAD n ds e)).getD _ 0
  rw[zDK h1.nw (zBr _) hh hc,zDK h1.nw (zBr _) hh hc,zDK h1.nw (zBr _) hh hc,ih h v hh];constructor
  ·rintro((g|g)|⟨o,g1,g2⟩)
   ·exact .inl (.inl g)
   ·exact .inr (.inl g)
   ·rcases(ih o v (vu o g1)).1 g2 with g|g
    ·exact .inl (.inr ⟨o,g1,g⟩)
    ·exact .inr (.inr ⟨o,g1,g⟩)
  ·rintro((g|⟨o,g1,g2⟩)|(g|⟨o,g1,g2⟩))
   ·exact .inl (.inl g)
   ·exact .inr ⟨o,g1,(ih o v (vu o g1)).2 (.inl g2)⟩
   ·exact .inl (.inr g)
   ·exact .inr ⟨o,g1,(ih o v (vu o g1)).2 (.inr g2)⟩
theorem zS1{n:Nw}{d:Int×Int}(h1:CrW n [d]){c:Nat}(hc:c<8):∀ (e:Nat) (h:Nat) (v:Int),h<n.h.toNat->-1<v->(v<=(zAD n [d] e).getD (h*8+c) 0↔v<=d.1/\0<=(zAD n [d] e).getD (h*8+c) 0)
 | 0,h,v,hh,hv=>by
  have hd:=(h1.cs d dT).1;have e:∀ i:Int,zHm n [d] h i=true->d.1=i:=fun i hi=>by
   simp only[zHm,fL,List.any_nil,ie,hrB,bb,decide_eq_true_eq] at hi;exact hi.1
  show v<=(zIi n [d]).getD _ 0↔v<=d.1/\0<=(zIi n [d]).getD _ 0
  rw[(zFE h1).ge hh hc,(zFE h1).ge hh hc];constructor
  ·rintro(g|⟨i,g1,g2,g3,g4⟩)
   ·omega
   ·have:=e i g3;exact⟨by omega,.inr ⟨i,g1,g2,g3,by omega⟩⟩
  ·rintro⟨g0,(g|⟨i,g1,g2,g3,g4⟩)⟩
   ·omega
   ·have:=e i g3;exact .inr ⟨i,g1,g2,g3,by omega⟩
 | e + 1,h,v,hh,hv=>by
  have ih:=zS1 h1 hc e;have vu:∀ o,o∈zG4 n h n.h.toNat->o<n.h.toNat:=fun o hm=>bC.1 (bP.1 hm).1;show v<=(zB8 n (zAD n [d] e)).getD _ 0↔v<=d.1/\0<=(zB8 n (zAD n [d] e)).getD _ 0
  rw[zDK h1.nw (zBr _) hh hc,zDK h1.nw (zBr _) hh hc,ih h v hh hv];constructor
  ·rintro(⟨g1,g2⟩|⟨o,g1,g2⟩)
   ·exact⟨g1,.inl g2⟩
   ·have:=(ih o v (vu o g1) hv).1 g2;exact⟨this.1,.inr ⟨o,g1,this.2⟩⟩
  ·rintro⟨g0,(g|⟨o,g1,g2⟩)⟩
   ·exact .inl ⟨g0,g⟩
   ·exact .inr ⟨o,g1,(ih o v (vu o g1) hv).2 ⟨g0,g2⟩⟩
theorem zP9{n:Nw}{w:LI}{g:Int×Int}:g∈zAV n w↔∃ h i:Nat,h<n.h.toNat/\i<n.n.length/\g=((h:Int),(i:Int))/\zIX n w h i=true:=by
 refine⟨zFQ,?_⟩;rintro⟨h,i,h1,h2,rfl,h3⟩;simp only[zAV,zUz,cT,bC,zN2,bT,bP];exact⟨h,h1,i,⟨h2,h3⟩,rfl⟩
theorem zHW{n:Nw}{w:LI}{h i:Nat}(hh:h<n.h.toNat)(hi:i<n.n.length):((h:Int),(i:Int))∈zAV n w↔zIX n w h i=true:=by
 rw[zP9];constructor
 ·rintro⟨h',i',_,_,he,hb⟩;simp only[bw] at he;obtain rfl:h=h':=by omega
  obtain rfl:i=i':=by omega
  exact hb
 ·exact fun hb=>⟨h,i,hh,hi,rfl,hb⟩
theorem zUc{n:Nw}{w w':LI}{g:Int×Int}(hg:g∈zAV n w):(g∈zFb n w' (zAV n w))↔g∉zAV n w':=by
 obtain⟨h,i,h1,h2,rfl,h3⟩:=zFQ hg;rw[zHW h1 h2];simp only[zFb,bP,hg,true_and,zVM,decide_eq_true_eq,bQ];simp only[zIX,bb,decide_eq_true_eq] at h3 ⊢;constructor
 ·exact fun a b=>a b.1
 ·exact fun a b=>a ⟨b,h3.2⟩
end Go.Eng
set_option maxHeartbeats 1000000
namespace Go.Eng
open Go
theorem zSL:∀ {a b:LI},a.Pairwise (· < ·)->b.Pairwise (· < ·)->(∀ x,x∈a↔x∈b)->a=b
 |[],[],_,_,_=>rfl|[],y::b,_,_,h=>absurd ((h y).2 (by simp)) (by simp)|x::a,[],_,_,h=>absurd ((h x).1 (by simp)) (by simp)
 | x :: a,y::b,ha,hb,h=>by
  rw[cL] at ha hb;have e:x=y:=by
   have h1:=(h x).1 (by simp);have h2:=(h y).2 (by simp);rcases bv.1 h1 with h1|h1
   ·exact h1
   rcases bv.1 h2 with h2|h2
   ·exact h2.symm
   have:=ha.1 y h2;have:=hb.1 x h1;omega
  subst e;rw[zSL ha.2 hb.2 fun z=>?_];constructor
  ·intro hz;rcases bv.1 ((h z).1 (dg _ hz)) with rfl|h1
   ·exact absurd (ha.1 z hz) (by omega)
   ·exact h1
  ·intro hz;rcases bv.1 ((h z).2 (dg _ hz)) with rfl|h1
   ·exact absurd (hb.1 z hz) (by omega)
   ·exact h1
theorem zMG{p:Nat->Bool}{k:Nat}{x:Int}:x∈zEf p k↔∃ i:Nat,i<k/\p i=true/\x=i:=by
 simp only[zEf,bT,bP,bC];constructor
 ·rintro⟨i,⟨h1,h2⟩,rfl⟩;exact⟨i,h1,h2,rfl⟩
 ·rintro⟨i,h1,h2,rfl⟩;exact⟨i,⟨h1,h2⟩,rfl⟩
theorem zJF{p:Nat->Bool}:∀ k,(zEf p k).Pairwise (· < ·)
 |0=>by simp[zEf]|k + 1=>by
  rw[zLn];split
  ·rw[dF];refine⟨zJF k,by simp,fun a ha b hb=>?_⟩;have:=zMG.1 ha;obtain⟨i,hi,_,rfl⟩:=this;have:=bl.1 hb;omega
  ·exact zJF k
theorem zUF{l:LI}{x:Int}:x∈zCM l↔x∈l:=by simp[zCM]
theorem zUW{l:LI}:(zCM l).length=l.length:=by simp[zCM]
theorem zWs(l:LI):(zCM l).Pairwise (· <= ·):=by
 have:=List.pairwise_mergeSort (le:=fun(x y:Int)=>decide (x<=y)) (fun a b c h1 h2=>by simp at *;omega) (fun a b=>by simp;omega) l;exact this.imp (by simp)
theorem zUn{l:LI}(h:l.Nodup):(zCM l).Pairwise (· < ·):=by
 have h1:=zWs l;have h2:(zCM l).Nodup:=(List.mergeSort_perm l _).nodup_iff.2 h;have:=h1.and h2;exact this.imp (fun⟨a,b⟩=>by omega)
theorem zQb{l:LI}{p:Nat->Bool}{k:Nat}(yV:l.Nodup)(hm:∀ x,x∈l↔∃ i:Nat,i<k/\p i=true/\x=i):zCM l=zEf p k :=
 zSL (zUn yV) (zJF k) fun x=>by rw[zUF,hm,zMG]
def zT4(w:LI)(h:Nat):LI:=(w.drop (h*8)).take 8
def zY4(w:LI)(h:Nat):LI:=(zT4 w h).filter fun x=>decide (x≠-1)
theorem zVL{n:Nw}{K:List (List Bool)}{w:LI}{h:Nat}(ho:NwOk n)(hr:RelK n K w)(hh:h<n.h.toNat):zCM (zY4 w h)=zEf (hld n w h) n.n.length:=by
 have hH:=ho.h;have wx:=hr.wl;have wA:(zT4 w h).length=8:=by simp[zT4];omega
 have j2:∀ c,c<8->(zT4 w h).getD c 0=w.getD (h*8+c) 0:=fun c hc=>zPv hc;refine zQb ?_ fun x=>?_
 ·unfold zY4;rw[List.Nodup,List.pairwise_filter,fC];intro i j hi hj wu h1 h2;have e1:=j2 i (by omega);have e2:=j2 j (by omega);rw[zAr hi] at e1;rw[zAr hj] at e2;rw[e1] at h1 ⊢;rw[e2] at h2 ⊢;simp only[decide_eq_true_eq] at h1 h2;intro he;rcases hr.at_ h i hh (by omega) with h3|⟨a,_,h4,h5,_⟩
  ·exact h1 h3
  rcases hr.at_ h j hh (by omega) with h6|⟨b,_,h7,h8,_⟩
  ·exact h2 h6
  have:a=b:=by omega
  subst this;omega
 ·simp only[zY4,bP,decide_eq_true_eq,hld];constructor
  ·rintro⟨h1,h2⟩;obtain⟨c,hc,rfl⟩:=dv h1;have e1:=j2 c (by omega);rw[zAr hc] at e1;rw[e1] at h2 ⊢;rcases hr.at_ h c hh (by omega) with h3|⟨a,ha,h4,h5,_⟩
   ·exact absurd h3 h2
   refine⟨a,ha,?_,h5⟩;rw[h4];simpa using h5
  ·rintro⟨i,hi,h1,rfl⟩;have hf:=zBk ho i hi;have kY:=ho.nl;refine⟨?_,by omega⟩;have e1:=j2 ((zAd n).getD i 0).toNat (by omega);rw[h1] at e1;have yL:((zAd n).getD i 0).toNat<(zT4 w h).length:=by omega
   rw[zAr yL] at e1;rw[<- e1];exact cC yL
end Go.Eng
set_option maxHeartbeats 1000000
namespace Go.Eng
open Go
def hoL(n:Nw)(cs:LP)(k h:Nat):LI:=zEf (hld n (zAD n cs k) h) n.n.length
theorem zLW{n:Nw}{cs:LP}{k h:Nat}{x:Int}:x∈hoL n cs k h↔∃ i:Nat,i<n.n.length/\(zAD n cs k).getD (h*8+((zAd n).getD i 0).toNat) 0=i/\x=i:=by
 unfold hoL;rw[zTz];constructor
 ·rintro⟨i,h1,h2,h3⟩;exact⟨i,h1,of_decide_eq_true h2,h3⟩
 ·rintro⟨i,h1,h2,h3⟩;exact⟨i,h1,decide_eq_true h2,h3⟩
theorem zJn{n:Nw}{cs:LP}{k h:Nat}:(hoL n cs k h).length<=n.n.length:=zM2
end Go.Eng
set_option maxHeartbeats 1000000
namespace Go.Eng
open Go
theorem zS4{n:Nw}{a b:LP}(ho:NwOk n){c:Nat}(hc:c<8)(h0:∀ h,h<n.h.toNat->∀ v,v<=(zIi n a).getD (h*8+c) 0↔v<=(zIi n b).getD (h*8+c) 0) :
  ∀ e h,h<n.h.toNat->∀ v,v<=(zAD n a e).getD (h*8+c) 0↔v<=(zAD n b e).getD (h*8+c) 0
 |0=>h0|e+1=>fun h hh v=>by
  have ih:=zS4 ho hc h0 e;show v<=(zB8 n (zAD n a e)).getD (h*8+c) 0↔v<=(zB8 n (zAD n b e)).getD (h*8+c) 0
  rw[zDK ho (zBr e) hh hc,zDK ho (zBr e) hh hc,ih h hh];refine or_congr dG ⟨fun⟨o,h1,h2⟩=>⟨o,h1,(ih o (zH7 h1) v).1 h2⟩,fun⟨o,h1,h2⟩=>⟨o,h1,(ih o (zH7 h1) v).2 h2⟩⟩
theorem zLE{n:Nw}{a:LP}(ho:NwOk n){c:Nat}(hc:c<8)(h0:∀ h,h<n.h.toNat->¬ 0<=(zIi n a).getD (h*8+c) 0) :
  ∀ e h,h<n.h.toNat->¬ 0<=(zAD n a e).getD (h*8+c) 0
 |0=>h0|e+1=>fun h hh=>by
  have ih:=zLE ho hc h0 e;show ¬ 0<=(zB8 n (zAD n a e)).getD (h*8+c) 0
  rw[zDK ho (zBr e) hh hc];rintro(h1|⟨o,h1,h2⟩)
  ·exact ih h hh h1
  ·exact ih o (zH7 h1) h2
end Go.Eng
set_option maxHeartbeats 1000000
namespace Go.Eng
open Go
def zKJ(n:Nw)(c:Int×Int)(e h k:Nat):Prop:=0<=(zAD n [c] e).getD (h*8+k) 0
theorem zCn{n:Nw}{cs ds:LP}(h:CrW n (cs++ds)):CrW n cs/\CrW n ds:=by
 have hl:=h.len;rw[bA] at hl;exact⟨⟨h.nw,by omega,fun c hc=>h.cs c (bg.2 (.inl hc))⟩,⟨h.nw,by omega,fun c hc=>h.cs c (bg.2 (.inr hc))⟩⟩
theorem zQf{n:Nw}{la:Int}{k:Nat}(hk:k<8)(e:Nat){h:Nat}(hh:h<n.h.toNat){v:Int}(hv : -1<v):∀ (ext:LP),CrW n ext->(∀ c∈ext,c.1=la) ->
  (v<=(zAD n ext e).getD (h*8+k) 0↔v<=la/\∃ c∈ext,zKJ n c e h k)
 | [],ho,_=>by
  have h0:¬ 0<=(zAD n [] e).getD (h*8+k) 0:=zLE ho.nw hk (fun a ha=>by
   rw[(zFE ho).ge ha hk];rintro(h1|⟨i,_,_,h3,_⟩)
   ·omega
   ·simp[zHm] at h3) e h hh
  constructor
  ·intro h1;exact absurd (by omega) h0
  ·rintro⟨_,c,hc,_⟩;simp at hc
 | c :: ext,ho,u3=>by
  have hp:=zCn (cs:=[c]) (ds:=ext) ho;have ih:=zQf hk e hh hv ext hp.2 fun x hx=>u3 x (dg _ hx);rw[show c::ext=[c]++ext from rfl,zEu hp.1 hp.2 ho hk e h v hh,ih,zS1 hp.1 hk e h v hh hv,u3 c (by simp)];constructor
  ·rintro(⟨h1,h2⟩|⟨h1,x,hx,h2⟩)
   ·exact⟨h1,c,by simp,h2⟩
   ·exact⟨h1,x,by simp[hx],h2⟩
  ·rintro⟨h1,x,hx,h2⟩;rcases bg.1 hx with hx|hx
   ·rw[bl.1 hx] at h2;exact .inl ⟨h1,h2⟩
   ·exact .inr ⟨h1,x,hx,h2⟩
theorem zLP{n:Nw}{cs ext:LP}{la:Int}(ho:CrW n (cs++ext))(u3:∀ c∈ext,c.1=la)(e:Nat){h x:Nat}(hh:h<n.h.toNat)(hx:x<n.n.length)(hl:(zAA n).getD x 0=la) :
  zIX n (zAD n (cs++ext) e) h x=true↔zIX n (zAD n cs e) h x=true/\¬ ∃ c∈ext,zKJ n c e h ((zAd n).getD x 0).toNat:=by
 have hp:=zCn ho;have hn:=ho.nw;have hf:=zBk hn x hx;have h8:=hn.nl;have hu:=fun v=>zEu hp.1 hp.2 ho (c:=((zAd n).getD x 0).toNat) (by omega) e h v hh;have hm:=fun(v:Int) (hv : -1<v)=>zQf (la:=la) (k:=((zAd n).getD x 0).toNat) (by omega) e hh hv ext hp.2 u3;obtain⟨l,wE,qR,_,hl4,_⟩:=zCC hn hx;have vh:(x:Int)<=la:=by omega
 simp only[zIX,bb,decide_eq_true_eq,hl];generalize (zAD n (cs++ext) e).getD (h*8+((zAd n).getD x 0).toNat) 0=U at *;generalize (zAD n cs e).getD (h*8+((zAd n).getD x 0).toNat) 0=A at *;generalize (zAD n ext e).getD (h*8+((zAd n).getD x 0).toNat) 0=B at *;have e1:=(hu A).2 (.inl (dj _));constructor
 ·rintro⟨h1,h2⟩;have jA:¬ ∃ c∈ext,zKJ n c e h ((zAd n).getD x 0).toNat:=fun hc=>by
   have h3:=(hm la (by omega)).2 ⟨dj _,hc⟩;have h4:=(hu la).2 (.inr h3);omega
  refine⟨⟨?_,h2⟩,jA⟩;rcases(hu x).1 (by omega) with h3|h3
  ·omega
  ·exact absurd ((hm x (by omega)).1 h3).2 jA
 ·rintro⟨⟨h1,h2⟩,jA⟩;refine⟨?_,h2⟩;by_cases hU:U<=-1
  ·omega
  ·rcases(hu U).1 (dj _) with h3|h3
   ·omega
   ·exact absurd ((hm U (by omega)).1 h3).2 jA
end Go.Eng
