/- Just those ye are left with an earlier notice alone that are told; who jN a notice has it by a path; and with the further cries that are told nobody is left, or gaps are told that no cry mends; for every list of numbers, evening and stands. -/
import Derived.Test.YtppbomajegnkeaaGreatPg
import Derived.Test.YtppbomajegnkeaaGreatPd
set_option linter.unusedVariables false
set_option linter.unusedSimpArgs false
set_option linter.unusedSectionVars false
set_option maxHeartbeats 1000000
open Nat (beq ble blt)
open List (map replicate take drop range length filter)
open Go.Eng.PV (own agg addr func sl bor tup omap bad bool int)
namespace Go.Eng
open Go
def zGF(n:Nw)(x y:Int):Bool:=decide ((zAd n).getD y.toNat 0=(zAd n).getD x.toNat 0)
def zHb(n:Nw)(l:LI)(x:Int):LI:=if l.findIdx (zGF n x)<l.length then l.set (l.findIdx (zGF n x)) (max (l.getD (l.findIdx (zGF n x)) 0) x) else l++[x]
theorem zWT{n:Nw}{l:LI}{x:Int}{i:Nat}(hi:i<l.length)(h0:∀ j,j<i->zGF n x (l.getD j 0)=false)(h1:zGF n x (l.getD i 0)=true):zHb n l x=l.set i (max (l.getD i 0) x):=by
 have e:l.findIdx (zGF n x)=i:=by
  rw[List.findIdx_eq hi];refine⟨by rwa[zAr hi] at h1,fun j hj=>?_⟩;have:=h0 j hj;rwa[zAr (by omega)] at this
 unfold zHb;rw[e,if_pos hi]
theorem zUS{n:Nw}{l:LI}{x:Int}(h0:∀ j,j<l.length->zGF n x (l.getD j 0)=false):zHb n l x=l++[x]:=by
 unfold zHb;rw[if_neg];rw[iI];rintro⟨y,hy,h⟩;obtain⟨j,hj,rfl⟩:=dv hy;have:=h0 j hj;rw[zAr hj] at this;rw[this] at h;cases h
structure RowK' (n:Nw) (l:LI):Prop where
 el:∀ x∈l,0<=x/\x<n.n.length
 one:l.Pairwise fun x y=>(zAd n).getD x.toNat 0≠(zAd n).getD y.toNat 0
def lev(n:Nw)(l:LI)(c:Nat)(v:Int):Prop:=v<=-1\/∃ y∈l,(zAd n).getD y.toNat 0=(c:Int)/\v<=y
theorem zXz{n:Nw}:RowK' n []:=⟨by simp,by simp⟩
theorem zTK:∀ (k:Nat) (l:LN),l.Nodup->(∀ x∈l,x<k)->l.length<=k
 |0,l,_,h=>by
  cases l with
  |nil=>simp|cons x l=>exact absurd (h x (by simp)) (by omega)
 | k + 1,l,hn,h=>by
  have h1:=zTK k (l.erase k) (hn.erase k) fun x hx=>by
   have h2:=h x (List.mem_of_mem_erase hx);have h3:x≠k:=fun e=>by
    subst e;rw[hn.erase_eq_filter] at hx;have:=(bP.1 hx).2;simp at this
   omega
  rw[List.length_erase] at h1;split at h1<;>omega
theorem zMn{n:Nw}(ho:NwOk n){l:LI}(hl:RowK' n l):l.length<=8:=by
 have h8:=ho.nl;have:=zTK 8 (l.map fun x=>((zAd n).getD x.toNat 0).toNat) (by
  rw[List.Nodup,List.pairwise_map];refine hl.one.imp_of_mem fun{x y} hx hy h=>?_;have f1:=zBk ho x.toNat (by have:=hl.el x hx;omega);have f2:=zBk ho y.toNat (by have:=hl.el y hy;omega);omega) fun y hy=>by
   obtain⟨x,hx,rfl⟩:=bT.1 hy;have hb:=hl.el x hx;have f1:=zBk ho x.toNat (by omega);omega
 simpa using this
theorem zXA{n:Nw}{c:Nat}{v:Int}:lev n [] c v↔v<=-1:=by simp[lev]
theorem zS8(n:Nw)(l:LI)(x:Int):(∃ a y b,l=a++y::b/\(zAd n).getD y.toNat 0=(zAd n).getD x.toNat 0/\zHb n l x=a++max y x::b)\/((∀ y∈l,(zAd n).getD y.toNat 0≠(zAd n).getD x.toNat 0)/\zHb n l x=l++[x]):=by
 by_cases h:l.findIdx (zGF n x)<l.length
 ·left;have hp:=fw (w:=h);refine⟨l.take (l.findIdx (zGF n x)),l[l.findIdx (zGF n x)],l.drop (l.findIdx (zGF n x)+1),?_,by simpa[zGF] using hp,?_⟩
  ·rw[List.getElem_cons_drop,cm]
  ·unfold zHb;rw[if_pos h,zAr h,cg,if_pos h]
 ·right;refine⟨fun y hy he=>h (iI.2 ⟨y,hy,decide_eq_true he⟩),?_⟩;unfold zHb;rw[if_neg h]
theorem zWO{n:Nw}{l:LI}{x:Int}(hl:RowK' n l)(hx:0<=x/\x<n.n.length):RowK' n (zHb n l x)/\∀ c v,lev n (zHb n l x) c v↔lev n l c v\/(zAd n).getD x.toNat 0=(c:Int)/\v<=x:=by
 obtain⟨h1,h2⟩:=hl;rcases zS8 n l x with⟨a,y,b,rfl,hy,he⟩|⟨hn,he⟩
 ·rw [he];have hm:(zAd n).getD (max y x).toNat 0=(zAd n).getD y.toNat 0:=by
   rcases Int.le_total y x with h|h
   ·rw[iz h,hy]
   ·rw[fY h]
  have hyy:=h1 y (by simp);refine⟨⟨fun z hz=>?_,?_⟩,fun c v=>?_⟩
  ·rcases bg.1 hz with h|h
   ·exact h1 z (by simp[h])
   ·rcases bv.1 h with rfl|h
    ·omega
    ·exact h1 z (by simp[h])
  ·rw[dF,cL] at h2 ⊢;obtain⟨g1,⟨g2,g3⟩,g4⟩:=h2;refine⟨g1,⟨fun z hz=>by rw[hm];exact g2 z hz,g3⟩,fun z hz t ht=>?_⟩;rcases bv.1 ht with rfl|ht
   ·rw[hm];exact g4 z hz y (by simp)
   ·exact g4 z hz t (by simp[ht])
  ·unfold lev;constructor
   ·rintro(h|⟨z,hz,h3,h4⟩)
    ·exact .inl (.inl h)
    ·rcases bg.1 hz with h|h
     ·exact .inl (.inr ⟨z,by simp[h],h3,h4⟩)
     ·rcases bv.1 h with rfl|h
      ·rw[hm] at h3;rcases Int.le_total y x with yR|yR
       ·rw[iz yR] at h4;exact .inr ⟨by rw[<- hy];exact h3,h4⟩
       ·rw[fY yR] at h4;exact .inl (.inr ⟨y,by simp,h3,h4⟩)
      ·exact .inl (.inr ⟨z,by simp[h],h3,h4⟩)
   ·rintro((h|⟨z,hz,h3,h4⟩)|⟨h3,h4⟩)
    ·exact .inl h
    ·rcases bg.1 hz with h|h
     ·exact .inr ⟨z,by simp[h],h3,h4⟩
     ·rcases bv.1 h with rfl|h
      ·exact .inr ⟨max z x,by simp,by rw[hm];exact h3,by omega⟩
      ·exact .inr ⟨z,by simp[h],h3,h4⟩
    ·exact .inr ⟨max y x,by simp,by rw[hm,hy];exact h3,by omega⟩
 ·rw [he];refine ⟨⟨fun z hz=>?_,?_⟩,fun c v=>?_⟩
  ·rcases bg.1 hz with h|h
   ·exact h1 z h
   ·rw[bl.1 h];exact hx
  ·rw[dF];exact⟨h2,by simp,fun z hz t ht=>by rw[bl.1 ht];exact hn z hz⟩
  ·unfold lev;constructor
   ·rintro(h|⟨z,hz,h3,h4⟩)
    ·exact .inl (.inl h)
    ·rcases bg.1 hz with h|h
     ·exact .inl (.inr ⟨z,h,h3,h4⟩)
     ·rw[bl.1 h] at h3 h4;exact .inr ⟨h3,h4⟩
   ·rintro((h|⟨z,hz,h3,h4⟩)|⟨h3,h4⟩)
    ·exact .inl h
    ·exact .inr ⟨z,by simp[hz],h3,h4⟩
    ·exact .inr ⟨x,by simp,h3,h4⟩
theorem zWD{n:Nw}{w:LI}{h:Nat}{l:LI}(ho:NwOk n)(hl:RowK' n l)(hw:∀ c:Nat,c<8->∀ v,lev n l c v↔v<=w.getD (h*8+c) 0):zCM l=zEf (hld n w h) n.n.length:=by
 have h8:=ho.nl;have huniq:∀ x∈l,∀ y∈l,(zAd n).getD x.toNat 0=(zAd n).getD y.toNat 0->x=y:=by
  have key:∀ l:LI,l.Pairwise (fun x y=>(zAd n).getD x.toNat 0≠(zAd n).getD y.toNat 0)->∀ x∈l,∀ y∈l,(zAd n).getD x.toNat 0=(zAd n).getD y.toNat 0->x=y:=by
   intro l
   induction l with
   |nil=>intro _ x hx;simp at hx|cons a l ih=>
    intro hp x hx y hy he;rw[cL] at hp;rcases bv.1 hx with h3|h3<;>rcases bv.1 hy with h4|h4
    ·rw[h3,h4]
    ·rw[h3] at he;exact absurd he (hp.1 y h4)
    ·rw[h4] at he;exact absurd he.symm (hp.1 x h3)
    ·exact ih hp.2 x h3 y h4 he
  exact key l hl.one
 refine zQb (hl.one.imp fun{x y} h he=>h (by rw[he])) fun x=>?_;simp only[hld,decide_eq_true_eq];constructor
 ·intro hx;have hb:=hl.el x hx;have hf:=zBk ho x.toNat (by omega);have hwc:=hw ((zAd n).getD x.toNat 0).toNat (by omega);have h1:=(hwc x).1 (.inr ⟨x,hx,by omega,dj _⟩);have h2:=(hwc (w.getD (h*8+((zAd n).getD x.toNat 0).toNat) 0)).2 (dj _);refine⟨x.toNat,by omega,?_,by omega⟩;rcases h2 with h2|⟨y,hy,h3,h4⟩
  ·omega
  ·have:=huniq x hx y hy (by omega);subst this;omega
 ·rintro⟨i,hi,h1,rfl⟩;have hf:=zBk ho i hi;have hwc:=hw ((zAd n).getD i 0).toNat (by omega);rcases(hwc i).2 (by omega) with h2|⟨y,hy,h3,h4⟩
  ·omega
  ·have h5:=(hwc y).1 (.inr ⟨y,hy,h3,dj _⟩);have:y=i:=by omega
   subst this;exact hy
structure TR (n:Nw) (S:Nat->Nat->Int->Prop) (rows:List LI):Prop where
 len:rows.length=n.h.toNat
 row:∀ h,h<n.h.toNat->RowK' n (rows.getD h [])
 lv:∀ h,h<n.h.toNat->∀ c,c<8->∀ v,lev n (rows.getD h []) c v↔S h c v
theorem TR.same{n:Nw}{S S':Nat->Nat->Int->Prop}{rows:List LI}(hr:TR n S rows)(h:∀ a,a<n.h.toNat->∀ c,c<8->∀ v,S a c v↔S' a c v):TR n S' rows :=
 ⟨hr.len,hr.row,fun a ha c hc v=>(hr.lv a ha c hc v).trans (h a ha c hc v)⟩
theorem TR.put{n:Nw}{S:Nat->Nat->Int->Prop}{rows:List LI}(hr:TR n S rows){h:Nat}(hh:h<n.h.toNat){x:Int}(hx:0<=x/\x<n.n.length) :
  TR n (fun a c v=>S a c v\/a=h/\(zAd n).getD x.toNat 0=(c:Int)/\v<=x) (rows.set h (zHb n (rows.getD h []) x)):=by
 obtain⟨h1,h2⟩:=zWO (hr.row h hh) hx;have hg:∀ a,(rows.set h (zHb n (rows.getD h []) x)).getD a []=if h=a then zHb n (rows.getD h []) x else rows.getD a []:=by
  intro a;have hl:=hr.len;simp only[bK,dV];by_cases e:h=a
  ·subst e;rw[if_pos rfl,if_pos rfl,if_pos (by omega)];rfl
  ·rw[if_neg e,if_neg e]
 refine⟨by simpa using hr.len,fun a ha=>?_,fun a ha c hc v=>?_⟩
 ·rw[hg];split
  ·exact h1
  ·exact hr.row a ha
 ·rw[hg];by_cases e:h=a
  ·subst e;rw[if_pos rfl,h2,hr.lv h hh c hc];exact⟨fun h=>h.imp id fun h=>⟨rfl,h⟩,fun h=>h.imp id fun h=>h.2⟩
  ·rw[if_neg e,hr.lv a ha c hc];exact⟨.inl,fun h=>h.elim id fun h=>absurd h.1.symm e⟩
def zBn(n:Nw)(cs:LP)(e:Nat):List LI:=(range n.h.toNat).map (hoL n cs e)
theorem zRC{n:Nw}{cs:LP}{e:Nat}{rows:List LI}(ho:NwOk n)(hr:TR n (fun h c v=>v<=(zAD n cs e).getD (h*8+c) 0) rows):rows.map zCM=zBn n cs e:=by
 refine iu (by simp[zBn,hr.len]) fun h h1 h2=>?_;have hh:h<n.h.toNat:=by simpa[zBn] using h2
 simp only[zBn,dz,dS];have:=zWD (w:=zAD n cs e) (h:=h) ho (hr.row h hh) fun c hc v=>hr.lv h hh c hc v;rw[zAr (by rw[hr.len];exact hh)] at this;exact this
theorem zUv{n:Nw}(ho:NwOk n):TR n (fun _ _ v=>v<=-1) (replicate n.h.toNat []):=by
 have hg:∀ h,(replicate n.h.toNat ([]:LI)).getD h []=[]:=fun h=>by
  simp only[bK,iC];split<;>rfl
 exact⟨by simp,fun h _=>by rw[hg];exact zXz,fun h _ c _ v=>by rw[hg];exact zXA⟩
def crS(n:Nw)(cs:LP)(i j:Nat)(h c:Nat)(v:Int):Prop :=
 v<=-1\/(∃ x∈cs.take i,(h:Int)∈n.s.getD x.2.toNat []/\(zAd n).getD x.1.toNat 0=(c:Int)/\v<=x.1)\/(h:Int)∈(n.s.getD (cs.getD i d0).2.toNat []).take j/\(zAd n).getD (cs.getD i d0).1.toNat 0=(c:Int)/\v<=(cs.getD i d0).1
theorem zVn{n:Nw}{cs:LP}{h c:Nat}{v:Int}:crS n cs 0 0 h c v↔v<=-1:=by simp[crS]
theorem zYu{n:Nw}{cs:LP}{i j h c:Nat}{v:Int}(hj:j<(n.s.getD (cs.getD i d0).2.toNat []).length){a:Nat}(ha:(n.s.getD (cs.getD i d0).2.toNat []).getD j 0=(a:Int)) :
  (crS n cs i j h c v\/h=a/\(zAd n).getD (cs.getD i d0).1.toNat 0=(c:Int)/\v<=(cs.getD i d0).1)↔crS n cs i (j+1) h c v:=by
 unfold crS;rw[zBI (d:=0) hj,bg,bl,ha];constructor
 ·rintro((h|h|⟨h1,h2⟩)|⟨rfl,h2⟩)
  ·exact .inl h
  ·exact .inr (.inl h)
  ·exact .inr (.inr ⟨.inl h1,h2⟩)
  ·exact .inr (.inr ⟨.inr rfl,h2⟩)
 ·rintro(h|h|⟨h1|h1,h2⟩)
  ·exact .inl (.inl h)
  ·exact .inl (.inr (.inl h))
  ·exact .inl (.inr (.inr ⟨h1,h2⟩))
  ·exact .inr ⟨by omega,h2⟩
theorem zU9{n:Nw}{cs:LP}{i h c:Nat}{v:Int}(hi:i<cs.length):crS n cs i (n.s.getD (cs.getD i d0).2.toNat []).length h c v↔crS n cs (i+1) 0 h c v:=by
 unfold crS;rw[zBI (d:=d0) hi,cF,dP];constructor
 ·rintro(h|⟨x,h1,h2⟩|h)
  ·exact .inl h
  ·exact .inr (.inl ⟨x,bg.2 (.inl h1),h2⟩)
  ·exact .inr (.inl ⟨_,bg.2 (.inr (bl.2 rfl)),h⟩)
 ·rintro(h|⟨x,h1,h2⟩|⟨h1,_⟩)
  ·exact .inl h
  ·rcases bg.1 h1 with h1|h1
   ·exact .inr (.inl ⟨x,h1,h2⟩)
   ·rw[bl.1 h1] at h2;exact .inr (.inr h2)
  ·simp at h1
theorem zXi{n:Nw}{cs:LP}(ho:CrW n cs){h c:Nat}{v:Int}(hh:h<n.h.toNat)(hc:c<8):crS n cs cs.length 0 h c v↔v<=(zAD n cs 0).getD (h*8+c) 0:=by
 show _↔v<=(zIi n cs).getD (h*8+c) 0
 rw[(zFE ho).ge hh hc];unfold crS;rw[cF,dP];constructor
 ·rintro(h1|⟨x,h1,h2,h3,h4⟩|⟨h1,_⟩)
  ·exact .inl h1
  ·have hx:=(ho.cs x h1).1;refine .inr ⟨x.1.toNat,by omega,h3,bN.2 ⟨x,h1,?_⟩,by omega⟩;simp only[hrB,bb,decide_eq_true_eq];exact⟨by omega,bN.2 ⟨_,h2,decide_eq_true rfl⟩⟩
  ·simp at h1
 ·rintro(h1|⟨i,h1,h2,h3,h4⟩)
  ·exact .inl h1
  ·obtain⟨x,g1,g2⟩:=bN.1 h3;simp only[hrB,bb,decide_eq_true_eq] at g2;obtain⟨g2,g3⟩:=g2;obtain⟨y,g4,g5⟩:=bN.1 g3;have g5:=of_decide_eq_true g5;refine .inr (.inl ⟨x,g1,?_,by rw[g2];exact h2,by omega⟩)
   first|(rw[g5];exact g4)|(rw[<- g5];exact g4)
def evS(n:Nw)(w:LI)(row:LI)(h o j:Nat)(a c:Nat)(v:Int):Prop :=
 if a<h then v<=(zB8 n w).getD (a*8+c) 0 else if a=h then v<=w.getD (a*8+c) 0\/(∃ p,p<o/\zDe n h p=true/\v<=w.getD (p*8+c) 0)\/zDe n h o=true/\∃ y∈row.take j,(zAd n).getD y.toNat 0=(c:Int)/\v<=y else v<=w.getD (a*8+c) 0
theorem zTY{n:Nw}{w row:LI}{a c:Nat}{v:Int}:v<=w.getD (a*8+c) 0↔evS n w row 0 0 0 a c v:=by
 unfold evS;rw[if_neg (b8 _)];split
 ·simp
 ·exact dG
theorem zVH{n:Nw}{w row row':LI}{h o a c:Nat}{v:Int}:evS n w row h o 0 a c v↔evS n w row' h o 0 a c v:=by
 unfold evS;rw[dP,dP]
theorem zXX{n:Nw}{w row:LI}{h o j a c:Nat}{v:Int}(hj:j<row.length)(hn:zDe n h o=true):(evS n w row h o j a c v\/a=h/\(zAd n).getD (row.getD j 0).toNat 0=(c:Int)/\v<=row.getD j 0)↔evS n w row h o (j+1) a c v:=by
 unfold evS;by_cases h1:a<h
 ·rw[if_pos h1,if_pos h1];exact⟨fun h=>h.elim id fun h=>by omega,.inl⟩
 rw[if_neg h1,if_neg h1];by_cases h2:a=h
 ·rw[if_pos h2,if_pos h2,zBI (d:=0) hj];constructor
  ·rintro((g|g|⟨g,y,g1,g2⟩)|⟨_,g2⟩)
   ·exact .inl g
   ·exact .inr (.inl g)
   ·exact .inr (.inr ⟨g,y,bg.2 (.inl g1),g2⟩)
   ·exact .inr (.inr ⟨hn,_,bg.2 (.inr (bl.2 rfl)),g2⟩)
  ·rintro(g|g|⟨g,y,g1,g2⟩)
   ·exact .inl (.inl g)
   ·exact .inl (.inr (.inl g))
   ·rcases bg.1 g1 with g1|g1
    ·exact .inl (.inr (.inr ⟨g,y,g1,g2⟩))
    ·rw[bl.1 g1] at g2;exact .inr ⟨h2,g2⟩
 ·rw[if_neg h2,if_neg h2];exact⟨fun h=>h.elim id fun h=>absurd h.1 h2,.inl⟩
theorem zWu{n:Nw}{w row row':LI}{h o j j' a c:Nat}{v:Int}(hn:zDe n h o=false):evS n w row h o j a c v↔evS n w row' h o j' a c v:=by
 unfold evS;split
 ·exact dG
 split
 ·simp[hn]
 ·exact dG
theorem zVl{n:Nw}{w row row':LI}{h o a c:Nat}{v:Int}(hr:lev n row c v↔v<=w.getD (o*8+c) 0)(h0 : -1<=w.getD (h*8+c) 0):evS n w row h o row.length a c v↔evS n w row' h (o+1) 0 a c v:=by
 unfold evS;split
 ·exact dG
 split
 ·rename_i h2;subst h2;rw[cF,dP];constructor
  ·rintro(g|⟨p,g1,g2⟩|⟨g1,g2⟩)
   ·exact .inl g
   ·exact .inr (.inl ⟨p,by omega,g2⟩)
   ·exact .inr (.inl ⟨o,by omega,g1,hr.1 (.inr g2)⟩)
  ·rintro(g|⟨p,g1,g2,g3⟩|⟨_,y,g1,_⟩)
   ·exact .inl g
   ·rcases bE.1 g1 with g4|rfl
    ·exact .inr (.inl ⟨p,g4,g2,g3⟩)
    ·rcases hr.2 g3 with g4|g4
     ·exact .inl (by omega)
     ·exact .inr (.inr ⟨g2,g4⟩)
   ·simp at g1
 ·exact dG
theorem zUp{n:Nw}(ho:NwOk n){w row row':LI}(hw:w.length=80){h a c:Nat}{v:Int}(hh:h<n.h.toNat)(hc:c<8):evS n w row h n.h.toNat 0 a c v↔evS n w row' (h+1) 0 0 a c v:=by
 unfold evS;by_cases h1:a<h
 ·rw[if_pos h1,if_pos (by omega)]
 rw[if_neg h1];by_cases h2:a=h
 ·subst h2;rw[if_pos rfl,if_pos (by omega),zDK ho hw hh hc];simp only[dP,du,false_and,exists_false,and_false,or_false,zG4,bP,bC,and_assoc]
 ·rw[if_neg h2,if_neg (by omega)];split<;>simp
theorem zXh{n:Nw}{w row:LI}{a c:Nat}{v:Int}(ha:a<n.h.toNat):evS n w row n.h.toNat 0 0 a c v↔v<=(zB8 n w).getD (a*8+c) 0:=by
 unfold evS;rw[if_pos ha]
end Go.Eng
set_option maxHeartbeats 1000000
namespace Go.Eng
open Go
section
variable (all:LP) (cov:Int×Int->Int×Int->Bool)
def chs:Nat->LP->LP->Bool×LP->Bool×LP
 |0,_,_,st=>st|k+1,ch,left,st=>if (st.1&&decide (st.2.length<=ch.length))=true then st else match left with
  |[]=>(true,ch)|g::rest=>all.foldl (fun st c=>if cov c g=true then chs k (ch++[c]) ((g::rest).filter fun x=>!cov c x) st else st) st
def zQv(ext left:LP):Prop:=(∀ c∈ext,c∈all)/\∀ g∈left,∃ c∈ext,cov c g=true
structure ChOk (ch left:LP) (st r:Bool×LP):Prop where
 new:r=st\/r.1=true/\∃ ext,r.2=ch++ext/\zQv all cov ext left
 mono:st.1=true->r.1=true/\r.2.length<=st.2.length
 best:∀ ext,zQv all cov ext left->r.1=true/\r.2.length<=ch.length+ext.length
theorem zSu : ∀ (k : Nat) (ch left:LP) (st:Bool×LP),left.length<k->ChOk all cov ch left st (chs all cov k ch left st)
 |0,_,_,_,h=>absurd h (b8 _)
 | k + 1,ch,left,st,hk=>by
  unfold chs;by_cases h0:(st.1&&decide (st.2.length<=ch.length))=true
  ·rw[if_pos h0];rw[bb,decide_eq_true_eq] at h0;exact⟨.inl rfl,fun h=>⟨h,bi _⟩,fun ext _=>⟨h0.1,by omega⟩⟩
  rw[if_neg h0]
  cases left with
  |nil=>
   refine⟨.inr ⟨rfl,[],by simp,by simp[zQv]⟩,fun h=>⟨rfl,?_⟩,fun ext _=>⟨rfl,by simp⟩⟩;rw[bb,decide_eq_true_eq] at h0;have:¬ st.2.length<=ch.length:=fun h1=>h0 ⟨h,h1⟩;show ch.length<=st.2.length
   omega
  | cons g rest =>
   have key : ∀ (L : LP) (st:Bool×LP),(∀ c∈L,c∈all) ->
     let r:=L.foldl (fun st c=>if cov c g=true then chs all cov k (ch++[c]) ((g::rest).filter fun x=>!cov c x) st else st) st
     (r=st\/r.1=true/\∃ ext,r.2=ch++ext/\zQv all cov ext (g::rest))/\(st.1=true->r.1=true/\r.2.length<=st.2.length) /\
      ∀ c∈L,cov c g=true->∀ ext,zQv all cov ext ((g::rest).filter fun x=>!cov c x)->r.1=true/\r.2.length<=ch.length+1+ext.length:=by
    intro L
    induction L with
    |nil=>intro st _;exact⟨.inl rfl,fun h=>⟨h,bi _⟩,fun c hc=>by simp at hc⟩
    | cons c L ih =>
     intro st hL;simp only[bZ];have hLt:∀ c∈L,c∈all:=fun x hx=>hL x (dg _ hx);by_cases hc:cov c g=true
     ·rw [if_pos hc];have hZ:((g::rest).filter fun x => !cov c x).length<k:=by
       have:((g::rest).filter fun x=>!cov c x)=rest.filter fun x=>!cov c x:=by rw[cG (by simp[hc])]
       rw[this];have:=bU (fun x=>!cov c x) rest;simp only[b9] at hk;omega
      have hr:=zSu k (ch++[c]) ((g::rest).filter fun x=>!cov c x) st hZ;generalize chs all cov k (ch++[c]) ((g::rest).filter fun x=>!cov c x) st=st1 at hr ⊢;obtain⟨i1,i2,i3⟩:=ih st1 hLt;refine⟨?_,fun h=>?_,fun x hx hxg ext he=>?_⟩
      ·rcases i1 with i1|i1
       ·rw[i1];rcases hr.new with h|⟨h,ext,h2,h3,h4⟩
        ·exact .inl h
        ·refine .inr ⟨h,c::ext,by rw[h2];simp,fun y hy=>?_,fun y hy=>?_⟩
         ·rcases bv.1 hy with rfl|hy
          ·exact hL _ (by simp)
          ·exact h3 y hy
         ·by_cases hcy:cov c y=true
          ·exact⟨c,by simp,hcy⟩
          ·obtain⟨z,hz,hzy⟩:=h4 y (bP.2 ⟨hy,by simpa using hcy⟩);exact⟨z,by simp[hz],hzy⟩
       ·exact .inr i1
      ·have h1:=hr.mono h;have h2:=i2 h1.1;exact⟨h2.1,by omega⟩
      ·rcases bv.1 hx with rfl|hx
       ·have h1:=hr.best ext he;have h2:=i2 h1.1;rw[bA,bW] at h1;exact⟨h2.1,by omega⟩
       ·exact i3 x hx hxg ext he
     ·rw[if_neg hc];obtain⟨i1,i2,i3⟩:=ih st hLt;refine⟨i1,i2,fun x hx hxg ext he=>?_⟩;rcases bv.1 hx with rfl|hx
      ·exact absurd hxg hc
      ·exact i3 x hx hxg ext he
   obtain⟨k1,k2,k3⟩:=key all st fun _ h=>h;refine⟨k1,k2,fun ext ⟨he1,he2⟩=>?_⟩;obtain⟨c,hc,hcg⟩:=he2 g (by simp);have h1:=k3 c (he1 c hc) hcg (ext.erase c) ⟨fun x hx=>he1 x (List.mem_of_mem_erase hx),fun y hy=>by
    obtain⟨hy1,hy2⟩:=bP.1 hy;obtain⟨z,hz,hzy⟩:=he2 y hy1;have hI:z≠c:=fun e=>by rw[e] at hzy;simp[hzy] at hy2
    exact⟨z,(List.mem_erase_of_ne hI).2 hz,hzy⟩⟩
   rw[List.length_erase_of_mem hc] at h1;have:=iJ hc;exact⟨h1.1,bF h1.2 (by omega)⟩
theorem zKg:∀ (k:Nat) (ch left:LP) (st:Bool×LP) (m:Nat),st.2.length<=m->ch.length+left.length<=m->(chs all cov k ch left st).2.length<=m
 |0,_,_,_,_,h,_=>h
 | k + 1,ch,left,st,m,h1,h2=>by
  unfold chs;split
  ·exact h1
  cases left with
  |nil=>simpa using h2
  | cons g rest =>
   have key:∀ (L:LP) (st:Bool×LP),st.2.length<=m->(L.foldl (fun st c=>if cov c g=true then chs all cov k (ch++[c]) ((g::rest).filter fun x=>!cov c x) st else st) st).2.length<=m:=by
    intro L
    induction L with
    |nil=>intro st h;exact h|cons c L ih=>
     intro st h;rw[bZ];refine ih _ ?_;by_cases hc:cov c g=true
     ·rw[if_pos hc];refine zKg k _ _ _ m h ?_;rw[cG (by simp[hc])];have:=bU (fun x=>!cov c x) rest;simp only[bA,bW,b9,cN] at h2 ⊢;omega
     ·rw[if_neg hc];exact h
   exact key all st h1
def chF(k:Nat)(ch:LP)(g:Int×Int)(rest:LP)(st:Bool×LP)(c:Int×Int):Bool×LP:=if cov c g=true then chs all cov k (ch++[c]) ((g::rest).filter fun x=>!cov c x) st else st
theorem zS7{k:Nat}{ch:LP}{g:Int×Int}{rest:LP}{m:Nat}(h2:ch.length+(g::rest).length<=m):∀ (L:LP) (st:Bool×LP),st.2.length<=m->(L.foldl (chF all cov k ch g rest) st).2.length<=m:=by
 intro L
 induction L with
 |nil=>intro st h;exact h|cons c L ih=>
  intro st h;rw[bZ];refine ih _ ?_;unfold chF;by_cases hc:cov c g=true
  ·rw[if_pos hc];refine zKg all cov k _ _ _ m h ?_;rw[cG (by simp[hc])];have:=bU (fun x=>!cov c x) rest;simp only[bA,bW,b9,cN] at h2 ⊢;omega
  ·rw[if_neg hc];exact h
theorem zPK{k:Nat}{ch:LP}{g:Int×Int}{rest:LP}{st:Bool×LP}(h:¬ (st.1&&decide (st.2.length<=ch.length))=true):chs all cov (k+1) ch (g::rest) st=all.foldl (chF all cov k ch g rest) st:=by
 unfold chs;rw[if_neg h];rfl
theorem zUZ{k:Nat}{ch left:LP}{st:Bool×LP}(h:(st.1&&decide (st.2.length<=ch.length))=true):chs all cov (k+1) ch left st=st:=by
 unfold chs;rw[if_pos h]
theorem zTt{k:Nat}{ch:LP}{st:Bool×LP}(h:¬ (st.1&&decide (st.2.length<=ch.length))=true):chs all cov (k+1) ch [] st=(true,ch):=by
 unfold chs;rw[if_neg h]
end
theorem zYv{es es' es'':List (PV×PV)}(h:es'=es''):zAz (fun _=>some (.omap es')) (.box (.omap es)) [(0,0)]=some (.box (.omap es''))/\zAH (.box (.omap es)) (.box (.omap es'')) [(0,0)]=true:=by
 subst h;exact⟨rfl,rfl⟩
end Go.Eng
set_option maxRecDepth 10000
set_option maxHeartbeats 4000000
namespace Go.Eng
open Go Go.Proofs
theorem f124(c:LP)(g:Int×Int)(hc:c.length<=1000):FG 124 [prV g,.ref (prs c)] (.bool (has c g)):=by
 refine zAe Tryz.f124 ?_;refine zAj 2<|zAn 2<|S_a [(8,.ret (bool (has c g)) [])] (ap (f81 c g (by omega)) an)<|S_g 1<|zAm E_0
theorem f174_2(c:LP)(hc:c.length<=1000)(l:LP)(hl:l.length<4294967296):FG 174 [.sl (l.map prV),.func 124 [] [.ref (prs c)]] (I (zDI (fun x=>has c x) l)):=by
 refine zAe Tryz.f174 ?_;refine zAj 1<|zAc<|zAn 1<|S_a [(0,.n l.length)] (ap (lnS prV l) an)<|S_g 1<|zAg 0 ?_
 refine zAu (fun i=>i<=l.length/\∀ j,j<i->(fun x=>has c x) (l.getD j d0)=false) (fun i=>[(8,I (i:Nat))]) (fun i=>l.length-i) (0:Nat) (by simp) fun i ⟨hi,ha⟩=>?_;refine zAj 1<|zAc<|zC4 ((i:Int)<(l.length:Int)) (fun k0=>(zAh<|zAc<|zAg 1<|zAj 2<|zAn 3<|S_a [(2,.v (prV (l.getD i d0)))] (ap (zBN d0 (by omega):(map prV l)[i]? = some (prV (l.getD i d0))) an)<|zAp 1<|S_a [(7,.ret (bool (has c (l.getD i d0))) [])] (ap (f124 c (l.getD i d0) (by omega)) an)<|zA6<|zEE (has c (l.getD i d0)) (fun k1=>(zAj 2<|zAm<|E_a [] an (I (i:Int)) [] ?_ rfl)) (fun k1=>(zAh<|zAb<|S_i i<|S_g 1 ?_)))) (fun k0=>(zAG 0<|zAj 1<|zAm<|E_a [] an (I (-1)) [] ?_ rfl))
 ·rw[zBK (i:=i) (by omega) (fun j hj=>by rw[<- zAr (d:=d0)];exact ha j hj) (by rw[<- zAr (d:=d0)];first|assumption|exact decide_eq_true ‹_›|(simp only[bD,decide_eq_false_iff_not];assumption))]
 ·refine⟨i+1,⟨by omega,fun j hj=>?_⟩,by omega,by kernel_rfl,by kernel_rfl⟩;rcases bE.1 hj with h|rfl
  ·exact ha j h
  ·first|assumption|exact decide_eq_false ‹_›|(simp only[bB,decide_eq_true_eq];first|assumption|(apply cJ;assumption))
 ·rw[zBV fun j hj=>by rw[<- zAr (d:=d0)];exact ha j (by omega)]
theorem f122_2(c:LP)(hc:c.length<=1000)(l:LP)(hl:l.length<4294967296):FG 122 [.own 2 (l.map prV),.func 124 [] [.ref (prs c)]] (.own 2 ((l.filter fun x=>!(has c x)).map prV)):=by
 have h1:=zLG (fun x=>has c x) l;have y4:=f174_2 c hc l hl;by_cases hm:zDI (fun x=>has c x) l = -1
 ·rw[hm] at y4;rw[h1.1 hm];refine zAe Tryz.f122 ?_;refine zAj 1<|zAn 2<|S_a [(3,.ob),(0,.v (prs l)),(3,.ret (I (-1)) [])] (ap (blz (map prV l))<|ap (frT prV l)<|ap y4 an)<|S_g 1<|zAc<|zAj 2<|zB9<|zAn 1<|S_a [(2,.yes)] (ap ((by exact zBj (by simp<;>omega)):(beq 0 0&&(map prV l).length.beq (map prV l).length)=true) an)<|zA6<|zAm<|E_z [(1,.yes),(1,.v (own 2 (map prV l)))] (ap (blz (map prV l))<|ap ((zAQ zAW):own 2 (take (map prV l).length (drop 0 (map prV l)))=own 2 (map prV l)) an)
 ·obtain⟨i0,jY,hil0,qn⟩:=h1.2 hm;rw[jY] at y4;clear h1 hm;refine zAe Tryz.f122 ?_;refine zAj 1<|zAn 2<|S_a [(3,.ob),(0,.v (prs l)),(3,.ret (I (i0:Int)) [])] (ap (blz (map prV l))<|ap (frT prV l)<|ap y4 an)<|S_g 1<|zAc<|zAj 2<|zAB<|zAh<|zAc<|zAn 1<|S_i i0<|S_g 1<|zAg 0 ?_
  refine zAu (fun(i,j,S)=>j<=l.length/\i<j/\S.length=l.length/\S.take i=(l.take j).filter (fun x=>!(has c x))/\∀ r,j<=r->S.getD r d0=l.getD r d0) (fun(i,j,S)=>[(0,.own 2 (S.map prV)),(5,I (i:Nat)),(6,I (j:Nat))]) (fun(_,j,_)=>l.length-j) (i0,i0+1,l) ⟨by omega,by omega,rfl,qn,fun _ _=>rfl⟩ fun(i,j,S) ⟨hj,wu,hS,ht,hd⟩=>?_;by_cases y5:j<l.length
  ·have ud:=True.intro;have hx:=hd j (bi j);have yC:=zGY (fun x=>!(has c x)) l j d0 y5;rw[<- hx] at yC;clear y4;have vp:=hd;clear hd hx;refine zAc<|zAn 2<|S_a [(0,.n S.length)] (ap (lnS prV S) an)<|S_g 1<|zAL ((j:Int)<(S.length:Int)) (by omega)<|zAh<|zAc<|zAg 1<|zAn 2<|S_a [(2,.ob),(1,.n j)] (ap ((by exact zAl (by simp only[be,zzLn]<;>omega)):decide (j<(map prV S).length)=true)<|ap ((by simp):some (0+j)=some j) an)<|S_a [(0,.cs true ([I (S.getD j d0).fst,I (S.getD j d0).snd]))] (ap (zB2 (q:=own 2 (map prV S)) (xs:=map prV S) (x:=prV (S.getD j d0)) rfl (zBN d0 (by omega)):zAo 0 (own 2 (map prV S)) [] j 0 Tryz.prog.types[108].size=some (true,[I (S.getD j d0).fst,I (S.getD j d0).snd])) an)<|S_g 2<|zAn 2<|S_a [(7,.ret (bool (has c (S.getD j d0))) [])] (ap (f124 c (S.getD j d0) (by omega)) an)<|S_g 1<|zEE (!has c (S.getD j d0)) (fun k0=>(zAn 3<|S_a [(2,.ob),(1,.n i)] (ap ((by exact zAl (by simp only[be,zzLn]<;>omega)):decide (i<(map prV S).length)=true)<|ap ((by simp):some (0+i)=some i) an)<|S_a [(8,.root (own 2 (map prV (S.set i (S.getD j d0)))) true)] (ap (zNy (zBN d0 (by omega)) zFm:zBO (own 2 (map prV S)) [] i 0 (prV (S.getD j d0)).cells=some (own 2 (map prV (S.set i (S.getD j d0))))/\zAH (own 2 (map prV S)) (own 2 (map prV (S.set i (S.getD j d0)))) []=true) an)<|zA6<|zAb<|zAp 1<|S_i i<|S_g 1<|zAb<|zAp 1<|S_i j<|S_g 1 ?_)) (fun k0=>(zAh<|zAb<|zAp 1<|S_i j<|S_g 1 ?_))
   ·have hb:((fun x=>!(has c x)) (S.getD j d0))=true:=by first|assumption|(simp only[bD,decide_eq_false_iff_not];assumption)
    rw[if_pos hb] at yC;refine⟨(i+1,j+1,S.set i (S.getD j d0)),⟨by omega,by omega,by simpa using hS,?_,fun r uF=>?_⟩,by simp only;omega,by kernel_rfl,by kernel_rfl⟩
    ·rw[yC,<- ht,zFl (by omega)]
    ·rw[zG7 (by omega)];exact vp r (by omega)
   ·have hb:((fun x=>!(has c x)) (S.getD j d0))=false:=by first|assumption|(simp only[bB,decide_eq_true_eq];assumption)
    rw[if_neg (fun h=>Bool.noConfusion (hb.symm.trans h))] at yC;exact rnd (i,j+1,S) ⟨by omega,by omega,hS,by rw[yC,ht],fun r uF=>vp r (by omega)⟩ (by simp only;omega)
  ·refine zAc<|zAn 2<|S_a [(0,.n S.length)] (ap (lnS prV S) an)<|S_g 1<|zAS ((j:Int)<(S.length:Int)) (by omega)<|zAG 0<|zAn 2<|S_a [(3,.ob),(0,.yes),(0,.yes),(0,.v (bor 0 [] 2 i (S.length-i)))] (ap ((by exact zAP (by simp only[be,zzLn,zAJ]<;>omega)):i.ble (map prV S).length=true)<|ap ((by exact zAP (by simp only[be,zzLn,zAJ]<;>omega)):(map prV S).length.ble (map prV S).length=true)<|ap ((by simp<;>omega):(i.beq 0||i.blt (map prV S).length)=true)<|ap ((by simp):bor 0 [] 2 (0+i) ((map prV S).length-i)=bor 0 [] 2 i (S.length-i)) an)<|zMi (g:=prV) (fun q=>q) 0 2 i (S.length-i) S ((0,0)) (by first|omega|(simp<;>omega)) ⟨rfl,rfl⟩ (fun _=>(by first|exact zGD|exact⟨rfl,rfl,rfl,rfl,bi _,rfl⟩)) zOo.nil (zA6<|zAn 2<|S_a [(4,.yes)] (ap ((by exact zAP (by simp<;>omega)):i.ble (map prV (take i S++replicate (S.length-i) (0,0)++drop (i+(S.length-i)) S)).length=true) an)<|S_g 1<|zAm<|E_a [(1,.yes),(1,.v (own 2 (map prV (take i (take i S++replicate (S.length-i) (0,0)++drop (i+(S.length-i)) S)))))] (ap ((by exact zAP (by simp<;>omega)):(0+((i:Int).toNat-0)).ble (map prV (take i S++replicate (S.length-i) (0,0)++drop (i+(S.length-i)) S)).length=true)<|ap ((by simp):own 2 (take i (drop 0 (map prV (take i S++replicate (S.length-i) (0,0)++drop (i+(S.length-i)) S))))=own 2 (map prV (take i (take i S++replicate (S.length-i) (0,0)++drop (i+(S.length-i)) S)))) an) (own 2 (map prV (take i (take i S++replicate (S.length-i) (0,0)++drop (i+(S.length-i)) S)))) [] ?_ rfl)
   rw[bz (d5 y5)] at ht;rw[<- ht,cx,cI (by rw[bY];omega),fF,iy]
theorem f44_1(n:Nw)(cs:LP)(e:Int)(st:LI)(ho:OffOk n cs e st)(yC:st.length<1000000):FG 44 [nwV n,prs cs,I e,zBi st] (.tup [.sl ((zWn n cs e.toNat (zAV n (zAD n cs e.toNat)) st).map prV),I 0]):=by
 have je:=ho.ev;have vE:=je.cr;have jr:=vE.w;have hn:=vE.nw;have wy:=vE.len;have he:=je.ev;have kY:=hn.nl;have gi:=zEj (w:=zAD n cs e.toNat) hn;have vU:∀ g∈zAV n (zAD n cs e.toNat),(0<=g.1/\g.1<n.h)/\(0<=g.2/\g.2<n.n.length):=zSE;have kS:=f121_1 n cs e st ho yC;rw[<- zYF];generalize zAV n (zAD n cs e.toNat)=G at *;refine zAe Tryz.f44 ?_;refine zAj 3<|zAn 4<|S_a [(12,.ret (tup [zE8 n cs,prs G,agg [zWH n cs e G],I 0]) [])] (ap kS an)<|S_g 10<|zAc<|zAj 2<|zAB<|zAh<|zAc<|zAn 2<|S_a [(0,.n n.n.length)] (ap (lnS ntV n.n) an)<|S_g 1<|zAg 0 ?_
 refine zAu (fun(i,L,_)=>i<=n.n.length/\L=zXE n cs e.toNat G st i) (fun((i:Nat),(L:LP),(f:Bool))=>[(11,bif f then .own 2 (L.map prV) else .sl (L.map prV)),(34,I (i:Nat))]) (fun(i,_,_)=>n.n.length-i) ((0:Nat),G,false) ⟨bR _,rfl⟩ fun(i,L,f) ⟨hi,hL⟩=>?_;have hLl:L.length<=G.length:=by rw[hL];exact zPq i
 by_cases yH:i<n.n.length
 ·have ji:=zMy (n:=n) (cs:=cs) (e:=e.toNat) (G:=G) (st:=st) (k:=i);rw[<- hL] at ji;clear hL;cases f
  ·refine zAj 1<|zAc<|zAL ((i:Int)<(n.n.length:Int)) (by omega)<|zAh<|zAc<|zAg 1<|zAj 2<|zAn 1<|S_a [(0,.n st.length)] (ap (lnS I st) an)<|S_g 1<|zAg 2 ?_
   refine zAu (fun(j,M,_)=>j<=st.length/\M=zWh n cs e.toNat G i L (st.take j)) (fun((j:Nat),(M:LP),(f:Bool))=>[(11,bif f then .own 2 (M.map prV) else .sl (M.map prV)),(39,I (j:Nat))]) (fun(j,_,_)=>st.length-j) ((0:Nat),L,false) ⟨bR _,rfl⟩ fun(j,M,f) ⟨hj,hM⟩=>?_;have hMl:M.length<=L.length:=by rw[hM];exact zIY _ _
   by_cases y5:j<st.length
   ·have yK:=zMZ (n:=n) (cs:=cs) (e:=e.toNat) (G:=G) (L:=L) (i:=i) y5;have yW:=zBP (d:=(0:Int)) ho.rng j y5;rw[<- hM] at yK;have ko:(0<=(((i:Int),st.getD j 0):Int×Int).1/\(((i:Int),st.getD j 0):Int×Int).1<n.n.length)/\(0<=(((i:Int),st.getD j 0):Int×Int).2/\(((i:Int),st.getD j 0):Int×Int).2<n.s.length):=by simp only;omega
    have hmc:=f173 n cs G e ((i:Int),st.getD j 0) jr wy (by omega) (by omega) vU ko;have yO:(zFb n (zAD n (cs++[((i:Int),st.getD j 0)]) e.toNat) G).length<=1000:=bF (bU _ _) (by omega);generalize zFb n (zAD n (cs++[((i:Int),st.getD j 0)]) e.toNat) G=C at *;clear hM ji kS vU;cases f
    ·refine zAj 1<|zAc<|zAL ((j:Int)<(st.length:Int)) (by omega)<|zAh<|zAc<|zAg 3<|zAc<|zAb<|S_a [(2,.v (I (st.getD j 0)))] (ap (zBN (0) (by omega):(map I st)[j]? = some (I (st.getD j 0))) an)<|S_g 2<|zAn 5<|S_a [(9,.ret (prs C) [])] (ap hmc an)<|S_g 2<|zAb<|zAp 1<|S_a [(6,.ret (own 2 (map prV M)) [])] (ap (f123 M (by omega)) an)<|zAp 1<|S_a [(3,.ob),(1,.v (own 2 (map prV M))),(9,.ret (own 2 (map prV (filter (fun x=>!has C x) M))) []),(1,.yes)] (ap ((by exact zAP (by simp only[be,zzLn,zAJ]<;>omega)):(map prV M).length.ble (map prV M).length=true)<|ap ((zAQ zAW):own 2 (take (map prV M).length (drop 0 (map prV M)))=own 2 (map prV M))<|ap (f122_2 C (by omega) M (by omega))<|ap ((by exact zBv _):(own 2 (map prV (filter (fun x=>!has C x) M))).free=true) an)<|S_g 1<|zAb<|S_i j<|S_g 1 ?_
     exact rnd (j+1,M.filter fun g=>!has C g,true) ⟨by omega,yK.symm⟩ (by simp only;omega)
    ·refine zAj 1<|zAc<|zAL ((j:Int)<(st.length:Int)) (by omega)<|zAh<|zAc<|zAg 3<|zAc<|zAb<|S_a [(2,.v (I (st.getD j 0)))] (ap (zBN (0) (by omega):(map I st)[j]? = some (I (st.getD j 0))) an)<|S_g 2<|zAn 5<|S_a [(9,.ret (prs C) [])] (ap hmc an)<|S_g 2<|zAb<|zAp 1<|S_a [(3,.ob),(0,.v (prs M)),(2,.ret (own 2 (map prV M)) []),(1,.yes)] (ap (blz (map prV M))<|ap (frT prV M)<|ap (f123 M (by omega))<|ap ((by exact zBv _):(own 2 (map prV M)).free=true) an)<|zAp 1<|S_a [(3,.ob),(1,.v (own 2 (map prV M))),(9,.ret (own 2 (map prV (filter (fun x=>!has C x) M))) []),(1,.yes)] (ap ((by exact zAP (by simp only[be,zzLn,zAJ]<;>omega)):(map prV M).length.ble (map prV M).length=true)<|ap ((zAQ zAW):own 2 (take (map prV M).length (drop 0 (map prV M)))=own 2 (map prV M))<|ap (f122_2 C (by omega) M (by omega))<|ap ((by exact zBv _):(own 2 (map prV (filter (fun x=>!has C x) M))).free=true) an)<|S_g 1<|zAb<|S_i j<|S_g 1 ?_
     exact rnd (j+1,M.filter fun g=>!has C g,true) ⟨by omega,yK.symm⟩ (by simp only;omega)
   ·rw[bz (by omega)] at hM;rw[<- hM] at ji;clear hM kS vU;cases f
    ·refine zAj 1<|zAc<|zAS ((j:Int)<(st.length:Int)) (by omega)<|zAG 2<|zAb<|S_i i<|S_g 1 ?_
     exact rnd (i+1,M,false) ⟨by omega,ji.symm⟩ (by simp only;omega)
    ·refine zAj 1<|zAc<|zAS ((j:Int)<(st.length:Int)) (by omega)<|zAG 2<|zAb<|S_i i<|S_g 1 ?_
     exact rnd (i+1,M,true) ⟨by omega,ji.symm⟩ (by simp only;omega)
  ·refine zAj 1<|zAc<|zAL ((i:Int)<(n.n.length:Int)) (by omega)<|zAh<|zAc<|zAg 1<|zAj 2<|zAn 1<|S_a [(0,.n st.length)] (ap (lnS I st) an)<|S_g 1<|zAg 2 ?_
   refine zAu (fun(j,M,_)=>j<=st.length/\M=zWh n cs e.toNat G i L (st.take j)) (fun((j:Nat),(M:LP),(f:Bool))=>[(11,bif f then .own 2 (M.map prV) else .sl (M.map prV)),(39,I (j:Nat))]) (fun(j,_,_)=>st.length-j) ((0:Nat),L,true) ⟨bR _,rfl⟩ fun(j,M,f) ⟨hj,hM⟩=>?_;have hMl:M.length<=L.length:=by rw[hM];exact zIY _ _
   by_cases y5:j<st.length
   ·have yK:=zMZ (n:=n) (cs:=cs) (e:=e.toNat) (G:=G) (L:=L) (i:=i) y5;have yW:=zBP (d:=(0:Int)) ho.rng j y5;rw[<- hM] at yK;have ko:(0<=(((i:Int),st.getD j 0):Int×Int).1/\(((i:Int),st.getD j 0):Int×Int).1<n.n.length)/\(0<=(((i:Int),st.getD j 0):Int×Int).2/\(((i:Int),st.getD j 0):Int×Int).2<n.s.length):=by simp only;omega
    have hmc:=f173 n cs G e ((i:Int),st.getD j 0) jr wy (by omega) (by omega) vU ko;have yO:(zFb n (zAD n (cs++[((i:Int),st.getD j 0)]) e.toNat) G).length<=1000:=bF (bU _ _) (by omega);generalize zFb n (zAD n (cs++[((i:Int),st.getD j 0)]) e.toNat) G=C at *;clear hM ji kS vU;cases f
    ·refine zAj 1<|zAc<|zAL ((j:Int)<(st.length:Int)) (by omega)<|zAh<|zAc<|zAg 3<|zAc<|zAb<|S_a [(2,.v (I (st.getD j 0)))] (ap (zBN (0) (by omega):(map I st)[j]? = some (I (st.getD j 0))) an)<|S_g 2<|zAn 5<|S_a [(9,.ret (prs C) [])] (ap hmc an)<|S_g 2<|zAb<|zAp 1<|S_a [(6,.ret (own 2 (map prV M)) [])] (ap (f123 M (by omega)) an)<|zAp 1<|S_a [(3,.ob),(1,.v (own 2 (map prV M))),(9,.ret (own 2 (map prV (filter (fun x=>!has C x) M))) []),(1,.yes)] (ap ((by exact zAP (by simp only[be,zzLn,zAJ]<;>omega)):(map prV M).length.ble (map prV M).length=true)<|ap ((zAQ zAW):own 2 (take (map prV M).length (drop 0 (map prV M)))=own 2 (map prV M))<|ap (f122_2 C (by omega) M (by omega))<|ap ((by exact zBv _):(own 2 (map prV (filter (fun x=>!has C x) M))).free=true) an)<|S_g 1<|zAb<|S_i j<|S_g 1 ?_
     exact rnd (j+1,M.filter fun g=>!has C g,true) ⟨by omega,yK.symm⟩ (by simp only;omega)
    ·refine zAj 1<|zAc<|zAL ((j:Int)<(st.length:Int)) (by omega)<|zAh<|zAc<|zAg 3<|zAc<|zAb<|S_a [(2,.v (I (st.getD j 0)))] (ap (zBN (0) (by omega):(map I st)[j]? = some (I (st.getD j 0))) an)<|S_g 2<|zAn 5<|S_a [(9,.ret (prs C) [])] (ap hmc an)<|S_g 2<|zAb<|zAp 1<|S_a [(3,.ob),(0,.v (prs M)),(2,.ret (own 2 (map prV M)) []),(1,.yes)] (ap (blz (map prV M))<|ap (frT prV M)<|ap (f123 M (by omega))<|ap ((by exact zBv _):(own 2 (map prV M)).free=true) an)<|zAp 1<|S_a [(3,.ob),(1,.v (own 2 (map prV M))),(9,.ret (own 2 (map prV (filter (fun x=>!has C x) M))) []),(1,.yes)] (ap ((by exact zAP (by simp only[be,zzLn,zAJ]<;>omega)):(map prV M).length.ble (map prV M).length=true)<|ap ((zAQ zAW):own 2 (take (map prV M).length (drop 0 (map prV M)))=own 2 (map prV M))<|ap (f122_2 C (by omega) M (by omega))<|ap ((by exact zBv _):(own 2 (map prV (filter (fun x=>!has C x) M))).free=true) an)<|S_g 1<|zAb<|S_i j<|S_g 1 ?_
     exact rnd (j+1,M.filter fun g=>!has C g,true) ⟨by omega,yK.symm⟩ (by simp only;omega)
   ·rw[bz (by omega)] at hM;rw[<- hM] at ji;clear hM kS vU;cases f
    ·refine zAj 1<|zAc<|zAS ((j:Int)<(st.length:Int)) (by omega)<|zAG 2<|zAb<|S_i i<|S_g 1 ?_
     exact rnd (i+1,M,false) ⟨by omega,ji.symm⟩ (by simp only;omega)
    ·refine zAj 1<|zAc<|zAS ((j:Int)<(st.length:Int)) (by omega)<|zAG 2<|zAb<|S_i i<|S_g 1 ?_
     exact rnd (i+1,M,true) ⟨by omega,ji.symm⟩ (by simp only;omega)
 ·rw[show i=n.n.length by omega] at hL;rw[<- hL];clear hL kS vU;cases f
  ·refine zAj 1<|zAc<|zAS ((i:Int)<(n.n.length:Int)) (by omega)<|zAG 0<|zAj 3<|zAm E_0
  ·refine zAj 1<|zAc<|zAS ((i:Int)<(n.n.length:Int)) (by omega)<|zAG 0<|zAn 1<|S_a [(2,.yes)] (ap ((by exact zBj (by simp<;>omega)):(beq 0 0&&(map prV L).length.beq (map prV L).length)=true) an)<|S_g 1<|zAm<|E_z [(1,.envv ([(3,zBi st),(4,(agg [I n.h,prs n.l,sl (map ntV n.n),sl (map zBi n.s)]).box),(8,prs L),(9,I 0),(12,(agg [func 173 [] [(agg (I n.h::prs n.l::sl (map ntV n.n)::sl (map zBi n.s)::prs cs::PV.map (map zDD (map pr2 n.l))::(zAY (zAd n) 8++zAY (zAA n) 8))).ref.ref,(prs G).ref,(I e).ref]]).box),(13,I 0),(18,tup [bad,bad,bad,bad]),(23,tup [bad,bad,bad,bad]),(25,prs G),(29,bool false),(33,I (n.n.length:Int)),(34,I (i:Int)),(35,bool (decide ((i:Int)<(n.n.length:Int)))),(55,bor 11 [] 2 0 (map prV L).length),(2000288,(agg (I n.h::prs n.l::sl (map ntV n.n)::sl (map zBi n.s)::prs cs::PV.map (map zDD (map pr2 n.l))::(zAY (zAd n) 8++zAY (zAA n) 8))).ref),(2000289,prs G),(2000290,agg [func 173 [] [(agg (I n.h::prs n.l::sl (map ntV n.n)::sl (map zBi n.s)::prs cs::PV.map (map zDD (map pr2 n.l))::(zAY (zAd n) 8++zAY (zAA n) 8))).ref.ref,(prs G).ref,(I e).ref]]),(2000291,I 0)]) (prs L))] (ap (And.intro (fv (by kernel_rfl:Env.frz [(3,zBi st),(4,(agg [I n.h,prs n.l,sl (map ntV n.n),sl (map zBi n.s)]).box),(8,own 2 (map prV L)),(9,I 0),(12,(agg [func 173 [] [(agg (I n.h::prs n.l::sl (map ntV n.n)::sl (map zBi n.s)::prs cs::PV.map (map zDD (map pr2 n.l))::(zAY (zAd n) 8++zAY (zAA n) 8))).ref.ref,(prs G).ref,(I e).ref]]).box),(13,I 0),(18,tup [bad,bad,bad,bad]),(23,tup [bad,bad,bad,bad]),(25,prs G),(29,bool false),(33,I (n.n.length:Int)),(34,I (i:Int)),(35,bool (decide ((i:Int)<(n.n.length:Int)))),(55,bor 11 [] 2 0 (map prV L).length),(2000288,(agg (I n.h::prs n.l::sl (map ntV n.n)::sl (map zBi n.s)::prs cs::PV.map (map zDD (map pr2 n.l))::(zAY (zAd n) 8++zAY (zAA n) 8))).ref),(2000289,prs G),(2000290,agg [func 173 [] [(agg (I n.h::prs n.l::sl (map ntV n.n)::sl (map zBi n.s)::prs cs::PV.map (map zDD (map pr2 n.l))::(zAY (zAd n) 8++zAY (zAA n) 8))).ref.ref,(prs G).ref,(I e).ref]]),(2000291,I 0)] 8 []=some [(3,zBi st),(4,(agg [I n.h,prs n.l,sl (map ntV n.n),sl (map zBi n.s)]).box),(8,sl (zAt (map prV L))),(9,I 0),(12,(agg [func 173 [] [(agg (I n.h::prs n.l::sl (map ntV n.n)::sl (map zBi n.s)::prs cs::PV.map (map zDD (map pr2 n.l))::(zAY (zAd n) 8++zAY (zAA n) 8))).ref.ref,(prs G).ref,(I e).ref]]).box),(13,I 0),(18,tup [bad,bad,bad,bad]),(23,tup [bad,bad,bad,bad]),(25,prs G),(29,bool false),(33,I (n.n.length:Int)),(34,I (i:Int)),(35,bool (decide ((i:Int)<(n.n.length:Int)))),(55,bor 11 [] 2 0 (map prV L).length),(2000288,(agg (I n.h::prs n.l::sl (map ntV n.n)::sl (map zBi n.s)::prs cs::PV.map (map zDD (map pr2 n.l))::(zAY (zAd n) 8++zAY (zAA n) 8))).ref),(2000289,prs G),(2000290,agg [func 173 [] [(agg (I n.h::prs n.l::sl (map ntV n.n)::sl (map zBi n.s)::prs cs::PV.map (map zDD (map pr2 n.l))::(zAY (zAd n) 8++zAY (zAA n) 8))).ref.ref,(prs G).ref,(I e).ref]]),(2000291,I 0)]) ((by simp only[show zAt (map prV L)=map prV L from(by first|exact zAq _|exact zAw _|exact zAv _|exact zAO (zAw _)|exact zAO (zAv _)|exact zBL (by simp[zBd]) (zAq _))]):some [(3,zBi st),(4,(agg [I n.h,prs n.l,sl (map ntV n.n),sl (map zBi n.s)]).box),(8,sl (zAt (map prV L))),(9,I 0),(12,(agg [func 173 [] [(agg (I n.h::prs n.l::sl (map ntV n.n)::sl (map zBi n.s)::prs cs::PV.map (map zDD (map pr2 n.l))::(zAY (zAd n) 8++zAY (zAA n) 8))).ref.ref,(prs G).ref,(I e).ref]]).box),(13,I 0),(18,tup [bad,bad,bad,bad]),(23,tup [bad,bad,bad,bad]),(25,prs G),(29,bool false),(33,I (n.n.length:Int)),(34,I (i:Int)),(35,bool (decide ((i:Int)<(n.n.length:Int)))),(55,bor 11 [] 2 0 (map prV L).length),(2000288,(agg (I n.h::prs n.l::sl (map ntV n.n)::sl (map zBi n.s)::prs cs::PV.map (map zDD (map pr2 n.l))::(zAY (zAd n) 8++zAY (zAA n) 8))).ref),(2000289,prs G),(2000290,agg [func 173 [] [(agg (I n.h::prs n.l::sl (map ntV n.n)::sl (map zBi n.s)::prs cs::PV.map (map zDD (map pr2 n.l))::(zAY (zAd n) 8++zAY (zAA n) 8))).ref.ref,(prs G).ref,(I e).ref]]),(2000291,I 0)]=some [(3,zBi st),(4,(agg [I n.h,prs n.l,sl (map ntV n.n),sl (map zBi n.s)]).box),(8,prs L),(9,I 0),(12,(agg [func 173 [] [(agg (I n.h::prs n.l::sl (map ntV n.n)::sl (map zBi n.s)::prs cs::PV.map (map zDD (map pr2 n.l))::(zAY (zAd n) 8++zAY (zAA n) 8))).ref.ref,(prs G).ref,(I e).ref]]).box),(13,I 0),(18,tup [bad,bad,bad,bad]),(23,tup [bad,bad,bad,bad]),(25,prs G),(29,bool false),(33,I (n.n.length:Int)),(34,I (i:Int)),(35,bool (decide ((i:Int)<(n.n.length:Int)))),(55,bor 11 [] 2 0 (map prV L).length),(2000288,(agg (I n.h::prs n.l::sl (map ntV n.n)::sl (map zBi n.s)::prs cs::PV.map (map zDD (map pr2 n.l))::(zAY (zAd n) 8++zAY (zAA n) 8))).ref),(2000289,prs G),(2000290,agg [func 173 [] [(agg (I n.h::prs n.l::sl (map ntV n.n)::sl (map zBi n.s)::prs cs::PV.map (map zDD (map pr2 n.l))::(zAY (zAd n) 8++zAY (zAA n) 8))).ref.ref,(prs G).ref,(I e).ref]]),(2000291,I 0)])) (zG5 (by first|exact zAq _|exact zAw _|exact zAv _):PV.mapW (inl 8 [] (own 2 (map prV L))) (bor 8 [] 2 0 (map prV L).length)=prs L)) an)
end Go.Eng
set_option maxRecDepth 10000
set_option maxHeartbeats 4000000
namespace Go.Eng
open Go Go.Proofs
def zVY(P:Program)(t:TypeId):List Field:=match P.underlying t with
 |some (.struct fs)=>fs.toList|_=>[]
theorem zX9(a b c d:Int):eqT Tryz.prog 20 37 (.agg [I a,I b]) (.agg [I c,I d])=some (decide (a=c)&&decide (b=d)):=by
 have s1:eqT Tryz.prog 20 37 (.agg [I a,I b]) (.agg [I c,I d])=(match some (a==c) with|some true=>zVD (eqT Tryz.prog 19) (shT Tryz.prog) (.agg [I a,I b]) (.agg [I c,I d]) (zVY Tryz.prog 37).tail|r=>r):=by kernel_rfl
 have s2:zVD (eqT Tryz.prog 19) (shT Tryz.prog) (.agg [I a,I b]) (.agg [I c,I d]) (zVY Tryz.prog 37).tail=(match some (b==d) with|some true=>some true|r=>r):=by kernel_rfl
 rw[s1];show _=some ((a==c)&&(b==d))
 cases a==c
 ·rfl
 simp only[s2,cR];cases b==d<;>rfl
abbrev zCg(la:Int)(M:Int->LP)(s:Int):PV×PV:=(prV (la,s),prs (M s))
theorem zPG{la:Int}{M:Int->LP}{ss:LI}(s:Int):zCV Tryz.prog 37 (prV (la,s)) (ss.map (zCg la M)) 0=some (ss.findIdx? fun y=>decide (s=y)):=by
 rw[zJL (kx:=fun _=>la) (ky:=fun s=>s) (fun _=>rfl) zX9 la s ss 0];simp
theorem zOj{la:Int}{M:Int->LP}{ss:LI}(hn:ss.Nodup){i:Nat}(hi:i<ss.length):zCV Tryz.prog 37 (prV (la,ss.getD i 0)) (ss.map (zCg la M)) 0=some (some i)/\zEN (ss.map (zCg la M)) i=some (prs (M (ss.getD i 0))):=by
 constructor
 ·rw[zPG,dX.2];refine⟨hi,by rw[decide_eq_true_eq,zAr hi],fun j hj=>?_⟩;rw[decide_eq_true_eq,zAr hi];intro e;have:=(fC.1 hn) j i (by omega) hi hj;exact this e.symm
 ·simp only[zEN,ce,bk hi,bu,zAr hi]
theorem zWy{la:Int}{M:Int->LP}{ss:LI}{s:Int}(h:s∉ss):zCV Tryz.prog 37 (prV (la,s)) (ss.map (zCg la M)) 0=some none:=by
 rw[zPG,dW.2];intro y hy;rw[decide_eq_false_iff_not];rintro rfl;exact h hy
section
variable [Yo]
theorem f188(la:Int)(M:Int->LP)(ss:LI)(hn:ss.Nodup)(hM:∀ s,(M s).length<=80)(i:Nat)(hi:i<ss.length)(g:Int×Int):FG 188 [prV g,.ref (.map (ss.map (zCg la M))),.ref (prV (la,ss.getD i 0))] (.bool (has (M (ss.getD i 0)) g)):=by
 obtain⟨yQ,jQ⟩:=zOj (la:=la) (M:=M) hn hi;have hl:=hM (ss.getD i 0);refine zAe Tryz.f188 ?_;refine zAj 2<|zAn 2<|S_a [(2,.ix (some i)),(0,.v (prs (M (ss.getD i 0))))] (ap yQ<|ap (jQ:zEN (map (zCg la M) ss) i=some (prs (M (ss.getD i 0)))) an)<|zAp 1<|S_a [(8,.ret (bool (has (M (ss.getD i 0)) g)) [])] (ap (f81 (M (ss.getD i 0)) g (by omega)) an)<|S_g 1<|zAm E_0
theorem f174_3(la:Int)(M:Int->LP)(ss:LI)(hn:ss.Nodup)(hM:∀ s,(M s).length<=80)(z:Nat)(hz:z<ss.length)(l:LP)(hl:l.length<4294967296):FG 174 [.sl (l.map prV),.func 188 [] [.ref (.map (ss.map (zCg la M))),.ref (prV (la,ss.getD z 0))]] (I (zDI (fun x=>has (M (ss.getD z 0)) x) l)):=by
 refine zAe Tryz.f174 ?_;refine zAj 1<|zAc<|zAn 1<|S_a [(0,.n l.length)] (ap (lnS prV l) an)<|S_g 1<|zAg 0 ?_
 refine zAu (fun i=>i<=l.length/\∀ j,j<i->(fun x=>has (M (ss.getD z 0)) x) (l.getD j d0)=false) (fun i=>[(8,I (i:Nat))]) (fun i=>l.length-i) (0:Nat) (by simp) fun i ⟨hi,ha⟩=>?_;refine zAj 1<|zAc<|zC4 ((i:Int)<(l.length:Int)) (fun k0=>(zAh<|zAc<|zAg 1<|zAj 2<|zAn 3<|S_a [(2,.v (prV (l.getD i d0)))] (ap (zBN d0 (by omega):(map prV l)[i]? = some (prV (l.getD i d0))) an)<|zAp 1<|S_a [(8,.ret (bool (has (M (ss.getD z 0)) (l.getD i d0))) [])] (ap (f188 la M ss (by omega) (by omega) z (by omega) (l.getD i d0)) an)<|zA6<|zEE (has (M (ss.getD z 0)) (l.getD i d0)) (fun k1=>(zAj 2<|zAm<|E_a [] an (I (i:Int)) [] ?_ rfl)) (fun k1=>(zAh<|zAb<|S_i i<|S_g 1 ?_)))) (fun k0=>(zAG 0<|zAj 1<|zAm<|E_a [] an (I (-1)) [] ?_ rfl))
 ·rw[zBK (i:=i) (by omega) (fun j hj=>by rw[<- zAr (d:=d0)];exact ha j hj) (by rw[<- zAr (d:=d0)];first|assumption|exact decide_eq_true ‹_›|(simp only[bD,decide_eq_false_iff_not];assumption))]
 ·refine⟨i+1,⟨by omega,fun j hj=>?_⟩,by omega,by kernel_rfl,by kernel_rfl⟩;rcases bE.1 hj with h|rfl
  ·exact ha j h
  ·first|assumption|exact decide_eq_false ‹_›|(simp only[bB,decide_eq_true_eq];first|assumption|(apply cJ;assumption))
 ·rw[zBV fun j hj=>by rw[<- zAr (d:=d0)];exact ha j (by omega)]
theorem f122_3(la:Int)(M:Int->LP)(ss:LI)(hn:ss.Nodup)(hM:∀ s,(M s).length<=80)(z:Nat)(hz:z<ss.length)(l:LP)(hl:l.length<4294967296):FG 122 [.own 2 (l.map prV),.func 188 [] [.ref (.map (ss.map (zCg la M))),.ref (prV (la,ss.getD z 0))]] (.own 2 ((l.filter fun x=>!(has (M (ss.getD z 0)) x)).map prV)):=by
 have h1:=zLG (fun x=>has (M (ss.getD z 0)) x) l;have y4:=f174_3 la M ss hn hM z hz l hl;by_cases hm:zDI (fun x=>has (M (ss.getD z 0)) x) l = -1
 ·rw[hm] at y4;rw[h1.1 hm];refine zAe Tryz.f122 ?_;refine zAj 1<|zAn 2<|S_a [(3,.ob),(0,.v (prs l)),(3,.ret (I (-1)) [])] (ap (blz (map prV l))<|ap (frT prV l)<|ap y4 an)<|S_g 1<|zAc<|zAj 2<|zB9<|zAn 1<|S_a [(2,.yes)] (ap ((by exact zBj (by simp<;>omega)):(beq 0 0&&(map prV l).length.beq (map prV l).length)=true) an)<|zA6<|zAm<|E_z [(1,.yes),(1,.v (own 2 (map prV l)))] (ap (blz (map prV l))<|ap ((zAQ zAW):own 2 (take (map prV l).length (drop 0 (map prV l)))=own 2 (map prV l)) an)
 ·obtain⟨i0,jY,hil0,qn⟩:=h1.2 hm;rw[jY] at y4;clear h1 hm;refine zAe Tryz.f122 ?_;refine zAj 1<|zAn 2<|S_a [(3,.ob),(0,.v (prs l)),(3,.ret (I (i0:Int)) [])] (ap (blz (map prV l))<|ap (frT prV l)<|ap y4 an)<|S_g 1<|zAc<|zAj 2<|zAB<|zAh<|zAc<|zAn 1<|S_i i0<|S_g 1<|zAg 0 ?_
  refine zAu (fun(i,j,S)=>j<=l.length/\i<j/\S.length=l.length/\S.take i=(l.take j).filter (fun x=>!(has (M (ss.getD z 0)) x))/\∀ r,j<=r->S.getD r d0=l.getD r d0) (fun(i,j,S)=>[(0,.own 2 (S.map prV)),(5,I (i:Nat)),(6,I (j:Nat))]) (fun(_,j,_)=>l.length-j) (i0,i0+1,l) ⟨by omega,by omega,rfl,qn,fun _ _=>rfl⟩ fun(i,j,S) ⟨hj,wu,hS,ht,hd⟩=>?_;by_cases y5:j<l.length
  ·have ud:=True.intro;have hx:=hd j (bi j);have yC:=zGY (fun x=>!(has (M (ss.getD z 0)) x)) l j d0 y5;rw[<- hx] at yC;clear y4;have vp:=hd;clear hd hx;refine zAc<|zAn 2<|S_a [(0,.n S.length)] (ap (lnS prV S) an)<|S_g 1<|zAL ((j:Int)<(S.length:Int)) (by omega)<|zAh<|zAc<|zAg 1<|zAn 2<|S_a [(2,.ob),(1,.n j)] (ap ((by exact zAl (by simp only[be,zzLn]<;>omega)):decide (j<(map prV S).length)=true)<|ap ((by simp):some (0+j)=some j) an)<|S_a [(0,.cs true ([I (S.getD j d0).fst,I (S.getD j d0).snd]))] (ap (zB2 (q:=own 2 (map prV S)) (xs:=map prV S) (x:=prV (S.getD j d0)) rfl (zBN d0 (by omega)):zAo 0 (own 2 (map prV S)) [] j 0 Tryz.prog.types[108].size=some (true,[I (S.getD j d0).fst,I (S.getD j d0).snd])) an)<|S_g 2<|zAn 2<|S_a [(8,.ret (bool (has (M (ss.getD z 0)) (S.getD j d0))) [])] (ap (f188 la M ss (by omega) (by omega) z (by omega) (S.getD j d0)) an)<|S_g 1<|zEE (!has (M (ss.getD z 0)) (S.getD j d0)) (fun k0=>(zAn 3<|S_a [(2,.ob),(1,.n i)] (ap ((by exact zAl (by simp only[be,zzLn]<;>omega)):decide (i<(map prV S).length)=true)<|ap ((by simp):some (0+i)=some i) an)<|S_a [(8,.root (own 2 (map prV (S.set i (S.getD j d0)))) true)] (ap (zNy (zBN d0 (by omega)) zFm:zBO (own 2 (map prV S)) [] i 0 (prV (S.getD j d0)).cells=some (own 2 (map prV (S.set i (S.getD j d0))))/\zAH (own 2 (map prV S)) (own 2 (map prV (S.set i (S.getD j d0)))) []=true) an)<|zA6<|zAb<|zAp 1<|S_i i<|S_g 1<|zAb<|zAp 1<|S_i j<|S_g 1 ?_)) (fun k0=>(zAh<|zAb<|zAp 1<|S_i j<|S_g 1 ?_))
   ·have hb:((fun x=>!(has (M (ss.getD z 0)) x)) (S.getD j d0))=true:=by first|assumption|(simp only[bD,decide_eq_false_iff_not];assumption)
    rw[if_pos hb] at yC;refine⟨(i+1,j+1,S.set i (S.getD j d0)),⟨by omega,by omega,by simpa using hS,?_,fun r uF=>?_⟩,by simp only;omega,by kernel_rfl,by kernel_rfl⟩
    ·rw[yC,<- ht,zFl (by omega)]
    ·rw[zG7 (by omega)];exact vp r (by omega)
   ·have hb:((fun x=>!(has (M (ss.getD z 0)) x)) (S.getD j d0))=false:=by first|assumption|(simp only[bB,decide_eq_true_eq];assumption)
    rw[if_neg (fun h=>Bool.noConfusion (hb.symm.trans h))] at yC;exact rnd (i,j+1,S) ⟨by omega,by omega,hS,by rw[yC,ht],fun r uF=>vp r (by omega)⟩ (by simp only;omega)
  ·refine zAc<|zAn 2<|S_a [(0,.n S.length)] (ap (lnS prV S) an)<|S_g 1<|zAS ((j:Int)<(S.length:Int)) (by omega)<|zAG 0<|zAn 2<|S_a [(3,.ob),(0,.yes),(0,.yes),(0,.v (bor 0 [] 2 i (S.length-i)))] (ap ((by exact zAP (by simp only[be,zzLn,zAJ]<;>omega)):i.ble (map prV S).length=true)<|ap ((by exact zAP (by simp only[be,zzLn,zAJ]<;>omega)):(map prV S).length.ble (map prV S).length=true)<|ap ((by simp<;>omega):(i.beq 0||i.blt (map prV S).length)=true)<|ap ((by simp):bor 0 [] 2 (0+i) ((map prV S).length-i)=bor 0 [] 2 i (S.length-i)) an)<|zMi (g:=prV) (fun q=>q) 0 2 i (S.length-i) S ((0,0)) (by first|omega|(simp<;>omega)) ⟨rfl,rfl⟩ (fun _=>(by first|exact zGD|exact⟨rfl,rfl,rfl,rfl,bi _,rfl⟩)) zOo.nil (zA6<|zAn 2<|S_a [(4,.yes)] (ap ((by exact zAP (by simp<;>omega)):i.ble (map prV (take i S++replicate (S.length-i) (0,0)++drop (i+(S.length-i)) S)).length=true) an)<|S_g 1<|zAm<|E_a [(1,.yes),(1,.v (own 2 (map prV (take i (take i S++replicate (S.length-i) (0,0)++drop (i+(S.length-i)) S)))))] (ap ((by exact zAP (by simp<;>omega)):(0+((i:Int).toNat-0)).ble (map prV (take i S++replicate (S.length-i) (0,0)++drop (i+(S.length-i)) S)).length=true)<|ap ((by simp):own 2 (take i (drop 0 (map prV (take i S++replicate (S.length-i) (0,0)++drop (i+(S.length-i)) S))))=own 2 (map prV (take i (take i S++replicate (S.length-i) (0,0)++drop (i+(S.length-i)) S)))) an) (own 2 (map prV (take i (take i S++replicate (S.length-i) (0,0)++drop (i+(S.length-i)) S)))) [] ?_ rfl)
   rw[bz (d5 y5)] at ht;rw[<- ht,cx,cI (by rw[bY];omega),fF,iy]
abbrev zGJ(la:Int)(M:Int->LP)(ss:LI):List PV:=[.addr 50000000 [] 0 0 none,.addr 50000001 [] 0 0 none,.ref (.sl (ss.map fun s=>prV (la,s))),.ref (.map (ss.map (zCg la M))),.addr 50000002 [] 0 0 none]
abbrev zMr(la:Int)(M:Int->LP)(ss:LI)(f:Bool)(b:LP):List PV :=
 [.box (.bool f),.box (.own 2 (b.map prV)),.box (.func 187 [] (zGJ la M ss))]
def zFF(M:Int->LP)(c g:Int×Int):Bool:=has (M c.2) g
abbrev zGA(la:Int)(ss:LI):LP:=ss.map fun s=>(la,s)
theorem f187(la:Int)(M:Int->LP)(ss:LI)(hn:ss.Nodup)(hM:∀ s,(M s).length<=80)(uv:ss.length<=6):∀ (k:Nat) (ch left:LP) (f:Bool) (b:LP),left.length<k->left.length<=80->ch.length+left.length<=200->b.length<=200 ->
  zBM Tryz.prog zCG 187 (.sl (ch.map prV) :: .sl (left.map prV)::zGJ la M ss) (zMr la M ss f b) (.tup []) (zMr la M ss (chs (zGA la ss) (zFF M) k ch left (f,b)).1 (chs (zGA la ss) (zFF M) k ch left (f,b)).2):=by
 intro k
 induction k with
 |zero=>intro ch left f b h;exact absurd h (b8 _)
 | succ k ih =>
  intro ch left f b hk hl80 yO yC;unfold zMr;refine zAe Tryz.f187 ?_;by_cases kz:(f&&decide (b.length<=ch.length))=true
  ·rw[zUZ _ _ kz];rw[bb,decide_eq_true_eq] at kz;obtain⟨rfl,hZ⟩:=kz;clear ih;refine zAc<|zAn 3<|S_a [(0,.n ch.length)] (ap (lnS prV ch) an)<|S_a [(1,.v (bor 50000001 [(0,0)] 2 0 b.length))] (ap ((by simp):bor 50000001 [(0,0)] 2 0 (map prV b).length=bor 50000001 [(0,0)] 2 0 b.length) an)<|S_g 3<|zAL ((ch.length:Int)>=(b.length:Int)) (by omega)<|zAm E_0
  ·refine zO7 (fun(_:Bool)=>True) (fun(x:Bool)=>[(18,.bool x)]) [] ?_ fun x _=>?_
   ·clear ih;cases f
    ·refine zAj 8<|zAB<|zAh ?_
     exact⟨false,trivial,by kernel_rfl,by kernel_rfl⟩
    ·have hZ:¬ b.length<=ch.length:=by simpa using kz
     refine zAn 3<|S_a [(0,.n ch.length)] (ap (lnS prV ch) an)<|S_a [(1,.v (bor 50000001 [(0,0)] 2 0 b.length))] (ap ((by simp):bor 50000001 [(0,0)] 2 0 (map prV b).length=bor 50000001 [(0,0)] 2 0 b.length) an)<|S_g 3<|zAS ((ch.length:Int)>=(b.length:Int)) (by omega)<|zAh ?_
     exact⟨decide ((ch.length:Int)>=b.length),trivial,by kernel_rfl,by kernel_rfl⟩
   cases left with
   |nil=>
    rw[zTt _ _ kz];clear ih kz;refine zAc<|zAn 1<|zAp 1<|S_g 1<|zB9<|zAn 1<|S_a [(6,.ret (own 2 (map prV ch)) [])] (ap (f61 ch (by omega)) an)<|S_g 2<|zAm E_0
   | cons g rest =>
    rw[zPK _ _ kz];generalize hL:g::rest=lf at *;have hg:g=lf.getD 0 d0:=by rw[<- hL];rfl
    have hlr:lf.length=rest.length+1:=by rw[<- hL];rfl
    refine zAc<|zAn 1<|S_a [(0,.n lf.length)] (ap (lnS prV lf) an)<|S_g 1<|zAS ((lf.length:Int)=0) (by omega)<|zAh<|zAn 1<|S_a [(0,.n ss.length)] (ap (lnS (fun s=>prV (la,s)) ss) an)<|S_g 1<|zAg 0 ?_
    refine zAu (fun(i,s)=>i<=ss.length/\s=((zGA la ss).take i).foldl (chF (zGA la ss) (zFF M) k ch g rest) (f,b)) (fun((i:Nat),(s:Bool×LP))=>[(26,I (i:Nat)),(50000000,.box (.bool s.1)),(50000001,.box (.own 2 (s.2.map prV)))]) (fun(i,_)=>ss.length-i) ((0:Nat),(f,b)) ⟨bR _,rfl⟩ fun(i,s) ⟨hi,hs⟩=>?_;have yy:s.2.length<=200:=by rw[hs];exact zS7 _ _ (by rw[hL];exact yO) _ _ yC
    by_cases yH:i<ss.length
    ·obtain⟨yQ,jQ⟩:=zOj (la:=la) (M:=M) hn yH;have yK:((zGA la ss).take (i+1)).foldl (chF (zGA la ss) (zFF M) k ch g rest) (f,b)=chF (zGA la ss) (zFF M) k ch g rest s (la,ss.getD i 0):=by
      have kH:i<(zGA la ss).length:=by simpa using yH
      rw[zBI (d:=d0) kH,cH,<- hs,zAr kH];simp only[zGA,dz,bZ,cM,zAr yH]
     have hMl:=hM (ss.getD i 0);have ct:=f81 (M (ss.getD i 0)) g (by omega);clear hs;by_cases hc:has (M (ss.getD i 0)) g=true
     ·have vr:zFF M (la,ss.getD i 0) g=true:=hc;have hlf:(lf.filter fun x=>!zFF M (la,ss.getD i 0) x).length<=rest.length:=by
       rw[<- hL,cG (by rw[vr];simp)];exact bU _ _
      have ihc:=ih (ch++[(la,ss.getD i 0)]) (lf.filter fun x=>!zFF M (la,ss.getD i 0) x) s.1 s.2 (by omega) (by omega) (by rw[bA,bW];omega) yy;rw[chF,if_pos vr,hL] at yK;have wA:(chs (zGA la ss) (zFF M) k (ch++[(la,ss.getD i 0)]) (lf.filter fun x=>!zFF M (la,ss.getD i 0) x) (s.1,s.2)).2.length<=200:=zKg _ _ k _ _ _ 200 yy (by rw[bA,bW];omega);rw[show(s.1,s.2)=s from rfl] at ihc wA;generalize chs (zGA la ss) (zFF M) k (ch++[(la,ss.getD i 0)]) (lf.filter fun x=>!zFF M (la,ss.getD i 0) x) s=s2 at *;have hfe:(lf.filter fun x=>!zFF M (la,ss.getD i 0) x)=lf.filter fun x=>!(has (M (ss.getD i 0)) x):=rfl;rw[hfe] at ihc hlf;have df:=f122_3 la M ss hn hM i yH lf (by omega);rw[hc,hg] at ct;generalize (lf.filter fun x=>!(has (M (ss.getD i 0)) x))=L at *;unfold zMr at ihc;clear ih yC kz;refine zAj 1<|zAc<|zAL ((i:Int)<(ss.length:Int)) (by omega)<|zAh<|zAc<|zAg 1<|zAc<|zAb<|S_a [(2,.v (prV (la,ss.getD i 0)))] (ap (zBN (0) (by omega):(map (fun s=>prV (la,s)) ss)[i]? = some (prV (la,ss.getD i 0))) an)<|S_g 3<|zAn 2<|S_a [(2,.ix (some i)),(0,.v (prs (M (ss.getD i 0))))] (ap yQ<|ap (jQ:zEN (map (zCg la M) ss) i=some (prs (M (ss.getD i 0)))) an)<|zAp 1<|S_a [(2,.v (prV (lf.getD 0 d0)))] (ap (zBN d0 (by omega):(map prV lf)[0]? = some (prV (lf.getD 0 d0))) an)<|zAp 1<|S_a [(8,.ret (bool true) [])] (ap ct an)<|zA6<|zB9<|zAb<|zAp 2<|S_a [(6,.ret (own 2 (map prV ch)) [])] (ap (f61 ch (by omega)) an)<|zAp 2<|S_a [(4,.ob),(0,.ob),(0,.yes),(2,.v (own 2 (map prV (ch++[(la,ss.getD i 0)]))))] (ap (blz (map prV ch))<|ap ((by exact zAP (by simp only[be,zzLn,zAJ]<;>omega)):((map prV ch).length + [prV (la,ss.getD i 0)].length).ble zAJ=true)<|ap ((by exact zBj (by simp<;>omega)):(0+(map prV ch).length).beq (map prV ch).length=true)<|ap ((zAQ (zBF (by kernel_rfl))):own 2 (map prV ch++[prV (la,ss.getD i 0)])=own 2 (map prV (ch++[(la,ss.getD i 0)]))) an)<|zAp 1<|S_a [(6,.ret (own 2 (map prV lf)) [])] (ap (f123 lf (by omega)) an)<|zAp 1<|S_a [(3,.ob),(1,.v (own 2 (map prV lf))),(10,.ret (own 2 (map prV L)) []),(1,.yes)] (ap ((by exact zAP (by simp only[be,zzLn,zAJ]<;>omega)):(map prV lf).length.ble (map prV lf).length=true)<|ap ((zAQ zAW):own 2 (take (map prV lf).length (drop 0 (map prV lf)))=own 2 (map prV lf))<|ap df<|ap ((by exact zBv _):(own 2 (map prV L)).free=true) an)<|S_a [(3,.ob),(0,.v (prs (ch++[(la,ss.getD i 0)]))),(1,.ob),(0,.v (prs L)),(4,.ret (tup []) ([(bool s2.fst).box,(own 2 (map prV s2.snd)).box,(func 187 [] (zGJ la M ss)).box])),(2,.no),(1,.envv ([(0,prs ch),(1,prs lf),(2,addr 50000000 [] 0 0 none),(3,addr 50000001 [] 0 0 none),(4,(sl (map (fun s=>prV (la,s)) ss)).ref),(5,(PV.map (map (zCg la M) ss)).ref),(6,addr 50000002 [] 0 0 none),(10,(prV (la,ss.getD i 0)).box),(18,bool x),(21,bool ((lf.length:Int)==0)),(24,sl (map (fun s=>prV (la,s)) ss)),(25,I (ss.length:Int)),(26,I (i:Int)),(27,bool (decide ((i:Int)<(ss.length:Int)))),(36,bool true),(37,func 187 [] [addr 50000000 [] 0 0 none,addr 50000001 [] 0 0 none,(sl (map (fun s=>prV (la,s)) ss)).ref,(PV.map (map (zCg la M) ss)).ref,addr 50000002 [] 0 0 none]),(38,prs ch),(39,bad),(40,prV (la,ss.getD i 0)),(41,bad),(42,prs (ch++[(la,ss.getD i 0)])),(43,prs lf),(44,bad),(45,func 188 [] [(PV.map (map (zCg la M) ss)).ref,addr 10 [] 0 0 (some 2)]),(46,own 2 (map prV L)),(50000000,(bool s.fst).box),(50000001,(own 2 (map prV s.snd)).box),(50000002,(func 187 [] [addr 50000000 [] 0 0 none,addr 50000001 [] 0 0 none,(sl (map (fun s=>prV (la,s)) ss)).ref,(PV.map (map (zCg la M) ss)).ref,addr 50000002 [] 0 0 none]).box)]) (prs (ch++[(la,ss.getD i 0)]))),(2,.envv ([(0,prs ch),(1,prs lf),(2,addr 50000000 [] 0 0 none),(3,addr 50000001 [] 0 0 none),(4,(sl (map (fun s=>prV (la,s)) ss)).ref),(5,(PV.map (map (zCg la M) ss)).ref),(6,addr 50000002 [] 0 0 none),(10,(prV (la,ss.getD i 0)).box),(18,bool x),(21,bool ((lf.length:Int)==0)),(24,sl (map (fun s=>prV (la,s)) ss)),(25,I (ss.length:Int)),(26,I (i:Int)),(27,bool (decide ((i:Int)<(ss.length:Int)))),(36,bool true),(37,func 187 [] [addr 50000000 [] 0 0 none,addr 50000001 [] 0 0 none,(sl (map (fun s=>prV (la,s)) ss)).ref,(PV.map (map (zCg la M) ss)).ref,addr 50000002 [] 0 0 none]),(38,prs ch),(39,bad),(40,prV (la,ss.getD i 0)),(41,bad),(42,prs (ch++[(la,ss.getD i 0)])),(43,prs lf),(44,bad),(45,func 188 [] [(PV.map (map (zCg la M) ss)).ref,addr 10 [] 0 0 (some 2)]),(46,prs L),(50000000,(bool s.fst).box),(50000001,(own 2 (map prV s.snd)).box),(50000002,(func 187 [] [addr 50000000 [] 0 0 none,addr 50000001 [] 0 0 none,(sl (map (fun s=>prV (la,s)) ss)).ref,(PV.map (map (zCg la M) ss)).ref,addr 50000002 [] 0 0 none]).box)]) (prs L)),(5,.ret (tup []) ([(bool s2.fst).box,(own 2 (map prV s2.snd)).box,(func 187 [] (zGJ la M ss)).box]))] (ap (blz (map prV (ch++[(la,ss.getD i 0)])))<|ap (frT prV (ch++[(la,ss.getD i 0)]))<|ap (blz (map prV L))<|ap (frT prV L)<|ap ihc<|ap ((by simp[PV.free,zBv,zEy]):zEy [(bool s2.fst).box,(own 2 (map prV s2.snd)).box,(func 187 [] (zGJ la M ss)).box]=false)<|ap (And.intro (fv (by kernel_rfl:Env.frz [(0,prs ch),(1,prs lf),(2,addr 50000000 [] 0 0 none),(3,addr 50000001 [] 0 0 none),(4,(sl (map (fun s=>prV (la,s)) ss)).ref),(5,(PV.map (map (zCg la M) ss)).ref),(6,addr 50000002 [] 0 0 none),(10,(prV (la,ss.getD i 0)).box),(18,bool x),(21,bool ((lf.length:Int)==0)),(24,sl (map (fun s=>prV (la,s)) ss)),(25,I (ss.length:Int)),(26,I (i:Int)),(27,bool (decide ((i:Int)<(ss.length:Int)))),(36,bool true),(37,func 187 [] [addr 50000000 [] 0 0 none,addr 50000001 [] 0 0 none,(sl (map (fun s=>prV (la,s)) ss)).ref,(PV.map (map (zCg la M) ss)).ref,addr 50000002 [] 0 0 none]),(38,prs ch),(39,bad),(40,prV (la,ss.getD i 0)),(41,bad),(42,own 2 (map prV (ch++[(la,ss.getD i 0)]))),(43,prs lf),(44,bad),(45,func 188 [] [(PV.map (map (zCg la M) ss)).ref,addr 10 [] 0 0 (some 2)]),(46,own 2 (map prV L)),(50000000,(bool s.fst).box),(50000001,(own 2 (map prV s.snd)).box),(50000002,(func 187 [] [addr 50000000 [] 0 0 none,addr 50000001 [] 0 0 none,(sl (map (fun s=>prV (la,s)) ss)).ref,(PV.map (map (zCg la M) ss)).ref,addr 50000002 [] 0 0 none]).box)] 42 []=some [(0,prs ch),(1,prs lf),(2,addr 50000000 [] 0 0 none),(3,addr 50000001 [] 0 0 none),(4,(sl (map (fun s=>prV (la,s)) ss)).ref),(5,(PV.map (map (zCg la M) ss)).ref),(6,addr 50000002 [] 0 0 none),(10,(prV (la,ss.getD i 0)).box),(18,bool x),(21,bool ((lf.length:Int)==0)),(24,sl (map (fun s=>prV (la,s)) ss)),(25,I (ss.length:Int)),(26,I (i:Int)),(27,bool (decide ((i:Int)<(ss.length:Int)))),(36,bool true),(37,func 187 [] [addr 50000000 [] 0 0 none,addr 50000001 [] 0 0 none,(sl (map (fun s=>prV (la,s)) ss)).ref,(PV.map (map (zCg la M) ss)).ref,addr 50000002 [] 0 0 none]),(38,prs ch),(39,bad),(40,prV (la,ss.getD i 0)),(41,bad),(42,sl (zAt (map prV (ch++[(la,ss.getD i 0)])))),(43,prs lf),(44,bad),(45,func 188 [] [(PV.map (map (zCg la M) ss)).ref,addr 10 [] 0 0 (some 2)]),(46,own 2 (map prV L)),(50000000,(bool s.fst).box),(50000001,(own 2 (map prV s.snd)).box),(50000002,(func 187 [] [addr 50000000 [] 0 0 none,addr 50000001 [] 0 0 none,(sl (map (fun s=>prV (la,s)) ss)).ref,(PV.map (map (zCg la M) ss)).ref,addr 50000002 [] 0 0 none]).box)]) ((by simp only[show zAt (map prV (ch++[(la,ss.getD i 0)]))=map prV (ch++[(la,ss.getD i 0)]) from(by first|exact zAq _|exact zAw _|exact zAv _|exact zAO (zAw _)|exact zAO (zAv _)|exact zBL (by simp[zBd]) (zAq _))]):some [(0,prs ch),(1,prs lf),(2,addr 50000000 [] 0 0 none),(3,addr 50000001 [] 0 0 none),(4,(sl (map (fun s=>prV (la,s)) ss)).ref),(5,(PV.map (map (zCg la M) ss)).ref),(6,addr 50000002 [] 0 0 none),(10,(prV (la,ss.getD i 0)).box),(18,bool x),(21,bool ((lf.length:Int)==0)),(24,sl (map (fun s=>prV (la,s)) ss)),(25,I (ss.length:Int)),(26,I (i:Int)),(27,bool (decide ((i:Int)<(ss.length:Int)))),(36,bool true),(37,func 187 [] [addr 50000000 [] 0 0 none,addr 50000001 [] 0 0 none,(sl (map (fun s=>prV (la,s)) ss)).ref,(PV.map (map (zCg la M) ss)).ref,addr 50000002 [] 0 0 none]),(38,prs ch),(39,bad),(40,prV (la,ss.getD i 0)),(41,bad),(42,sl (zAt (map prV (ch++[(la,ss.getD i 0)])))),(43,prs lf),(44,bad),(45,func 188 [] [(PV.map (map (zCg la M) ss)).ref,addr 10 [] 0 0 (some 2)]),(46,own 2 (map prV L)),(50000000,(bool s.fst).box),(50000001,(own 2 (map prV s.snd)).box),(50000002,(func 187 [] [addr 50000000 [] 0 0 none,addr 50000001 [] 0 0 none,(sl (map (fun s=>prV (la,s)) ss)).ref,(PV.map (map (zCg la M) ss)).ref,addr 50000002 [] 0 0 none]).box)]=some [(0,prs ch),(1,prs lf),(2,addr 50000000 [] 0 0 none),(3,addr 50000001 [] 0 0 none),(4,(sl (map (fun s=>prV (la,s)) ss)).ref),(5,(PV.map (map (zCg la M) ss)).ref),(6,addr 50000002 [] 0 0 none),(10,(prV (la,ss.getD i 0)).box),(18,bool x),(21,bool ((lf.length:Int)==0)),(24,sl (map (fun s=>prV (la,s)) ss)),(25,I (ss.length:Int)),(26,I (i:Int)),(27,bool (decide ((i:Int)<(ss.length:Int)))),(36,bool true),(37,func 187 [] [addr 50000000 [] 0 0 none,addr 50000001 [] 0 0 none,(sl (map (fun s=>prV (la,s)) ss)).ref,(PV.map (map (zCg la M) ss)).ref,addr 50000002 [] 0 0 none]),(38,prs ch),(39,bad),(40,prV (la,ss.getD i 0)),(41,bad),(42,prs (ch++[(la,ss.getD i 0)])),(43,prs lf),(44,bad),(45,func 188 [] [(PV.map (map (zCg la M) ss)).ref,addr 10 [] 0 0 (some 2)]),(46,own 2 (map prV L)),(50000000,(bool s.fst).box),(50000001,(own 2 (map prV s.snd)).box),(50000002,(func 187 [] [addr 50000000 [] 0 0 none,addr 50000001 [] 0 0 none,(sl (map (fun s=>prV (la,s)) ss)).ref,(PV.map (map (zCg la M) ss)).ref,addr 50000002 [] 0 0 none]).box)])) (zG5 (by first|exact zAq _|exact zAw _|exact zAv _):PV.mapW (inl 42 [] (own 2 (map prV (ch++[(la,ss.getD i 0)])))) (bor 42 [] 2 0 (map prV (ch++[(la,ss.getD i 0)])).length)=prs (ch++[(la,ss.getD i 0)])))<|ap (And.intro (fv (by kernel_rfl:Env.frz [(0,prs ch),(1,prs lf),(2,addr 50000000 [] 0 0 none),(3,addr 50000001 [] 0 0 none),(4,(sl (map (fun s=>prV (la,s)) ss)).ref),(5,(PV.map (map (zCg la M) ss)).ref),(6,addr 50000002 [] 0 0 none),(10,(prV (la,ss.getD i 0)).box),(18,bool x),(21,bool ((lf.length:Int)==0)),(24,sl (map (fun s=>prV (la,s)) ss)),(25,I (ss.length:Int)),(26,I (i:Int)),(27,bool (decide ((i:Int)<(ss.length:Int)))),(36,bool true),(37,func 187 [] [addr 50000000 [] 0 0 none,addr 50000001 [] 0 0 none,(sl (map (fun s=>prV (la,s)) ss)).ref,(PV.map (map (zCg la M) ss)).ref,addr 50000002 [] 0 0 none]),(38,prs ch),(39,bad),(40,prV (la,ss.getD i 0)),(41,bad),(42,prs (ch++[(la,ss.getD i 0)])),(43,prs lf),(44,bad),(45,func 188 [] [(PV.map (map (zCg la M) ss)).ref,addr 10 [] 0 0 (some 2)]),(46,own 2 (map prV L)),(50000000,(bool s.fst).box),(50000001,(own 2 (map prV s.snd)).box),(50000002,(func 187 [] [addr 50000000 [] 0 0 none,addr 50000001 [] 0 0 none,(sl (map (fun s=>prV (la,s)) ss)).ref,(PV.map (map (zCg la M) ss)).ref,addr 50000002 [] 0 0 none]).box)] 46 []=some [(0,prs ch),(1,prs lf),(2,addr 50000000 [] 0 0 none),(3,addr 50000001 [] 0 0 none),(4,(sl (map (fun s=>prV (la,s)) ss)).ref),(5,(PV.map (map (zCg la M) ss)).ref),(6,addr 50000002 [] 0 0 none),(10,(prV (la,ss.getD i 0)).box),(18,bool x),(21,bool ((lf.length:Int)==0)),(24,sl (map (fun s=>prV (la,s)) ss)),(25,I (ss.length:Int)),(26,I (i:Int)),(27,bool (decide ((i:Int)<(ss.length:Int)))),(36,bool true),(37,func 187 [] [addr 50000000 [] 0 0 none,addr 50000001 [] 0 0 none,(sl (map (fun s=>prV (la,s)) ss)).ref,(PV.map (map (zCg la M) ss)).ref,addr 50000002 [] 0 0 none]),(38,prs ch),(39,bad),(40,prV (la,ss.getD i 0)),(41,bad),(42,prs (ch++[(la,ss.getD i 0)])),(43,prs lf),(44,bad),(45,func 188 [] [(PV.map (map (zCg la M) ss)).ref,addr 10 [] 0 0 (some 2)]),(46,sl (zAt (map prV L))),(50000000,(bool s.fst).box),(50000001,(own 2 (map prV s.snd)).box),(50000002,(func 187 [] [addr 50000000 [] 0 0 none,addr 50000001 [] 0 0 none,(sl (map (fun s=>prV (la,s)) ss)).ref,(PV.map (map (zCg la M) ss)).ref,addr 50000002 [] 0 0 none]).box)]) ((by simp only[show zAt (map prV L)=map prV L from(by first|exact zAq _|exact zAw _|exact zAv _|exact zAO (zAw _)|exact zAO (zAv _)|exact zBL (by simp[zBd]) (zAq _))]):some [(0,prs ch),(1,prs lf),(2,addr 50000000 [] 0 0 none),(3,addr 50000001 [] 0 0 none),(4,(sl (map (fun s=>prV (la,s)) ss)).ref),(5,(PV.map (map (zCg la M) ss)).ref),(6,addr 50000002 [] 0 0 none),(10,(prV (la,ss.getD i 0)).box),(18,bool x),(21,bool ((lf.length:Int)==0)),(24,sl (map (fun s=>prV (la,s)) ss)),(25,I (ss.length:Int)),(26,I (i:Int)),(27,bool (decide ((i:Int)<(ss.length:Int)))),(36,bool true),(37,func 187 [] [addr 50000000 [] 0 0 none,addr 50000001 [] 0 0 none,(sl (map (fun s=>prV (la,s)) ss)).ref,(PV.map (map (zCg la M) ss)).ref,addr 50000002 [] 0 0 none]),(38,prs ch),(39,bad),(40,prV (la,ss.getD i 0)),(41,bad),(42,prs (ch++[(la,ss.getD i 0)])),(43,prs lf),(44,bad),(45,func 188 [] [(PV.map (map (zCg la M) ss)).ref,addr 10 [] 0 0 (some 2)]),(46,sl (zAt (map prV L))),(50000000,(bool s.fst).box),(50000001,(own 2 (map prV s.snd)).box),(50000002,(func 187 [] [addr 50000000 [] 0 0 none,addr 50000001 [] 0 0 none,(sl (map (fun s=>prV (la,s)) ss)).ref,(PV.map (map (zCg la M) ss)).ref,addr 50000002 [] 0 0 none]).box)]=some [(0,prs ch),(1,prs lf),(2,addr 50000000 [] 0 0 none),(3,addr 50000001 [] 0 0 none),(4,(sl (map (fun s=>prV (la,s)) ss)).ref),(5,(PV.map (map (zCg la M) ss)).ref),(6,addr 50000002 [] 0 0 none),(10,(prV (la,ss.getD i 0)).box),(18,bool x),(21,bool ((lf.length:Int)==0)),(24,sl (map (fun s=>prV (la,s)) ss)),(25,I (ss.length:Int)),(26,I (i:Int)),(27,bool (decide ((i:Int)<(ss.length:Int)))),(36,bool true),(37,func 187 [] [addr 50000000 [] 0 0 none,addr 50000001 [] 0 0 none,(sl (map (fun s=>prV (la,s)) ss)).ref,(PV.map (map (zCg la M) ss)).ref,addr 50000002 [] 0 0 none]),(38,prs ch),(39,bad),(40,prV (la,ss.getD i 0)),(41,bad),(42,prs (ch++[(la,ss.getD i 0)])),(43,prs lf),(44,bad),(45,func 188 [] [(PV.map (map (zCg la M) ss)).ref,addr 10 [] 0 0 (some 2)]),(46,prs L),(50000000,(bool s.fst).box),(50000001,(own 2 (map prV s.snd)).box),(50000002,(func 187 [] [addr 50000000 [] 0 0 none,addr 50000001 [] 0 0 none,(sl (map (fun s=>prV (la,s)) ss)).ref,(PV.map (map (zCg la M) ss)).ref,addr 50000002 [] 0 0 none]).box)])) (zG5 (by first|exact zAq _|exact zAw _|exact zAv _):PV.mapW (inl 46 [] (own 2 (map prV L))) (bor 46 [] 2 0 (map prV L).length)=prs L))<|ap ihc an)<|zA6<|zAb<|S_i i<|S_g 1 ?_
      exact rnd (i+1,s2) ⟨by omega,yK.symm⟩ (by simp only;omega)
     ·rw[cu] at hc;rw[chF,if_neg (by rw[show zFF M (la,ss.getD i 0) g=false from hc];simp)] at yK;rw[hc,hg] at ct;clear ih yC kz;refine zAj 1<|zAc<|zAL ((i:Int)<(ss.length:Int)) (by omega)<|zAh<|zAc<|zAg 1<|zAc<|zAb<|S_a [(2,.v (prV (la,ss.getD i 0)))] (ap (zBN (0) (by omega):(map (fun s=>prV (la,s)) ss)[i]? = some (prV (la,ss.getD i 0))) an)<|S_g 3<|zAn 2<|S_a [(2,.ix (some i)),(0,.v (prs (M (ss.getD i 0))))] (ap yQ<|ap (jQ:zEN (map (zCg la M) ss) i=some (prs (M (ss.getD i 0)))) an)<|zAp 1<|S_a [(2,.v (prV (lf.getD 0 d0)))] (ap (zBN d0 (by omega):(map prV lf)[0]? = some (prV (lf.getD 0 d0))) an)<|zAp 1<|S_a [(8,.ret (bool false) [])] (ap ct an)<|zA6<|zAB<|zAh<|zAb<|S_i i<|S_g 1 ?_
      exact rnd (i+1,s) ⟨by omega,yK.symm⟩ (by simp only;omega)
    ·rw[bz (by simp;omega)] at hs;rw[<- hs];clear ih hs;refine zAj 1<|zAc<|zAS ((i:Int)<(ss.length:Int)) (by omega)<|zAG 0 E_0
end
end Go.Eng
set_option maxRecDepth 10000
set_option maxHeartbeats 4000000
namespace Go.Eng
open Go Go.Proofs
section
variable [Yo]
theorem f61a:FG 61 [.nils 0] (.own 2 []):=zNc (fn:=Tryz.f61)
theorem f187a(la:Int)(M:Int->LP)(ss:LI)(hn:ss.Nodup)(hM:∀ s,(M s).length<=80)(uv:ss.length<=6)(k:Nat)(left:LP)(hk:left.length<k+1)(hl80:left.length<=80) :
  zBM Tryz.prog zCG 187 (.nils 0 :: .sl (left.map prV)::zGJ la M ss) (zMr la M ss false []) (.tup []) (zMr la M ss (chs (zGA la ss) (zFF M) (k+1) [] left (false,[])).1 (chs (zGA la ss) (zFF M) (k+1) [] left (false,[])).2):=by
 have yO:([]:LP).length+left.length<=200:=by simp only[cN];omega
 have yC:([]:LP).length<=200:=by simp
 unfold zMr;refine zAe Tryz.f187 ?_
 ·cases left with
  |nil=>
   rw[zTt _ _ (by simp)];refine zAc<|zAj 8<|zAB<|zAh<|zAc<|zAn 1<|zAp 1<|S_g 1<|zB9<|zAn 1<|S_a [(6,.ret (own 2 []) [])] (ap f61a an)<|S_g 2<|zAm E_0
  | cons g rest =>
   rw[zPK _ _ (by simp)];generalize hL:g::rest=lf at *;have hg:g=lf.getD 0 d0:=by rw[<- hL];rfl
   have hlr:lf.length=rest.length+1:=by rw[<- hL];rfl
   refine zAc<|zAj 8<|zAB<|zAh<|zAc<|zAn 1<|S_a [(0,.n lf.length)] (ap (lnS prV lf) an)<|S_g 1<|zAS ((lf.length:Int)=0) (by omega)<|zAh<|zAn 1<|S_a [(0,.n ss.length)] (ap (lnS (fun s=>prV (la,s)) ss) an)<|S_g 1<|zAg 0 ?_
   refine zAu (fun(i,s)=>i<=ss.length/\s=((zGA la ss).take i).foldl (chF (zGA la ss) (zFF M) k [] g rest) (false,[])) (fun((i:Nat),(s:Bool×LP))=>[(26,I (i:Nat)),(50000000,.box (.bool s.1)),(50000001,.box (.own 2 (s.2.map prV)))]) (fun(i,_)=>ss.length-i) ((0:Nat),(false,[])) ⟨bR _,rfl⟩ fun(i,s) ⟨hi,hs⟩=>?_;have yy:s.2.length<=200:=by rw[hs];exact zS7 _ _ (by rw[hL];exact yO) _ _ yC
   by_cases yH:i<ss.length
   ·obtain⟨yQ,jQ⟩:=zOj (la:=la) (M:=M) hn yH;have yK:((zGA la ss).take (i+1)).foldl (chF (zGA la ss) (zFF M) k [] g rest) (false,[])=chF (zGA la ss) (zFF M) k [] g rest s (la,ss.getD i 0):=by
     have kH:i<(zGA la ss).length:=by simpa using yH
     rw[zBI (d:=d0) kH,cH,<- hs,zAr kH];simp only[zGA,dz,bZ,cM,zAr yH]
    have hMl:=hM (ss.getD i 0);have ct:=f81 (M (ss.getD i 0)) g (by omega);clear hs;by_cases hc:has (M (ss.getD i 0)) g=true
    ·have vr:zFF M (la,ss.getD i 0) g=true:=hc;have hlf:(lf.filter fun x=>!zFF M (la,ss.getD i 0) x).length<=rest.length:=by
      rw[<- hL,cG (by rw[vr];simp)];exact bU _ _
     have ihc:=f187 la M ss hn hM uv k ([]++[(la,ss.getD i 0)]) (lf.filter fun x=>!zFF M (la,ss.getD i 0) x) s.1 s.2 (by omega) (by omega) (by rw[bA,bW];omega) yy;rw[chF,if_pos vr,hL] at yK;have wA:(chs (zGA la ss) (zFF M) k ([]++[(la,ss.getD i 0)]) (lf.filter fun x=>!zFF M (la,ss.getD i 0) x) (s.1,s.2)).2.length<=200:=zKg _ _ k _ _ _ 200 yy (by rw[bA,bW];omega);rw[show(s.1,s.2)=s from rfl] at ihc wA;generalize chs (zGA la ss) (zFF M) k ([]++[(la,ss.getD i 0)]) (lf.filter fun x=>!zFF M (la,ss.getD i 0) x) s=s2 at *;have hfe:(lf.filter fun x=>!zFF M (la,ss.getD i 0) x)=lf.filter fun x=>!(has (M (ss.getD i 0)) x):=rfl;rw[hfe] at ihc hlf;have df:=f122_3 la M ss hn hM i yH lf (by omega);rw[hc,hg] at ct;generalize (lf.filter fun x=>!(has (M (ss.getD i 0)) x))=L at *;unfold zMr at ihc;clear yC;refine zAj 1<|zAc<|zAL ((i:Int)<(ss.length:Int)) (by omega)<|zAh<|zAc<|zAg 1<|zAc<|zAb<|S_a [(2,.v (prV (la,ss.getD i 0)))] (ap (zBN (0) (by omega):(map (fun s=>prV (la,s)) ss)[i]? = some (prV (la,ss.getD i 0))) an)<|S_g 3<|zAn 2<|S_a [(2,.ix (some i)),(0,.v (prs (M (ss.getD i 0))))] (ap yQ<|ap (jQ:zEN (map (zCg la M) ss) i=some (prs (M (ss.getD i 0)))) an)<|zAp 1<|S_a [(2,.v (prV (lf.getD 0 d0)))] (ap (zBN d0 (by omega):(map prV lf)[0]? = some (prV (lf.getD 0 d0))) an)<|zAp 1<|S_a [(8,.ret (bool true) [])] (ap ct an)<|zA6<|zB9<|zAb<|zAp 2<|S_a [(6,.ret (own 2 []) [])] (ap f61a an)<|zAp 4<|S_a [(6,.ret (own 2 (map prV lf)) [])] (ap (f123 lf (by omega)) an)<|zAp 1<|S_a [(3,.ob),(1,.v (own 2 (map prV lf))),(10,.ret (own 2 (map prV L)) []),(1,.yes)] (ap ((by exact zAP (by simp only[be,zzLn,zAJ]<;>omega)):(map prV lf).length.ble (map prV lf).length=true)<|ap ((zAQ zAW):own 2 (take (map prV lf).length (drop 0 (map prV lf)))=own 2 (map prV lf))<|ap df<|ap ((by exact zBv _):(own 2 (map prV L)).free=true) an)<|S_a [(6,.ob),(0,.v (prs L)),(4,.ret (tup []) ([(bool s2.fst).box,(own 2 (map prV s2.snd)).box,(func 187 [] (zGJ la M ss)).box])),(2,.no),(4,.envv ([(0,PV.nils 0),(1,prs lf),(2,addr 50000000 [] 0 0 none),(3,addr 50000001 [] 0 0 none),(4,(sl (map (fun s=>prV (la,s)) ss)).ref),(5,(PV.map (map (zCg la M) ss)).ref),(6,addr 50000002 [] 0 0 none),(10,(prV (la,ss.getD i 0)).box),(18,bool false),(21,bool ((lf.length:Int)==0)),(24,sl (map (fun s=>prV (la,s)) ss)),(25,I (ss.length:Int)),(26,I (i:Int)),(27,bool (decide ((i:Int)<(ss.length:Int)))),(36,bool true),(37,func 187 [] [addr 50000000 [] 0 0 none,addr 50000001 [] 0 0 none,(sl (map (fun s=>prV (la,s)) ss)).ref,(PV.map (map (zCg la M) ss)).ref,addr 50000002 [] 0 0 none]),(38,PV.nils 0),(39,bad),(40,prV (la,ss.getD i 0)),(41,bad),(42,sl [prV (la,ss.getD i 0)]),(43,prs lf),(44,bad),(45,func 188 [] [(PV.map (map (zCg la M) ss)).ref,addr 10 [] 0 0 (some 2)]),(46,prs L),(50000000,(bool s.fst).box),(50000001,(own 2 (map prV s.snd)).box),(50000002,(func 187 [] [addr 50000000 [] 0 0 none,addr 50000001 [] 0 0 none,(sl (map (fun s=>prV (la,s)) ss)).ref,(PV.map (map (zCg la M) ss)).ref,addr 50000002 [] 0 0 none]).box)]) (prs L)),(5,.ret (tup []) ([(bool s2.fst).box,(own 2 (map prV s2.snd)).box,(func 187 [] (zGJ la M ss)).box]))] (ap (blz (map prV L))<|ap (frT prV L)<|ap ihc<|ap ((by simp[PV.free,zBv,zEy]):zEy [(bool s2.fst).box,(own 2 (map prV s2.snd)).box,(func 187 [] (zGJ la M ss)).box]=false)<|ap (And.intro (fv (by kernel_rfl:Env.frz [(0,PV.nils 0),(1,prs lf),(2,addr 50000000 [] 0 0 none),(3,addr 50000001 [] 0 0 none),(4,(sl (map (fun s=>prV (la,s)) ss)).ref),(5,(PV.map (map (zCg la M) ss)).ref),(6,addr 50000002 [] 0 0 none),(10,(prV (la,ss.getD i 0)).box),(18,bool false),(21,bool ((lf.length:Int)==0)),(24,sl (map (fun s=>prV (la,s)) ss)),(25,I (ss.length:Int)),(26,I (i:Int)),(27,bool (decide ((i:Int)<(ss.length:Int)))),(36,bool true),(37,func 187 [] [addr 50000000 [] 0 0 none,addr 50000001 [] 0 0 none,(sl (map (fun s=>prV (la,s)) ss)).ref,(PV.map (map (zCg la M) ss)).ref,addr 50000002 [] 0 0 none]),(38,PV.nils 0),(39,bad),(40,prV (la,ss.getD i 0)),(41,bad),(42,sl [prV (la,ss.getD i 0)]),(43,prs lf),(44,bad),(45,func 188 [] [(PV.map (map (zCg la M) ss)).ref,addr 10 [] 0 0 (some 2)]),(46,own 2 (map prV L)),(50000000,(bool s.fst).box),(50000001,(own 2 (map prV s.snd)).box),(50000002,(func 187 [] [addr 50000000 [] 0 0 none,addr 50000001 [] 0 0 none,(sl (map (fun s=>prV (la,s)) ss)).ref,(PV.map (map (zCg la M) ss)).ref,addr 50000002 [] 0 0 none]).box)] 46 []=some [(0,PV.nils 0),(1,prs lf),(2,addr 50000000 [] 0 0 none),(3,addr 50000001 [] 0 0 none),(4,(sl (map (fun s=>prV (la,s)) ss)).ref),(5,(PV.map (map (zCg la M) ss)).ref),(6,addr 50000002 [] 0 0 none),(10,(prV (la,ss.getD i 0)).box),(18,bool false),(21,bool ((lf.length:Int)==0)),(24,sl (map (fun s=>prV (la,s)) ss)),(25,I (ss.length:Int)),(26,I (i:Int)),(27,bool (decide ((i:Int)<(ss.length:Int)))),(36,bool true),(37,func 187 [] [addr 50000000 [] 0 0 none,addr 50000001 [] 0 0 none,(sl (map (fun s=>prV (la,s)) ss)).ref,(PV.map (map (zCg la M) ss)).ref,addr 50000002 [] 0 0 none]),(38,PV.nils 0),(39,bad),(40,prV (la,ss.getD i 0)),(41,bad),(42,sl [prV (la,ss.getD i 0)]),(43,prs lf),(44,bad),(45,func 188 [] [(PV.map (map (zCg la M) ss)).ref,addr 10 [] 0 0 (some 2)]),(46,sl (zAt (map prV L))),(50000000,(bool s.fst).box),(50000001,(own 2 (map prV s.snd)).box),(50000002,(func 187 [] [addr 50000000 [] 0 0 none,addr 50000001 [] 0 0 none,(sl (map (fun s=>prV (la,s)) ss)).ref,(PV.map (map (zCg la M) ss)).ref,addr 50000002 [] 0 0 none]).box)]) ((by simp only[show zAt (map prV L)=map prV L from(by first|exact zAq _|exact zAw _|exact zAv _|exact zAO (zAw _)|exact zAO (zAv _)|exact zBL (by simp[zBd]) (zAq _))]):some [(0,PV.nils 0),(1,prs lf),(2,addr 50000000 [] 0 0 none),(3,addr 50000001 [] 0 0 none),(4,(sl (map (fun s=>prV (la,s)) ss)).ref),(5,(PV.map (map (zCg la M) ss)).ref),(6,addr 50000002 [] 0 0 none),(10,(prV (la,ss.getD i 0)).box),(18,bool false),(21,bool ((lf.length:Int)==0)),(24,sl (map (fun s=>prV (la,s)) ss)),(25,I (ss.length:Int)),(26,I (i:Int)),(27,bool (decide ((i:Int)<(ss.length:Int)))),(36,bool true),(37,func 187 [] [addr 50000000 [] 0 0 none,addr 50000001 [] 0 0 none,(sl (map (fun s=>prV (la,s)) ss)).ref,(PV.map (map (zCg la M) ss)).ref,addr 50000002 [] 0 0 none]),(38,PV.nils 0),(39,bad),(40,prV (la,ss.getD i 0)),(41,bad),(42,sl [prV (la,ss.getD i 0)]),(43,prs lf),(44,bad),(45,func 188 [] [(PV.map (map (zCg la M) ss)).ref,addr 10 [] 0 0 (some 2)]),(46,sl (zAt (map prV L))),(50000000,(bool s.fst).box),(50000001,(own 2 (map prV s.snd)).box),(50000002,(func 187 [] [addr 50000000 [] 0 0 none,addr 50000001 [] 0 0 none,(sl (map (fun s=>prV (la,s)) ss)).ref,(PV.map (map (zCg la M) ss)).ref,addr 50000002 [] 0 0 none]).box)]=some [(0,PV.nils 0),(1,prs lf),(2,addr 50000000 [] 0 0 none),(3,addr 50000001 [] 0 0 none),(4,(sl (map (fun s=>prV (la,s)) ss)).ref),(5,(PV.map (map (zCg la M) ss)).ref),(6,addr 50000002 [] 0 0 none),(10,(prV (la,ss.getD i 0)).box),(18,bool false),(21,bool ((lf.length:Int)==0)),(24,sl (map (fun s=>prV (la,s)) ss)),(25,I (ss.length:Int)),(26,I (i:Int)),(27,bool (decide ((i:Int)<(ss.length:Int)))),(36,bool true),(37,func 187 [] [addr 50000000 [] 0 0 none,addr 50000001 [] 0 0 none,(sl (map (fun s=>prV (la,s)) ss)).ref,(PV.map (map (zCg la M) ss)).ref,addr 50000002 [] 0 0 none]),(38,PV.nils 0),(39,bad),(40,prV (la,ss.getD i 0)),(41,bad),(42,sl [prV (la,ss.getD i 0)]),(43,prs lf),(44,bad),(45,func 188 [] [(PV.map (map (zCg la M) ss)).ref,addr 10 [] 0 0 (some 2)]),(46,prs L),(50000000,(bool s.fst).box),(50000001,(own 2 (map prV s.snd)).box),(50000002,(func 187 [] [addr 50000000 [] 0 0 none,addr 50000001 [] 0 0 none,(sl (map (fun s=>prV (la,s)) ss)).ref,(PV.map (map (zCg la M) ss)).ref,addr 50000002 [] 0 0 none]).box)])) (zG5 (by first|exact zAq _|exact zAw _|exact zAv _):PV.mapW (inl 46 [] (own 2 (map prV L))) (bor 46 [] 2 0 (map prV L).length)=prs L))<|ap ihc an)<|zA6<|zAb<|S_i i<|S_g 1 ?_
     exact rnd (i+1,s2) ⟨by omega,yK.symm⟩ (by simp only;omega)
    ·rw[cu] at hc;rw[chF,if_neg (by rw[show zFF M (la,ss.getD i 0) g=false from hc];simp)] at yK;rw[hc,hg] at ct;clear yC;refine zAj 1<|zAc<|zAL ((i:Int)<(ss.length:Int)) (by omega)<|zAh<|zAc<|zAg 1<|zAc<|zAb<|S_a [(2,.v (prV (la,ss.getD i 0)))] (ap (zBN (0) (by omega):(map (fun s=>prV (la,s)) ss)[i]? = some (prV (la,ss.getD i 0))) an)<|S_g 3<|zAn 2<|S_a [(2,.ix (some i)),(0,.v (prs (M (ss.getD i 0))))] (ap yQ<|ap (jQ:zEN (map (zCg la M) ss) i=some (prs (M (ss.getD i 0)))) an)<|zAp 1<|S_a [(2,.v (prV (lf.getD 0 d0)))] (ap (zBN d0 (by omega):(map prV lf)[0]? = some (prV (lf.getD 0 d0))) an)<|zAp 1<|S_a [(8,.ret (bool false) [])] (ap ct an)<|zA6<|zAB<|zAh<|zAb<|S_i i<|S_g 1 ?_
     exact rnd (i+1,s) ⟨by omega,yK.symm⟩ (by simp only;omega)
   ·rw[bz (by simp;omega)] at hs;rw[<- hs];clear hs;refine zAj 1<|zAc<|zAS ((i:Int)<(ss.length:Int)) (by omega)<|zAG 0 E_0
end
theorem zJX{α:Type}(x:α)(f:α->α):∀ A:List α,(A++[x]).modify A.length f=A++[f x]
 |[]=>rfl|a::A=>congrArg (List.cons a) (zJX x f A)
def zQD(n:Nw)(cs:LP)(e:Nat)(G:LP)(la s:Int):LP:=zFb n (zAD n (cs++[(la,s)]) e) G
theorem f134(n:Nw)(cs G L:LP)(e:Int)(x:Nat)(ss:LI)(ho:CrW n cs)(wy:cs.length<=16)(he:0<=e/\e<=12)(hG:∀ g∈G,(0<=g.1/\g.1<n.h)/\(0<=g.2/\g.2<n.n.length))(hGl:G.length<=80)(hL:L.length<=80)(hx:x<n.n.length)(hn:ss.Nodup)(uv:ss.length<=6)(yW:∀ s∈ss,0<=s/\s<n.s.length) :
  FG 134 [zE8 n cs,.agg [zWH n cs e G],prs L,I x,zBi ss] (.tup [.own 2 ((chs (zGA ((zAA n).getD x 0) ss) (zFF (zQD n cs e.toNat G ((zAA n).getD x 0))) (L.length+1) [] L (false,[])).2.map prV),.bool (chs (zGA ((zAA n).getD x 0) ss) (zFF (zQD n cs e.toNat G ((zAA n).getD x 0))) (L.length+1) [] L (false,[])).1]):=by
 have hN:=ho.nw;have kY:=hN.nl;have hs6:=hN.sl;have hM:∀ s,(zQD n cs e.toNat G ((zAA n).getD x 0) s).length<=80:=fun s=>bF (bU _ _) hGl;obtain⟨lx,hlx,hlx2,_⟩:=zCC hN hx;have yc:∀ s,s∈ss->FG 173 [prV ((zAA n).getD x 0,s),.ref (zE8 n cs),.ref (prs G),.ref (I e)] (prs (zQD n cs e.toNat G ((zAA n).getD x 0) s)):=fun s hs=>by
  have:=yW s hs;exact f173 n cs G e ((zAA n).getD x 0,s) ho (by omega) (by omega) (by omega) hG ⟨⟨by simp only[hlx];omega,by simp only[hlx];omega⟩,by simp only;omega,by simp only;omega⟩
 have y7:=f187a ((zAA n).getD x 0) (zQD n cs e.toNat G ((zAA n).getD x 0)) ss hn hM uv L.length L (by omega) hL;have hla8:(zAA n).length=8:=zS2;generalize zQD n cs e.toNat G ((zAA n).getD x 0)=M at *;generalize chs (zGA ((zAA n).getD x 0) ss) (zFF M) (L.length+1) [] L (false,[])=R at *;refine zAe Tryz.f134 ?_;refine zAj 3<|zAj 3<|zAj 1<|zAc<|zAn 1<|S_a [(0,.n ss.length)] (ap (lnS I ss) an)<|S_g 1<|zAg 0 ?_
 refine zAu (fun(i,q)=>i<=ss.length/\q=ss.take i) (fun((i:Nat),(q:LI))=>[(12,.box (.omap (q.map (zCg ((zAA n).getD x 0) M)))),(13,.box (.own 2 (q.map fun s=>prV ((zAA n).getD x 0,s)))),(23,I (i:Nat))]) (fun(i,_)=>ss.length-i) ((0:Nat),([]:LI)) ⟨bR _,rfl⟩ fun(i,q) ⟨hi,hq⟩=>?_;by_cases yH:i<ss.length
 ·have kB:ss.getD i 0∈ss:=by rw[zAr yH];exact cC _
  have j5:=yc _ kB;have vz:ss.getD i 0∉q:=fun h=>by
   rw[hq] at h;obtain⟨j,hj,he⟩:=dv h;have hj2:j<i:=by simp at hj;omega
   rw[ij,zAr yH] at he;exact(fC.1 hn) j i (by omega) yH hj2 he
  have yQ:=zWy (la:=(zAA n).getD x 0) (M:=M) vz;have jv:q.length=i:=by rw[hq];simp;omega
  have yK:ss.take (i+1)=q++[ss.getD i 0]:=by rw[hq];exact zBI yH
  clear yc y7 vz hq;have qq:zOY (q.map (zCg ((zAA n).getD x 0) M)++[(prV ((zAA n).getD x 0,ss.getD i 0),.sl [])]) q.length=some (prV ((zAA n).getD x 0,ss.getD i 0)):=by
   unfold zOY;rw[cQ (by simp),be,fX];rfl
  have yq:(q.map (zCg ((zAA n).getD x 0) M)++[(prV ((zAA n).getD x 0,ss.getD i 0),sl [])]).modify q.length (fun _=>(prV ((zAA n).getD x 0,ss.getD i 0),zA2 (prs (M (ss.getD i 0)))))=(q++[ss.getD i 0]).map (zCg ((zAA n).getD x 0) M):=by
   have hfz:zA2 (prs (M (ss.getD i 0)))=prs (M (ss.getD i 0)):=rfl;rw[hfz];have e1:(q.map (zCg ((zAA n).getD x 0) M)).length=q.length:=by simp
   rw[<- e1,zJX,cB];rfl
  refine zAj 1<|zAc<|zAL ((i:Int)<(ss.length:Int)) (by omega)<|zAh<|zAc<|zAg 1<|zAc<|zAb<|S_a [(2,.v (I (ss.getD i 0)))] (ap (zBN (0) (by omega):(map I ss)[i]? = some (I (ss.getD i 0))) an)<|S_g 2<|zAn 4<|S_a [(2,.ob),(0,.v ((I ((zAA n).getD x 0)).ref))] (ap ((by exact zAl (by omega)):decide (x<8)=true)<|ap (zDE (F:=zAA n) (m:=8) (j:=x) (by omega):zBT (agg (zAY (zAA n) 8)).ref (x*(fun x=>x.size) Tryz.prog.types[3]) none=some (I ((zAA n).getD x 0)).ref) an)<|S_g 5<|zAb<|zAp 2<|S_a [(1,.v (bor 13 [(0,0)] 2 0 q.length))] (ap ((by simp):bor 13 [(0,0)] 2 0 (map (fun s=>prV ((zAA n).getD x 0,s)) q).length=bor 13 [(0,0)] 2 0 q.length) an)<|zAp 2<|S_a [(4,.ob),(0,.ob),(0,.yes),(2,.v (own 2 (map (fun s=>prV ((zAA n).getD x 0,s)) (q++[ss.getD i 0]))))] (ap ((by exact zAP (by simp only[be,zzLn,zAJ]<;>omega)):(0+q.length).ble (map (fun s=>prV ((zAA n).getD x 0,s)) q).length=true)<|ap ((by exact zAP (by simp only[be,zzLn,zAJ]<;>omega)):((map (fun s=>prV ((zAA n).getD x 0,s)) q).length + [agg [I ((zAA n).getD x 0),I (ss.getD i 0)]].length).ble zAJ=true)<|ap ((by exact zBj (by simp<;>omega)):(0+q.length).beq (map (fun s=>prV ((zAA n).getD x 0,s)) q).length=true)<|ap ((zAQ (zBF (by kernel_rfl))):own 2 (map (fun s=>prV ((zAA n).getD x 0,s)) q++[agg [I ((zAA n).getD x 0),I (ss.getD i 0)]])=own 2 (map (fun s=>prV ((zAA n).getD x 0,s)) (q++[ss.getD i 0]))) an)<|zAp 3<|S_a [(9,.ret (prs (M (ss.getD i 0))) [])] (ap j5 an)<|zAp 1<|S_a [(3,.ix none),(5,.v (I (q.length:Int)))] (ap yQ<|ap ((by simp):I (↑(map (zCg ((zAA n).getD x 0) M) q).length:Int)=I (q.length:Int)) an)<|zAp 1<|S_a [(6,.v (prV ((zAA n).getD x 0,ss.getD i 0))),(0,.root ((omap (map (zCg ((zAA n).getD x 0) M) (q++[ss.getD i 0]))).box) true)] (ap qq<|ap (zYv (es:=map (zCg ((zAA n).getD x 0) M) q++[(prV ((zAA n).getD x 0,ss.getD i 0),sl [])]) yq) an)<|zA6<|zAb<|S_i i<|S_g 1 ?_
  exact rnd (i+1,q++[ss.getD i 0]) ⟨by omega,yK.symm⟩ (by simp only;omega)
 ·have e1:i=ss.length:=by omega
  rw[e1,cF] at hq;subst hq;unfold zMr at y7;clear yc;refine zAj 1<|zAc<|zAS ((i:Int)<(q.length:Int)) (by omega)<|zSf 0 ([(0,(agg (I n.h::prs n.l::sl (map ntV n.n)::sl (map zBi n.s)::prs cs::PV.map (map zDD (map pr2 n.l))::(zAY (zAd n) 8++zAY (zAA n) 8))).ref),(2,prs L),(3,I (x:Int)),(4,zBi q),(6,(agg [func 173 [] [(agg (I n.h::prs n.l::sl (map ntV n.n)::sl (map zBi n.s)::prs cs::PV.map (map zDD (map pr2 n.l))::(zAY (zAd n) 8++zAY (zAA n) 8))).ref.ref,(prs G).ref,(I e).ref]]).box),(12,(PV.map (map (zCg ((zAA n).getD x 0) M) q)).ref),(13,(sl (zAt (map (fun s=>prV ((zAA n).getD x 0,s)) q))).ref),(21,zBi q),(22,I (q.length:Int)),(23,I (i:Int)),(24,bool (decide ((i:Int)<(q.length:Int))))]) ([(0,(agg (I n.h::prs n.l::sl (map ntV n.n)::sl (map zBi n.s)::prs cs::PV.map (map zDD (map pr2 n.l))::(zAY (zAd n) 8++zAY (zAA n) 8))).ref),(2,prs L),(3,I (x:Int)),(4,zBi q),(6,(agg [func 173 [] [(agg (I n.h::prs n.l::sl (map ntV n.n)::sl (map zBi n.s)::prs cs::PV.map (map zDD (map pr2 n.l))::(zAY (zAd n) 8++zAY (zAA n) 8))).ref.ref,(prs G).ref,(I e).ref]]).box),(12,(PV.map (map (zCg ((zAA n).getD x 0) M) q)).ref),(13,(sl (map (fun s=>prV ((zAA n).getD x 0,s)) q)).ref),(21,zBi q),(22,I (q.length:Int)),(23,I (i:Int)),(24,bool (decide ((i:Int)<(q.length:Int))))]) (by simp only[show zAt (map (fun s=>prV ((zAA n).getD x 0,s)) q)=map (fun s=>prV ((zAA n).getD x 0,s)) q from(by first|exact zAq _|exact zAw _|exact zAv _|exact zAO (zAw _)|exact zAO (zAv _)|exact zBL (by simp[zBd]) (zAq _))])<|zAj 1<|zAj 2<|zAj 1<|zAj 2<|zAn 2<|S_a [(10,.ret (tup []) ([(bool R.fst).box,(own 2 (map prV R.snd)).box,(func 187 [] (zGJ ((zAA n).getD x 0) M q)).box]))] (ap y7 an)<|zA6<|zAc<|zAb<|S_a [(1,.v (bor 17 [(0,0)] 2 0 R.snd.length))] (ap ((by simp):bor 17 [(0,0)] 2 0 (map prV R.snd).length=bor 17 [(0,0)] 2 0 R.snd.length) an)<|zAp 1<|zAp 1<|S_g 1<|zAm<|E_z [(1,.yes),(1,.v (own 2 (map prV R.snd)))] (ap ((by exact zAP (by simp only[be,zzLn,zAJ]<;>omega)):(0+R.snd.length).ble (map prV R.snd).length=true)<|ap ((by simp[zBd]):own 2 (take R.snd.length (drop 0 (map prV R.snd)))=own 2 (map prV R.snd)) an)
end Go.Eng
