/- No cry at a stand that is offered mends two of the gaps that are apart, so that there are never more of them than further cries are needed; each other gap is mended by a cry that mends one of them; a gap is stuck just if none of these stands is jM near enough to its jN; and with all stands none is; for every list of numbers, evening and stands. -/
import Derived.Test.YtppbomajegnkeaaGreatPg
import Derived.Test.YtppbomajegnkeaaGreatPh
import Derived.Test.YtppbomajegnkeaaGreatPd
import Derived.Test.YtppbomajegnkeaaGreatPe
set_option linter.unusedVariables false
set_option linter.unusedSimpArgs false
set_option linter.unusedSectionVars false
set_option maxHeartbeats 1000000
open Nat (beq ble blt)
open List (map replicate take drop range length filter)
open Go.Eng.PV (own agg addr func sl bor tup omap bad bool int)
namespace Go.Eng
open Go
theorem zKs{n:Nw}{cs:LP}{i s:Int}{e:Nat}{g:Int×Int}(ho:CrW n (cs++[(i,s)]))(hg:g∈zC0 n (zAy n (cs++[(i,s)]) e) (zAA n (zAy n cs e))):(zAg n).getD g.2.toNat 0=(zAg n).getD i.toNat 0:=by
 obtain⟨jq,vn⟩:=bO.1 hg;obtain⟨h,x,hh,hx,rfl,hb⟩:=zD3 jq;have hN:=ho.nw;have h8:=hN.nl;have hf:=zBK hN x hx;refine b5 fun hI=>?_;simp only[bR] at hI;have jf:=zIT (a:=[(i,s)]) hN (c:=((zAg n).getD x 0).toNat) (by omega) (fun a ha=>by
  rw[(zE4 (zEa ho).2).ge ha (by omega)];rintro(h1|⟨y,h1,h2,h3,h4⟩)
  ·omega
  ·obtain⟨c,g1,g2⟩:=bX.1 h3;rw[bk.1 g1] at g2;simp only[hrB,bb,decide_eq_true_eq] at g2;rw[g2.1,bR] at hI;omega) e h hh
 have hu:=fun v=>zFX (zEa ho).1 (zEa ho).2 ho (c:=((zAg n).getD x 0).toNat) (by omega) e h v hh;simp only[zLr,bb,decide_eq_true_eq] at hb;simp only[zVs,bR,decide_eq_true_eq] at vn;have u1:=(hu x).2 (.inl (by omega));rcases(hu ((zAy n (cs++[(i,s)]) e).getD (h*8+((zAg n).getD x 0).toNat) 0)).1 (di _) with u2|u2
 ·omega
 ·omega
def jnB(n:Nw)(cs:LP)(e:Nat)(G:LP)(st:LI)(x y:Int×Int):Bool:=(zWp n cs e G st n.n.length).any fun c=>has c x&&has c y
def apL(n:Nw)(cs:LP)(e:Nat)(st:LI):LP:=aps (jnB n cs e (zAA n (zAy n cs e)) st) (zAA n (zAy n cs e))
def apN(n:Nw)(cs:LP)(e:Nat)(st:LI)(k:Nat):LP:=(range k).flatMap fun i=>if fwB n i=true then aps (jnB n cs e (zAA n (zAy n cs e)) st) (ofL n i (zAA n (zAy n cs e))) else[]
theorem zQn{n:Nw}{cs:LP}{e:Nat}{st:LI}{k:Nat}:apN n cs e st (k+1)=if fwB n k=true then apN n cs e st k++aps (jnB n cs e (zAA n (zAy n cs e)) st) (ofL n k (zAA n (zAy n cs e))) else apN n cs e st k:=by
 unfold apN;rw[b9,fy];split
 ·rename_i h;simp[h]
 ·rename_i h;simp[h]
theorem zQi{n:Nw}{w:LI}:(zAA n w).Pairwise fun x y=>x.1<y.1\/x.1=y.1/\x.2<y.2:=by
 have hR:∀ h k,(zN9 n w h k).Pairwise fun x y=>x.1<y.1\/x.1=y.1/\x.2<y.2:=fun h k=>by
  unfold zN9;rw[il];exact(fI.sublist dI).imp fun{a b} h=>.inr ⟨rfl,by simp only;omega⟩
 unfold zAA zUm;rw[List.pairwise_flatMap];refine⟨fun a _=>hR a _,fI.imp fun{a b} hab x hx y hy=>.inl ?_⟩;obtain⟨p,_,rfl⟩:=b4.1 hx;obtain⟨q,_,rfl⟩:=b4.1 hy;simp only;omega
theorem zW7{n:Nw}{w:LI}:(zAA n w).Nodup:=zQi.imp fun{a b} h e=>by
 rw[e] at h;omega
def zSY(n:Nw)(g:Int×Int):Nat:=((zAg n).getD g.2.toNat 0).toNat
theorem zX4{n:Nw}{cs:LP}{e:Nat}{st:LI}(ho:CrW n cs)(yN:cs.length<=16)(yT:∀ s∈st,0<=s/\s<n.s.length){i:Nat}(hi:i<n.n.length) :
  (if fwB n i=true then aps (jnB n cs e (zAA n (zAy n cs e)) st) (ofL n i (zAA n (zAy n cs e))) else[])=(apL n cs e st).filter fun x=>decide (zSY n x=i):=by
 have hN:=ho.nw;have hfx:∀ g∈zAA n (zAy n cs e),0<=(zAg n).getD g.2.toNat 0/\g.2.toNat<n.n.length:=fun g hg=>by
  obtain⟨h,x,hh,hx,rfl,_⟩:=zD3 hg;have:=zBK hN x hx;simp only[bR];omega
 have yX:(apL n cs e st).Sublist (zAA n (zAy n cs e)):=zFp _ _ _ (bf _);have wM:∀ x y,jnB n cs e (zAA n (zAy n cs e)) st x y=true->decide (zSY n x=i)=decide (zSY n y=i):=fun x y h=>by
  simp only[jnB,bX,bb,zD2,zWp,cG,bF,b4] at h;obtain⟨c,⟨j,hj,s,hs,rfl⟩,h1,h2⟩:=h;have how:CrW n (cs++[((j:Int),s)]):=zLF ho (by omega) ⟨⟨by simp only;omega,by simp only;omega⟩,yT s hs⟩;have e1:=zKs how h1;have e2:=zKs how h2;unfold zSY;rw[e1,e2]
 split
 ·rename_i hb;have hf:=zHS (J:=jnB n cs e (zAA n (zAy n cs e)) st) _ (zAA n (zAy n cs e)) (bf _) (fun x=>decide (zSY n x=i)) wM;unfold apL;rw[hf];congr 1;refine dk fun g hg=>?_;have:=hfx g hg;unfold zSY;rw[co];simp only[bG,decide_eq_false_iff_not,Decidable.not_not,decide_eq_true_eq];omega
 ·rename_i hb;symm;refine iN.2 fun g hg=>?_;have:=hfx g (yX.subset hg);have h2:=zJ7 hN _ this.2;rw[decide_eq_true_eq];rintro rfl;refine hb (decide_eq_true ?_);unfold zSY;rw[h2,d9 this.1]
theorem zXr{n:Nw}{cs:LP}{e:Nat}{st:LI}(ho:CrW n cs)(yN:cs.length<=16)(yT:∀ s∈st,0<=s/\s<n.s.length) :
  zZC (apN n cs e st n.n.length)=apL n cs e st:=by
 have hN:=ho.nw;have yX:(apL n cs e st).Sublist (zAA n (zAy n cs e)):=zFp _ _ _ (bf _);refine zXE ?_ ((zQi.sublist yX).imp fun{a b} h=>by
  simp only[zLd,bW,bb,decide_eq_true_eq];omega)
 have e1:apN n cs e st n.n.length=(range n.n.length).flatMap fun i=>(apL n cs e st).filter fun x=>decide (zSY n x=i):=by
  unfold apN;rw[List.flatMap_def,List.flatMap_def];congr 1;exact d6 fun i hi=>zX4 ho yN yT (bF.1 hi)
 rw[e1];have e2:((apL n cs e st).filter fun x=>decide (zSY n x<n.n.length))=apL n cs e st:=dl.2 fun g hg=>by
  obtain⟨h,x,hh,hx,rfl,_⟩:=zD3 (yX.subset hg);have:=zBK hN x hx;rw[decide_eq_true_eq];unfold zSY;simp only[bR];omega
 have:=zKQ (zSY n) (apL n cs e st) n.n.length;rwa[e2] at this
abbrev Pp:=(Int×Int)×(Int×Int)
def zUq(M:List Pp)(p:Pp):List Pp:=if p∈M then M else M++[p]
theorem zVK{M:List Pp}{p q:Pp}:q∈zUq M p↔q∈M\/q=p:=by
 unfold zUq;split
 ·rename_i h;exact⟨.inl,fun h2=>h2.elim id fun e=>e▸h⟩
 ·simp
def jn1(c:LP)(M:List Pp)(a:Int×Int):List Pp:=c.foldl (fun M b=>zUq M (a,b)) M
def jn2(M:List Pp)(c:LP):List Pp:=c.foldl (jn1 c) M
theorem zUi{a:Int×Int}{q:Pp}:∀ (c:LP) (M:List Pp),q∈jn1 c M a↔q∈M\/q.1=a/\q.2∈c
 |[],M=>by simp[jn1]
 | b :: c,M=>by
  have ih:=zUi (a:=a) (q:=q) c (zUq M (a,b));unfold jn1 at ih ⊢;rw[bM,ih,zVK,bx];constructor
  ·rintro((h|rfl)|h)
   ·exact .inl h
   ·exact .inr ⟨rfl,.inl rfl⟩
   ·exact .inr ⟨h.1,.inr h.2⟩
  ·rintro(h|⟨h1,h2|h2⟩)
   ·exact .inl (.inl h)
   ·exact .inl (.inr (fZ h1 h2))
   ·exact .inr ⟨h1,h2⟩
theorem zP3{d:LP}{q:Pp}:∀ (c:LP) (M:List Pp),q∈c.foldl (jn1 d) M↔q∈M\/q.1∈c/\q.2∈d
 |[],M=>by simp
 | a :: c,M=>by
  rw[bM,zP3 c,zUi,bx];constructor
  ·rintro((h|h)|h)
   ·exact .inl h
   ·exact .inr ⟨.inl h.1,h.2⟩
   ·exact .inr ⟨.inr h.1,h.2⟩
  ·rintro(h|⟨h1|h1,h2⟩)
   ·exact .inl (.inl h)
   ·exact .inl (.inr ⟨h1,h2⟩)
   ·exact .inr ⟨h1,h2⟩
theorem zW8{M:List Pp}{c:LP}{q:Pp}:q∈jn2 M c↔q∈M\/q.1∈c/\q.2∈c:=zP3 c M
def jnR(n:Nw)(cs:LP)(e:Nat)(G:LP)(i:Nat)(M:List Pp)(st:LI):List Pp:=st.foldl (fun M s=>jn2 M (zC0 n (zAy n (cs++[((i:Int),s)]) e) G)) M
def jnN(n:Nw)(cs:LP)(e:Nat)(G:LP)(st:LI)(k:Nat):List Pp:=(range k).foldl (fun M i=>jnR n cs e G i M st) []
theorem zVv{n:Nw}{cs G:LP}{M:List Pp}{e:Nat}{i j:Nat}{st:LI}(h:j<st.length):jnR n cs e G i M (st.take (j+1))=jn2 (jnR n cs e G i M (st.take j)) (zC0 n (zAy n (cs++[((i:Int),st.getD j 0)]) e) G):=zCk h
theorem zPZ{n:Nw}{cs G:LP}{e:Nat}{st:LI}{k:Nat}:jnN n cs e G st (k+1)=jnR n cs e G k (jnN n cs e G st k) st:=by
 simp only[jnN,b9,cE,bM,cv]
theorem zT6{n:Nw}{cs G:LP}{e:Nat}{i:Nat}{q:Pp}:∀ (st:LI) (M:List Pp),q∈jnR n cs e G i M st↔q∈M\/∃ s∈st,q.1∈zC0 n (zAy n (cs++[((i:Int),s)]) e) G/\q.2∈zC0 n (zAy n (cs++[((i:Int),s)]) e) G
 |[],M=>by simp[jnR]
 | s :: st,M=>by
  have ih:=zT6 (n:=n) (cs:=cs) (G:=G) (e:=e) (i:=i) (q:=q) st (jn2 M (zC0 n (zAy n (cs++[((i:Int),s)]) e) G));unfold jnR at ih ⊢;rw[bM,ih,zW8];simp only[bx];constructor
  ·rintro((h|h)|⟨s',h1,h2⟩)
   ·exact .inl h
   ·exact .inr ⟨s,.inl rfl,h⟩
   ·exact .inr ⟨s',.inr h1,h2⟩
  ·rintro(h|⟨s',rfl|h1,h2⟩)
   ·exact .inl (.inl h)
   ·exact .inl (.inr h2)
   ·exact .inr ⟨s',h1,h2⟩
theorem zTX{n:Nw}{cs G:LP}{e:Nat}{st:LI}{q:Pp}:∀ k,q∈jnN n cs e G st k↔∃ i,i<k/\∃ s∈st,q.1∈zC0 n (zAy n (cs++[((i:Int),s)]) e) G/\q.2∈zC0 n (zAy n (cs++[((i:Int),s)]) e) G
 |0=>by simp[jnN]
 | k + 1=>by
  rw[zPZ,zT6,zTX k];constructor
  ·rintro(⟨i,h1,h2⟩|h)
   ·exact⟨i,by omega,h2⟩
   ·exact⟨k,by omega,h⟩
  ·rintro⟨i,h1,h2⟩;by_cases hk:i=k
   ·subst hk;exact .inr h2
   ·exact .inl ⟨i,by omega,h2⟩
def jpB(M:List Pp)(x y:Int×Int):Bool:=decide ((x,y)∈M)&&decide (x≠y)
theorem zXP{n:Nw}{cs G:LP}{e:Nat}{st:LI}{x y:Int×Int}(h:x≠y):jpB (jnN n cs e G st n.n.length) x y=jnB n cs e G st x y:=by
 rw[co];simp only[jpB,jnB,bb,decide_eq_true_eq,zTX,bX,zD2,zWp,cG,bF,b4];constructor
 ·rintro⟨⟨i,h1,s,h2,h3⟩,_⟩;exact⟨_,⟨i,h1,s,h2,rfl⟩,h3⟩
 ·rintro⟨_,⟨i,h1,s,h2,rfl⟩,h3⟩;exact⟨⟨i,h1,s,h2,h3⟩,h⟩
theorem zZb{n:Nw}{cs:LP}{e:Nat}{st:LI}{i:Nat}:aps (jpB (jnN n cs e (zAA n (zAy n cs e)) st n.n.length)) (ofL n i (zAA n (zAy n cs e)))=aps (jnB n cs e (zAA n (zAy n cs e)) st) (ofL n i (zAA n (zAy n cs e))) :=
 zJJ _ _ (bf _) (zW7.sublist dI) fun _ _ _ _ h=>zXP h
end Go.Eng
set_option maxRecDepth 10000
set_option maxHeartbeats 4000000
namespace Go.Eng
open Go Go.Proofs
theorem f38_2(n:Nw)(cs:LP)(h:Int)(x:Int)(ho:CrOk n cs)(hh:0<=h/\h<n.h)(hx:0<=x/\x<n.n.length)(hm:∀ j,j<=12->(zAy n cs j).getD (h.toNat*8+((zAg n).getD x.toNat 0).toNat) 0≠x):FG 38 [nwV n,prs cs,I h,I x] (.tup [.own 1 [],I 6]):=by
 have hn:=ho.nw;have kO:=ho.w;have hb:=hn.h;have vS:=hn.nl;have hin:inB x 0 (n.n.length-1)=true:=by simp only[inB,bb,decide_eq_true_eq];omega
 have hih:inB h 0 (n.h-1)=true:=by simp only[inB,bb,decide_eq_true_eq];omega
 have gW:=zBK hn x.toNat (by omega);refine zAd Tryz.f38 ?_;refine zAj 4<|zAl 2<|S_a [(8,.ret (tup [zE9 n cs,I 0]) [])] (ap (f99_1 n cs (by omega)) an)<|S_g 5<|zAc<|zAf 0<|zAj 3<|zAB<|zAl 2<|S_a [(8,.ret (bool (inB h 0 (n.h-1))) [])] (ap (f109 n h (by omega)) an)<|zAm 2<|zGK 32 (!inB h 0 (n.h-1)) (fun k0=>(S_g 6<|zCy<|zAj 2<|zAn<|E_a [] an (tup [own 1 [],I 1]) [] ?_ rfl)) (fun k0=>(zAm 2<|S_a [(8,.ret (bool (inB x 0 ((n.n.length:Int)-1))) [])] (ap (f106 n x (by first|omega|(simp<;>omega))) an)<|S_g 3<|zEx (!inB x 0 ((n.n.length:Int)-1)) (fun k1=>(zAj 2<|zAn<|E_a [] an (tup [own 1 [],I 1]) [] ?_ rfl)) (fun k1=>(zAh<|zAl 4<|S_a [(0,.ob),(1,.ob),(0,.v ((I ((zAg n).getD x.toNat 0)).ref))] (ap ((by exact zAp (by omega)):decide (0<=x)=true)<|ap ((by exact zAp (by omega)):decide (x.toNat<8)=true)<|ap (zD0 (F:=zAg n) (m:=8) (j:=x.toNat) (by omega):zBQ (agg (zA5 (zAg n) 8)).ref (x.toNat*(fun x=>x.size) Tryz.prog.types[3]) none=some (I ((zAg n).getD x.toNat 0)).ref) an)<|S_g 3<|zAl 1<|S_a [(5,.ret (hdV (zKC n cs)) [])] (ap (f100 n cs (by omega)) an)<|S_g 3<|zAc<|zAf 1 ?_))))
 ·exact absurd (by assumption:(!inB h 0 (n.h-1))=true) (by rw[hih];simp)
 ·exact absurd (by assumption:(!inB x 0 (n.n.length-1))=true) (by rw[hin];simp)
 ·generalize hc:((zAg n).getD x.toNat 0)=c at *;refine zAr (fun(j,S)=>j<=12/\S=zT9 n cs (j+1)) (fun(j,S)=>[(13,zWg S)]) (fun(j,_)=>12-j) ((0:Nat),[zKC n cs]) ⟨by omega,rfl⟩ fun(j,S) ⟨hj,hS⟩=>?_;have wh:S.length=j+1:=by rw[hS];simp[zT9]
  have qm:S.getD (S.length-1) []=zAy n cs j:=by rw[wh,hS];exact zMl (by omega)
  have qE:(S.getD (S.length-1) []).length=80:=by rw[qm];exact zBe j
  have hI:=hm j hj;rw[<- qm] at hI;have hSS:S++[zCf n (S.getD (S.length-1) [])]=zT9 n cs (j+1+1):=by rw[zNX (k:=j+1),<- hS,qm];rfl
  by_cases hjk:j<12
  ·refine zAc<|zAc<|zAb<|S_a [(1,.v (bor 13 [(0,0)] 80 0 S.length))] (ap ((by simp):bor 13 [(0,0)] 80 0 (map hdV S).length=bor 13 [(0,0)] 80 0 S.length) an)<|S_a [(1,.v (bor 13 [(0,0)] 80 0 S.length))] (ap ((by simp):bor 13 [(0,0)] 80 0 (map hdV S).length=bor 13 [(0,0)] 80 0 S.length) an)<|zAm 1<|S_a [(1,.v (I (↑(S.length-1):Int)))] (ap ((zBW (by omega) (by omega)):I (IntKind.i64.wrap ((S.length:Int)-1))=I (↑(S.length-1):Int)) an)<|zAm 2<|S_a [(2,.ob),(1,.n (S.length-1))] (ap ((by exact zAp (by omega)):decide (S.length-1<S.length)=true)<|ap ((by simp):some (0+(S.length-1))=some (S.length-1)) an)<|S_a [(0,.ob),(1,.ob)] (ap ((by exact zAp (by omega)):decide (0<=h)=true)<|ap ((by exact zAp (by omega)):decide (h.toNat<10)=true) an)<|S_a [(0,.ob),(1,.ob)] (ap ((by exact zAp (by omega)):decide (0<=c)=true)<|ap ((by exact zAp (by omega)):decide (c.toNat<8)=true) an)<|S_a [(0,.cs true ([I ((S.getD (S.length-1) []).getD (h.toNat*8+c.toNat) 0)]))] (ap (zCn (q:=own 80 (map hdV S)) (xs:=map hdV S) (x:=agg (zA5 (S.getD (S.length-1) []) 80)) (zNt (xs:=[own 80 (map hdV S)]) (x:=own 80 (map hdV S)) (y:=own 80 (map hdV S)) rfl rfl) (zBN [] (by omega)) (zFk (F:=S.getD (S.length-1) []) (m:=80) (j:=h.toNat*8+c.toNat) (by first|rfl|exact zCc (by kernel_rfl)|exact zCd (by kernel_rfl)|exact zDQ (by kernel_rfl) (by kernel_rfl)|exact zDY (by kernel_rfl)|exact zD7 (by kernel_rfl) (by kernel_rfl)|exact zDR (by kernel_rfl)|(simp;done)) (by omega)):zAq 13 (own 80 (map hdV S)).box [(0,0)] (S.length-1) (0+h.toNat*(fun x=>x.size) Tryz.prog.types[128]+c.toNat*(fun x=>x.size) Tryz.prog.types[3]) 1=some (true,[I ((S.getD (S.length-1) []).getD (h.toNat*8+c.toNat) 0)])) an)<|S_g 2<|zJB ((S.getD (S.length-1) []).getD (h.toNat*8+c.toNat) 0=x) (by omega)<|zAh<|zAf 2<|zAc<|zAc<|zAb<|S_a [(1,.v (bor 13 [(0,0)] 80 0 S.length))] (ap ((by simp):bor 13 [(0,0)] 80 0 (map hdV S).length=bor 13 [(0,0)] 80 0 S.length) an)<|S_g 2<|zAQ ((S.length:Int)>12) (by omega)<|zAh<|zAb<|S_a [(1,.v (bor 13 [(0,0)] 80 0 S.length))] (ap ((by simp):bor 13 [(0,0)] 80 0 (map hdV S).length=bor 13 [(0,0)] 80 0 S.length) an)<|zAm 1<|S_a [(1,.v (bor 13 [(0,0)] 80 0 S.length))] (ap ((by simp):bor 13 [(0,0)] 80 0 (map hdV S).length=bor 13 [(0,0)] 80 0 S.length) an)<|S_a [(1,.v (bor 13 [(0,0)] 80 0 S.length))] (ap ((by simp):bor 13 [(0,0)] 80 0 (map hdV S).length=bor 13 [(0,0)] 80 0 S.length) an)<|zAm 1<|S_a [(1,.v (I (↑(S.length-1):Int)))] (ap ((zBW (by omega) (by omega)):I (IntKind.i64.wrap ((S.length:Int)-1))=I (↑(S.length-1):Int)) an)<|S_a [(2,.ob),(1,.n (S.length-1))] (ap ((by exact zAp (by omega)):decide (S.length-1<S.length)=true)<|ap ((by simp):some (0+(S.length-1))=some (S.length-1)) an)<|S_a [(0,.cs true (zA5 (S.getD (S.length-1) []) 80))] (ap (zCn (q:=own 80 (map hdV S)) (xs:=map hdV S) (x:=agg (zA5 (S.getD (S.length-1) []) 80)) (zNt (xs:=[own 80 (map hdV S)]) (x:=own 80 (map hdV S)) (y:=own 80 (map hdV S)) rfl rfl) (zBN [] (by omega)):zAq 13 (own 80 (map hdV S)).box [(0,0)] (S.length-1) 0 Tryz.prog.types[130].size=some (true,zA5 (S.getD (S.length-1) []) 80)) an)<|S_a [(7,.ret (hdV (zCf n (S.getD (S.length-1) []))) [])] (ap (f101 n cs (S.getD (S.length-1) []) (by omega) (by omega)) an)<|zAm 1<|S_a [(4,.ob),(0,.ob),(0,.yes),(2,.v (own 80 (map hdV (S++[zCf n (S.getD (S.length-1) [])]))))] (ap ((by exact zAR (by simp only[be,zzLn,zAO]<;>omega)):(0+S.length).ble (map hdV S).length=true)<|ap ((by exact zAR (by simp only[be,zzLn,zAO]<;>omega)):((map hdV S).length + [agg (zA5 (zCf n (S.getD (S.length-1) [])) 80)].length).ble zAO=true)<|ap ((by exact zBq (by simp<;>omega)):(0+S.length).beq (map hdV S).length=true)<|ap ((zAT (zBE (by kernel_rfl))):own 80 (map hdV S++[agg (zA5 (zCf n (S.getD (S.length-1) [])) 80)])=own 80 (map hdV (S++[zCf n (S.getD (S.length-1) [])]))) an)<|S_g 1 ?_
   exact rnd (j+1,S++[zCf n (S.getD (S.length-1) [])]) ⟨by omega,hSS⟩ (by simp only;omega)
  ·refine zAc<|zAc<|zAb<|S_a [(1,.v (bor 13 [(0,0)] 80 0 S.length))] (ap ((by simp):bor 13 [(0,0)] 80 0 (map hdV S).length=bor 13 [(0,0)] 80 0 S.length) an)<|S_a [(1,.v (bor 13 [(0,0)] 80 0 S.length))] (ap ((by simp):bor 13 [(0,0)] 80 0 (map hdV S).length=bor 13 [(0,0)] 80 0 S.length) an)<|zAm 1<|S_a [(1,.v (I (↑(S.length-1):Int)))] (ap ((zBW (by omega) (by omega)):I (IntKind.i64.wrap ((S.length:Int)-1))=I (↑(S.length-1):Int)) an)<|zAm 2<|S_a [(2,.ob),(1,.n (S.length-1))] (ap ((by exact zAp (by omega)):decide (S.length-1<S.length)=true)<|ap ((by simp):some (0+(S.length-1))=some (S.length-1)) an)<|S_a [(0,.ob),(1,.ob)] (ap ((by exact zAp (by omega)):decide (0<=h)=true)<|ap ((by exact zAp (by omega)):decide (h.toNat<10)=true) an)<|S_a [(0,.ob),(1,.ob)] (ap ((by exact zAp (by omega)):decide (0<=c)=true)<|ap ((by exact zAp (by omega)):decide (c.toNat<8)=true) an)<|S_a [(0,.cs true ([I ((S.getD (S.length-1) []).getD (h.toNat*8+c.toNat) 0)]))] (ap (zCn (q:=own 80 (map hdV S)) (xs:=map hdV S) (x:=agg (zA5 (S.getD (S.length-1) []) 80)) (zNt (xs:=[own 80 (map hdV S)]) (x:=own 80 (map hdV S)) (y:=own 80 (map hdV S)) rfl rfl) (zBN [] (by omega)) (zFk (F:=S.getD (S.length-1) []) (m:=80) (j:=h.toNat*8+c.toNat) (by first|rfl|exact zCc (by kernel_rfl)|exact zCd (by kernel_rfl)|exact zDQ (by kernel_rfl) (by kernel_rfl)|exact zDY (by kernel_rfl)|exact zD7 (by kernel_rfl) (by kernel_rfl)|exact zDR (by kernel_rfl)|(simp;done)) (by omega)):zAq 13 (own 80 (map hdV S)).box [(0,0)] (S.length-1) (0+h.toNat*(fun x=>x.size) Tryz.prog.types[128]+c.toNat*(fun x=>x.size) Tryz.prog.types[3]) 1=some (true,[I ((S.getD (S.length-1) []).getD (h.toNat*8+c.toNat) 0)])) an)<|S_g 2<|zJB ((S.getD (S.length-1) []).getD (h.toNat*8+c.toNat) 0=x) (by omega)<|zAh<|zAf 2<|zAc<|zAc<|zAb<|S_a [(1,.v (bor 13 [(0,0)] 80 0 S.length))] (ap ((by simp):bor 13 [(0,0)] 80 0 (map hdV S).length=bor 13 [(0,0)] 80 0 S.length) an)<|S_g 2<|zAM ((S.length:Int)>12) (by omega)<|zAj 2<|zAn E_0
end Go.Eng
namespace Go.Eng
open Go Go.Proofs
theorem zRU{n:Nw}{a b:Int}:zDu n a b=zDu n b a:=by
 unfold zDu;have:pr2 (a,b)=pr2 (b,a):=by
  simp only[pr2,bz];constructor
  ·repeat' split
   all_goals omega
  ·repeat' split
   all_goals omega
 rw[this]
structure BkOk (n:Nw) (cs:LP) (c:Nat) (x:Int) (m:Nat) (out:LI):Prop where
 pos:0<out.length
 rng:∀ i,i<out.length->0<=out.getD i 0/\out.getD i 0<n.h
 at_:∀ i,i<out.length->(zAy n cs (m+i)).getD ((out.getD i 0).toNat*8+c) 0=x
 nb:∀ i,i+1<out.length->zDu n (out.getD i 0) (out.getD (i+1) 0)=true
 no:∀ m',m=m'+1->(zAy n cs m').getD ((out.getD 0 0).toNat*8+c) 0≠x
end Go.Eng
set_option maxHeartbeats 1000000
namespace Go.Eng
open Go
theorem zHO{n:Nw}{i j s:Int}{c:Nat}(h1:CrW n [(i,s)])(h2:CrW n [(j,s)])(hc:c<8)(hij:(zAg n).getD i.toNat 0=(zAg n).getD j.toNat 0):∀ e h,h<n.h.toNat->(zFl n (i,s) e h c->zFl n (j,s) e h c)
 | 0,h,hh=>by
  have ha:=h1.cs _ (bk.2 rfl);have hb:=h2.cs _ (bk.2 rfl);simp only at ha hb;unfold zFl;show 0<=(zKC n [(i,s)]).getD (h*8+c) 0->0<=(zKC n [(j,s)]).getD (h*8+c) 0
  rw[(zE4 h1).ge hh hc,(zE4 h2).ge hh hc];rintro(g|⟨y,g1,g2,g3,g4⟩)
  ·omega
  ·obtain⟨d,d1,d2⟩:=bX.1 g3;rw[bk.1 d1] at d2;simp only[hrB,bb,decide_eq_true_eq] at d2;refine .inr ⟨j.toNat,by omega,?_,?_,by omega⟩
   ·rw[<- hij,d2.1];simpa using g2
   ·refine bX.2 ⟨(j,s),bk.2 rfl,?_⟩;simp only[hrB,bb,decide_eq_true_eq];exact⟨by omega,d2.2⟩
 |e+1,h,hh=>by
  have ih:=zHO h1 h2 hc hij e;unfold zFl at *;show 0<=(zCf n (zAy n [(i,s)] e)).getD (h*8+c) 0->0<=(zCf n (zAy n [(j,s)] e)).getD (h*8+c) 0
  rw[zDA h1.nw (zBe e) hh hc,zDA h1.nw (zBe e) hh hc];rintro(g|⟨o,g1,g2⟩)
  ·exact .inl (ih h hh g)
  ·exact .inr ⟨o,g1,ih o (zHX g1) g2⟩
theorem zSa{n:Nw}{cs:LP}{i s:Int}{e h x:Nat}(ho:CrW n (cs++[(i,s)]))(hh:h<n.h.toNat)(hx:x<n.n.length)(hg:((h:Int),(x:Int))∈zC0 n (zAy n (cs++[(i,s)]) e) (zAA n (zAy n cs e))):zFl n (i,s) e h ((zAg n).getD x 0).toNat:=by
 have hN:=ho.nw;have h8:=hN.nl;have hf:=zBK hN x hx;obtain⟨jq,vn⟩:=bO.1 hg;have hb:=(zKk hh hx).1 jq;simp only[zLr,bb,decide_eq_true_eq] at hb;simp only[zVs,bR,decide_eq_true_eq] at vn;have hu:=fun v=>zFX (zEa ho).1 (zEa ho).2 ho (c:=((zAg n).getD x 0).toNat) (by omega) e h v hh;have u1:=(hu x).2 (.inl (by omega));unfold zFl;rcases(hu ((zAy n (cs++[(i,s)]) e).getD (h*8+((zAg n).getD x 0).toNat) 0)).1 (di _) with u2|u2
 ·omega
 ·omega
end Go.Eng
set_option maxHeartbeats 1000000
namespace Go.Eng
open Go
section
variable {J:Gp->Gp->Bool}
theorem zJc:∀ (k:Nat) (l:List Gp),l.length<=k->(aps J l).Pairwise fun x y=>J x y=false
 |_,[],_=>List.Pairwise.nil|0,x::t,h=>absurd h (by simp)|k + 1,x::t,h=>by
  have h1:=bC (fun y=>!J x y) t;simp only[bD] at h;rw[zDG];split
  ·refine List.Pairwise.cons (fun y hy=>?_) (zJc k _ (by omega));have:=(bO.1 ((zFp J _ _ (bf _)).subset hy)).2;simpa using this
  ·exact zJc k t (by omega)
theorem zMv:∀ (k:Nat) (l A:List Gp),l.length<=k->A.Sublist l->(A.Pairwise fun x y=>J x y=false)->A.length<=(aps J l).length
 |_,[],A,_,hs,_=>by rw[List.sublist_nil.1 hs];exact bN _|0,x::t,_,h,_,_=>absurd h (by simp)
 | k + 1,x::t,A,h,hs,hA=>by
  have h1:=bC (fun y=>!J x y) t;simp only[bD] at h;have hc:(aps J t).length<=(aps J (x::t)).length/\(aps J (t.filter fun y=>!J x y)).length+1<=(aps J (x::t)).length:=by
   rw[zDG];split
   ·rename_i c;exact⟨by rw[bD];exact c,by rw[bD];exact bf _⟩
   ·omega
  cases hs with
  |cons _ hs=>exact bB (zMv k t A (by omega) hs hA) hc.1
  | cons_cons _ hs =>
   rename_i A;rw[cL] at hA;have yX:A.Sublist (t.filter fun y=>!J x y):=by
    have e:A.filter (fun y=>!J x y)=A:=dl.2 fun y hy=>by rw[hA.1 y hy];rfl
    rw[<- e];exact hs.filter _
   have:=zMv k _ A (by omega) yX hA.2;rw[bD];omega
theorem zLT:∀ (k:Nat) (l:List Gp),l.length<=k->∀ z∈l,z∈aps J l\/∃ y∈aps J l,J y z=true\/J z y=true
 |_,[],_,z,hz=>absurd hz (by simp)|0,x::t,h,_,_=>absurd h (by simp)
 | k + 1,x::t,h,z,hz=>by
  have h1:=bC (fun y=>!J x y) t;simp only[bD] at h;rw[zDG];split
  ·rcases bx.1 hz with rfl|hz
   ·exact .inl cf
   ·by_cases hj:J x z=true
    ·exact .inr ⟨x,cf,.inl hj⟩
    ·rcases zLT k (t.filter fun y=>!J x y) (by omega) z (bO.2 ⟨hz,by simp[hj]⟩) with g|⟨y,g1,g2⟩
     ·exact .inl (bZ _ g)
     ·exact .inr ⟨y,bZ _ g1,g2⟩
  ·rename_i c;rcases bx.1 hz with rfl|hz
   ·refine .inr (b5 fun jf=>c ?_);have e:(aps J t).filter (fun y=>!J z y)=aps J t:=dl.2 fun y hy=>by
     cases hj:J z y
     ·rfl
     ·exact absurd ⟨y,hy,.inr hj⟩ jf
    have:=zMv (J:=J) _ (t.filter fun y=>!J z y) (aps J t) (bf _) (by
     rw[<- e];exact(zFp J _ t (bf _)).filter _) (zJc _ t (bf _))
    omega
   ·exact zLT k t (by omega) z hz
end
theorem zV6{α β:Type}[DecidableEq β]:∀ (A:List α) (B:List β) (R:α->β->Prop),(∀ a∈A,∃ b∈B,R a b)->(A.Pairwise fun x y=>∀ b∈B,¬ (R x b/\R y b))->A.length<=B.length
 |[],B,_,_,_=>bN _
 | a :: A,B,R,h1,h2=>by
  obtain⟨b,hb,hr⟩:=h1 a cf;rw[cL] at h2;have h3:=zV6 A (B.erase b) R (fun x hx=>by
   obtain⟨c,hc,jF⟩:=h1 x (bZ _ hx);refine⟨c,(List.mem_erase_of_ne ?_).2 hc,jF⟩;rintro rfl;exact h2.1 x hx c hc ⟨hr,jF⟩) (h2.2.imp fun h b hb=>h b (fR hb))
  rw[iD hb] at h3;have:=fH hb;rw[bD];omega
theorem zXL{A M:List Gp}(h:A.Pairwise fun x y=>¬ (x∈M/\y∈M)):(A.filter fun x=>has M x).length<=1:=by
 have h2:=h.filter fun x=>has M x;have hm:∀ x∈A.filter (fun x=>has M x),x∈M:=fun x hx=>zD2.1 (bO.1 hx).2
 match hf:A.filter fun x=>has M x with
 |[]=>exact bN _|[_]=>exact bf _|x::y::l=>
  rw[hf] at h2 hm;rw[cL] at h2;exact absurd ⟨hm x (by simp),hm y (by simp)⟩ (h2.1 y (by simp))
theorem zPl{n:Nw}{cs G:LP}{e:Nat}{st:LI}{x y:Int×Int}:jnB n cs e G st x y=true↔∃ i,i<n.n.length/\∃ s∈st,x∈zC0 n (zAy n (cs++[((i:Int),s)]) e) G/\y∈zC0 n (zAy n (cs++[((i:Int),s)]) e) G:=by
 simp only[jnB,bb,bX,zD2,zWp,cG,bF,b4];constructor
 ·rintro⟨_,⟨i,h1,s,h2,rfl⟩,h3⟩;exact⟨i,h1,s,h2,h3⟩
 ·rintro⟨i,h1,s,h2,h3⟩;exact⟨_,⟨i,h1,s,h2,rfl⟩,h3⟩
theorem zXg{n:Nw}{cs:LP}{e:Nat}{st:LI}{i:Nat}{s:Int}(hi:i<n.n.length)(hs:s∈st):((apL n cs e st).filter fun x=>has (zC0 n (zAy n (cs++[((i:Int),s)]) e) (zAA n (zAy n cs e))) x).length<=1 :=
 zXL ((zJc _ _ (bf _)).imp fun{x y} h hxy=>by
  have:jnB n cs e (zAA n (zAy n cs e)) st x y=true:=zPl.2 ⟨i,hi,s,hs,hxy⟩;rw[this] at h;cases h)
theorem zYn{n:Nw}{cs:LP}{e:Nat}{st:LI}(ho:CrW n cs)(yN:cs.length<=16)(yT:∀ s∈st,0<=s/\s<n.s.length)(yE:zR5 n cs e st n.n.length=true):(apL n cs e st).length<=(fwL n cs e st n.n.length).length:=by
 have hN:=ho.nw;refine zV6 _ _ (fun g c=>g∈zC0 n (zAy n (cs++[c]) e) (zAA n (zAy n cs e))) (fun g hg=>?_) ((zJc _ _ (bf _)).imp fun{x y} h c hc hxy=>?_)
 ·have hg:=(zFp _ _ _ (bf _)).subset hg;simp only[zR5,bi,bF,bW,bG] at yE;obtain⟨h,x,hh,hx,rfl,hb⟩:=zD3 hg;have hf:=zBK hN x hx;have hff:=zJ7 hN x hx;obtain⟨i,hi⟩:∃ i:Nat,(zAg n).getD x 0=i:=⟨((zAg n).getD x 0).toNat,by omega⟩;have hiN:i<n.n.length:=by omega
  rw[hi,bR] at hff;have hib:fwB n i=true:=decide_eq_true hff;have gV:(fwR n cs e st i).1=true:=by
   rcases yE i hiN with h|h
   ·rw[hib] at h;cases h
   ·exact h
  obtain⟨h1,h2⟩:=zWz gV;obtain⟨c,hc,qd⟩:=h2 ((h:Int),(x:Int)) (bO.2 ⟨hg,by simp only[bR,hi];simp⟩);refine⟨c,zTo.2 ⟨i,hiN,hib,hc⟩,?_⟩;obtain⟨s,hs,rfl⟩:=b4.1 (h1 c hc);exact zD2.1 qd
 ·simp only[zR5,bi,bF,bW,bG] at yE;obtain⟨i,hi,hb,hc⟩:=zTo.1 hc;have vC:(fwR n cs e st i).1=true:=by
   rcases yE i hi with h|h
   ·rw[hb] at h;cases h
   ·exact h
  obtain⟨s,hs0,rfl⟩:=b4.1 ((zWz vC).1 c hc);obtain⟨l,a1,a2,_⟩:=zEW hN hi;rw[a1] at hxy;have:jnB n cs e (zAA n (zAy n cs e)) st x y=true:=zPl.2 ⟨l,a2,s,hs0,hxy⟩;rw[this] at h;cases h
theorem zVF{n:Nw}{cs:LP}{e:Nat}{st:LI}:(apL n cs e st).length=0↔(zAA n (zAy n cs e)).length=0:=by
 rw[iG,iG];constructor
 ·intro h;refine fe.2 fun z hz=>?_;rcases zLT (J:=jnB n cs e (zAA n (zAy n cs e)) st) _ _ (bf _) z hz with g|⟨y,g,_⟩
  ·have:z∈apL n cs e st:=g;rw[h] at this;simp at this
  ·have:y∈apL n cs e st:=g;rw[h] at this;simp at this
 ·intro h;unfold apL;rw[h];rfl
theorem zUP{n:Nw}{cs:LP}{e:Nat}{st:LI}{z:Int×Int}(hz:z∈zAA n (zAy n cs e))(hn:z∉apL n cs e st):∃ i,i<n.n.length/\∃ s∈st,z∈zC0 n (zAy n (cs++[((i:Int),s)]) e) (zAA n (zAy n cs e))/\0<((apL n cs e st).filter fun x=>has (zC0 n (zAy n (cs++[((i:Int),s)]) e) (zAA n (zAy n cs e))) x).length:=by
 rcases zLT (J:=jnB n cs e (zAA n (zAy n cs e)) st) _ _ (bf _) z hz with g|⟨y,g1,g2⟩
 ·exact absurd g hn
 ·have key:∀ i s,y∈zC0 n (zAy n (cs++[((i:Int),s)]) e) (zAA n (zAy n cs e))->0<((apL n cs e st).filter fun x=>has (zC0 n (zAy n (cs++[((i:Int),s)]) e) (zAA n (zAy n cs e))) x).length:=fun i s h=>fH (bO.2 ⟨g1,zD2.2 h⟩);rcases g2 with g2|g2
  ·obtain⟨i,h1,s,h2,h3,h4⟩:=zPl.1 g2;exact⟨i,h1,s,h2,h4,key i s h3⟩
  ·obtain⟨i,h1,s,h2,h3,h4⟩:=zPl.1 g2;exact⟨i,h1,s,h2,h3,key i s h4⟩
theorem zHQ{n:Nw}{cs:LP}{c:Nat}(ho:CrW n cs)(hc:c<8)(h1:∀ d∈cs,CrW n [d]):∀ e h,h<n.h.toNat->0<=(zAy n cs e).getD (h*8+c) 0->∃ d∈cs,zFl n d e h c
 |0,h,hh,hv=>by
  rcases((zE4 ho).ge hh hc).1 hv with g|⟨i,g1,g2,g3,g4⟩
  ·omega
  ·obtain⟨d,d1,d2⟩:=bX.1 g3;refine⟨d,d1,?_⟩;unfold zFl;exact((zE4 (h1 d d1)).ge hh hc).2 (.inr ⟨i,g1,g2,bX.2 ⟨d,bk.2 rfl,d2⟩,by omega⟩)
 |e + 1,h,hh,hv=>by
  rcases(zDA ho.nw (zBe e) hh hc).1 hv with g|⟨o,g1,g2⟩
  ·obtain⟨d,d1,d2⟩:=zHQ ho hc h1 e h hh g;exact⟨d,d1,(zDA ho.nw (zBe e) hh hc).2 (.inl d2)⟩
  ·obtain⟨d,d1,d2⟩:=zHQ ho hc h1 e o (zHX g1) g2;exact⟨d,d1,(zDA ho.nw (zBe e) hh hc).2 (.inr ⟨o,g1,d2⟩)⟩
theorem zOd{n:Nw}{d:Int×Int}{c:Nat}(ho:CrW n [d])(hc:c<8){e h:Nat}(hh:h<n.h.toNat)(hr:zFl n d e h c):(zAg n).getD d.1.toNat 0=c:=by
 refine b5 fun hI=>zIT (a:=[d]) ho.nw hc (fun a ha=>?_) e h hh hr;rw[(zE4 ho).ge ha hc];rintro(h1|⟨y,h1,h2,h3,h4⟩)
 ·omega
 ·obtain⟨c,g1,g2⟩:=bX.1 h3;rw[bk.1 g1] at g2;simp only[hrB,bb,decide_eq_true_eq] at g2;refine hI ?_;rw[g2.1,bR];exact h2
theorem zTU{n:Nw}{cs:LP}{e:Nat}{st:LI}(ho:CrW n cs)(yN:cs.length<=16)(yT:∀ s∈st,0<=s/\s<n.s.length){h x l:Nat}(hh:h<n.h.toNat)(hx:x<n.n.length)(hb:zLr n (zAy n cs e) h x=true)(hl:(zAN n).getD x 0=l) :
  has (zUl n cs e (zAA n (zAy n cs e)) st) ((h:Int),(x:Int))=true↔∀ s∈st,¬ zFl n ((l:Int),s) e h ((zAg n).getD x 0).toNat:=by
 have hN:=ho.nw;have h8:=hN.nl;have hf:=zBK hN x hx;have hg:=(zKk (w:=zAy n cs e) hh hx).2 hb;obtain⟨l',a1,a2,a3,_⟩:=zEW hN hx;have uu:l'=l:=by omega
 subst uu;unfold chn at a3;have qt:∀ (j s:Int),0<=j/\j<n.n.length->s∈st->CrW n (cs++[(j,s)]):=fun j s hj hs=>zLF ho (by omega) ⟨hj,yT s hs⟩;rw[zD2,zUl,bO,bG,Bool.eq_false_iff,ne_eq,bX];constructor
 ·rintro⟨_,h1⟩ s hs hr;refine h1 ⟨zC0 n (zAy n (cs++[((l':Int),s)]) e) (zAA n (zAy n cs e)),?_,?_⟩
  ·simp only[zWp,cG,bF,b4];exact⟨l',a2,s,hs,rfl⟩
  ·exact(zWO (qt l' s (by omega) hs) hh hx a1 hb).2 hr
 ·intro h1;refine⟨hg,?_⟩;rintro⟨r,wu,uF⟩;simp only[zWp,cG,bF,b4] at wu;obtain⟨j,hj,s,hs,rfl⟩:=wu;rw[zD2] at uF;have hwj:=qt j s ⟨by omega,by omega⟩ hs;have hre:=zSa hwj hh hx uF;have hcj:=zKs hwj uF;simp only[bR] at hcj;have qE:=qt l' s ⟨by omega,by omega⟩ hs;refine h1 s hs (zHO (zEa hwj).2 (zEa qE).2 (by omega) ?_ e h hh hre);simp only[bR];omega
theorem zVZ{n:Nw}{cs:LP}{e:Nat}{st:LI}(ho:CrW n cs)(yN:cs.length<=16)(yT:∀ s∈st,0<=s/\s<n.s.length)(ja:∀ s:Nat,s<n.s.length->(s:Int)∈st):zUl n cs e (zAA n (zAy n cs e)) st=[]:=by
 have hN:=ho.nw;have h8:=hN.nl;refine fe.2 fun g hg=>?_;obtain⟨h,x,hh,hx,rfl,hb⟩:=zD3 (bO.1 hg).1;have hf:=zBK hN x hx;obtain⟨l,a1,a2,a3,_⟩:=zEW hN hx;unfold chn at a3;have hs:=(zTU ho yN yT hh hx hb a1).1 (zD2.2 hg);have ya:=hb;simp only[zLr,bb,decide_eq_true_eq] at ya;have hd1:∀ d∈cs,CrW n [d]:=fun d hd=>⟨hN,by simp,fun c hc=>by rw[bk.1 hc];exact ho.cs d hd⟩;obtain⟨d,d1,d2⟩:=zHQ ho (c:=((zAg n).getD x 0).toNat) (by omega) hd1 e h hh (by omega);have gL:=ho.cs d d1;have hdc:=zOd (hd1 d d1) (by omega) hh d2;have jl:d.2∈st:=by
  have:=ja d.2.toNat (by omega);rwa[d9 gL.2.1] at this
 have qE:CrW n [((l:Int),d.2)]:=⟨hN,by simp,fun c hc=>by rw[bk.1 hc];exact⟨by simp only;omega,gL.2⟩⟩;refine hs d.2 jl (zHO (i:=d.1) (hd1 d d1) qE (by omega) ?_ e h hh d2);simp only[bR];omega
end Go.Eng
namespace Go.Eng
open Go Go.Proofs
abbrev u8(n:Int):PV := .int .u8 n
abbrev u32(n:Int):PV := .int .u32 n
abbrev zB8(l:LI)(a:Nat)(t:Int):PV := .box (.agg [.sl (l.map u8),I a,u32 t])
abbrev zQ4:PV := .addr 50000000 [] 0 0 (some 3)
def zD8(l:LI)(a:Nat):Prop:=a<=l.length/\l.length<9223372036854775808
def zGD(l:LI)(a:Nat):Nat:=if a=l.length then 0 else a
def zAX(l:LI)(a:Nat)(t:Int):Int:=if a=l.length then IntKind.u32.wrap (t+1) else t
def zAL(l:LI)(a:Nat):Nat:=if 0<l.length then zGD l a+1 else zGD l a
theorem zCF{l:LI}{a:Nat}(h:zD8 l a):zD8 l (zAL l a):=by
 obtain⟨h1,h2⟩:=h;refine⟨?_,h2⟩;unfold zAL zGD
 repeat' split
 all_goals omega
def zQ5(n:Int):Int:=IntKind.u32.wrap ↑(BitVec.ofInt IntKind.u32.bits (IntKind.u32.wrap ↑(BitVec.ofInt IntKind.u32.bits n ^^^ BitVec.ofInt IntKind.u32.bits (n.fdiv (2 ^ min (Int.toNat 7) IntKind.u32.bits))).toNat) &&& BitVec.ofInt IntKind.u32.bits 65535).toNat
theorem zQd(n:Int):0<=zQ5 n/\zQ5 n<=65535:=by
 unfold zQ5;generalize BitVec.ofInt IntKind.u32.bits (IntKind.u32.wrap ↑(BitVec.ofInt IntKind.u32.bits n ^^^ BitVec.ofInt IntKind.u32.bits (n.fdiv (2 ^ min (Int.toNat 7) IntKind.u32.bits))).toNat)=x;have h:(x &&& BitVec.ofInt IntKind.u32.bits 65535).toNat<=65535:=by
  rw[BitVec.toNat_and];exact bB Nat.and_le_right (by decide)
 generalize (x &&& BitVec.ofInt IntKind.u32.bits 65535).toNat=m at h;have:IntKind.u32.wrap (m:Int)=m:=by
  simp only[IntKind.wrap];simp[IntKind.signed,IntKind.bits];omega
 rw[this];omega
def zH4(l:LI)(a:Nat)(t:Int):Int:=zQ5 (if 0<l.length then IntKind.u32.wrap (IntKind.u32.wrap (30011*zAX l a t)+IntKind.u32.wrap (263*IntKind.u32.wrap (l.getD (zGD l a) 0))) else IntKind.u32.wrap (30011*zAX l a t))
theorem zUY(l:LI)(a:Nat)(t:Int):0<=zH4 l a t/\zH4 l a t<=65535:=zQd _
def zAw(l:LI)(a:Nat)(t:Int)(n:Int):Int:=(zH4 l a t).tmod (max 1 (n+1))
theorem zCJ(l:LI)(a:Nat)(t:Int)(n:Int):0<=zAw l a t n/\zAw l a t n<=max 0 n:=by
 have h1:=zUY l a t;have h2:0<max 1 (n+1):=by omega
 have h3:=Int.tmod_nonneg (max 1 (n+1)) h1.1;have h4:=Int.tmod_lt_of_pos (zH4 l a t) h2;unfold zAw;omega
section
variable [Yo]
theorem f49(l:LI):FG 49 [.sl (l.map u8)] (zB8 l 0 0):=by
 refine zAd Tryz.f49 ?_;refine zAj 1<|zAj 4<|zAn E_0
theorem f175(l:LI)(a:Nat)(t:Int)(h:zD8 l a):zBD Tryz.prog zCx 175 [zQ4] [zB8 l a t] (I (zH4 l a t)) [zB8 l (zAL l a) (zAX l a t)]:=by
 refine zAd Tryz.f175 ?_;have h1:=h.1;have h2:=h.2;have hb:∀ n,-9223372036854775808<=zQ5 n/\zQ5 n<9223372036854775808:=fun n=>by have:=zQd n;omega
 refine zAj 1<|zAc<|zAl 8<|S_a [(0,.n l.length)] (ap (lnS u8 l) an)<|S_g 1<|zCN ((a:Int)=(l.length:Int)) (fun k0=>(zAb<|zAm 6<|zAm 1<|S_g 6<|zAl 3<|zAm 1<|zAm 1<|S_g 1<|zAc<|zAl 4<|S_a [(0,.n l.length)] (ap (lnS u8 l) an)<|S_g 1<|zCN ((l.length:Int)>0) (fun k1=>(zAl 9<|S_a [(2,.v (int IntKind.u8 (l.getD 0 0)))] (ap (zBN (0) (by omega):(map u8 l)[0]? = some (int IntKind.u8 (l.getD 0 0))) an)<|zAm 1<|zAm 1<|zAm 1<|zAm 1<|S_g 1<|zAb<|S_g 8<|zAl 2<|zAm 1<|zAm 1<|zAm 1<|S_a [(0,.v (I (IntKind.u32.wrap (↑(BitVec.ofInt IntKind.u32.bits (IntKind.u32.wrap (↑(BitVec.ofInt IntKind.u32.bits (IntKind.u32.wrap (IntKind.u32.wrap (30011*IntKind.u32.wrap (t+1))+IntKind.u32.wrap (263*IntKind.u32.wrap (l.getD 0 0)))) ^^^ BitVec.ofInt IntKind.u32.bits ((IntKind.u32.wrap (IntKind.u32.wrap (30011*IntKind.u32.wrap (t+1))+IntKind.u32.wrap (263*IntKind.u32.wrap (l.getD 0 0)))).fdiv (2 ^ min (Int.toNat 7) IntKind.u32.bits))).toNat:Int)) &&& BitVec.ofInt IntKind.u32.bits 65535).toNat:Int))))] (ap ((zBW rfl ?_):I (IntKind.i64.wrap (IntKind.u32.wrap (↑(BitVec.ofInt IntKind.u32.bits (IntKind.u32.wrap (↑(BitVec.ofInt IntKind.u32.bits (IntKind.u32.wrap (IntKind.u32.wrap (30011*IntKind.u32.wrap (t+1))+IntKind.u32.wrap (263*IntKind.u32.wrap (l.getD 0 0)))) ^^^ BitVec.ofInt IntKind.u32.bits ((IntKind.u32.wrap (IntKind.u32.wrap (30011*IntKind.u32.wrap (t+1))+IntKind.u32.wrap (263*IntKind.u32.wrap (l.getD 0 0)))).fdiv (2 ^ min (Int.toNat 7) IntKind.u32.bits))).toNat:Int)) &&& BitVec.ofInt IntKind.u32.bits 65535).toNat:Int)))=I (IntKind.u32.wrap (↑(BitVec.ofInt IntKind.u32.bits (IntKind.u32.wrap (↑(BitVec.ofInt IntKind.u32.bits (IntKind.u32.wrap (IntKind.u32.wrap (30011*IntKind.u32.wrap (t+1))+IntKind.u32.wrap (263*IntKind.u32.wrap (l.getD 0 0)))) ^^^ BitVec.ofInt IntKind.u32.bits ((IntKind.u32.wrap (IntKind.u32.wrap (30011*IntKind.u32.wrap (t+1))+IntKind.u32.wrap (263*IntKind.u32.wrap (l.getD 0 0)))).fdiv (2 ^ min (Int.toNat 7) IntKind.u32.bits))).toNat:Int)) &&& BitVec.ofInt IntKind.u32.bits 65535).toNat:Int))) an)<|S_g 1<|zAn<|E_a [] an (I (IntKind.u32.wrap (↑(BitVec.ofInt IntKind.u32.bits (IntKind.u32.wrap (↑(BitVec.ofInt IntKind.u32.bits (IntKind.u32.wrap (IntKind.u32.wrap (30011*IntKind.u32.wrap (t+1))+IntKind.u32.wrap (263*IntKind.u32.wrap (l.getD 0 0)))) ^^^ BitVec.ofInt IntKind.u32.bits ((IntKind.u32.wrap (IntKind.u32.wrap (30011*IntKind.u32.wrap (t+1))+IntKind.u32.wrap (263*IntKind.u32.wrap (l.getD 0 0)))).fdiv (2 ^ min (Int.toNat 7) IntKind.u32.bits))).toNat:Int)) &&& BitVec.ofInt IntKind.u32.bits 65535).toNat:Int))) ([(agg [sl (map u8 l),I (IntKind.i64.wrap (0+1)),int IntKind.u32 (IntKind.u32.wrap (t+1))]).box]) ?_ ?_)) (fun k1=>(zAh<|zAl 2<|zAm 1<|zAm 1<|zAm 1<|S_a [(0,.v (I (IntKind.u32.wrap (↑(BitVec.ofInt IntKind.u32.bits (IntKind.u32.wrap (↑(BitVec.ofInt IntKind.u32.bits (IntKind.u32.wrap (30011*IntKind.u32.wrap (t+1))) ^^^ BitVec.ofInt IntKind.u32.bits ((IntKind.u32.wrap (30011*IntKind.u32.wrap (t+1))).fdiv (2 ^ min (Int.toNat 7) IntKind.u32.bits))).toNat:Int)) &&& BitVec.ofInt IntKind.u32.bits 65535).toNat:Int))))] (ap ((zBW rfl ?_):I (IntKind.i64.wrap (IntKind.u32.wrap (↑(BitVec.ofInt IntKind.u32.bits (IntKind.u32.wrap (↑(BitVec.ofInt IntKind.u32.bits (IntKind.u32.wrap (30011*IntKind.u32.wrap (t+1))) ^^^ BitVec.ofInt IntKind.u32.bits ((IntKind.u32.wrap (30011*IntKind.u32.wrap (t+1))).fdiv (2 ^ min (Int.toNat 7) IntKind.u32.bits))).toNat:Int)) &&& BitVec.ofInt IntKind.u32.bits 65535).toNat:Int)))=I (IntKind.u32.wrap (↑(BitVec.ofInt IntKind.u32.bits (IntKind.u32.wrap (↑(BitVec.ofInt IntKind.u32.bits (IntKind.u32.wrap (30011*IntKind.u32.wrap (t+1))) ^^^ BitVec.ofInt IntKind.u32.bits ((IntKind.u32.wrap (30011*IntKind.u32.wrap (t+1))).fdiv (2 ^ min (Int.toNat 7) IntKind.u32.bits))).toNat:Int)) &&& BitVec.ofInt IntKind.u32.bits 65535).toNat:Int))) an)<|S_g 1<|zAn<|E_a [] an (I (IntKind.u32.wrap (↑(BitVec.ofInt IntKind.u32.bits (IntKind.u32.wrap (↑(BitVec.ofInt IntKind.u32.bits (IntKind.u32.wrap (30011*IntKind.u32.wrap (t+1))) ^^^ BitVec.ofInt IntKind.u32.bits ((IntKind.u32.wrap (30011*IntKind.u32.wrap (t+1))).fdiv (2 ^ min (Int.toNat 7) IntKind.u32.bits))).toNat:Int)) &&& BitVec.ofInt IntKind.u32.bits 65535).toNat:Int))) ([(agg [sl (map u8 l),I 0,int IntKind.u32 (IntKind.u32.wrap (t+1))]).box]) ?_ ?_)))) (fun k0=>(zAh<|zAl 4<|zAm 1<|S_g 1<|zAc<|zAl 4<|S_a [(0,.n l.length)] (ap (lnS u8 l) an)<|S_g 1<|zAM ((l.length:Int)>0) (by omega)<|zAl 9<|S_a [(2,.v (int IntKind.u8 (l.getD a 0)))] (ap (zBN (0) (by omega):(map u8 l)[a]? = some (int IntKind.u8 (l.getD a 0))) an)<|zAm 1<|zAm 1<|zAm 1<|zAm 1<|S_g 1<|zAb<|zAm 4<|S_i a<|S_g 3<|zAl 2<|zAm 1<|zAm 1<|zAm 1<|S_a [(0,.v (I (IntKind.u32.wrap (↑(BitVec.ofInt IntKind.u32.bits (IntKind.u32.wrap (↑(BitVec.ofInt IntKind.u32.bits (IntKind.u32.wrap (IntKind.u32.wrap (30011*t)+IntKind.u32.wrap (263*IntKind.u32.wrap (l.getD a 0)))) ^^^ BitVec.ofInt IntKind.u32.bits ((IntKind.u32.wrap (IntKind.u32.wrap (30011*t)+IntKind.u32.wrap (263*IntKind.u32.wrap (l.getD a 0)))).fdiv (2 ^ min (Int.toNat 7) IntKind.u32.bits))).toNat:Int)) &&& BitVec.ofInt IntKind.u32.bits 65535).toNat:Int))))] (ap ((zBW rfl ?_):I (IntKind.i64.wrap (IntKind.u32.wrap (↑(BitVec.ofInt IntKind.u32.bits (IntKind.u32.wrap (↑(BitVec.ofInt IntKind.u32.bits (IntKind.u32.wrap (IntKind.u32.wrap (30011*t)+IntKind.u32.wrap (263*IntKind.u32.wrap (l.getD a 0)))) ^^^ BitVec.ofInt IntKind.u32.bits ((IntKind.u32.wrap (IntKind.u32.wrap (30011*t)+IntKind.u32.wrap (263*IntKind.u32.wrap (l.getD a 0)))).fdiv (2 ^ min (Int.toNat 7) IntKind.u32.bits))).toNat:Int)) &&& BitVec.ofInt IntKind.u32.bits 65535).toNat:Int)))=I (IntKind.u32.wrap (↑(BitVec.ofInt IntKind.u32.bits (IntKind.u32.wrap (↑(BitVec.ofInt IntKind.u32.bits (IntKind.u32.wrap (IntKind.u32.wrap (30011*t)+IntKind.u32.wrap (263*IntKind.u32.wrap (l.getD a 0)))) ^^^ BitVec.ofInt IntKind.u32.bits ((IntKind.u32.wrap (IntKind.u32.wrap (30011*t)+IntKind.u32.wrap (263*IntKind.u32.wrap (l.getD a 0)))).fdiv (2 ^ min (Int.toNat 7) IntKind.u32.bits))).toNat:Int)) &&& BitVec.ofInt IntKind.u32.bits 65535).toNat:Int))) an)<|S_g 1<|zAn<|E_a [] an (I (IntKind.u32.wrap (↑(BitVec.ofInt IntKind.u32.bits (IntKind.u32.wrap (↑(BitVec.ofInt IntKind.u32.bits (IntKind.u32.wrap (IntKind.u32.wrap (30011*t)+IntKind.u32.wrap (263*IntKind.u32.wrap (l.getD a 0)))) ^^^ BitVec.ofInt IntKind.u32.bits ((IntKind.u32.wrap (IntKind.u32.wrap (30011*t)+IntKind.u32.wrap (263*IntKind.u32.wrap (l.getD a 0)))).fdiv (2 ^ min (Int.toNat 7) IntKind.u32.bits))).toNat:Int)) &&& BitVec.ofInt IntKind.u32.bits 65535).toNat:Int))) ([(agg [sl (map u8 l),I (↑(a+1):Int),int IntKind.u32 t]).box]) ?_ ?_))
 ·exact hb _
 ·have e1:a=l.length:=by omega
  have e2:0<l.length:=by omega
  simp only[zH4,zGD,zAX,e1,e2,if_true];rfl
 ·have e1:a=l.length:=by omega
  have e2:0<l.length:=by omega
  simp only[zAL,zGD,zAX,e1,e2,if_true];rfl
 ·exact hb _
 ·have e1:a=l.length:=by omega
  have e2:¬ 0<l.length:=by omega
  simp only[zH4,zGD,zAX,e1,e2,if_true,if_false];rfl
 ·have e1:a=l.length:=by omega
  have e2:¬ 0<l.length:=by omega
  simp only[zAL,zGD,zAX,e1,e2,if_true,if_false];rfl
 ·exact hb _
 ·have e1:¬ a=l.length:=by omega
  have e2:0<l.length:=by omega
  simp only[zH4,zGD,zAX,e1,e2,if_true,if_false];rfl
 ·have e1:¬ a=l.length:=by omega
  have e2:0<l.length:=by omega
  simp only[zAL,zGD,zAX,e1,e2,if_true,if_false]
theorem f129(l:LI)(a:Nat)(t:Int)(n:Int)(h:zD8 l a)(hn : -9000000000000000000<=n/\n<=9000000000000000000):zBD Tryz.prog zCx 129 [zQ4,I n] [zB8 l a t] (I (zAw l a t n)) [zB8 l (zAL l a) (zAX l a t)]:=by
 refine zAd Tryz.f129 ?_;have e:(if n+1>1 then n+1 else 1)=max 1 (n+1):=by split<;>omega
 refine zAj 1<|zAl 1<|S_a [(4,.ret (I (zH4 l a t)) ([zB8 l (zAL l a) (zAX l a t)]))] (ap (f175 l a t (by omega)) an)<|zAm 1<|S_a [(1,.v (I (n+1)))] (ap ((zBW rfl (by omega)):I (IntKind.i64.wrap (n+1))=I (n+1)) an)<|zAm 1<|S_a [(0,.v (I ((zH4 l a t).tmod (if n+1>1 then n+1 else 1))))] (ap (zYY (by omega) rfl:zG5 Tryz.prog BinOp.rem 3 (I (zH4 l a t)) (I (if n+1>1 then n+1 else 1))=some (I ((zH4 l a t).tmod (if n+1>1 then n+1 else 1)))) an)<|S_g 1<|zAn<|E_a [] an (I ((zH4 l a t).tmod (if n+1>1 then n+1 else 1))) ([(agg [sl (map u8 l),I (↑(zAL l a):Int),int IntKind.u32 (zAX l a t)]).box]) ?_ rfl
 rw[e];rfl
theorem f127(l:LI)(a:Nat)(t:Int)(lo hi:Int)(h:zD8 l a)(hl:0<=lo/\lo<=1000000)(hn:0<=hi/\hi<=1000000):zBD Tryz.prog zCx 127 [zQ4,I lo,I hi] [zB8 l a t] (I (lo+zAw l a t (hi-lo))) [zB8 l (zAL l a) (zAX l a t)]:=by
 refine zAd Tryz.f127 ?_;have:=zCJ l a t (hi-lo);refine zAj 1<|zAl 4<|S_a [(1,.v (I (hi-lo)))] (ap ((zBW rfl (by omega)):I (IntKind.i64.wrap (hi-lo))=I (hi-lo)) an)<|S_a [(6,.ret (I (zAw l a t (hi-lo))) ([zB8 l (zAL l a) (zAX l a t)]))] (ap (f129 l a t (hi-lo) (by omega) (by omega)) an)<|S_a [(1,.v (I (lo+zAw l a t (hi-lo))))] (ap ((zBW rfl (by omega)):I (IntKind.i64.wrap (lo+zAw l a t (hi-lo)))=I (lo+zAw l a t (hi-lo))) an)<|S_g 1<|zAn E_0
theorem f128(l:LI)(a:Nat)(t:Int)(n:Int)(h:zD8 l a)(hn:0<=n/\n<=1000000):zBD Tryz.prog zCx 128 [zQ4,I n] [zB8 l a t] (.bool (decide (zAw l a t (n-1)=0))) [zB8 l (zAL l a) (zAX l a t)]:=by
 refine zAd Tryz.f128 ?_;refine zAj 1<|zAl 2<|S_a [(1,.v (I (n-1)))] (ap ((zBW rfl (by omega)):I (IntKind.i64.wrap (n-1))=I (n-1)) an)<|S_a [(6,.ret (I (zAw l a t (n-1))) ([zB8 l (zAL l a) (zAX l a t)]))] (ap (f129 l a t (n-1) (by omega) (by omega)) an)<|S_g 2<|zAn E_0
end
end Go.Eng
namespace Go.Eng
open Go Go.Proofs
structure LkOk (q:LP) (h:Int):Prop where
 rng:∀ x∈q,1<=x.1/\x.1<h/\0<=x.2/\x.2<x.1
 nd:(q.map pr2).Nodup
 len:(q.length:Int)<h
theorem zWc{x:Int×Int}(h:x.2<x.1):pr2 x=(x.2,x.1):=by
 simp only[pr2];rw[if_pos h,if_neg (by omega)]
theorem LkOk.snoc{q:LP}{h s:Int}(hq:LkOk q h)(hh:1<=h)(hs:0<=s/\s<h):LkOk (q++[(h,s)]) (h+1):=by
 refine⟨fun x hx=>?_,?_,by have:=hq.len;simp;omega⟩
 ·rcases bj.1 hx with hx|hx
  ·have:=hq.rng x hx;omega
  ·rw[bk] at hx;subst hx;simp only;omega
 ·rw[cT,bK];refine⟨hq.nd,by simp,fun a ha b hb=>?_⟩;obtain⟨x,hx,rfl⟩:=b4.1 ha;simp only[bL,dZ,bk] at hb;subst hb;have:=hq.rng x hx;rw[zWc (by omega),zWc (x:=(h,s)) (by simp only;omega)];intro e;have:=congrArg Prod.snd e;simp only at this;omega
theorem LkOk.skip{q:LP}{h:Int}(hq:LkOk q h):LkOk q (h+1):=⟨fun x hx=>by have:=hq.rng x hx;omega,hq.nd,by have:=hq.len;omega⟩
structure LkEnd (q:LP) (H:Int):Prop where
 rng:∀ x∈q,(0<=x.1/\x.1<H)/\(0<=x.2/\x.2<H)/\x.1≠x.2
 nd:(q.map pr2).Nodup
 len:(q.length:Int)<=H
theorem LkOk.fin{q:LP}{H:Int}(hq:LkOk q H):LkEnd q H:=⟨fun x hx=>by have:=hq.rng x hx;omega,hq.nd,by have:=hq.len;omega⟩
theorem LkOk.far{n:Nw}(hq:LkOk n.l n.h)(hh:1<n.h)(hn:zDu n 0 (n.h-1)=false):LkEnd (n.l++[(0,n.h-1)]) n.h:=by
 refine⟨fun x hx=>?_,?_,by have:=hq.len;simp;omega⟩
 ·rcases bj.1 hx with hx|hx
  ·have:=hq.rng x hx;omega
  ·rw[bk] at hx;subst hx;simp only;omega
 ·rw[cT,bK];refine⟨hq.nd,by simp,fun a ha b hb=>?_⟩;simp only[bL,dZ,bk] at hb;subst hb;intro e;subst e;simp only[zDu,decide_eq_false_iff_not] at hn;exact hn ha
structure NtOk (F:LI) (N:List (Int×Bool)) (i:Nat):Prop where
 len:N.length=i
 fl:F.length<=i
 fr:∀ f∈F,0<=f/\f<i
 fnd:F.Nodup
 na:∀ j,j<i->-1<=(N.getD j d0).1/\(N.getD j d0).1<j
 nd:∀ j k,k<j->j<i->(N.getD j d0).1≠-1->(N.getD k d0).1≠(N.getD j d0).1
 un:∀ f∈F,∀ j,j<i->(N.getD j d0).1≠f
theorem zSC{N:List (Int×Bool)}{x:Int×Bool}{i j:Nat}(hl:N.length=i)(hj:j<i+1):(N++[x]).getD j d0=if j=i then x else N.getD j d0:=by
 split
 ·rename_i h;subst h;subst hl;simp[bU]
 ·rw[bU,cx (by omega),<- bU]
theorem NtOk.step{F G:LI}{N:List (Int×Bool)}{i:Nat}{y:Int}{b:Bool}(h:NtOk F N i)(hG:∀ f∈G,f∈F)(hGn:G.Nodup)(hGl:G.length<=i)(hy:y = -1\/y∈F/\y∉G):NtOk (G++[(i:Int)]) (N++[(y,b)]) (i+1):=by
 have hyr : -1<=y/\y<i:=by
  rcases hy with rfl|⟨h1,_⟩
  ·omega
  ·have:=h.fr y h1;omega
 have hg:=fun j (hj:j<i+1)=>zSC (x:=(y,b)) h.len hj;refine⟨by simp[h.len],by simp;omega,fun f hf=>?_,?_,fun j hj=>?_,fun j k hkj hj hI=>?_,fun f hf j hj=>?_⟩
 ·rcases bj.1 hf with hf|hf
  ·have:=h.fr f (hG f hf);omega
  ·rw[bk] at hf;omega
 ·rw[bK];refine⟨hGn,by simp,fun a ha c hc=>?_⟩;rw[bk] at hc;subst hc;have:=h.fr a (hG a ha);omega
 ·rw[hg j hj];split
  ·simp only;omega
  ·exact h.na j (by omega)
 ·rw[hg j hj] at hI ⊢;rw[hg k (by omega),if_neg (by omega)];split
  ·rename_i e;rw[if_pos e] at hI;simp only at hI ⊢;rcases hy with e2|⟨h1,_⟩
   ·exact absurd e2 hI
   ·exact h.un y h1 k (by omega)
  ·rename_i e;rw[if_neg e] at hI;exact h.nd j k hkj (by omega) hI
 ·rw[hg j hj];split
  ·simp only;rcases bj.1 hf with hf|hf
   ·rcases hy with e2|⟨_,h2⟩
    ·have:=h.fr f (hG f hf);omega
    ·exact fun e=>h2 (e▸hf)
   ·rw[bk] at hf;omega
  ·rcases bj.1 hf with hf|hf
   ·exact h.un f (hG f hf) j (by omega)
   ·rw[bk] at hf;have:=h.na j (by omega);omega
theorem NtOk.one{F:LI}{N:List (Int×Bool)}{i:Nat}{b:Bool}(h:NtOk F N i):NtOk (F++[(i:Int)]) (N++[(-1,b)]) (i+1):=h.step (fun _ h=>h) h.fnd h.fl (.inl rfl)
theorem NtOk.more{F:LI}{N:List (Int×Bool)}{i k:Nat}{b:Bool}(h:NtOk F N i)(hk:k<F.length):NtOk (F.eraseIdx k++[(i:Int)]) (N++[(F.getD k 0,b)]) (i+1):=by
 refine h.step (fun f hf=>List.mem_of_mem_eraseIdx hf) (h.fnd.eraseIdx k) (bB (List.length_eraseIdx_le _ _) h.fl) (.inr ⟨?_,?_⟩)
 ·rw[zAu hk];exact cM hk
 ·rw[zAu hk];intro hm;have hn:(F.take k++F[k]::F.drop (k+1)).Nodup:=by rw[<- b6 hk,cw];exact h.fnd
  rw[bK] at hn;rw[List.eraseIdx_eq_take_drop_succ] at hm;rcases bj.1 hm with hm|hm
  ·exact hn.2.2 _ hm _ cf rfl
  ·exact(cB.1 hn.2.1).1 hm
structure RwOk (r:LI) (h:Nat):Prop where
 rng:∀ x∈r,0<=x/\x<h
 inc:zT2 r=true
 len:r.length<=h
theorem zST{p:LI}{c:Int}(h:zT2 p=true)(hc:∀ y∈p,y<c):zT2 (p++[c])=true:=by
 simp only[zT2,bi,bF,decide_eq_true_eq,bu,bT] at h ⊢;intro j hj;rw[bU,bU,cx (by omega)];by_cases e:j+1<p.length
 ·rw[cx e,<- bU,<- bU];exact h j (by omega)
 ·rw[de (by omega),show j+1-p.length=0 by omega];have y9:j<p.length:=by omega
  rw[bl y9];exact hc _ (cM y9)
theorem RwOk.snoc{r:LI}{h:Nat}(hr:RwOk r h):RwOk (r++[(h:Int)]) (h+1):=by
 refine⟨fun x hx=>?_,zST hr.inc fun y hy=>(hr.rng y hy).2,by have:=hr.len;simp;omega⟩;rcases bj.1 hx with hx|hx
 ·have:=hr.rng x hx;omega
 ·rw[bk] at hx;omega
theorem RwOk.skip{r:LI}{h:Nat}(hr:RwOk r h):RwOk r (h+1):=⟨fun x hx=>by have:=hr.rng x hx;omega,hr.inc,by have:=hr.len;omega⟩
theorem zXR{H:Int}{q:LP}{F:LI}{N:List (Int×Bool)}{S:List LI}{m:Nat}(hH:1<=H/\H<=10)(hq:LkEnd q H)(hN:NtOk F N m)(hm:1<=m/\m<=8)(hS:∀ r∈S,RwOk r H.toNat)(wh:1<=S.length/\S.length<=6):zG4 ⟨H,q,N,S⟩=0:=by
 have hml:=hN.len;have e:zG4 ⟨H,q,N,S⟩=zQk ⟨H,q,N,S⟩:=by
  refine zXZ ?_ ?_ ?_ ?_
  ·simp only[inB,bE,bb,decide_eq_true_eq];omega
  ·have:=hq.len;simp only;omega
  ·simp only[inB,bE,bb,decide_eq_true_eq];omega
  ·simp only[inB,bE,bb,decide_eq_true_eq];omega
 rw[e];refine zYR ?_ ?_ ?_ ?_
 ·have h1:(q.all fun x=>zKD H x)=true:=bi.2 fun x hx=>by
   have:=hq.rng x hx;simp only[zKD,inB,bb,decide_eq_true_eq];omega
  have h2:(q.all fun x=>zKN x)=true:=bi.2 fun x hx=>by
   have:=hq.rng x hx;simp only[zKN,decide_eq_true_eq];exact this.2.2
  have h3:=hq.nd;simp only[zCQ,h1,h2,h3,if_true]
 ·refine zYO (n:=⟨H,q,N,S⟩) (zZU (n:=⟨H,q,N,S⟩) fun i hi=>?_) fun i hi k hk=>?_
  ·have:=hN.na i (by simp only at hi;omega);simp only[inB,bb,decide_eq_true_eq];omega
  ·rintro⟨h1,h2⟩;exact hN.nd i k hk (by simp only at hi;omega) (by simp only at h1;omega) h2.symm
 ·exact bi.2 fun r hr=>bi.2 fun x hx=>by
   have:=(hS r hr).rng x hx;simp only[inB,bb,decide_eq_true_eq];omega
 ·exact bi.2 fun r hr=>by rw[zK4];exact(hS r hr).inc
end Go.Eng
set_option maxRecDepth 10000
set_option maxHeartbeats 4000000
namespace Go.Eng
open Go Go.Proofs
section
variable [Yo]
theorem f157(x:Int×Int)(a b:Int):FG 157 [prV x,.ref (I a),.ref (I b)] (.bool (zPM a b x)):=by
 refine zAd Tryz.f157 ?_;refine zAj 2<|zAl 4<|S_a [(0,.v (bool (decide (x.fst=a)&&decide (x.snd=b))))] (ap (zT5:zG5 Tryz.prog BinOp.eql 87 (prV x) (agg [I a,I b])=some (bool (decide (x.fst=a)&&decide (x.snd=b)))) an)<|zAm 1<|zGK 10 (decide (x.fst=a)&&decide (x.snd=b)) (fun k0=>(S_g 7<|zAn<|E_a [] an (bool true) [] ?_ rfl)) (fun k0=>(zAm 4<|S_a [(0,.v (bool (decide (x.fst=b)&&decide (x.snd=a))))] (ap (zT5:zG5 Tryz.prog BinOp.eql 87 (prV x) (agg [I b,I a])=some (bool (decide (x.fst=b)&&decide (x.snd=a)))) an)<|S_g 2<|zAn<|E_a [] an (bool (decide (x.fst=b)&&decide (x.snd=a))) [] ?_ rfl))
 ·have e:zPM a b x=true:=by
   simp only[bb,decide_eq_true_eq] at k0;simp only[zPM,decide_eq_true_eq];exact .inl k0
  rw[e]
 ·congr 1;rw[co];have:¬ (x.1=a/\x.2=b):=fun h=>by simp[h.1,h.2] at k0
  simp only[bb,decide_eq_true_eq,zPM];exact⟨.inr,fun h=>h.elim (fun h=>absurd h this) id⟩
theorem f202_5(a b:Int)(l:LP)(hl:l.length<4294967296):FG 202 [.sl (l.map prV),.func 157 [] [.ref (I a),.ref (I b)]] (I (zDZ (fun x=>zPM a b x) l)):=by
 refine zAd Tryz.f202 ?_;refine zAj 1<|zAc<|zAl 1<|S_a [(0,.n l.length)] (ap (lnS prV l) an)<|S_g 1<|zAf 0 ?_
 refine zAr (fun i=>i<=l.length/\∀ j,j<i->(fun x=>zPM a b x) (l.getD j d0)=false) (fun i=>[(8,I (i:Nat))]) (fun i=>l.length-i) (0:Nat) (by simp) fun i ⟨hi,ha⟩=>?_;refine zAj 1<|zAc<|zCN ((i:Int)<(l.length:Int)) (fun k0=>(zAh<|zAc<|zAf 1<|zAj 2<|zAl 3<|S_a [(2,.v (prV (l.getD i d0)))] (ap (zBN d0 (by omega):(map prV l)[i]? = some (prV (l.getD i d0))) an)<|zAm 1<|S_a [(8,.ret (bool (zPM a b (l.getD i d0))) [])] (ap (f157 (l.getD i d0) a b) an)<|zA3<|zEx (zPM a b (l.getD i d0)) (fun k1=>(zAj 2<|zAn<|E_a [] an (I (i:Int)) [] ?_ rfl)) (fun k1=>(zAh<|zAb<|S_i i<|S_g 1 ?_)))) (fun k0=>(zAD 0<|zAj 1<|zAn<|E_a [] an (I (-1)) [] ?_ rfl))
 ·rw[zBG (i:=i) (by omega) (fun j hj=>by rw[<- zAu (d:=d0)];exact ha j hj) (by rw[<- zAu (d:=d0)];first|assumption|exact decide_eq_true ‹_›|(simp only[bG,decide_eq_false_iff_not];assumption))]
 ·refine⟨i+1,⟨by omega,fun j hj=>?_⟩,by omega,by kernel_rfl,by kernel_rfl⟩;rcases bP.1 hj with h|rfl
  ·exact ha j h
  ·first|assumption|exact decide_eq_false ‹_›|(simp only[bE,decide_eq_true_eq];first|assumption|(apply cR;assumption))
 ·rw[zBY fun j hj=>by rw[<- zAu (d:=d0)];exact ha j (by omega)]
theorem f156_5(a b:Int)(l:LP)(hl:l.length<4294967296):FG 156 [.sl (l.map prV),.func 157 [] [.ref (I a),.ref (I b)]] (.bool (l.any (fun x=>zPM a b x))):=by
 refine zAd Tryz.f156 ?_;refine zAj 1<|zAl 2<|S_a [(7,.ret (I (zDZ (fun x=>zPM a b x) l)) [])] (ap (f202_5 a b l (by omega)) an)<|S_g 2<|zAn<|E_a [] an (bool (decide (zDZ (fun x=>zPM a b x) l>=0))) [] ?_ rfl
 rw[zDy]
theorem f77(n:Nw)(a b:Int)(hl:n.l.length<1000000):FG 77 [nwV n,I a,I b] (.bool (zDu n a b)):=by
 rw[<- zXX];refine zAd Tryz.f77 ?_;refine zAj 4<|zAl 3<|S_a [(19,.ret (bool (n.l.any fun x=>zPM a b x)) [])] (ap (f156_5 a b n.l (by omega)) an)<|S_g 1<|zAn E_0
theorem f130_10(p0:Int):zBD Tryz.prog zCx 130 [.bor 50000000 [] 1 0 1,I 0,I 1] [.own 1 [I p0]] (.bor 50000000 [] 1 0 0) [.own 1 [I 0]]:=by
 refine zAd Tryz.f130 ?_;refine zAj 1<|zAj 6<|zAc<|zAj 3<|zAB<|zAh<|zAj 3<|zAl 2<|zAm 1<|zAm 3<|zAm 1<|S_g 1<|zAl 4<|zAm 1<|S_g 1<|zAl 1<|S_g 1<|zAn E_0
theorem f130_20(p0 p1:Int):zBD Tryz.prog zCx 130 [.bor 50000000 [] 1 0 2,I 0,I 1] [.own 1 [I p0,I p1]] (.bor 50000000 [] 1 0 1) [.own 1 [I p1,I 0]]:=by
 refine zAd Tryz.f130 ?_;refine zAj 1<|zAj 6<|zAc<|zAj 3<|zAB<|zAh<|zAj 3<|zAl 2<|zAm 1<|zAm 2<|zAm 1<|zAm 1<|S_g 1<|zAl 4<|zAm 1<|S_g 1<|zAl 1<|S_g 1<|zAn E_0
theorem f130_21(p0 p1:Int):zBD Tryz.prog zCx 130 [.bor 50000000 [] 1 0 2,I 1,I 2] [.own 1 [I p0,I p1]] (.bor 50000000 [] 1 0 1) [.own 1 [I p0,I 0]]:=by
 refine zAd Tryz.f130 ?_;refine zAj 1<|zAj 6<|zAc<|zAj 3<|zAB<|zAh<|zAj 3<|zAl 2<|zAm 1<|zAm 3<|zAm 1<|S_g 1<|zAl 4<|zAm 1<|S_g 1<|zAl 1<|S_g 1<|zAn E_0
theorem f130_30(p0 p1 p2:Int):zBD Tryz.prog zCx 130 [.bor 50000000 [] 1 0 3,I 0,I 1] [.own 1 [I p0,I p1,I p2]] (.bor 50000000 [] 1 0 2) [.own 1 [I p1,I p2,I 0]]:=by
 refine zAd Tryz.f130 ?_;refine zAj 1<|zAj 6<|zAc<|zAj 3<|zAB<|zAh<|zAj 3<|zAl 2<|zAm 1<|zAm 2<|zAm 1<|zAm 1<|S_g 1<|zAl 4<|zAm 1<|S_g 1<|zAl 1<|S_g 1<|zAn E_0
theorem f130_31(p0 p1 p2:Int):zBD Tryz.prog zCx 130 [.bor 50000000 [] 1 0 3,I 1,I 2] [.own 1 [I p0,I p1,I p2]] (.bor 50000000 [] 1 0 2) [.own 1 [I p0,I p2,I 0]]:=by
 refine zAd Tryz.f130 ?_;refine zAj 1<|zAj 6<|zAc<|zAj 3<|zAB<|zAh<|zAj 3<|zAl 2<|zAm 1<|zAm 2<|zAm 1<|zAm 1<|S_g 1<|zAl 4<|zAm 1<|S_g 1<|zAl 1<|S_g 1<|zAn E_0
theorem f130_32(p0 p1 p2:Int):zBD Tryz.prog zCx 130 [.bor 50000000 [] 1 0 3,I 2,I 3] [.own 1 [I p0,I p1,I p2]] (.bor 50000000 [] 1 0 2) [.own 1 [I p0,I p1,I 0]]:=by
 refine zAd Tryz.f130 ?_;refine zAj 1<|zAj 6<|zAc<|zAj 3<|zAB<|zAh<|zAj 3<|zAl 2<|zAm 1<|zAm 3<|zAm 1<|S_g 1<|zAl 4<|zAm 1<|S_g 1<|zAl 1<|S_g 1<|zAn E_0
theorem f130_40(p0 p1 p2 p3:Int):zBD Tryz.prog zCx 130 [.bor 50000000 [] 1 0 4,I 0,I 1] [.own 1 [I p0,I p1,I p2,I p3]] (.bor 50000000 [] 1 0 3) [.own 1 [I p1,I p2,I p3,I 0]]:=by
 refine zAd Tryz.f130 ?_;refine zAj 1<|zAj 6<|zAc<|zAj 3<|zAB<|zAh<|zAj 3<|zAl 2<|zAm 1<|zAm 2<|zAm 1<|zAm 1<|S_g 1<|zAl 4<|zAm 1<|S_g 1<|zAl 1<|S_g 1<|zAn E_0
theorem f130_41(p0 p1 p2 p3:Int):zBD Tryz.prog zCx 130 [.bor 50000000 [] 1 0 4,I 1,I 2] [.own 1 [I p0,I p1,I p2,I p3]] (.bor 50000000 [] 1 0 3) [.own 1 [I p0,I p2,I p3,I 0]]:=by
 refine zAd Tryz.f130 ?_;refine zAj 1<|zAj 6<|zAc<|zAj 3<|zAB<|zAh<|zAj 3<|zAl 2<|zAm 1<|zAm 2<|zAm 1<|zAm 1<|S_g 1<|zAl 4<|zAm 1<|S_g 1<|zAl 1<|S_g 1<|zAn E_0
theorem f130_42(p0 p1 p2 p3:Int):zBD Tryz.prog zCx 130 [.bor 50000000 [] 1 0 4,I 2,I 3] [.own 1 [I p0,I p1,I p2,I p3]] (.bor 50000000 [] 1 0 3) [.own 1 [I p0,I p1,I p3,I 0]]:=by
 refine zAd Tryz.f130 ?_;refine zAj 1<|zAj 6<|zAc<|zAj 3<|zAB<|zAh<|zAj 3<|zAl 2<|zAm 1<|zAm 2<|zAm 1<|zAm 1<|S_g 1<|zAl 4<|zAm 1<|S_g 1<|zAl 1<|S_g 1<|zAn E_0
theorem f130_43(p0 p1 p2 p3:Int):zBD Tryz.prog zCx 130 [.bor 50000000 [] 1 0 4,I 3,I 4] [.own 1 [I p0,I p1,I p2,I p3]] (.bor 50000000 [] 1 0 3) [.own 1 [I p0,I p1,I p2,I 0]]:=by
 refine zAd Tryz.f130 ?_;refine zAj 1<|zAj 6<|zAc<|zAj 3<|zAB<|zAh<|zAj 3<|zAl 2<|zAm 1<|zAm 3<|zAm 1<|S_g 1<|zAl 4<|zAm 1<|S_g 1<|zAl 1<|S_g 1<|zAn E_0
theorem f130_50(p0 p1 p2 p3 p4:Int):zBD Tryz.prog zCx 130 [.bor 50000000 [] 1 0 5,I 0,I 1] [.own 1 [I p0,I p1,I p2,I p3,I p4]] (.bor 50000000 [] 1 0 4) [.own 1 [I p1,I p2,I p3,I p4,I 0]]:=by
 refine zAd Tryz.f130 ?_;refine zAj 1<|zAj 6<|zAc<|zAj 3<|zAB<|zAh<|zAj 3<|zAl 2<|zAm 1<|zAm 2<|zAm 1<|zAm 1<|S_g 1<|zAl 4<|zAm 1<|S_g 1<|zAl 1<|S_g 1<|zAn E_0
theorem f130_51(p0 p1 p2 p3 p4:Int):zBD Tryz.prog zCx 130 [.bor 50000000 [] 1 0 5,I 1,I 2] [.own 1 [I p0,I p1,I p2,I p3,I p4]] (.bor 50000000 [] 1 0 4) [.own 1 [I p0,I p2,I p3,I p4,I 0]]:=by
 refine zAd Tryz.f130 ?_;refine zAj 1<|zAj 6<|zAc<|zAj 3<|zAB<|zAh<|zAj 3<|zAl 2<|zAm 1<|zAm 2<|zAm 1<|zAm 1<|S_g 1<|zAl 4<|zAm 1<|S_g 1<|zAl 1<|S_g 1<|zAn E_0
theorem f130_52(p0 p1 p2 p3 p4:Int):zBD Tryz.prog zCx 130 [.bor 50000000 [] 1 0 5,I 2,I 3] [.own 1 [I p0,I p1,I p2,I p3,I p4]] (.bor 50000000 [] 1 0 4) [.own 1 [I p0,I p1,I p3,I p4,I 0]]:=by
 refine zAd Tryz.f130 ?_;refine zAj 1<|zAj 6<|zAc<|zAj 3<|zAB<|zAh<|zAj 3<|zAl 2<|zAm 1<|zAm 2<|zAm 1<|zAm 1<|S_g 1<|zAl 4<|zAm 1<|S_g 1<|zAl 1<|S_g 1<|zAn E_0
theorem f130_53(p0 p1 p2 p3 p4:Int):zBD Tryz.prog zCx 130 [.bor 50000000 [] 1 0 5,I 3,I 4] [.own 1 [I p0,I p1,I p2,I p3,I p4]] (.bor 50000000 [] 1 0 4) [.own 1 [I p0,I p1,I p2,I p4,I 0]]:=by
 refine zAd Tryz.f130 ?_;refine zAj 1<|zAj 6<|zAc<|zAj 3<|zAB<|zAh<|zAj 3<|zAl 2<|zAm 1<|zAm 2<|zAm 1<|zAm 1<|S_g 1<|zAl 4<|zAm 1<|S_g 1<|zAl 1<|S_g 1<|zAn E_0
theorem f130_54(p0 p1 p2 p3 p4:Int):zBD Tryz.prog zCx 130 [.bor 50000000 [] 1 0 5,I 4,I 5] [.own 1 [I p0,I p1,I p2,I p3,I p4]] (.bor 50000000 [] 1 0 4) [.own 1 [I p0,I p1,I p2,I p3,I 0]]:=by
 refine zAd Tryz.f130 ?_;refine zAj 1<|zAj 6<|zAc<|zAj 3<|zAB<|zAh<|zAj 3<|zAl 2<|zAm 1<|zAm 3<|zAm 1<|S_g 1<|zAl 4<|zAm 1<|S_g 1<|zAl 1<|S_g 1<|zAn E_0
theorem f130g(l:LI)(i:Nat)(h:i<l.length)(hl:l.length<=5):zBD Tryz.prog zCx 130 [.bor 50000000 [] 1 0 l.length,I (i:Nat),I ((i:Nat)+1:Int)] [.own 1 (l.map I)] (.bor 50000000 [] 1 0 (l.length-1)) [.own 1 ((l.eraseIdx i++[0]).map I)]:=by
 rcases l with _|⟨p0,_|⟨p1,_|⟨p2,_|⟨p3,_|⟨p4,_|⟨p5,l⟩⟩⟩⟩⟩⟩
 ·exact absurd h (cD _)
 ·obtain rfl:i=0:=by simp at h;omega
  ·exact f130_10 p0
 ·obtain rfl|rfl:i=0\/i=1:=by simp at h;omega
  ·exact f130_20 p0 p1
  ·exact f130_21 p0 p1
 ·obtain rfl|rfl|rfl:i=0\/i=1\/i=2:=by simp at h;omega
  ·exact f130_30 p0 p1 p2
  ·exact f130_31 p0 p1 p2
  ·exact f130_32 p0 p1 p2
 ·obtain rfl|rfl|rfl|rfl:i=0\/i=1\/i=2\/i=3:=by simp at h;omega
  ·exact f130_40 p0 p1 p2 p3
  ·exact f130_41 p0 p1 p2 p3
  ·exact f130_42 p0 p1 p2 p3
  ·exact f130_43 p0 p1 p2 p3
 ·obtain rfl|rfl|rfl|rfl|rfl:i=0\/i=1\/i=2\/i=3\/i=4:=by simp at h;omega
  ·exact f130_50 p0 p1 p2 p3 p4
  ·exact f130_51 p0 p1 p2 p3 p4
  ·exact f130_52 p0 p1 p2 p3 p4
  ·exact f130_53 p0 p1 p2 p3 p4
  ·exact f130_54 p0 p1 p2 p3 p4
 ·simp at hl
end
end Go.Eng
set_option maxRecDepth 10000
set_option maxHeartbeats 4000000
namespace Go.Eng
open Go Go.Proofs
section
variable [Yo]
theorem f48_ex(l:LI)(a:Nat)(t hs ns ss:Int)(h:zD8 l a)(hh:2<=hs/\hs<=8)(hn:2<=ns/\ns<=6)(yD:1<=ss/\ss<=4):∃ v h',zBD Tryz.prog zCx 48 [zQ4,I hs,I ns,I ss] [zB8 l a t] v h'/\∃ (n:Nw) (a':Nat) (t':Int),v=nwO n/\h'=[zB8 l a' t']/\zG4 n=0/\n.h<=hs/\(n.n.length:Int)<=ns/\(n.s.length:Int)<=ss/\zD8 l a':=by
 refine zNL Tryz.f48 _ ?_;have g1:=zCF h;have s1:=zCJ l a t (hs-2);refine zAj 1<|zAl 2<|S_a [(8,.ret (I (2+zAw l a t (hs-2))) ([zB8 l (zAL l a) (zAX l a t)]))] (ap (f127 l a t (2) hs (by omega) (by omega) (by omega)) an)<|S_g 3<|zAc<|zAj 1<|zAf 0 ?_
 have hH1:2<=2+zAw l a t (hs-2)/\2+zAw l a t (hs-2)<=hs:=by omega
 generalize 2+zAw l a t (hs-2)=H at *;clear s1;generalize zAX l a t=T0 at *;generalize zAL l a=A0 at *;refine zAr (fun(h,q,a,_)=>1<=h/\(h:Int)<=H/\LkOk q h/\zD8 l a) (fun((h:Nat),(q:LP),(a:Nat),(t:Int))=>[(9,.box (.agg [I H,.own 2 (q.map prV),.own 2 [],.own 1 []])),(10,I (h:Nat)),(50000000,zB8 l a t)]) (fun(h,_,_,_)=>H.toNat-h) ((1:Nat),([]:LP),A0,T0) ⟨bf _,by omega,⟨fun x hx=>absurd hx du,b8,by simp only[b7];omega⟩,g1⟩ fun(h,q,a,t) ⟨gh,hhH,hq,ha⟩=>?_;have wF:=hq.len;by_cases hhl:(h:Int)<H
 ·have g2:=zCF ha;have g3:=zCF g2;have s2:=zCJ l (zAL l a) (zAX l a t) ((h-1:Nat):Int);have kb:=hq.skip;have jx:LkOk (q++[((h:Int),zAw l (zAL l a) (zAX l a t) ((h-1:Nat):Int))]) ((h:Int)+1):=hq.snoc (by omega) (by omega);clear hq;refine zAc<|zAj 4<|zAM ((h:Int)<H) (by omega)<|zAh<|zAc<|zAf 1<|zAl 1<|S_a [(6,.ret (bool (decide (zAw l a t (5-1)=0))) ([zB8 l (zAL l a) (zAX l a t)]))] (ap (f128 l a t (5) (by omega) (by omega)) an)<|S_g 1<|zEk (zAw l a t (5-1)=0) (fun k0=>(zAb<|zAm 1<|S_a [(1,.v (bor 9 [(0,1)] 2 0 q.length))] (ap ((by simp):bor 9 [(0,1)] 2 0 (map prV q).length=bor 9 [(0,1)] 2 0 q.length) an)<|zAm 3<|S_a [(1,.v (I (↑(h-1):Int)))] (ap ((zBW (by omega) (by omega)):I (IntKind.i64.wrap ((h:Int)-1))=I (↑(h-1):Int)) an)<|S_a [(6,.ret (I (zAw l (zAL l a) (zAX l a t) (↑(h-1):Int))) ([zB8 l (zAL l (zAL l a)) (zAX l (zAL l a) (zAX l a t))]))] (ap (f129 l (zAL l a) (zAX l a t) ((↑(h-1):Int)) (by omega) (by omega)) an)<|zAm 2<|S_a [(4,.ob),(0,.ob),(0,.yes),(2,.v (own 2 (map prV (q++[((h:Int),zAw l (zAL l a) (zAX l a t) (↑(h-1):Int))]))))] (ap ((by exact zAR (by simp only[be,zzLn,zAO]<;>omega)):(0+q.length).ble (map prV q).length=true)<|ap ((by exact zAR (by simp only[be,zzLn,zAO]<;>omega)):((map prV q).length + [agg [I (h:Int),I (zAw l (zAL l a) (zAX l a t) (↑(h-1):Int))]].length).ble zAO=true)<|ap ((by exact zBq (by simp<;>omega)):(0+q.length).beq (map prV q).length=true)<|ap ((zAT (zBE (by kernel_rfl))):own 2 (map prV q++[agg [I (h:Int),I (zAw l (zAL l a) (zAX l a t) (↑(h-1):Int))]])=own 2 (map prV (q++[((h:Int),zAw l (zAL l a) (zAX l a t) (↑(h-1):Int))]))) an)<|S_g 2<|zAb<|zAm 1<|S_i h<|S_g 1 ?_)) (fun k0=>(zAh<|zAb<|zAm 1<|S_i h<|S_g 1 ?_))
  ·exact rnd (h+1,q++[((h:Int),zAw l (zAL l a) (zAX l a t) ((h-1:Nat):Int))],zAL l (zAL l a),zAX l (zAL l a) (zAX l a t)) ⟨by omega,by omega,jx,g3⟩ (by simp only;omega)
  ·exact rnd (h+1,q,zAL l a,zAX l a t) ⟨by omega,by omega,kb,g2⟩ (by simp only;omega)
 have qG:(h:Int)=H:=by omega
 rw[qG] at hq;have g2:=zCF ha;refine zAc<|zAj 4 ?_
 refine zAQ ((h:Int)<H) (by omega)<|zAD 0 ?_
 refine zFJ (fun(q,a,_,_)=>LkEnd q H/\zD8 l a) (fun((q:LP),(a:Nat),(t:Int),(x:Bool))=>[(9,.box (.agg [I H,.own 2 (q.map prV),.own 2 [],.own 1 []])),(55,.bool x),(50000000,zB8 l a t)]) [] ?_ fun(q2,a2,t2,x2) ⟨jx,kA⟩=>?_
 ·have hnr:FG 77 [.agg [I H,.sl (q.map prV),.sl [],.sl []],I 0,I (H-1)] (.bool (zDu ⟨H,q,[],[]⟩ 0 (H-1))):=f77 ⟨H,q,[],[]⟩ 0 (H-1) (by simp only;omega);have yO:=hq.fin;have hfar:=fun hb=>LkOk.far (n:=⟨H,q,[],[]⟩) hq (by simp only;omega) hb;simp only at hfar;clear hq;refine zAl 4<|zNU 44 (H>3) (fun k0=>(zAm 1<|S_a [(6,.ret (bool (decide (zAw l a t (2-1)=0))) ([zB8 l (zAL l a) (zAX l a t)]))] (ap (f128 l a t (2) (by omega) (by omega)) an)<|zAm 2<|zNU 48 (zAw l a t (2-1)=0) (fun k1=>(zAm 3<|S_a [(1,.v (I (H-1)))] (ap ((zBW rfl (by omega)):I (IntKind.i64.wrap (H-1))=I (H-1)) an)<|S_a [(6,.ob),(0,.v (prs q)),(12,.ret (bool (zDu {h:=H,l:=q,n:=[],s:=[]} 0 (H-1))) [])] (ap (blz (map prV q))<|ap (frT prV q)<|ap hnr an)<|S_g 2<|zEx (!zDu {h:=H,l:=q,n:=[],s:=[]} 0 (H-1)) (fun k2=>(zAb<|zAm 1<|S_a [(1,.v (bor 9 [(0,1)] 2 0 q.length))] (ap ((by simp):bor 9 [(0,1)] 2 0 (map prV q).length=bor 9 [(0,1)] 2 0 q.length) an)<|zAm 2<|S_a [(1,.v (I (H-1)))] (ap ((zBW rfl (by omega)):I (IntKind.i64.wrap (H-1))=I (H-1)) an)<|zAm 2<|S_a [(4,.ob),(0,.ob),(0,.yes),(2,.v (own 2 (map prV (q++[(0,H-1)]))))] (ap ((by exact zAR (by simp only[be,zzLn,zAO]<;>omega)):(0+q.length).ble (map prV q).length=true)<|ap ((by exact zAR (by simp only[be,zzLn,zAO]<;>omega)):((map prV q).length + [agg [I 0,I (H-1)]].length).ble zAO=true)<|ap ((by exact zBq (by simp<;>omega)):(0+q.length).beq (map prV q).length=true)<|ap ((zAT (zBE (by kernel_rfl))):own 2 (map prV q++[agg [I 0,I (H-1)]])=own 2 (map prV (q++[(0,H-1)]))) an)<|S_g 2 ?_)) (fun k2=>(zAh ?_)))) (fun k1=>(S_g 7<|zAB<|zAh ?_)))) (fun k0=>(S_g 11<|zAB<|zAh ?_))
  ·exact⟨(q++[(0,H-1)],zAL l a,zAX l a t,!zDu ⟨H,q,[],[]⟩ 0 (H-1)),⟨hfar (by simpa using k2),g2⟩,by kernel_rfl,by kernel_rfl⟩
  ·exact⟨(q,zAL l a,zAX l a t,!zDu ⟨H,q,[],[]⟩ 0 (H-1)),⟨yO,g2⟩,by kernel_rfl,by kernel_rfl⟩
  ·exact⟨(q,zAL l a,zAX l a t,false),⟨yO,g2⟩,by kernel_rfl,by kernel_rfl⟩
  ·exact⟨(q,a,t,false),⟨yO,ha⟩,by kernel_rfl,by kernel_rfl⟩
 have h1:=jx.len;have g3:=zCF kA;have s1:=zCJ l a2 t2 (ns-2);clear hq;refine zAj 1<|zAc<|zAl 2<|S_a [(8,.ret (I (2+zAw l a2 t2 (ns-2))) ([zB8 l (zAL l a2) (zAX l a2 t2)]))] (ap (f127 l a2 t2 (2) ns (by omega) (by omega) (by omega)) an)<|S_g 1<|zAf 2 ?_
 have hm1:2<=2+zAw l a2 t2 (ns-2)/\2+zAw l a2 t2 (ns-2)<=ns:=by omega
 generalize 2+zAw l a2 t2 (ns-2)=m at *;clear s1;generalize zAX l a2 t2=T1 at *;generalize zAL l a2=A1 at *;refine zAr (fun(i,F,N,a,_)=>(i:Int)<=m/\NtOk F N i/\zD8 l a) (fun((i:Nat),(F:LI),(N:List (Int×Bool)),(a:Nat),(t:Int))=>[(9,.box (.agg [I H,.own 2 (q2.map prV),.own 2 (N.map ntV),.own 1 []])),(11,.own 1 (F.map I)),(68,I (i:Nat)),(50000000,zB8 l a t)]) (fun(i,_,_,_,_)=>m.toNat-i) ((0:Nat),([]:LI),([]:List (Int×Bool)),A1,T1) ⟨by omega,⟨rfl,bf _,fun f hf=>absurd hf du,b8,fun j hj=>absurd hj (cD j),fun j k hkj hj=>absurd hj (cD j),fun f hf=>absurd hf du⟩,g3⟩ fun(i,F,N,a,t) ⟨him,hN,ha⟩=>?_;have hNl:=hN.len;have hFl:=hN.fl;by_cases yR:(i:Int)<m
 ·have g4:=zCF ha;have g5:=zCF g4;have g6:=zCF g5;have s2:=zCJ l (zAL l a) (zAX l a t) ((F.length-1:Nat):Int);have yQ:=fun b=>hN.one (b:=b);by_cases hF:0<F.length
  ·have hstk:=f129 l (zAL l a) (zAX l a t) ((F.length-1:Nat):Int) g4 (by omega);generalize zAw l (zAL l a) (zAX l a t) ((F.length-1:Nat):Int)=s at hstk s2;obtain⟨k,rfl⟩:∃ k:Nat,s=k:=⟨s.toNat,by omega⟩;have hdel:=f130g F k (by omega) (by omega);have hmore:=fun b=>hN.more (b:=b) (k:=k) (by omega);have htk:(F.eraseIdx k++[0]).take (F.length-1)=F.eraseIdx k:=by
    rw[cP (by rw[fv (by omega)];exact bf _),bw (by rw[fv (by omega)];exact bf _)]
   have jH:(F.eraseIdx k).length=F.length-1:=fv (by omega);have vg:∀ b,NtOk ((F.eraseIdx k++[0]).take (F.length-1)++[(i:Int)]) (N++[(F.getD k 0,b)]) (i+1):=fun b=>by rw[htk];exact hmore b
   clear hN;refine zAj 1<|zAc<|zAM ((i:Int)<m) (by omega)<|zAh<|zAc<|zAf 3<|zAj 2<|zAj 1<|zAc<|zAl 1<|S_a [(0,.n F.length)] (ap (lnS I F) an)<|zAm 2<|zLi 74 ((F.length:Int)>0) (by omega) (zAm 1<|S_a [(6,.ret (bool (decide (zAw l a t (3-1)=0))) ([zB8 l (zAL l a) (zAX l a t)]))] (ap (f128 l a t (3) (by omega) (by omega)) an)<|S_g 2<|zEk (zAw l a t (3-1)=0) (fun k1=>(zAl 2<|S_a [(0,.n F.length)] (ap (lnS I F) an)<|S_a [(1,.v (I (↑(F.length-1):Int)))] (ap ((zBW (by omega) (by omega)):I (IntKind.i64.wrap ((F.length:Int)-1))=I (↑(F.length-1):Int)) an)<|S_a [(6,.ret (I (k:Int)) ([zB8 l (zAL l (zAL l a)) (zAX l (zAL l a) (zAX l a t))]))] (ap hstk an)<|S_g 1<|zAl 2<|S_a [(2,.ob),(1,.n k)] (ap ((by exact zAp (by simp only[be,zzLn]<;>omega)):decide (k<(map I F).length)=true)<|ap ((by simp):some (0+k)=some k) an)<|S_a [(0,.cs false ([I (F.getD k 0)]))] (ap (zCn (q:=own 1 (map I F)) (xs:=map I F) (x:=I (F.getD k 0)) rfl (zBN (0) (by omega)):zAq 11 (own 1 (map I F)) [] k 0 1=some (false,[I (F.getD k 0)])) an)<|S_g 1<|zAb<|zAm 3<|S_i k<|S_a [(7,.vs ([bor 50000000 [] 1 0 F.length,I (k:Int),I (↑(k+1):Int)])),(0,.ret (bor 50000000 [] 1 0 (F.length-1)) ([own 1 (map I (F.eraseIdx k++[0]))]))] (ap ((by simp) : [bor 50000000 [] 1 0 (map I F).length,I (k:Int),I (↑(k+1):Int)]=[bor 50000000 [] 1 0 F.length,I (k:Int),I (↑(k+1):Int)])<|ap hdel an)<|S_a [(1,.ob),(0,.v (own 1 (map I (take (F.length-1) (F.eraseIdx k++[0])))))] (ap ((by exact zAR (by simp only[be,zzLn,zAO]<;>omega)):(0+(F.length-1)).ble (map I (F.eraseIdx k++[0])).length=true)<|ap ((by simp):own 1 (take (F.length-1) (drop 0 (map I (F.eraseIdx k++[0]))))=own 1 (map I (take (F.length-1) (F.eraseIdx k++[0])))) an)<|zA3<|zAl 3<|S_a [(4,.ob),(0,.ob),(0,.yes),(2,.v (own 1 (map I (take (F.length-1) (F.eraseIdx k++[0])++[(i:Int)]))))] (ap (blz (map I (take (F.length-1) (F.eraseIdx k++[0]))))<|ap ((by exact zAR (by simp[zAO]<;>omega)):((map I (take (F.length-1) (F.eraseIdx k++[0]))).length + [I (i:Int)].length).ble zAO=true)<|ap ((by exact zBq (by simp<;>omega)):(0+(map I (take (F.length-1) (F.eraseIdx k++[0]))).length).beq (map I (take (F.length-1) (F.eraseIdx k++[0]))).length=true)<|ap ((zAT (zBE (by kernel_rfl))):own 1 (map I (take (F.length-1) (F.eraseIdx k++[0]))++[I (i:Int)])=own 1 (map I (take (F.length-1) (F.eraseIdx k++[0])++[(i:Int)]))) an)<|S_g 1<|zAb<|zAm 1<|S_a [(1,.v (bor 9 [(0,2)] 2 0 N.length))] (ap ((by simp):bor 9 [(0,2)] 2 0 (map ntV N).length=bor 9 [(0,2)] 2 0 N.length) an)<|zAm 2<|S_a [(6,.ret (bool (decide (zAw l (zAL l (zAL l a)) (zAX l (zAL l a) (zAX l a t)) (3-1)=0))) ([zB8 l (zAL l (zAL l (zAL l a))) (zAX l (zAL l (zAL l a)) (zAX l (zAL l a) (zAX l a t)))]))] (ap (f128 l (zAL l (zAL l a)) (zAX l (zAL l a) (zAX l a t)) (3) (by omega) (by omega)) an)<|zAm 2<|S_a [(4,.ob),(0,.ob),(0,.yes),(2,.v (own 2 (map ntV (N++[(F.getD k 0,decide (zAw l (zAL l (zAL l a)) (zAX l (zAL l a) (zAX l a t)) (3-1)=0))]))))] (ap ((by exact zAR (by simp only[be,zzLn,zAO]<;>omega)):(0+N.length).ble (map ntV N).length=true)<|ap ((by exact zAR (by simp only[be,zzLn,zAO]<;>omega)):((map ntV N).length + [agg [I (F.getD k 0),bool (decide (zAw l (zAL l (zAL l a)) (zAX l (zAL l a) (zAX l a t)) (3-1)=0))]].length).ble zAO=true)<|ap ((by exact zBq (by simp<;>omega)):(0+N.length).beq (map ntV N).length=true)<|ap ((zAT (zBE (by kernel_rfl))):own 2 (map ntV N++[agg [I (F.getD k 0),bool (decide (zAw l (zAL l (zAL l a)) (zAX l (zAL l a) (zAX l a t)) (3-1)=0))]])=own 2 (map ntV (N++[(F.getD k 0,decide (zAw l (zAL l (zAL l a)) (zAX l (zAL l a) (zAX l a t)) (3-1)=0))]))) an)<|S_g 2<|zAb<|S_i i<|S_g 1 ?_)) (fun k1=>(zAh<|zAl 3<|S_a [(4,.ob),(0,.ob),(0,.yes),(2,.v (own 1 (map I (F++[(i:Int)]))))] (ap (blz (map I F))<|ap ((by exact zAR (by simp only[be,zzLn,zAO]<;>omega)):((map I F).length + [I (i:Int)].length).ble zAO=true)<|ap ((by exact zBq (by simp<;>omega)):(0+(map I F).length).beq (map I F).length=true)<|ap ((zAT (zBE (by kernel_rfl))):own 1 (map I F++[I (i:Int)])=own 1 (map I (F++[(i:Int)]))) an)<|S_g 1<|zAb<|zAm 1<|S_a [(1,.v (bor 9 [(0,2)] 2 0 N.length))] (ap ((by simp):bor 9 [(0,2)] 2 0 (map ntV N).length=bor 9 [(0,2)] 2 0 N.length) an)<|zAm 2<|S_a [(6,.ret (bool (decide (zAw l (zAL l a) (zAX l a t) (3-1)=0))) ([zB8 l (zAL l (zAL l a)) (zAX l (zAL l a) (zAX l a t))]))] (ap (f128 l (zAL l a) (zAX l a t) (3) (by omega) (by omega)) an)<|zAm 2<|S_a [(4,.ob),(0,.ob),(0,.yes),(2,.v (own 2 (map ntV (N++[(-1,decide (zAw l (zAL l a) (zAX l a t) (3-1)=0))]))))] (ap ((by exact zAR (by simp only[be,zzLn,zAO]<;>omega)):(0+N.length).ble (map ntV N).length=true)<|ap ((by exact zAR (by simp only[be,zzLn,zAO]<;>omega)):((map ntV N).length + [agg [I (-1),bool (decide (zAw l (zAL l a) (zAX l a t) (3-1)=0))]].length).ble zAO=true)<|ap ((by exact zBq (by simp<;>omega)):(0+N.length).beq (map ntV N).length=true)<|ap ((zAT (zBE (by kernel_rfl))):own 2 (map ntV N++[agg [I (-1),bool (decide (zAw l (zAL l a) (zAX l a t) (3-1)=0))]])=own 2 (map ntV (N++[(-1,decide (zAw l (zAL l a) (zAX l a t) (3-1)=0))]))) an)<|S_g 2<|zAb<|S_i i<|S_g 1 ?_)))
   ·exact rnd (i+1,(F.eraseIdx k++[0]).take (F.length-1)++[(i:Int)],N++[(F.getD k 0,decide (zAw l (zAL l (zAL l a)) (zAX l (zAL l a) (zAX l a t)) (3-1)=0))],zAL l (zAL l (zAL l a)),zAX l (zAL l (zAL l a)) (zAX l (zAL l a) (zAX l a t))) ⟨by omega,vg _,g6⟩ (by simp only;omega)
   ·exact rnd (i+1,F++[(i:Int)],N++[(-1,decide (zAw l (zAL l a) (zAX l a t) (3-1)=0))],zAL l (zAL l a),zAX l (zAL l a) (zAX l a t)) ⟨by omega,yQ _,g5⟩ (by simp only;omega)
  ·clear hN;refine zAj 1<|zAc<|zAM ((i:Int)<m) (by omega)<|zAh<|zAc<|zAf 3<|zAj 2<|zAj 1<|zAc<|zAl 1<|S_a [(0,.n F.length)] (ap (lnS I F) an)<|zAm 2<|zMS 74 ((F.length:Int)>0) (by omega) (S_g 4<|zAB<|zAh<|zAl 3<|S_a [(4,.ob),(0,.ob),(0,.yes),(2,.v (own 1 (map I (F++[(i:Int)]))))] (ap (blz (map I F))<|ap ((by exact zAR (by simp only[be,zzLn,zAO]<;>omega)):((map I F).length + [I (i:Int)].length).ble zAO=true)<|ap ((by exact zBq (by simp<;>omega)):(0+(map I F).length).beq (map I F).length=true)<|ap ((zAT (zBE (by kernel_rfl))):own 1 (map I F++[I (i:Int)])=own 1 (map I (F++[(i:Int)]))) an)<|S_g 1<|zAb<|zAm 1<|S_a [(1,.v (bor 9 [(0,2)] 2 0 N.length))] (ap ((by simp):bor 9 [(0,2)] 2 0 (map ntV N).length=bor 9 [(0,2)] 2 0 N.length) an)<|zAm 2<|S_a [(6,.ret (bool (decide (zAw l a t (3-1)=0))) ([zB8 l (zAL l a) (zAX l a t)]))] (ap (f128 l a t (3) (by omega) (by omega)) an)<|zAm 2<|S_a [(4,.ob),(0,.ob),(0,.yes),(2,.v (own 2 (map ntV (N++[(-1,decide (zAw l a t (3-1)=0))]))))] (ap ((by exact zAR (by simp only[be,zzLn,zAO]<;>omega)):(0+N.length).ble (map ntV N).length=true)<|ap ((by exact zAR (by simp only[be,zzLn,zAO]<;>omega)):((map ntV N).length + [agg [I (-1),bool (decide (zAw l a t (3-1)=0))]].length).ble zAO=true)<|ap ((by exact zBq (by simp<;>omega)):(0+N.length).beq (map ntV N).length=true)<|ap ((zAT (zBE (by kernel_rfl))):own 2 (map ntV N++[agg [I (-1),bool (decide (zAw l a t (3-1)=0))]])=own 2 (map ntV (N++[(-1,decide (zAw l a t (3-1)=0))]))) an)<|S_g 2<|zAb<|S_i i<|S_g 1 ?_)
   exact rnd (i+1,F++[(i:Int)],N++[(-1,decide (zAw l a t (3-1)=0))],zAL l a,zAX l a t) ⟨by omega,yQ _,g4⟩ (by simp only;omega)
 have him2:(i:Int)=m:=by omega
 have g4:=zCF ha;have s1:=zCJ l a t (ss-1);refine zAj 1<|zAc<|zAQ ((i:Int)<m) (by omega)<|zAD 2<|zAc<|zAl 2<|S_a [(8,.ret (I (1+zAw l a t (ss-1))) ([zB8 l (zAL l a) (zAX l a t)]))] (ap (f127 l a t (1) ss (by omega) (by omega) (by omega)) an)<|S_g 1<|zAf 4 ?_
 have wC:1<=1+zAw l a t (ss-1)/\1+zAw l a t (ss-1)<=ss:=by omega
 generalize 1+zAw l a t (ss-1)=M at *;clear s1;generalize zAX l a t=T2 at *;generalize zAL l a=A2 at *;refine zAr (fun(s,S,a,_)=>(s:Int)<=M/\S.length=s/\(∀ r∈S,RwOk r H.toNat)/\zD8 l a) (fun((s:Nat),(S:List LI),(a:Nat),(t:Int))=>[(9,.box (.agg [I H,.own 2 (q2.map prV),.own 2 (N.map ntV),.own 1 (S.map zLt)])),(110,I (s:Nat)),(50000000,zB8 l a t)]) (fun(s,_,_,_)=>M.toNat-s) ((0:Nat),([]:List LI),A2,T2) ⟨by omega,rfl,fun r hr=>absurd hr du,g4⟩ fun(s,S,a3,t3) ⟨hsM,wh,hS,ha3⟩=>?_;by_cases jP:(s:Int)<M
 ·refine zAj 1<|zAc<|zAM ((s:Int)<M) (by omega)<|zAh<|zAc<|zAf 5<|zAj 1<|zAc<|zAj 3<|zAf 6 ?_
  refine zAr (fun(j,r,a,_)=>(j:Int)<=H/\RwOk r j/\zD8 l a) (fun((j:Nat),(r:LI),(a:Nat),(t:Int))=>[(15,.own 1 (r.map I)),(114,I (j:Nat)),(50000000,zB8 l a t)]) (fun(j,_,_,_)=>H.toNat-j) ((0:Nat),([]:LI),a3,t3) ⟨by omega,⟨fun x hx=>absurd hx du,rfl,bf _⟩,ha3⟩ fun(j,r,a4,t4) ⟨hjH,hr,ha4⟩=>?_;have hrl:=hr.len;by_cases y9:(j:Int)<H
  ·have g5:=zCF ha4;have wu:=hr.skip;have uF:=hr.snoc;clear hr;refine zAj 1<|zAc<|zAM ((j:Int)<H) (by omega)<|zAh<|zAc<|zAf 7<|zAj 2<|zAl 1<|S_a [(6,.ret (bool (decide (zAw l a4 t4 (3-1)=0))) ([zB8 l (zAL l a4) (zAX l a4 t4)]))] (ap (f128 l a4 t4 (3) (by omega) (by omega)) an)<|zA3<|zCN (zAw l a4 t4 (3-1)=0) (fun k0=>(zAb<|zAm 3<|S_a [(4,.ob),(0,.ob),(0,.yes),(2,.v (own 1 (map I (r++[(j:Int)]))))] (ap (blz (map I r))<|ap ((by exact zAR (by simp only[be,zzLn,zAO]<;>omega)):((map I r).length + [I (j:Int)].length).ble zAO=true)<|ap ((by exact zBq (by simp<;>omega)):(0+(map I r).length).beq (map I r).length=true)<|ap ((zAT (zBE (by kernel_rfl))):own 1 (map I r++[I (j:Int)])=own 1 (map I (r++[(j:Int)]))) an)<|S_g 1<|zAb<|S_i j<|S_g 1 ?_)) (fun k0=>(zAh<|zAb<|S_i j<|S_g 1 ?_))
   ·exact rnd (j+1,r++[(j:Int)],zAL l a4,zAX l a4 t4) ⟨by omega,uF,g5⟩ (by simp only;omega)
   ·exact rnd (j+1,r,zAL l a4,zAX l a4 t4) ⟨by omega,wu,g5⟩ (by simp only;omega)
  ·have hje:j=H.toNat:=by omega
   rw[hje] at hr;have hS2:∀ x∈S++[r],RwOk x H.toNat:=fun x hx=>by
    rcases bj.1 hx with hx|hx
    ·exact hS x hx
    ·rw[bk] at hx;subst hx;exact hr
   refine zAj 1<|zAc<|zAQ ((j:Int)<H) (by omega)<|zAD 6<|zAb<|zAm 1<|S_a [(1,.v (bor 9 [(0,3)] 1 0 S.length))] (ap ((by simp):bor 9 [(0,3)] 1 0 (map zLt S).length=bor 9 [(0,3)] 1 0 S.length) an)<|zAm 1<|S_a [(2,.yes)] (ap ((by exact zBq (by simp<;>omega)):(beq 0 0&&(map I r).length.beq (map I r).length)=true) an)<|S_a [(4,.ob),(0,.ob),(0,.yes),(2,.v (own 1 (map zLt (S++[r]))))] (ap ((by exact zAR (by simp only[be,zzLn,zAO]<;>omega)):(0+S.length).ble (map zLt S).length=true)<|ap ((by exact zAR (by simp only[be,zzLn,zAO]<;>omega)):((map zLt S).length + [own 1 (map I r)].length).ble zAO=true)<|ap ((by exact zBq (by simp<;>omega)):(0+S.length).beq (map zLt S).length=true)<|ap ((zAT (zBE (by kernel_rfl))):own 1 (map zLt S++[own 1 (map I r)])=own 1 (map zLt (S++[r]))) an)<|S_g 2<|zAb<|S_i s<|S_g 1 ?_
   exact rnd (s+1,S++[r],a4,t4) ⟨by omega,by rw[bu,wh];rfl,hS2,ha4⟩ (by simp only;omega)
 ·have kU:=zXR (H:=H) (q:=q2) (F:=F) (N:=N) (S:=S) (m:=i) (by omega) jx hN (by omega) hS (by omega);refine zAj 1<|zAc<|zAQ ((s:Int)<M) (by omega)<|zAD 4<|zAl 1<|S_a [(4,.yes),(2,.yes),(2,.yes)] (ap ((by exact zBq (by simp<;>omega)):(beq 0 0&&(map prV q2).length.beq (map prV q2).length)=true)<|ap ((by exact zBq (by simp<;>omega)):(beq 0 0&&(map ntV N).length.beq (map ntV N).length)=true)<|ap ((by exact zBq (by simp<;>omega)):(beq 0 0&&(map zLt S).length.beq (map zLt S).length)=true) an)<|zA3<|zAn<|E_q [(4,.yes),(1,.v (own 2 (map prV q2))),(1,.yes),(1,.v (own 2 (map ntV N))),(1,.yes),(1,.v (own 1 (map zLt S)))] (ap (blz (map prV q2))<|ap ((zAT zA6):own 2 (take (map prV q2).length (drop 0 (map prV q2)))=own 2 (map prV q2))<|ap (blz (map ntV N))<|ap ((zAT zA6):own 2 (take (map ntV N).length (drop 0 (map ntV N)))=own 2 (map ntV N))<|ap (blz (map zLt S))<|ap ((zAT zA6):own 1 (take (map zLt S).length (drop 0 (map zLt S)))=own 1 (map zLt S)) an) (agg [I H,own 2 (map prV q2),own 2 (map ntV N),own 1 (map zLt S)]) ([(agg [sl (map u8 l),I (a3:Int),int IntKind.u32 t3]).box]) ?_
  exact⟨⟨H,q2,N,S⟩,a3,t3,rfl,rfl,kU,by simp only;omega,by simp only;omega,by simp only;omega,ha3⟩
end
end Go.Eng
set_option maxRecDepth 10000
set_option maxHeartbeats 4000000
namespace Go.Eng
open Go Go.Proofs
section
variable [Yo]
theorem f50_ex(n:Nw)(l:LI)(a:Nat)(t most:Int)(ho:NwOk n)(h:zD8 l a)(hm:0<=most/\most<=16):∃ v h',zBD Tryz.prog zCx 50 [zQ4,nwV n,I most] [zB8 l a t] v h'/\∃ (cs:LP) (a':Nat) (t':Int),v = .own 2 (cs.map prV)/\h'=[zB8 l a' t']/\(cs.length:Int)<=most/\(∀ c∈cs,(0<=c.1/\c.1<n.n.length)/\(0<=c.2/\c.2<n.s.length))/\zD8 l a':=by
 have vS:=ho.nl;have gY:=ho.sl;have g1:=zCF h;have s1:=zCJ l a t most;refine zNL Tryz.f50 _ ?_;refine zAj 2<|zAj 1<|zAc<|zAl 2<|S_a [(6,.ret (I (zAw l a t most)) ([zB8 l (zAL l a) (zAX l a t)]))] (ap (f129 l a t most (by omega) (by omega)) an)<|S_g 1<|zAf 0 ?_
 have wC:0<=zAw l a t most/\zAw l a t most<=most:=by omega
 generalize zAw l a t most=M at *;clear s1;generalize zAX l a t=T0 at *;generalize zAL l a=A0 at *;refine zAr (fun(i,q,a,_)=>(i:Int)<=M/\q.length=i/\(∀ c∈q,(0<=c.1/\c.1<n.n.length)/\(0<=c.2/\c.2<n.s.length))/\zD8 l a) (fun((i:Nat),(q:LP),(a:Nat),(t:Int))=>[(7,.own 2 (q.map prV)),(11,I (i:Nat)),(50000000,zB8 l a t)]) (fun(i,_,_,_)=>M.toNat-i) ((0:Nat),([]:LP),A0,T0) ⟨by omega,rfl,fun c hc=>absurd hc du,g1⟩ fun(i,q,a,t) ⟨hiM,wF,hq,ha⟩=>?_;by_cases yR:(i:Int)<M
 ·have g2:=zCF ha;have g3:=zCF g2;have s2:=zCJ l a t ((n.n.length-1:Nat):Int);have s3:=zCJ l (zAL l a) (zAX l a t) ((n.s.length-1:Nat):Int);have jx:∀ c∈q++[(zAw l a t ((n.n.length-1:Nat):Int),zAw l (zAL l a) (zAX l a t) ((n.s.length-1:Nat):Int))],(0<=c.1/\c.1<n.n.length)/\(0<=c.2/\c.2<n.s.length):=fun c hc=>by
   rcases bj.1 hc with hc|hc
   ·exact hq c hc
   ·rw[bk] at hc;subst hc;simp only;omega
  clear hq;refine zAj 1<|zAc<|zAM ((i:Int)<M) (by omega)<|zAh<|zAc<|zAf 1<|zAb<|zAm 4<|S_a [(0,.n n.n.length)] (ap (lnS ntV n.n) an)<|S_a [(1,.v (I (↑(n.n.length-1):Int)))] (ap ((zBW (by omega) (by omega)):I (IntKind.i64.wrap ((n.n.length:Int)-1))=I (↑(n.n.length-1):Int)) an)<|S_a [(6,.ret (I (zAw l a t (↑(n.n.length-1):Int))) ([zB8 l (zAL l a) (zAX l a t)]))] (ap (f129 l a t ((↑(n.n.length-1):Int)) (by omega) (by omega)) an)<|zAm 3<|S_a [(0,.n n.s.length)] (ap (lnS zBT n.s) an)<|S_a [(1,.v (I (↑(n.s.length-1):Int)))] (ap ((zBW (by omega) (by omega)):I (IntKind.i64.wrap ((n.s.length:Int)-1))=I (↑(n.s.length-1):Int)) an)<|S_a [(6,.ret (I (zAw l (zAL l a) (zAX l a t) (↑(n.s.length-1):Int))) ([zB8 l (zAL l (zAL l a)) (zAX l (zAL l a) (zAX l a t))]))] (ap (f129 l (zAL l a) (zAX l a t) ((↑(n.s.length-1):Int)) (by omega) (by omega)) an)<|zAm 2<|S_a [(4,.ob),(0,.ob),(0,.yes),(2,.v (own 2 (map prV (q++[(zAw l a t (↑(n.n.length-1):Int),zAw l (zAL l a) (zAX l a t) (↑(n.s.length-1):Int))]))))] (ap (blz (map prV q))<|ap ((by exact zAR (by simp only[be,zzLn,zAO]<;>omega)):((map prV q).length + [agg [I (zAw l a t (↑(n.n.length-1):Int)),I (zAw l (zAL l a) (zAX l a t) (↑(n.s.length-1):Int))]].length).ble zAO=true)<|ap ((by exact zBq (by simp<;>omega)):(0+(map prV q).length).beq (map prV q).length=true)<|ap ((zAT (zBE (by kernel_rfl))):own 2 (map prV q++[agg [I (zAw l a t (↑(n.n.length-1):Int)),I (zAw l (zAL l a) (zAX l a t) (↑(n.s.length-1):Int))]])=own 2 (map prV (q++[(zAw l a t (↑(n.n.length-1):Int),zAw l (zAL l a) (zAX l a t) (↑(n.s.length-1):Int))]))) an)<|S_g 1<|zAb<|S_i i<|S_g 1 ?_
  exact rnd (i+1,q++[(zAw l a t ((n.n.length-1:Nat):Int),zAw l (zAL l a) (zAX l a t) ((n.s.length-1:Nat):Int))],zAL l (zAL l a),zAX l (zAL l a) (zAX l a t)) ⟨by omega,by rw[bu,wF];rfl,jx,g3⟩ (by simp only;omega)
 ·refine zAj 1<|zAc<|zAQ ((i:Int)<M) (by omega)<|zAD 0<|zAl 1<|S_a [(2,.yes)] (ap ((by exact zBq (by simp<;>omega)):(beq 0 0&&(map prV q).length.beq (map prV q).length)=true) an)<|zA3<|zAn<|E_q [(1,.yes),(1,.v (own 2 (map prV q)))] (ap (blz (map prV q))<|ap ((zAT zA6):own 2 (take (map prV q).length (drop 0 (map prV q)))=own 2 (map prV q)) an) (own 2 (map prV q)) ([(agg [sl (map u8 l),I (a:Int),int IntKind.u32 t]).box]) ?_
  exact⟨q,a,t,rfl,rfl,by omega,hq,ha⟩
end
end Go.Eng
