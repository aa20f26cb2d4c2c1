/- The statement NewsFewest jQ for all arguments: further cries that are returned leave none and are as few as can be, and the gaps that are apart, or the errors, are as specified; arguments are not modified. -/
import Derived.Test.YtppbomajegnkeaaGreatPe
import Derived.Test.YtppbomajegnkeaaGreatPd
set_option linter.unusedVariables false
set_option linter.unusedSimpArgs false
set_option linter.unusedSectionVars false
set_option maxRecDepth 10000
set_option maxHeartbeats 4000000
open Nat (beq ble blt)
open List (map replicate take drop range length filter)
open Go.Eng.PV (own agg addr func sl bor tup omap bad bool int)
namespace Go.Eng
open Go Go.Proofs
def zYe(o:LI)(x:Int):LI:=if o.getLast? = some x then o else o++[x]
def zHj(l:LI):LI:=l.foldl zYe []
theorem zR1(o:LI)(x:Int):(zYe o x).getLast? = some x:=by
 unfold zYe;split
 ·assumption
 ·simp
theorem zHF{l:LI}{i:Nat}(h:i<l.length):zHj (l.take (i+1))=zYe (zHj (l.take i)) (l.getD i 0):=zDM h
theorem zTS{l:LI}{i:Nat}(h:i<l.length):(zHj (l.take (i+1))).getLast? = some (l.getD i 0):=by
 rw[zHF h];exact zR1 _ _
theorem zHY{l:LI}{i:Nat}(h0:0<i)(h:i<l.length):zHj (l.take (i+1))=if l.getD i 0=l.getD (i-1) 0 then zHj (l.take i) else zHj (l.take i)++[l.getD i 0]:=by
 obtain⟨j,rfl⟩:∃ j,i=j+1:=⟨i-1,by omega⟩;rw[zHF h,zYe,zTS (by omega)];simp only[d4,ba,eq_comm]
theorem zL2{S:LI}{p:Nat}{x:Int}(h:p<S.length):(S.set p x).take (p+1)=S.take p++[x]:=by
 rw[zBs (d:=0) (by simpa using h),List.take_set_of_le (bi p),zCY,if_pos ⟨rfl,h⟩]
theorem zHW{l:LI}:∀ k,k<=l.length->(∀ j,1<=j->j<k->l.getD j 0≠l.getD (j-1) 0)->zHj (l.take k)=l.take k
 |0,_,_=>rfl|k+1,hk,h=>by
  have ih:=zHW k (by omega) fun j h1 h2=>h j h1 (by omega)
  cases k with
  |zero=>rw[zHF (by omega)];simp[zHj,zYe,zBs (d:=0) (show 0<l.length by omega)]|succ k=>rw[zHY (by omega) (by omega),if_neg (h (k+1) (by omega) (by omega)),ih,<- zBs (by omega)]
def zVH(l:LI):Bool:=(range (l.length-1)).all fun j=>decide (l.getD j 0<l.getD (j+1) 0)
def zFZ(l:LI):Bool:=(range (l.length-1)).all fun j=>decide (l.getD j 0<=l.getD (j+1) 0)
section
variable [Yo]
theorem f138(l m:List LI)(hl:l.length<4294967296)(hr:∀ r∈l,r.length<4294967296):FG 138 [.sl (l.map zA1),.sl (m.map zA1),.func 98 [] []] (.bool (decide (l=m))):=by
 refine zAe Tryz.f138 ?_;refine zAh 1<|zAc<|zAl 1<|S_a [(0,.n l.length)] (ap (lnS zA1 l) an)<|zAn 1<|S_a [(0,.n m.length)] (ap (lnS zA1 m) an)<|S_g 1<|zDk ((l.length:Int)=(m.length:Int)) (fun k0=>(zAh 1<|zAk<|E_a [] an (bool false) [] ?_ rfl)) (fun k0=>(zAf<|zAc<|zAl 1<|S_a [(0,.n l.length)] (ap (lnS zA1 l) an)<|S_g 1<|zAd 0 ?_))
 ·simp;intro h;subst h;simp at *
 refine zAo (fun i=>i<=l.length/\l.take i=m.take i) (fun i=>[(17,I (i:Nat))]) (fun i=>l.length-i) (0:Nat) (by simp) fun i ⟨hi,ha⟩=>?_;by_cases yB:i<l.length
 ·have qr:=zBt (d:=[]) hr i yB;refine zAh 1<|zAc<|zAs ((i:Int)<(l.length:Int)) (by omega)<|zAf<|zAc<|zAd 1<|zAl 1<|S_a [(2,.v (zA1 (l.getD i [])))] (ap (zBi [] (by omega):(map zA1 l)[i]? = some (zA1 (l.getD i []))) an)<|S_g 3<|zAl 2<|S_a [(2,.v (zA1 (m.getD i [])))] (ap (zBi [] (by omega):(map zA1 m)[i]? = some (zA1 (m.getD i []))) an)<|S_g 2<|zAl 3<|S_a [(8,.ret (bool (decide (l.getD i []=m.getD i []))) [])] (ap (f98 (l.getD i []) (m.getD i []) (by omega)) an)<|S_g 1<|zDk (l.getD i []=m.getD i []) (fun k1=>(zAh 1<|zAk<|E_a [] an (bool false) [] ?_ rfl)) (fun k1=>(zAf<|zAb<|S_i i<|S_g 1 ?_))
  ·simp;intro h;subst h;simp at *
  ·refine⟨i+1,⟨by omega,?_⟩,by omega,by kernel_rfl,by kernel_rfl⟩;exact zEw (d:=[]) (by omega) (by omega) ha (by assumption)
 ·refine zAh 1<|zAc<|zAu ((i:Int)<(l.length:Int)) (by omega)<|zAq 0<|zAh 1<|zAk<|E_a [] an (bool true) [] ?_ rfl
  rw[bp (by omega),bp (by omega)] at ha;simp[ha]
theorem f62(l m:List LI)(hl:l.length<4294967296)(hr:∀ r∈l,r.length<4294967296):FG 62 [.sl (l.map zA1),.sl (m.map zA1)] (.bool (decide (l=m))):=by
 refine zAe Tryz.f62 ?_;refine zAh 1<|zAl 2<|S_a [(9,.ret (bool (decide (l=m))) [])] (ap (f138 l m (by omega) (by omega)) an)<|S_g 1<|zAk E_0
theorem f155(l:LI)(hl:l.length<4294967296):FG 155 [zA1 l] (.bool (zFZ l)):=by
 refine zAe Tryz.f155 ?_;refine zAh 1<|zAc<|zAl 1<|S_a [(0,.n l.length)] (ap (lnS I l) an)<|S_a [(1,.v (I ((l.length:Int)-1)))] (ap ((zBY rfl (by omega)):I (IntKind.i64.wrap ((l.length:Int)-1))=I ((l.length:Int)-1)) an)<|S_g 1<|zAd 0 ?_
 refine zAo (fun(x:Int)=>x<l.length/\∀ j:Nat,x<j->j<l.length->0<j->l.getD (j-1) 0<=l.getD j 0) (fun x=>[(3,I x)]) (fun x=>x.toNat) ((l.length:Int)-1) ⟨by omega,fun j h1 h2=>by omega⟩ fun x ⟨hi,ha⟩=>?_;have e2:(x-1).toNat=x.toNat-1:=by omega
 by_cases h1:0<x
 ·refine zAc<|zAh 2<|zAs (x>0) (by omega)<|zAf<|zAc<|zAd 1<|zAl 2<|S_a [(0,.ob),(1,.v (I (l.getD x.toNat 0)))] (ap ((by exact zAt (by omega)):decide (0<=x)=true)<|ap (zBi (0) (by omega):(map I l)[x.toNat]? = some (I (l.getD x.toNat 0))) an)<|zAn 3<|S_a [(1,.v (I (x-1)))] (ap ((zBY rfl (by omega)):I (IntKind.i64.wrap (x-1))=I (x-1)) an)<|S_a [(0,.ob),(1,.v (I (l.getD (x-1).toNat 0)))] (ap ((by exact zAt (by omega)):decide (0<=x-1)=true)<|ap (zBi (0) (by omega):(map I l)[(x-1).toNat]? = some (I (l.getD (x-1).toNat 0))) an)<|zAn 1<|S_a [(8,.ret (bool (decide (l.getD x.toNat 0<l.getD (x-1).toNat 0))) [])] (ap (f182 (l.getD x.toNat 0) (l.getD (x-1).toNat 0)) an)<|zAR<|zB2 (l.getD x.toNat 0<l.getD (x-1).toNat 0) (fun k0=>(zAh 1<|zAk<|E_a [] an (bool false) [] ?_ rfl)) (fun k0=>(zAf<|zAb<|zAn 1<|S_a [(1,.v (I (x-1)))] (ap ((zBY rfl (by omega)):I (IntKind.i64.wrap (x-1))=I (x-1)) an)<|S_g 1 ?_))
  ·rw[e2] at k0;have:zFZ l=false:=by
    simp only[zFZ,dQ];exact⟨x.toNat-1,bx.2 (by omega),by rw[show x.toNat-1+1=x.toNat by omega];simp only[decide_eq_true_eq];omega⟩
   rw[this]
  ·rw[e2] at k0;refine⟨x-1,⟨by omega,fun j h3 h4 h5=>?_⟩,by omega,by kernel_rfl,by kernel_rfl⟩;by_cases hj:j=x.toNat
   ·subst hj;omega
   ·exact ha j (by omega) h4 h5
 ·refine zAc<|zAh 2<|zAu (x>0) (by omega)<|zAq 0<|zAh 1<|zAk<|E_a [] an (bool true) [] ?_ rfl
  have:zFZ l=true:=by
   simp only[zFZ,bj,bx,decide_eq_true_eq];exact fun j hj=>by have:=ha (j+1) (by omega) (by omega) (by omega);simpa using this
  rw[this]
theorem f97(l:LI)(hl:l.length<4294967296):FG 97 [.own 1 (l.map I)] (.own 1 ((zHj l).map I)):=by
 refine zAe Tryz.f97 ?_;refine zAh 1<|zAc<|zAl 1<|S_a [(0,.n l.length)] (ap (lnS I l) an)<|S_g 1<|zB2 ((l.length:Int)<2) (fun k0=>(zAl 1<|S_a [(2,.yes)] (ap ((by exact zA7 (by simp<;>omega)):(beq 0 0&&(map I l).length.beq (map I l).length)=true) an)<|zAR<|zAk<|E_a [(1,.yes),(1,.v (own 1 (map I l)))] (ap (blz (map I l))<|ap ((zAK zAL):own 1 (take (map I l).length (drop 0 (map I l)))=own 1 (map I l)) an) (own 1 (map I l)) [] ?_ rfl)) (fun k0=>(zAf<|zAc<|zAh 1<|zAd 0 ?_))
 ·have:=zHW (l:=l) l.length (bi _) fun j h1 h2=>by omega
  rw[dp] at this;rw[this]
 ·refine zAo (fun k=>1<=k/\k<=l.length/\∀ j,1<=j->j<k->l.getD j 0≠l.getD (j-1) 0) (fun k=>[(3,I (k:Nat))]) (fun k=>l.length-k) (1:Nat) ⟨by omega,by omega,fun j h1 h2=>absurd h1 (by omega)⟩ fun k ⟨jV,hk,ha⟩=>?_;have jl:=zHW k hk ha;refine zAc<|zAl 2<|S_a [(0,.n l.length)] (ap (lnS I l) an)<|S_g 1<|zB2 ((k:Int)<(l.length:Int)) (fun k2=>(zAf<|zAc<|zAd 1<|zAl 2<|S_a [(2,.ob),(1,.n k)] (ap ((by exact zAt (by simp only[bf,zzLn]<;>omega)):decide (k<(map I l).length)=true)<|ap ((by simp):some (0+k)=some k) an)<|S_a [(0,.cs false ([I (l.getD k 0)]))] (ap (zDe (q:=own 1 (map I l)) (xs:=map I l) (x:=I (l.getD k 0)) rfl (zBi (0) (by omega)):zAy 0 (own 1 (map I l)) [] k 0 1=some (false,[I (l.getD k 0)])) an)<|zAn 2<|S_a [(1,.v (I (↑(k-1):Int)))] (ap ((zBY (by omega) (by omega)):I (IntKind.i64.wrap ((k:Int)-1))=I (↑(k-1):Int)) an)<|S_a [(2,.ob),(1,.n (k-1))] (ap ((by exact zAt (by simp only[bf,zzLn]<;>omega)):decide (k-1<(map I l).length)=true)<|ap ((by simp):some (0+(k-1))=some (k-1)) an)<|S_a [(0,.cs false ([I (l.getD (k-1) 0)]))] (ap (zDe (q:=own 1 (map I l)) (xs:=map I l) (x:=I (l.getD (k-1) 0)) rfl (zBi (0) (by omega)):zAy 0 (own 1 (map I l)) [] (k-1) 0 1=some (false,[I (l.getD (k-1) 0)])) an)<|S_g 1<|zB2 (l.getD k 0=l.getD (k-1) 0) (fun k3=>(zAl 2<|S_a [(3,.ob),(0,.yes),(0,.yes),(0,.v (bor 0 [] 1 k (l.length-k)))] (ap ((by exact zAQ (by simp only[bf,zzLn,zAJ]<;>omega)):k.ble (map I l).length=true)<|ap ((by exact zAQ (by simp only[bf,zzLn,zAJ]<;>omega)):(map I l).length.ble (map I l).length=true)<|ap ((by simp<;>omega):(k.beq 0||k.blt (map I l).length)=true)<|ap ((by simp):bor 0 [] 1 (0+k) ((map I l).length-k)=bor 0 [] 1 k (l.length-k)) an)<|S_g 1<|zAc<|zAh 1<|zAd 2 ?_)) (fun k3=>(zAf<|zAb<|zAn 1<|S_i k<|S_g 1 ?_)))) (fun k2=>(zAq 0<|zAl 1<|S_a [(2,.yes)] (ap ((by exact zA7 (by simp<;>omega)):(beq 0 0&&(map I l).length.beq (map I l).length)=true) an)<|zAR<|zAk<|E_a [(1,.yes),(1,.v (own 1 (map I l)))] (ap (blz (map I l))<|ap ((zAK zAL):own 1 (take (map I l).length (drop 0 (map I l)))=own 1 (map I l)) an) (own 1 (map I l)) [] ?_ rfl))
  ·have e0:zHj (l.take (k+1))=l.take k:=by rw[zHY (by omega) (by omega),if_pos k3,jl]
   clear ha jl;refine zAo (fun(p,q,S)=>1<=q/\k+q<=l.length/\p<k+q/\S.length=l.length/\S.take p=zHj (l.take (k+q))/\∀ j,k+q<=j+1->S.getD j 0=l.getD j 0) (fun(p,q,S)=>[(0,.own 1 (S.map I)),(3,I (p:Nat)),(5,I (q:Nat))]) (fun(p,q,S)=>l.length-(k+q)) (k,(1:Nat),l) ⟨by omega,by omega,by omega,rfl,e0.symm,fun _ _=>rfl⟩ fun(p,q,S) ⟨hq,hkq,hp,hS,hc,hd⟩=>?_;have ud:(zHj (l.take (k+q))).length=p:=by rw[<- hc,bZ];omega
   by_cases kd:k+q<l.length
   ·have hx:=hd (k+q) (by omega);have hy:=hd (k+q-1) (by omega);have yD:=zHY (l:=l) (i:=k+q) (by omega) kd;have qL:=hd;clear hd;refine zAc<|zAh 4<|zAs ((q:Int)<(↑(l.length-k):Int)) (by omega)<|zAf<|zAc<|zAd 3<|zAl 2<|S_a [(2,.ob)] (ap ((by exact zAt (by omega)):decide (q<l.length-k)=true) an)<|S_a [(0,.cs false ([I (S.getD (k+q) 0)]))] (ap (zDe (q:=own 1 (map I S)) (xs:=map I S) (x:=I (S.getD (k+q) 0)) rfl (zBi (0) (by omega)):zAy 0 (own 1 (map I S)) [] (k+(q:Int).toNat) 0 1=some (false,[I (S.getD (k+q) 0)])) an)<|zAn 2<|S_a [(1,.v (I (↑(q-1):Int)))] (ap ((zBY (by omega) (by omega)):I (IntKind.i64.wrap ((q:Int)-1))=I (↑(q-1):Int)) an)<|S_a [(2,.ob)] (ap ((by exact zAt (by omega)):decide (q-1<l.length-k)=true) an)<|S_a [(0,.cs false ([I (S.getD (k+(q-1)) 0)]))] (ap (zDe (q:=own 1 (map I S)) (xs:=map I S) (x:=I (S.getD (k+(q-1)) 0)) rfl (zBi (0) (by omega)):zAy 0 (own 1 (map I S)) [] (k+(↑(q-1):Int).toNat) 0 1=some (false,[I (S.getD (k+(q-1)) 0)])) an)<|S_g 1<|zDk (S.getD (k+q) 0=S.getD (k+(q-1)) 0) (fun k4=>(zAl 4<|S_a [(2,.ob)] (ap ((by exact zAt (by omega)):decide (q<l.length-k)=true) an)<|S_a [(0,.cs false ([I (S.getD (k+q) 0)]))] (ap (zDe (q:=own 1 (map I S)) (xs:=map I S) (x:=I (S.getD (k+q) 0)) rfl (zBi (0) (by omega)):zAy 0 (own 1 (map I S)) [] (k+(q:Int).toNat) 0 1=some (false,[I (S.getD (k+q) 0)])) an)<|S_a [(2,.ob),(1,.n p)] (ap ((by exact zAt (by simp only[bf,zzLn]<;>omega)):decide (p<(map I S).length)=true)<|ap ((by simp):some (0+p)=some p) an)<|S_a [(8,.root (own 1 (map I (S.set p (S.getD (k+q) 0)))) true)] (ap (zOD (zBi (0) (by omega)) zFo:zBG (own 1 (map I S)) [] p 0 (I (S.getD (k+q) 0)).cells=some (own 1 (map I (S.set p (S.getD (k+q) 0))))/\zAP (own 1 (map I S)) (own 1 (map I (S.set p (S.getD (k+q) 0)))) []=true) an)<|zAR<|zAb<|zAn 1<|S_i p<|S_g 1<|zAb<|zAn 1<|S_i q<|S_g 1 ?_)) (fun k4=>(zAf<|zAb<|zAn 1<|S_i q<|S_g 1 ?_))
    ·rw[show k+(q-1)=k+q-1 by omega,hx,hy] at k4;rw[if_neg k4] at yD;refine⟨(p+1,q+1,S.set p (S.getD (k+q) 0)),⟨by omega,by omega,by omega,by simpa using hS,?_,fun j hj=>?_⟩,by simp only;omega,by kernel_rfl,by kernel_rfl⟩
     ·rw[<- cg,yD,<- hc,hx,zL2 (by omega)]
     ·rw[zCY,if_neg (by omega)];exact qL j (by omega)
    ·rw[show k+(q-1)=k+q-1 by omega,hx,hy] at k4;rw[if_pos k4] at yD;exact rnd (p,q+1,S) ⟨by omega,by omega,by omega,hS,by rw[<- cg,yD,hc],fun j hj=>qL j (by omega)⟩ (by simp only;omega)
   ·refine zAc<|zAh 4<|zAu ((q:Int)<(↑(l.length-k):Int)) (by omega)<|zAq 2<|zAl 2<|S_a [(3,.ob),(0,.yes),(0,.yes),(0,.v (bor 0 [] 1 p (S.length-p)))] (ap ((by exact zAQ (by simp only[bf,zzLn,zAJ]<;>omega)):p.ble (map I S).length=true)<|ap ((by exact zAQ (by simp only[bf,zzLn,zAJ]<;>omega)):(map I S).length.ble (map I S).length=true)<|ap ((by simp<;>omega):(p.beq 0||p.blt (map I S).length)=true)<|ap ((by simp):bor 0 [] 1 (0+p) ((map I S).length-p)=bor 0 [] 1 p (S.length-p)) an)<|zOh (g:=I) (fun q=>q) 0 1 p (S.length-p) S (0) (by first|omega|(simp<;>omega)) ⟨rfl,rfl⟩ (fun _=>(by first|exact zFK|exact⟨rfl,rfl,rfl,rfl,bi _,rfl⟩)) zOd.nil (zAR<|zAl 2<|S_a [(4,.yes)] (ap ((by exact zAQ (by simp<;>omega)):p.ble (map I (take p S++replicate (S.length-p) 0++drop (p+(S.length-p)) S)).length=true) an)<|S_g 1<|zAk<|E_a [(1,.yes),(1,.v (own 1 (map I (take p (take p S++replicate (S.length-p) 0++drop (p+(S.length-p)) S)))))] (ap ((by exact zAQ (by simp<;>omega)):(0+((p:Int).toNat-0)).ble (map I (take p S++replicate (S.length-p) 0++drop (p+(S.length-p)) S)).length=true)<|ap ((by simp):own 1 (take p (drop 0 (map I (take p S++replicate (S.length-p) 0++drop (p+(S.length-p)) S))))=own 1 (map I (take p (take p S++replicate (S.length-p) 0++drop (p+(S.length-p)) S)))) an) (own 1 (map I (take p (take p S++replicate (S.length-p) 0++drop (p+(S.length-p)) S)))) [] ?_ rfl)
    rw[show k+q=l.length by omega,dp] at hc;rw[<- hc,cK,dz (by rw[bZ];omega),im,iY]
  ·refine⟨k+1,⟨by omega,by omega,fun j h1 h2=>?_⟩,by omega,by kernel_rfl,by kernel_rfl⟩;by_cases hj:j=k
   ·subst hj;assumption
   ·exact ha j h1 (by omega)
  ·rw[show k=l.length by omega,dp] at jl;rw[jl]
end
end Go.Eng
set_option maxRecDepth 10000
set_option maxHeartbeats 4000000
namespace Go.Eng
open Go Go.Proofs
def zHr(h:Int)(x:Int×Int):Bool:=inB x.1 0 (h-1)&&inB x.2 0 (h-1)
def zIz(x:Int×Int):Bool:=decide (x.1≠x.2)
def zBF(h:Int)(l:LP):Int:=if (l.all fun x=>zHr h x)=true then if (l.all fun x=>zIz x)=true then if (l.map pr2).Nodup then 0 else 5 else 8 else 1
def zOl(l:List (Int×Bool)):Bool:=(range l.length).all fun i=>inB (l.getD i d0).1 (-1) ((i:Int)-1)
def zMN(l:List (Int×Bool))(i:Nat):Bool:=decide ((l.getD i d0).1≠-1)&&(l.take i).any fun y=>decide (y.1=(l.getD i d0).1)
def zCK(l:List (Int×Bool)):Int:=if zOl l=true then if (range l.length).any (zMN l)=true then 5 else 0 else 1
def zDx(l:LI):Bool:=zFZ l&&decide ((zHj l).length=l.length)
def zJD(h:Int)(l:LI):Bool:=l.all fun x=>inB x 0 (h-1)
def zDg(n:Nw):Int :=
 if (!inB n.h 1 10)=true then 2 else if (n.l.length:Int)>15 then 2 else if (!inB n.n.length 1 8)=true then 2 else if (!inB n.s.length 1 6)=true then 2
 else if zBF n.h n.l=0 then
  if zCK n.n=0 then
   if (!n.s.all fun x=>zJD n.h x)=true then 1 else if (!n.s.all fun x=>zDx x)=true then 4 else 0
  else zCK n.n
 else zBF n.h n.l
theorem zYV{n lo hi:Int}(h:(!inB n lo hi)=false):lo<=n/\n<=hi:=by simpa[inB] using h
abbrev zFg(x:Int×Int):PV×PV:=(prV x,.bool true)
theorem zP7{M:LP}(x:Int×Int):zCk Tryz.prog 87 (prV x) (M.map zFg) 0=some (M.findIdx? fun y=>decide (x=y)):=by
 rw[zJI (kx:=Prod.fst) (ky:=Prod.snd) (fun _=>rfl) (zT1) x.1 x.2 M 0];simp[zNj]
theorem zSo{M:LP}{x:Int×Int}(h:x∈M):∃ j,j<M.length/\zCk Tryz.prog 87 (prV x) (M.map zFg) 0=some (some j):=by
 rw[zP7]
 cases hf:M.findIdx? fun y=>decide (x=y) with
 |none=>
  rw[dw] at hf;have:=hf x h;simp at this
 |some j=>exact⟨j,(dj.1 hf).1,rfl⟩
theorem zLN{M:LP}{x:Int×Int}(h:x∉M):zCk Tryz.prog 87 (prV x) (M.map zFg) 0=some none:=by
 rw[zP7,dw.2];intro y hy;simp only[decide_eq_false_iff_not];intro e;subst e;exact h hy
structure Small (n:Nw):Prop where
 hl:n.l.length<1000000
 hn:n.n.length<1000000
 hs:n.s.length<1000000
 hr:∀ x∈n.s,x.length<1000000
section
variable [Yo]
theorem f196(n:Nw)(x:Int×Int)(hb:1<=n.h/\n.h<=10):FG 196 [prV x,.ref (nwV n)] (.bool (zHr n.h x)):=by
 refine zAe Tryz.f196 ?_;refine zAh 2<|zAl 1<|zAn 1<|zAn 1<|S_a [(8,.ret (bool (inB x.fst 0 (n.h-1))) [])] (ap (f109 n x.fst (by omega)) an)<|zAn 1<|zEq 8 (inB x.fst 0 (n.h-1)) (fun k0=>(zAn 1<|zAn 1<|zAn 1<|S_a [(8,.ret (bool (inB x.snd 0 (n.h-1))) [])] (ap (f109 n x.snd (by omega)) an)<|S_g 2<|zAk<|E_a [] an (bool (inB x.snd 0 (n.h-1))) [] ?_ rfl)) (fun k0=>(S_g 6<|zAk<|E_a [] an (bool false) [] ?_ rfl))
 ·simp only[zHr,k0,ci]
 ·simp only[zHr,k0,di]
theorem f197(x:Int×Int):FG 197 [prV x] (.bool (zIz x)):=by
 refine zAe Tryz.f197 ?_;refine zAh 2<|zAl 1<|zAn 1<|zAn 1<|S_g 3<|zAk<|E_a [] an (bool (x.fst != x.snd)) [] ?_ rfl
 congr 1;rw[cA];simp[zIz]
theorem f199(x y:Int×Bool):FG 199 [ntV y,.ref (ntV x)] (.bool (decide (y.1=x.1))):=by
 refine zAe Tryz.f199 ?_;refine zAh 2<|zAh 6<|zAk E_0
theorem f168_1(n:Nw)(hb:1<=n.h/\n.h<=10)(x:Int):FG 168 [I x,.ref (.func 109 [nwV n] [])] (.bool (!(inB x 0 (n.h-1)))):=by
 refine zAe Tryz.f168 ?_;refine zAh 1<|zAl 2<|S_a [(8,.ret (bool (inB x 0 (n.h-1))) [])] (ap (f109 n x (by omega)) an)<|S_g 2<|zAk E_0
theorem f131_1(n:Nw)(hb:1<=n.h/\n.h<=10)(l:List (Int))(hl:l.length<4294967296):FG 131 [.sl (l.map I),.func 168 [] [.ref (.func 109 [nwV n] [])]] (I (zEi (fun x=>!(inB x 0 (n.h-1))) l)):=by
 refine zAe Tryz.f131 ?_;refine zAh 1<|zAc<|zAl 1<|S_a [(0,.n l.length)] (ap (lnS I l) an)<|S_g 1<|zAd 0 ?_
 refine zAo (fun i=>i<=l.length/\∀ j,j<i->(fun x=>!(inB x 0 (n.h-1))) (l.getD j 0)=false) (fun i=>[(8,I (i:Nat))]) (fun i=>l.length-i) (0:Nat) (by simp) fun i ⟨hi,ha⟩=>?_;refine zAh 1<|zAc<|zB2 ((i:Int)<(l.length:Int)) (fun k0=>(zAf<|zAc<|zAd 1<|zAh 2<|zAl 3<|S_a [(2,.v (I (l.getD i 0)))] (ap (zBi (0) (by omega):(map I l)[i]? = some (I (l.getD i 0))) an)<|zAn 1<|S_a [(7,.ret (bool !inB (l.getD i 0) 0 (n.h-1)) [])] (ap (f168_1 n (by omega) (l.getD i 0)) an)<|zAR<|zDw (!inB (l.getD i 0) 0 (n.h-1)) (fun k1=>(zAh 2<|zAk<|E_a [] an (I (i:Int)) [] ?_ rfl)) (fun k1=>(zAf<|zAb<|S_i i<|S_g 1 ?_)))) (fun k0=>(zAq 0<|zAh 1<|zAk<|E_a [] an (I (-1)) [] ?_ rfl))
 ·rw[zBK (i:=i) (by omega) (fun j hj=>by rw[<- zAp (d:=0)];exact ha j hj) (by rw[<- zAp (d:=0)];first|assumption|exact decide_eq_true ‹_›|(simp only[bF,decide_eq_false_iff_not];assumption))]
 ·refine⟨i+1,⟨by omega,fun j hj=>?_⟩,by omega,by kernel_rfl,by kernel_rfl⟩;rcases bC.1 hj with h|rfl
  ·exact ha j h
  ·first|assumption|exact decide_eq_false ‹_›|(simp only[bI,decide_eq_true_eq];first|assumption|(apply db;assumption))
 ·rw[zB6 fun j hj=>by rw[<- zAp (d:=0)];exact ha j (by omega)]
theorem f52_1(n:Nw)(hb:1<=n.h/\n.h<=10)(l:List (Int))(hl:l.length<4294967296):FG 52 [.sl (l.map I),.func 168 [] [.ref (.func 109 [nwV n] [])]] (.bool (l.any (fun x=>!(inB x 0 (n.h-1))))):=by
 refine zAe Tryz.f52 ?_;refine zAh 1<|zAl 2<|S_a [(7,.ret (I (zEi (fun x=>!inB x 0 (n.h-1)) l)) [])] (ap (f131_1 n (by omega) l (by omega)) an)<|S_g 2<|zAk<|E_a [] an (bool (decide (zEi (fun x=>!inB x 0 (n.h-1)) l>=0))) [] ?_ rfl
 rw[zDI]
theorem f108_1(n:Nw)(hb:1<=n.h/\n.h<=10)(l:List (Int))(hl:l.length<4294967296):FG 108 [.sl (l.map I),.func 109 [nwV n] []] (.bool (l.all (fun x=>inB x 0 (n.h-1)))):=by
 refine zAe Tryz.f108 ?_;refine zAh 2<|zAl 2<|S_a [(12,.ret (bool (l.any fun x=>!inB x 0 (n.h-1))) [])] (ap (f52_1 n (by omega) l (by omega)) an)<|S_g 2<|zAk<|E_a [] an (bool !l.any fun x=>!inB x 0 (n.h-1)) [] ?_ rfl
 simp[cX]
theorem f221_1(n:Nw)(hb:1<=n.h/\n.h<=10)(x:Int×Int):FG 221 [prV x,.ref (.func 196 [] [.ref (nwV n)])] (.bool (!(zHr n.h x))):=by
 refine zAe Tryz.f221 ?_;refine zAh 2<|zAl 2<|S_a [(7,.ret (bool (zHr n.h x)) [])] (ap (f196 n x (by omega)) an)<|S_g 2<|zAk E_0
theorem f202_1(n:Nw)(hb:1<=n.h/\n.h<=10)(l:LP)(hl:l.length<4294967296):FG 202 [.sl (l.map prV),.func 221 [] [.ref (.func 196 [] [.ref (nwV n)])]] (I (zEi (fun x=>!(zHr n.h x)) l)):=by
 refine zAe Tryz.f202 ?_;refine zAh 1<|zAc<|zAl 1<|S_a [(0,.n l.length)] (ap (lnS prV l) an)<|S_g 1<|zAd 0 ?_
 refine zAo (fun i=>i<=l.length/\∀ j,j<i->(fun x=>!(zHr n.h x)) (l.getD j d0)=false) (fun i=>[(8,I (i:Nat))]) (fun i=>l.length-i) (0:Nat) (by simp) fun i ⟨hi,ha⟩=>?_;refine zAh 1<|zAc<|zB2 ((i:Int)<(l.length:Int)) (fun k0=>(zAf<|zAc<|zAd 1<|zAh 2<|zAl 3<|S_a [(2,.v (prV (l.getD i d0)))] (ap (zBi d0 (by omega):(map prV l)[i]? = some (prV (l.getD i d0))) an)<|zAn 1<|S_a [(7,.ret (bool !zHr n.h (l.getD i d0)) [])] (ap (f221_1 n (by omega) (l.getD i d0)) an)<|zAR<|zDw (!zHr n.h (l.getD i d0)) (fun k1=>(zAh 2<|zAk<|E_a [] an (I (i:Int)) [] ?_ rfl)) (fun k1=>(zAf<|zAb<|S_i i<|S_g 1 ?_)))) (fun k0=>(zAq 0<|zAh 1<|zAk<|E_a [] an (I (-1)) [] ?_ rfl))
 ·rw[zBK (i:=i) (by omega) (fun j hj=>by rw[<- zAp (d:=d0)];exact ha j hj) (by rw[<- zAp (d:=d0)];first|assumption|exact decide_eq_true ‹_›|(simp only[bF,decide_eq_false_iff_not];assumption))]
 ·refine⟨i+1,⟨by omega,fun j hj=>?_⟩,by omega,by kernel_rfl,by kernel_rfl⟩;rcases bC.1 hj with h|rfl
  ·exact ha j h
  ·first|assumption|exact decide_eq_false ‹_›|(simp only[bI,decide_eq_true_eq];first|assumption|(apply db;assumption))
 ·rw[zB6 fun j hj=>by rw[<- zAp (d:=d0)];exact ha j (by omega)]
theorem f156_1(n:Nw)(hb:1<=n.h/\n.h<=10)(l:LP)(hl:l.length<4294967296):FG 156 [.sl (l.map prV),.func 221 [] [.ref (.func 196 [] [.ref (nwV n)])]] (.bool (l.any (fun x=>!(zHr n.h x)))):=by
 refine zAe Tryz.f156 ?_;refine zAh 1<|zAl 2<|S_a [(7,.ret (I (zEi (fun x=>!zHr n.h x) l)) [])] (ap (f202_1 n (by omega) l (by omega)) an)<|S_g 2<|zAk<|E_a [] an (bool (decide (zEi (fun x=>!zHr n.h x) l>=0))) [] ?_ rfl
 rw[zDI]
theorem f195_1(n:Nw)(hb:1<=n.h/\n.h<=10)(l:LP)(hl:l.length<4294967296):FG 195 [.sl (l.map prV),.func 196 [] [.ref (nwV n)]] (.bool (l.all (fun x=>zHr n.h x))):=by
 refine zAe Tryz.f195 ?_;refine zAh 2<|zAl 2<|S_a [(12,.ret (bool (l.any fun x=>!zHr n.h x)) [])] (ap (f156_1 n (by omega) l (by omega)) an)<|S_g 2<|zAk<|E_a [] an (bool !l.any fun x=>!zHr n.h x) [] ?_ rfl
 simp[cX]
theorem f221_2(x:Int×Int):FG 221 [prV x,.ref (.func 197 [] [])] (.bool (!(zIz x))):=by
 refine zAe Tryz.f221 ?_;refine zAh 2<|zAl 2<|S_a [(6,.ret (bool (zIz x)) [])] (ap (f197 x) an)<|S_g 2<|zAk E_0
theorem f202_2(l:LP)(hl:l.length<4294967296):FG 202 [.sl (l.map prV),.func 221 [] [.ref (.func 197 [] [])]] (I (zEi (fun x=>!(zIz x)) l)):=by
 refine zAe Tryz.f202 ?_;refine zAh 1<|zAc<|zAl 1<|S_a [(0,.n l.length)] (ap (lnS prV l) an)<|S_g 1<|zAd 0 ?_
 refine zAo (fun i=>i<=l.length/\∀ j,j<i->(fun x=>!(zIz x)) (l.getD j d0)=false) (fun i=>[(8,I (i:Nat))]) (fun i=>l.length-i) (0:Nat) (by simp) fun i ⟨hi,ha⟩=>?_;refine zAh 1<|zAc<|zB2 ((i:Int)<(l.length:Int)) (fun k0=>(zAf<|zAc<|zAd 1<|zAh 2<|zAl 3<|S_a [(2,.v (prV (l.getD i d0)))] (ap (zBi d0 (by omega):(map prV l)[i]? = some (prV (l.getD i d0))) an)<|zAn 1<|S_a [(7,.ret (bool !zIz (l.getD i d0)) [])] (ap (f221_2 (l.getD i d0)) an)<|zAR<|zDw (!zIz (l.getD i d0)) (fun k1=>(zAh 2<|zAk<|E_a [] an (I (i:Int)) [] ?_ rfl)) (fun k1=>(zAf<|zAb<|S_i i<|S_g 1 ?_)))) (fun k0=>(zAq 0<|zAh 1<|zAk<|E_a [] an (I (-1)) [] ?_ rfl))
 ·rw[zBK (i:=i) (by omega) (fun j hj=>by rw[<- zAp (d:=d0)];exact ha j hj) (by rw[<- zAp (d:=d0)];first|assumption|exact decide_eq_true ‹_›|(simp only[bF,decide_eq_false_iff_not];assumption))]
 ·refine⟨i+1,⟨by omega,fun j hj=>?_⟩,by omega,by kernel_rfl,by kernel_rfl⟩;rcases bC.1 hj with h|rfl
  ·exact ha j h
  ·first|assumption|exact decide_eq_false ‹_›|(simp only[bI,decide_eq_true_eq];first|assumption|(apply db;assumption))
 ·rw[zB6 fun j hj=>by rw[<- zAp (d:=d0)];exact ha j (by omega)]
theorem f156_2(l:LP)(hl:l.length<4294967296):FG 156 [.sl (l.map prV),.func 221 [] [.ref (.func 197 [] [])]] (.bool (l.any (fun x=>!(zIz x)))):=by
 refine zAe Tryz.f156 ?_;refine zAh 1<|zAl 2<|S_a [(7,.ret (I (zEi (fun x=>!zIz x) l)) [])] (ap (f202_2 l (by omega)) an)<|S_g 2<|zAk<|E_a [] an (bool (decide (zEi (fun x=>!zIz x) l>=0))) [] ?_ rfl
 rw[zDI]
theorem f195_2(l:LP)(hl:l.length<4294967296):FG 195 [.sl (l.map prV),.func 197 [] []] (.bool (l.all (fun x=>zIz x))):=by
 refine zAe Tryz.f195 ?_;refine zAh 2<|zAl 2<|S_a [(12,.ret (bool (l.any fun x=>!zIz x)) [])] (ap (f156_2 l (by omega)) an)<|S_g 2<|zAk<|E_a [] an (bool !l.any fun x=>!zIz x) [] ?_ rfl
 simp[cX]
theorem f222_1(y:Int)(yb:Bool)(l:List (Int×Bool))(hl:l.length<4294967296):FG 222 [.sl (l.map ntV),.func 199 [] [.ref (.agg [I y,.bool yb])]] (I (zEi (fun x=>decide (x.1=y)) l)):=by
 refine zAe Tryz.f222 ?_;refine zAh 1<|zAc<|zAl 1<|S_a [(0,.n l.length)] (ap (lnS ntV l) an)<|S_g 1<|zAd 0 ?_
 refine zAo (fun i=>i<=l.length/\∀ j,j<i->(fun x=>decide (x.1=y)) (l.getD j d0)=false) (fun i=>[(8,I (i:Nat))]) (fun i=>l.length-i) (0:Nat) (by simp) fun i ⟨hi,ha⟩=>?_;refine zAh 1<|zAc<|zB2 ((i:Int)<(l.length:Int)) (fun k0=>(zAf<|zAc<|zAd 1<|zAh 2<|zAl 3<|S_a [(2,.v (agg [I (l.getD i d0).fst,bool (l.getD i d0).snd]))] (ap (zBi d0 (by omega):(map ntV l)[i]? = some (agg [I (l.getD i d0).fst,bool (l.getD i d0).snd])) an)<|zAn 1<|S_a [(7,.ret (bool (decide ((l.getD i d0).fst=(y,yb).fst))) [])] (ap (f199 ((y,yb)) (l.getD i d0)) an)<|zAR<|zB2 ((l.getD i d0).fst=(y,yb).fst) (fun k1=>(zAh 2<|zAk<|E_a [] an (I (i:Int)) [] ?_ rfl)) (fun k1=>(zAf<|zAb<|S_i i<|S_g 1 ?_)))) (fun k0=>(zAq 0<|zAh 1<|zAk<|E_a [] an (I (-1)) [] ?_ rfl))
 ·rw[zBK (i:=i) (by omega) (fun j hj=>by rw[<- zAp (d:=d0)];exact ha j hj) (by rw[<- zAp (d:=d0)];first|assumption|exact decide_eq_true ‹_›|(simp only[bF,decide_eq_false_iff_not];assumption))]
 ·refine⟨i+1,⟨by omega,fun j hj=>?_⟩,by omega,by kernel_rfl,by kernel_rfl⟩;rcases bC.1 hj with h|rfl
  ·exact ha j h
  ·first|assumption|exact decide_eq_false ‹_›|(simp only[bI,decide_eq_true_eq];first|assumption|(apply db;assumption))
 ·rw[zB6 fun j hj=>by rw[<- zAp (d:=d0)];exact ha j (by omega)]
theorem f198_1(y:Int)(yb:Bool)(l:List (Int×Bool))(hl:l.length<4294967296):FG 198 [.sl (l.map ntV),.func 199 [] [.ref (.agg [I y,.bool yb])]] (.bool (l.any (fun x=>decide (x.1=y)))):=by
 refine zAe Tryz.f198 ?_;refine zAh 1<|zAl 2<|S_a [(7,.ret (I (zEi (fun x=>decide (x.fst=y)) l)) [])] (ap (f222_1 y yb l (by omega)) an)<|S_g 2<|zAk<|E_a [] an (bool (decide (zEi (fun x=>decide (x.fst=y)) l>=0))) [] ?_ rfl
 rw[zDI]
theorem f150(n:Nw)(hb:1<=n.h/\n.h<=10)(hl:n.l.length<=15):FG 150 [nwV n] (I (zBF n.h n.l)):=by
 refine zAe Tryz.f150 ?_;refine zAh 2<|zAc<|zAd 0<|zAl 3<|S_a [(13,.ret (bool (n.l.all fun x=>zHr n.h x)) [])] (ap (f195_1 n (by omega) n.l (by omega)) an)<|S_g 2<|zDw (!n.l.all fun x=>zHr n.h x) (fun k0=>(zAh 1<|zAk<|E_a [] an (I 1) [] ?_ rfl)) (fun k0=>(zAl 2<|S_a [(7,.ret (bool (n.l.all fun x=>zIz x)) [])] (ap (f195_2 n.l (by omega)) an)<|S_g 2<|zDw (!n.l.all fun x=>zIz x) (fun k1=>(zAh 1<|zAk<|E_a [] an (I 8) [] ?_ rfl)) (fun k1=>(zAf<|zAh 2<|zAc<|zAl 2<|S_a [(0,.n n.l.length)] (ap (lnS prV n.l) an)<|S_g 1<|zAd 1 ?_))))
 ·rw[bF] at k0;simp[zBF,k0]
 ·rw[bI] at k0;rw[bF] at k1;simp[zBF,k0,k1]
 ·refine zAo (fun(i,M)=>i<=n.l.length/\M=(n.l.take i).map pr2/\M.Nodup) (fun(i,M)=>[(3,.omap (M.map zFg)),(21,I (i:Nat))]) (fun(i,_)=>n.l.length-i) ((0:Nat),([]:LP)) ⟨bG _,rfl,cj⟩ fun(i,M) ⟨hi,hM,hN⟩=>?_;by_cases yB:i<n.l.length
  ·have yF:(n.l.take (i+1)).map pr2=M++[pr2 (n.l.getD i d0)]:=by rw[zBs (d:=d0) yB,cJ,<- hM];rfl
   by_cases hin:pr2 (n.l.getD i d0)∈M
   ·obtain⟨j,hj,yM⟩:=zSo hin;have jP:zEP (M.map zFg) j=some (.bool true):=by simp[zEP,hj]
    refine zAh 1<|zAc<|zAs ((i:Int)<(n.l.length:Int)) (by omega)<|zAf<|zAc<|zAd 2<|zAc<|zAb<|S_a [(2,.v (prV (n.l.getD i d0)))] (ap (zBi d0 (by omega):(map prV n.l)[i]? = some (prV (n.l.getD i d0))) an)<|S_g 3<|zAc<|zAl 2<|S_a [(6,.ret (prV (pr2 (n.l.getD i d0))) [])] (ap (f110 (n.l.getD i d0)) an)<|S_a [(3,.ix (some j)),(0,.v (bool true))] (ap yM<|ap (jP:zEP (map zFg M) j=some (bool true)) an)<|zAR<|zBD<|zAh 1<|zAk<|E_a [] an (I 5) [] ?_ rfl
    rw[bI] at k0 k1;have yU:¬ (n.l.map pr2).Nodup:=fun h=>by
     rw[<- cF (i+1) n.l,cJ,yF] at h;have h2:=(bW.1 h).1;have h3:=(bW.1 h2).2.2;exact h3 _ hin _ (bw.2 rfl) rfl
    simp only[zBF,k0,k1,yU,if_true,if_false]
   ·have yM:=zLN hin;refine zAh 1<|zAc<|zAs ((i:Int)<(n.l.length:Int)) (by omega)<|zAf<|zAc<|zAd 2<|zAc<|zAb<|S_a [(2,.v (prV (n.l.getD i d0)))] (ap (zBi d0 (by omega):(map prV n.l)[i]? = some (prV (n.l.getD i d0))) an)<|S_g 3<|zAc<|zAl 2<|S_a [(6,.ret (prV (pr2 (n.l.getD i d0))) [])] (ap (f110 (n.l.getD i d0)) an)<|S_a [(3,.ix none)] (ap yM an)<|zAR<|zAD<|zAf<|zAb<|zAn 2<|S_a [(6,.ret (prV (pr2 (n.l.getD i d0))) [])] (ap (f110 (n.l.getD i d0)) an)<|S_a [(4,.ix none),(0,.v (omap (map zFg (M++[pr2 (n.l.getD i d0)]))))] (ap yM<|ap ((by simp):omap (map zFg M++[(prV (pr2 (n.l.getD i d0)),bool true)])=omap (map zFg (M++[pr2 (n.l.getD i d0)]))) an)<|zAR<|zAb<|S_i i<|S_g 1 ?_
    refine⟨(i+1,M++[pr2 (n.l.getD i d0)]),⟨by omega,yF.symm,?_⟩,by simp only;omega,by kernel_rfl,by kernel_rfl⟩;rw[bW];refine⟨hN,by simp,fun a ha b hb=>?_⟩;rw[bw] at hb;subst hb;intro e;subst e;exact hin ha
  ·refine zAh 1<|zAc<|zAu ((i:Int)<(n.l.length:Int)) (by omega)<|zAq 1<|zAh 1<|zAk<|E_a [] an (I 0) [] ?_ rfl
   rw[bI] at k0 k1;rw[bp (by omega)] at hM;rw[hM] at hN;simp only[zBF,k0,k1,hN,if_true]
theorem f151(n:Nw)(hl:n.n.length<=8):FG 151 [nwV n] (I (zCK n.n)):=by
 refine zAe Tryz.f151 ?_;refine zAh 2<|zAc<|zAl 2<|S_a [(0,.n n.n.length)] (ap (lnS ntV n.n) an)<|S_g 1<|zAd 0 ?_
 refine zAo (fun i=>i<=n.n.length/\∀ j,j<i->inB (n.n.getD j d0).1 (-1) ((j:Int)-1)=true) (fun i=>[(10,I (i:Nat))]) (fun i=>n.n.length-i) (0:Nat) ⟨bG _,fun j h=>absurd h (bH _)⟩ fun i ⟨hi,ha⟩=>?_;refine zAh 1<|zAc<|zB2 ((i:Int)<(n.n.length:Int)) (fun k0=>(zAf<|zAc<|zAd 1<|zAl 1<|S_a [(2,.v (agg [I (n.n.getD i d0).fst,bool (n.n.getD i d0).snd]))] (ap (zBi d0 (by omega):(map ntV n.n)[i]? = some (agg [I (n.n.getD i d0).fst,bool (n.n.getD i d0).snd])) an)<|S_g 4<|zAl 3<|S_a [(1,.v (I ((i:Int)-1)))] (ap ((zBY rfl (by omega)):I (IntKind.i64.wrap ((i:Int)-1))=I ((i:Int)-1)) an)<|S_a [(10,.ret (bool (inB (n.n.getD i d0).fst (-1) ((i:Int)-1))) [])] (ap (f107 ((n.n.getD i d0).fst) (-1) ((i:Int)-1)) an)<|S_g 1<|zDw (!inB (n.n.getD i d0).fst (-1) ((i:Int)-1)) (fun k1=>(zAh 1<|zAk<|E_a [] an (I 1) [] ?_ rfl)) (fun k1=>(zAf<|zAb<|S_i i<|S_g 1 ?_)))) (fun k0=>(zAq 0<|zAc<|zAl 2<|S_a [(0,.n n.n.length)] (ap (lnS ntV n.n) an)<|S_g 1<|zAd 2 ?_))
 ·rw[bF] at k1;have:zOl n.n=false:=by
   simp only[zOl,dQ];exact⟨i,bx.2 (by omega),by simpa using k1⟩
  simp[zCK,this]
 ·rw[bI] at k1;refine⟨i+1,⟨by omega,fun j hj=>?_⟩,by omega,by kernel_rfl,by kernel_rfl⟩;rcases bC.1 hj with h|rfl
  ·exact ha j h
  ·exact k1
 ·have hin:zOl n.n=true:=by
   simp only[zOl,bj,bx];exact fun j hj=>ha j (by omega)
  clear ha;refine zAo (fun i=>i<=n.n.length/\∀ j,j<i->zMN n.n j=false) (fun i=>[(25,I (i:Nat))]) (fun i=>n.n.length-i) (0:Nat) ⟨bG _,fun j h=>absurd h (bH _)⟩ fun k ⟨hk,hb⟩=>?_;have yF:zMN n.n k=false->∀ j,j<k+1->zMN n.n j=false:=fun h j hj=>by
   rcases bC.1 hj with h2|rfl
   ·exact hb j h2
   ·exact h
  refine zAh 1<|zAc<|zB2 ((k:Int)<(n.n.length:Int)) (fun k2=>(zAf<|zAc<|zAd 3<|zAl 1<|S_a [(2,.v (agg [I (n.n.getD k d0).fst,bool (n.n.getD k d0).snd]))] (ap (zBi d0 (by omega):(map ntV n.n)[k]? = some (agg [I (n.n.getD k d0).fst,bool (n.n.getD k d0).snd])) an)<|S_g 4<|zAl 4<|zTC 33 ((n.n.getD k d0).fst = -1) (fun k3=>(zAn 3<|S_a [(3,.ob),(0,.ob),(0,.v (sl (map ntV (take k n.n))))] (ap ((by exact zAQ (by simp only[bf,zzLn,zAJ]<;>omega)):k.ble (map ntV n.n).length=true)<|ap ((by exact all_map _):((map ntV n.n).all fun x=>x.cells.length.beq ((fun x=>x.size) Tryz.prog.types[99]))=true)<|ap ((by simp):sl (take k (drop 0 (map ntV n.n)))=sl (map ntV (take k n.n))) an)<|zAn 1<|S_a [(13,.ret (bool ((take k n.n).any fun x=>decide (x.fst=(n.n.getD k d0).fst))) [])] (ap (f198_1 ((n.n.getD k d0).fst) ((n.n.getD k d0).snd) (take k n.n) (by first|omega|(simp<;>omega))) an)<|S_g 1<|zDw ((take k n.n).any fun x=>decide (x.fst=(n.n.getD k d0).fst)) (fun k4=>(zAh 1<|zAk<|E_a [] an (I 5) [] ?_ rfl)) (fun k4=>(zAf<|zAb<|S_i k<|S_g 1 ?_)))) (fun k3=>(S_g 7<|zAD<|zAf<|zAb<|S_i k<|S_g 1 ?_)))) (fun k2=>(zAq 2<|zAh 1<|zAk<|E_a [] an (I 0) [] ?_ rfl))
  ·have h1:zMN n.n k=true:=by
    have k4:((n.n.take k).any fun y=>decide (y.1=(n.n.getD k d0).1))=true:=k4;simp only[zMN,k4,fV,decide_eq_true_eq];assumption
   have:(range n.n.length).any (zMN n.n)=true:=bP.2 ⟨k,bx.2 (by omega),h1⟩;simp only[zCK,hin,this,if_true]
  ·have h1:zMN n.n k=false:=by
    have k4:((n.n.take k).any fun y=>decide (y.1=(n.n.getD k d0).1))=false:=k4;simp only[zMN,k4,dC]
   exact rnd (k+1) ⟨by omega,yF h1⟩ (by omega)
  ·have h1:zMN n.n k=false:=by
    simp only[zMN,fm,decide_eq_false_iff_not];exact .inl (by simpa using k3)
   exact rnd (k+1) ⟨by omega,yF h1⟩ (by omega)
  ·have:(range n.n.length).any (zMN n.n)=false:=by
    simp only[cD,bx,ce];exact fun j hj=>hb j (by omega)
   simp only[zCK,hin,this,if_true];rfl
theorem f153(n:Nw)(l:LI)(hb:1<=n.h/\n.h<=10)(hl:l.length<1000000):FG 153 [zA1 l,.ref (nwV n)] (.bool (zJD n.h l)):=by
 refine zAe Tryz.f153 ?_;refine zAh 1<|zAl 3<|S_a [(7,.ret (bool (l.all fun x=>inB x 0 (n.h-1))) [])] (ap (f108_1 n (by omega) l (by omega)) an)<|S_g 1<|zAk E_0
theorem f154(l:LI)(hl:l.length<1000000):FG 154 [zA1 l] (.bool (zDx l)):=by
 refine zAe Tryz.f154 ?_;refine zAh 1<|zAl 1<|S_a [(6,.ret (bool (zFZ l)) [])] (ap (f155 l (by omega)) an)<|zAn 1<|zEq 5 (zFZ l) (fun k0=>(zAn 1<|S_a [(6,.ret (own 1 (map I l)) [])] (ap (f65 l (by omega)) an)<|S_a [(3,.ob),(1,.v (own 1 (map I l))),(2,.ret (own 1 (map I (zHj l))) [])] (ap ((by exact zAQ (by simp only[bf,zzLn,zAJ]<;>omega)):(map I l).length.ble (map I l).length=true)<|ap ((zAK zAL):own 1 (take (map I l).length (drop 0 (map I l)))=own 1 (map I l))<|ap (f97 l (by omega)) an)<|S_a [(0,.n ((zHj l).length))] (ap (lnS I (zHj l)) an)<|zAn 1<|S_a [(0,.n l.length)] (ap (lnS I l) an)<|S_g 3<|zAk<|E_a [] an (bool ((↑(zHj l).length:Int)==(l.length:Int))) [] ?_ rfl)) (fun k0=>(S_g 9<|zAk<|E_a [] an (bool false) [] ?_ rfl))
 ·simp only[zDx,k0,ci];congr 1;rw[cA];simp;omega
 ·simp only[zDx,k0,di]
theorem f201_1(n:Nw)(hb:1<=n.h/\n.h<=10)(x:LI)(hx:x.length<1000000):FG 201 [zA1 x,.ref (.func 153 [] [.ref (nwV n)])] (.bool (!(zJD n.h x))):=by
 refine zAe Tryz.f201 ?_;refine zAh 1<|zAl 2<|S_a [(7,.ret (bool (zJD n.h x)) [])] (ap (f153 n x (by omega) (by omega)) an)<|S_g 2<|zAk E_0
theorem f223_1(n:Nw)(hb:1<=n.h/\n.h<=10)(l:List LI)(hl:l.length<4294967296)(hr:∀ x∈l,x.length<1000000):FG 223 [.sl (l.map zA1),.func 201 [] [.ref (.func 153 [] [.ref (nwV n)])]] (I (zEi (fun x=>!(zJD n.h x)) l)):=by
 refine zAe Tryz.f223 ?_;refine zAh 1<|zAc<|zAl 1<|S_a [(0,.n l.length)] (ap (lnS zA1 l) an)<|S_g 1<|zAd 0 ?_
 refine zAo (fun i=>i<=l.length/\∀ j,j<i->(fun x=>!(zJD n.h x)) (l.getD j [])=false) (fun i=>[(8,I (i:Nat))]) (fun i=>l.length-i) (0:Nat) (by simp) fun i ⟨hi,ha⟩=>?_;by_cases yB:i<l.length
 ·have qr:=zBt (d:=[]) hr i yB;refine zAh 1<|zAc<|zAs ((i:Int)<(l.length:Int)) (by omega)<|zAf<|zAc<|zAd 1<|zAh 2<|zAl 3<|S_a [(2,.v (zA1 (l.getD i [])))] (ap (zBi [] (by omega):(map zA1 l)[i]? = some (zA1 (l.getD i []))) an)<|zAn 1<|S_a [(7,.ret (bool !zJD n.h (l.getD i [])) [])] (ap (f201_1 n (by omega) (l.getD i []) (by omega)) an)<|zAR<|zDw (!zJD n.h (l.getD i [])) (fun k0=>(zAh 2<|zAk<|E_a [] an (I (i:Int)) [] ?_ rfl)) (fun k0=>(zAf<|zAb<|S_i i<|S_g 1 ?_))
  ·rw[zBK (i:=i) yB (fun j hj=>by rw[<- zAp (d:=[])];exact ha j hj) (by rw[<- zAp (d:=[])];first|assumption|exact decide_eq_true ‹_›)]
  ·refine⟨i+1,⟨by omega,fun j hj=>?_⟩,by omega,by kernel_rfl,by kernel_rfl⟩;rcases bC.1 hj with h|rfl
   ·exact ha j h
   ·first|assumption|exact decide_eq_false ‹_›|(simp only[bI,decide_eq_true_eq];assumption)
 ·refine zAh 1<|zAc<|zAu ((i:Int)<(l.length:Int)) (by omega)<|zAq 0<|zAh 1<|zAk<|E_a [] an (I (-1)) [] ?_ rfl
  rw[zB6 fun j hj=>by rw[<- zAp (d:=[])];exact ha j (by omega)]
theorem f200_1(n:Nw)(hb:1<=n.h/\n.h<=10)(l:List LI)(hl:l.length<4294967296)(hr:∀ x∈l,x.length<1000000):FG 200 [.sl (l.map zA1),.func 201 [] [.ref (.func 153 [] [.ref (nwV n)])]] (.bool (l.any (fun x=>!(zJD n.h x)))):=by
 refine zAe Tryz.f200 ?_;refine zAh 1<|zAl 2<|S_a [(7,.ret (I (zEi (fun x=>!zJD n.h x) l)) [])] (ap (f223_1 n (by omega) l (by omega) (by omega)) an)<|S_g 2<|zAk<|E_a [] an (bool (decide (zEi (fun x=>!zJD n.h x) l>=0))) [] ?_ rfl
 rw[zDI]
theorem f152_1(n:Nw)(hb:1<=n.h/\n.h<=10)(l:List LI)(hl:l.length<4294967296)(hr:∀ x∈l,x.length<1000000):FG 152 [.sl (l.map zA1),.func 153 [] [.ref (nwV n)]] (.bool (l.all (fun x=>zJD n.h x))):=by
 refine zAe Tryz.f152 ?_;refine zAh 2<|zAl 2<|S_a [(12,.ret (bool (l.any fun x=>!zJD n.h x)) [])] (ap (f200_1 n (by omega) l (by omega) (by omega)) an)<|S_g 2<|zAk<|E_a [] an (bool !l.any fun x=>!zJD n.h x) [] ?_ rfl
 simp[cX]
theorem f201_2(x:LI)(hx:x.length<1000000):FG 201 [zA1 x,.ref (.func 154 [] [])] (.bool (!(zDx x))):=by
 refine zAe Tryz.f201 ?_;refine zAh 1<|zAl 2<|S_a [(6,.ret (bool (zDx x)) [])] (ap (f154 x (by omega)) an)<|S_g 2<|zAk E_0
theorem f223_2(l:List LI)(hl:l.length<4294967296)(hr:∀ x∈l,x.length<1000000):FG 223 [.sl (l.map zA1),.func 201 [] [.ref (.func 154 [] [])]] (I (zEi (fun x=>!(zDx x)) l)):=by
 refine zAe Tryz.f223 ?_;refine zAh 1<|zAc<|zAl 1<|S_a [(0,.n l.length)] (ap (lnS zA1 l) an)<|S_g 1<|zAd 0 ?_
 refine zAo (fun i=>i<=l.length/\∀ j,j<i->(fun x=>!(zDx x)) (l.getD j [])=false) (fun i=>[(8,I (i:Nat))]) (fun i=>l.length-i) (0:Nat) (by simp) fun i ⟨hi,ha⟩=>?_;by_cases yB:i<l.length
 ·have qr:=zBt (d:=[]) hr i yB;refine zAh 1<|zAc<|zAs ((i:Int)<(l.length:Int)) (by omega)<|zAf<|zAc<|zAd 1<|zAh 2<|zAl 3<|S_a [(2,.v (zA1 (l.getD i [])))] (ap (zBi [] (by omega):(map zA1 l)[i]? = some (zA1 (l.getD i []))) an)<|zAn 1<|S_a [(7,.ret (bool !zDx (l.getD i [])) [])] (ap (f201_2 (l.getD i []) (by omega)) an)<|zAR<|zDw (!zDx (l.getD i [])) (fun k0=>(zAh 2<|zAk<|E_a [] an (I (i:Int)) [] ?_ rfl)) (fun k0=>(zAf<|zAb<|S_i i<|S_g 1 ?_))
  ·rw[zBK (i:=i) yB (fun j hj=>by rw[<- zAp (d:=[])];exact ha j hj) (by rw[<- zAp (d:=[])];first|assumption|exact decide_eq_true ‹_›)]
  ·refine⟨i+1,⟨by omega,fun j hj=>?_⟩,by omega,by kernel_rfl,by kernel_rfl⟩;rcases bC.1 hj with h|rfl
   ·exact ha j h
   ·first|assumption|exact decide_eq_false ‹_›|(simp only[bI,decide_eq_true_eq];assumption)
 ·refine zAh 1<|zAc<|zAu ((i:Int)<(l.length:Int)) (by omega)<|zAq 0<|zAh 1<|zAk<|E_a [] an (I (-1)) [] ?_ rfl
  rw[zB6 fun j hj=>by rw[<- zAp (d:=[])];exact ha j (by omega)]
theorem f200_2(l:List LI)(hl:l.length<4294967296)(hr:∀ x∈l,x.length<1000000):FG 200 [.sl (l.map zA1),.func 201 [] [.ref (.func 154 [] [])]] (.bool (l.any (fun x=>!(zDx x)))):=by
 refine zAe Tryz.f200 ?_;refine zAh 1<|zAl 2<|S_a [(7,.ret (I (zEi (fun x=>!zDx x) l)) [])] (ap (f223_2 l (by omega) (by omega)) an)<|S_g 2<|zAk<|E_a [] an (bool (decide (zEi (fun x=>!zDx x) l>=0))) [] ?_ rfl
 rw[zDI]
theorem f152_2(l:List LI)(hl:l.length<4294967296)(hr:∀ x∈l,x.length<1000000):FG 152 [.sl (l.map zA1),.func 154 [] []] (.bool (l.all (fun x=>zDx x))):=by
 refine zAe Tryz.f152 ?_;refine zAh 2<|zAl 2<|S_a [(12,.ret (bool (l.any fun x=>!zDx x)) [])] (ap (f200_2 l (by omega) (by omega)) an)<|S_g 2<|zAk<|E_a [] an (bool !l.any fun x=>!zDx x) [] ?_ rfl
 simp[cX]
theorem f76(n:Nw)(hs:Small n):FG 76 [nwV n] (I (zDg n)):=by
 refine zAe Tryz.f76 ?_;have h1:=hs.hl;have h2:=hs.hn;have h3:=hs.hs;have h4:=hs.hr;refine zAh 2<|zAc<|zAl 2<|S_a [(10,.ret (bool (inB n.h 1 10)) [])] (ap (f107 n.h (1) (10)) an)<|zAn 2<|zEq 9 (!inB n.h 1 10) (fun k0=>(S_g 19<|zBD<|zAh 1<|zAk<|E_a [] an (I 2) [] ?_ rfl)) (fun k0=>(zAn 2<|S_a [(0,.n n.l.length)] (ap (lnS prV n.l) an)<|zAn 3<|zDh 15 ((n.l.length:Int)>15) (fun k1=>(S_g 13<|zBD<|zAh 1<|zAk<|E_a [] an (I 2) [] ?_ rfl)) (fun k1=>(zAn 2<|S_a [(0,.n n.n.length)] (ap (lnS ntV n.n) an)<|S_a [(10,.ret (bool (inB (n.n.length:Int) 1 8)) [])] (ap (f107 ((n.n.length:Int)) (1) (8)) an)<|zAn 3<|zEq 22 (!inB (n.n.length:Int) 1 8) (fun k2=>(S_g 6<|zBD<|zAh 1<|zAk<|E_a [] an (I 2) [] ?_ rfl)) (fun k2=>(zAn 2<|S_a [(0,.n n.s.length)] (ap (lnS zA1 n.s) an)<|S_a [(10,.ret (bool (inB (n.s.length:Int) 1 6)) [])] (ap (f107 ((n.s.length:Int)) (1) (6)) an)<|S_g 2<|zDw (!inB (n.s.length:Int) 1 6) (fun k3=>(zAh 1<|zAk<|E_a [] an (I 2) [] ?_ rfl)) (fun k3=>(zAf<|zAc<|zAl 1<|S_a [(6,.ret (I (zBF n.h n.l)) [])] (ap (f150 n ?_ (by first|omega|(simp<;>omega))) an)<|S_g 1<|zAh 2<|zDk (zBF n.h n.l=0) (fun k4=>(zAh 2<|zAk<|E_a [] an (I (zBF n.h n.l)) [] ?_ rfl)) (fun k4=>(zAf<|zAc<|zAl 1<|S_a [(6,.ret (I (zCK n.n)) [])] (ap (f151 n ?_) an)<|S_g 1<|zAh 2<|zDk (zCK n.n=0) (fun k5=>(zAh 2<|zAk<|E_a [] an (I (zCK n.n)) [] ?_ rfl)) (fun k5=>(zAf<|zAc<|zAd 0<|zAl 3<|S_a [(13,.ret (bool (n.s.all fun x=>zJD n.h x)) [])] (ap (f152_1 n ?_ n.s (by omega) (by omega)) an)<|S_g 2<|zDw (!n.s.all fun x=>zJD n.h x) (fun k6=>(zAh 1<|zAk<|E_a [] an (I 1) [] ?_ rfl)) (fun k6=>(zAl 2<|S_a [(7,.ret (bool (n.s.all fun x=>zDx x)) [])] (ap (f152_2 n.s (by omega) (by omega)) an)<|S_g 2<|zDw (!n.s.all fun x=>zDx x) (fun k7=>(zAh 1<|zAk<|E_a [] an (I 4) [] ?_ rfl)) (fun k7=>(zAf<|zAh 1<|zAk<|E_a [] an (I 0) [] ?_ rfl))))))))))))))))
 all_goals first|exact zYV k0|(have:=zYV k2;omega)|(simp[zDg, *];done)
end
end Go.Eng
set_option maxRecDepth 10000
set_option maxHeartbeats 4000000
namespace Go.Eng
open Go Go.Proofs
theorem zRN{l:LI}:∀ k,k<=l.length->(zHj (l.take k)).length<=k/\((∃ j,1<=j/\j<k/\l.getD j 0=l.getD (j-1) 0)->(zHj (l.take k)).length<k)
 |0,_=>⟨by simp[zHj],fun⟨j,h1,h2,_⟩=>by omega⟩
 | k + 1,hk=>by
  obtain⟨h1,h2⟩:=zRN (l:=l) k (by omega)
  cases k with
  |zero=>
   rw[zHF (show 0<l.length by omega)];exact⟨by simp[zHj,zYe],fun⟨j,h1,h2,_⟩=>by omega⟩
  | succ k =>
   rw[zHY (by omega) (by omega)];split
   ·exact⟨by omega,fun _=>by omega⟩
   ·rename_i hI;refine⟨by rw[bt];simp;omega,fun⟨j,g1,g2,g3⟩=>?_⟩;have hj:j<k+1:=by
     by_cases h:j=k+1
     ·subst h;exact absurd g3 hI
     ·omega
    have:=h2 ⟨j,g1,hj,g3⟩;rw[bt];simp;omega
theorem zR6{l:LI}(h:zFZ l=true)(j:Nat)(hj:j+1<l.length):l.getD j 0<=l.getD (j+1) 0:=by
 simp only[zFZ,bj,bx,decide_eq_true_eq] at h;exact h j (by omega)
theorem zIl{l:LI}:zDx l=zVH l:=by
 rw[cA];constructor
 ·intro h;simp only[zDx,bb,decide_eq_true_eq] at h;simp only[zVH,bj,bx,decide_eq_true_eq];intro j hj;have h1:=zR6 h.1 j (by omega);have h2:=(zRN (l:=l) l.length (bi _)).2;rw[dp] at h2;by_cases he:l.getD (j+1) 0=l.getD j 0
  ·have:=h2 ⟨j+1,by omega,by omega,by simpa using he⟩;omega
  ·omega
 ·intro h;simp only[zVH,bj,bx,decide_eq_true_eq] at h;simp only[zDx,zFZ,bb,decide_eq_true_eq,bj,bx];refine⟨fun j hj=>by have:=h j hj;omega,?_⟩;have:=zHW (l:=l) l.length (bi _) fun j h1 h2=>by
   have:=h (j-1) (by omega);rw[show j-1+1=j by omega] at this;omega
  rw[dp] at this;rw[this]
structure NwOk (n:Nw):Prop where
 err:zDg n=0
 h:1<=n.h/\n.h<=10
 ll:n.l.length<=15
 nl:1<=n.n.length/\n.n.length<=8
 sl:1<=n.s.length/\n.s.length<=6
 lr:∀ x∈n.l,(0<=x.1/\x.1<n.h)/\(0<=x.2/\x.2<n.h)
 lne:∀ x∈n.l,x.1≠x.2
 ld:(n.l.map pr2).Nodup
 na:∀ i,i<n.n.length->-1<=(n.n.getD i d0).1/\(n.n.getD i d0).1<i
 nd:∀ i k,k<i->i<n.n.length->(n.n.getD i d0).1≠-1->(n.n.getD k d0).1≠(n.n.getD i d0).1
 sr:∀ l∈n.s,∀ x∈l,0<=x/\x<n.h
 ss:∀ l∈n.s,zVH l=true
theorem zSi{l:LI}(h:zVH l=true):∀ i j,i<j->j<l.length->l.getD i 0<l.getD j 0:=by
 simp only[zVH,bj,bx,decide_eq_true_eq] at h;intro i j qt hj
 induction j with
 |zero=>omega|succ j ih=>
  have h1:=h j (by omega);by_cases he:i=j
  ·subst he;exact h1
  ·have:=ih (by omega) (by omega);omega
theorem zVC{l:LI}(h:zVH l=true){B:Int}(hb:∀ x∈l,0<=x/\x<B):(l.length:Int)<=B\/l.length=0:=by
 by_cases h0:l.length=0
 ·exact .inr h0
 ·left;have key:∀ j,j<l.length->(j:Int)<=l.getD j 0:=by
   intro j
   induction j with
   |zero=>intro hj;exact(zBt hb 0 hj).1|succ j ih=>
    intro hj;have h1:=ih (by omega);have h2:=zSi h j (j+1) (by omega) hj;omega
  have h1:=key (l.length-1) (by omega);have h2:=(zBt (d:=(0:Int)) hb (l.length-1) (by omega)).2;omega
theorem NwOk.rows{n:Nw}(ho:NwOk n):∀ l∈n.s,l.length<=10:=fun l hl=>by
 have h1:=zVC (ho.ss l hl) (ho.sr l hl);have:=ho.h;omega
theorem NwOk.small{n:Nw}(ho:NwOk n):Small n:=⟨by have:=ho.ll;omega,by have:=ho.nl;omega,by have:=ho.sl;omega,fun l hl=>by have:=ho.rows l hl;omega⟩
theorem zEJ{n lo hi:Int}(h:inB n lo hi=true):lo<=n/\n<=hi:=by simpa[inB] using h
theorem zQ9{h:Int}{l:LP}(he:zBF h l=0):(l.all fun x=>zHr h x)=true/\(l.all fun x=>zIz x)=true/\(l.map pr2).Nodup:=by
 unfold zBF at he;split at he
 ·split at he
  ·split at he
   ·exact⟨by assumption,by assumption,by assumption⟩
   ·cases he
  ·cases he
 ·cases he
theorem zUy{l:List (Int×Bool)}(he:zCK l=0):zOl l=true/\(range l.length).any (zMN l)=false:=by
 unfold zCK at he;split at he
 ·split at he
  ·cases he
  ·rename_i h1 h2;exact⟨h1,by rw[ce] at h2;exact h2⟩
 ·cases he
theorem zVg{n:Nw}(he:zDg n=0):NwOk n:=by
 have he0:=he;unfold zDg at he;split at he
 ·cases he
 split at he
 ·cases he
 split at he
 ·cases he
 split at he
 ·cases he
 rename_i c1 c2 c3 c4;split at he
 case isFalse h=>exact absurd he h
 rename_i c5;split at he
 case isFalse h=>exact absurd he h
 rename_i c6;split at he
 ·cases he
 split at he
 ·cases he
 rename_i c7 c8;simp only[ce,bI] at c1 c3 c4 c7 c8;obtain⟨d1,d2,d3⟩:=zQ9 c5;obtain⟨e1,e2⟩:=zUy c6;rw[bj] at c7 c8 d1 d2;simp only[zOl,bj,bx] at e1;simp only[cD,bx] at e2;have a3:=zEJ c3;have a4:=zEJ c4;refine⟨he0,zEJ c1,by omega,by omega,by omega,fun x hx=>?_,fun x hx=>by have:=d2 x hx;simpa[zIz] using this,d3,fun i hi=>?_,fun i k hk hi hI hx=>?_,fun l hl x hx=>?_,fun l hl=>by rw[<- zIl];exact c8 l hl⟩
 ·have:=d1 x hx;simp only[zHr,bb] at this;have b1:=zEJ this.1;have b2:=zEJ this.2;omega
 ·have:=zEJ (e1 i hi);omega
 ·refine e2 i hi ?_;simp only[zMN,bb,decide_eq_true_eq,bP];refine⟨hI,n.n.getD k d0,?_,hx⟩;rw[zAp (by omega)];exact fK.2 ⟨k,by omega,rfl⟩
 ·have:=c7 l hl;simp only[zJD,bj] at this;have:=zEJ (this x hx);omega
def zNC(F:LI)(i:Nat)(a:Int):LI:=if a = -1 then F.set i i else(F.set i i).set i ((F.set i i).getD a.toNat 0)
def zQq(l:List (Int×Bool)):Nat->LI
 |0=>replicate 8 0|i+1=>zNC (zQq l i) i (l.getD i d0).1
def zNH(F:LI)(L:LI)(i k:Nat):LI:=if F.getD k 0=F.getD i 0 then L.set i (max (L.getD i 0) k) else L
def zVq(F:LI)(i:Nat)(L:LI)(k:Nat):LI:=(range k).foldl (fun L k=>zNH F L i k) L
def zRM(F:LI)(m i:Nat):LI:=(range i).foldl (fun L i=>zVq F i L m) (replicate 8 0)
theorem zSv{F:LI}{i:Nat}{a:Int}:(zNC F i a).length=F.length:=by unfold zNC;split<;>simp
theorem zHs{l:List (Int×Bool)}:∀ i,(zQq l i).length=8
 |0=>by simp[zQq]|i+1=>by rw[zQq,zSv];exact zHs i
theorem zR0{F L:LI}{i k:Nat}:(zNH F L i k).length=L.length:=by unfold zNH;split<;>simp
theorem zHl{F L:LI}{i k:Nat}:zVq F i L (k+1)=zNH F (zVq F i L k) i k:=by
 simp only[zVq,bV,cv,bY,cB]
theorem zI2{F L:LI}{i:Nat}:∀ k,(zVq F i L k).length=L.length
 |0=>rfl|k+1=>by rw[zHl,zR0];exact zI2 k
theorem zGj{F:LI}{m i:Nat}:zRM F m (i+1)=zVq F i (zRM F m i) m:=by
 simp only[zRM,bV,cv,bY,cB]
theorem zJf{F:LI}{m:Nat}:∀ i,(zRM F m i).length=8
 |0=>by simp[zRM]|i+1=>by rw[zGj,zI2];exact zJf i
def zAi(n:Nw):LI:=zQq n.n n.n.length
def zAx(n:Nw):LI:=zRM (zAi n) n.n.length n.n.length
abbrev zBu(n:Nw)(cs ms:PV)(F L:LI):PV := .agg [I n.h,.sl (n.l.map prV),.sl (n.n.map ntV),.sl (n.s.map zA1),cs,ms,I (F.getD 0 0),I (F.getD 1 0),I (F.getD 2 0),I (F.getD 3 0),I (F.getD 4 0),I (F.getD 5 0),I (F.getD 6 0),I (F.getD 7 0),I (L.getD 0 0),I (L.getD 1 0),I (L.getD 2 0),I (L.getD 3 0),I (L.getD 4 0),I (L.getD 5 0),I (L.getD 6 0),I (L.getD 7 0)]
abbrev zDJ(M:LP):PV := .omap (M.map zFg)
section
variable [Yo]
theorem f139_2(n:Nw)(hs:Small n)(he:¬ zDg n=0):FG 139 [nwV n] (.tup [.nilp,I (zDg n)]):=by
 refine zAe Tryz.f139 ?_;refine zAh 3<|zAc<|zAl 1<|S_a [(6,.ret (I (zDg n)) [])] (ap (f76 n (by omega)) an)<|S_g 1<|zAh 2<|zCq (zDg n=0) (by omega)<|zAh 3<|zAk E_0
theorem f139_1(n:Nw)(ho:NwOk n):FG 139 [nwV n] (.tup [.box (zBu n (.own 2 []) (zDJ (n.l.map pr2)) (zAi n) (zAx n)),I 0]):=by
 have hs:=ho.small;have he:=ho.err;have h1:=ho.nl.2;have h2:=ho.ll;have h3:=ho.ld;have h4:=ho.na;refine zAe Tryz.f139 ?_;refine zAh 3<|zAc<|zAl 1<|S_a [(6,.ret (I (zDg n)) [])] (ap (f76 n (by omega)) an)<|S_g 1<|zAh 2<|zEs (zDg n=0) (by omega)<|zAf<|zAh 5<|zAc<|zAl 2<|S_a [(0,.n n.l.length)] (ap (lnS prV n.l) an)<|S_g 1<|zAd 0 ?_
 refine zAo (fun(i,M)=>i<=n.l.length/\M=(n.l.take i).map pr2) (fun(i,M)=>[(5,.box (zBu n (.own 2 []) (zDJ M) (replicate 8 0) (replicate 8 0))),(24,I (i:Nat))]) (fun(i,_)=>n.l.length-i) ((0:Nat),([]:LP)) ⟨bG _,rfl⟩ fun(i,M) ⟨hi,hM⟩=>?_;by_cases yB:i<n.l.length
 ·have yF:(n.l.take (i+1)).map pr2=M++[pr2 (n.l.getD i d0)]:=by rw[zBs (d:=d0) yB,cJ,<- hM];rfl
  have hin:pr2 (n.l.getD i d0)∉M:=fun hm=>by
   rw[<- cF (i+1) n.l,cJ,yF] at h3;have h2:=(bW.1 h3).1;have h3:=(bW.1 h2).2.2;exact h3 _ hm _ (bw.2 rfl) rfl
  have yM:=zLN hin;refine zAh 1<|zAc<|zAs ((i:Int)<(n.l.length:Int)) (by omega)<|zAf<|zAc<|zAd 1<|zAc<|zAb<|S_a [(2,.v (prV (n.l.getD i d0)))] (ap (zBi d0 (by omega):(map prV n.l)[i]? = some (prV (n.l.getD i d0))) an)<|S_g 3<|zAb<|zAn 5<|S_a [(6,.ret (prV (pr2 (n.l.getD i d0))) [])] (ap (f110 (n.l.getD i d0)) an)<|S_a [(4,.ix none),(0,.v (omap (map zFg (M++[pr2 (n.l.getD i d0)]))))] (ap yM<|ap ((by simp):omap (map zFg M++[(prV (pr2 (n.l.getD i d0)),bool true)])=omap (map zFg (M++[pr2 (n.l.getD i d0)]))) an)<|zAR<|zAb<|S_i i<|S_g 1 ?_
  exact rnd (i+1,M++[pr2 (n.l.getD i d0)]) ⟨by omega,yF.symm⟩ (by simp only;omega)
 ·refine zAh 1<|zAc<|zAu ((i:Int)<(n.l.length:Int)) (by omega)<|zAq 0<|zAc<|zAl 2<|S_a [(0,.n n.n.length)] (ap (lnS ntV n.n) an)<|S_g 1<|zAd 2 ?_
  rw[bp (by omega)] at hM;subst hM;clear h3;generalize hMM:n.l.map pr2=MM;refine zAo (fun(i,F)=>i<=n.n.length/\F=zQq n.n i) (fun(i,F)=>[(5,.box (zBu n (.own 2 []) (zDJ MM) F (replicate 8 0))),(38,I (i:Nat))]) (fun(i,_)=>n.n.length-i) ((0:Nat),replicate 8 0) ⟨bG _,rfl⟩ fun(i,F) ⟨hi,hF⟩=>?_;have hFl:F.length=8:=by rw[hF];exact zHs i
  by_cases yB:i<n.n.length
  ·have h4i:=h4 i yB;have yD:zQq n.n (i+1)=zNC F i (n.n.getD i d0).1:=by rw[hF];rfl
   refine zAh 1<|zAc<|zAs ((i:Int)<(n.n.length:Int)) (by omega)<|zAf<|zAc<|zAd 3<|zAl 1<|S_a [(2,.v (agg [I (n.n.getD i d0).fst,bool (n.n.getD i d0).snd]))] (ap (zBi d0 (by omega):(map ntV n.n)[i]? = some (agg [I (n.n.getD i d0).fst,bool (n.n.getD i d0).snd])) an)<|S_g 4<|zAl 5<|S_a [(2,.ob),(1,.v (addr 5 [] 0 (6+i) none))] (ap ((by exact zAt (by omega)):decide (i<8)=true)<|ap ((zF0 (by kernel_rfl)):addr 5 [] 0 (6+i*(fun x=>x.size) Tryz.prog.types[3]) none=addr 5 [] 0 (6+i) none) an)<|S_a [(8,.root (((zBu n (.own 2 []) (zDJ MM) (F.set i (i:Int)) (replicate 8 0))).box) true)] (ap (zQW (zLw (q:=((zBu n (.own 2 []) (zDJ MM) F (replicate 8 0))).box) (xs:=[(zBu n (.own 2 []) (zDJ MM) F (replicate 8 0))]) (x:=(zBu n (.own 2 []) (zDJ MM) F (replicate 8 0))) (y:=(zBu n (.own 2 []) (zDJ MM) (F.set i (i:Int)) (replicate 8 0))) (q':=((zBu n (.own 2 []) (zDJ MM) (F.set i (i:Int)) (replicate 8 0))).box) rfl (zQs (A:=[I n.h,prs n.l,sl (map ntV n.n),sl (map zA1 n.s),own 2 [],omap (map zFg MM)]) (B:=[z8 0,z8 1,z8 2,z8 3,z8 4,z8 5,z8 6,z8 7]) (F:=F) (m:=8) (j:=i) (u:=(i:Int)) (by first|rfl|exact zB8 (by kernel_rfl)|exact zCd (by kernel_rfl)|(simp;done)) (by omega) (by omega)) rfl (hb:=zQR (A:=[I n.h,prs n.l,sl (map ntV n.n),sl (map zA1 n.s),own 2 [],omap (map zFg MM)]) (B:=[z8 0,z8 1,z8 2,z8 3,z8 4,z8 5,z8 6,z8 7]) (F:=F) (m:=8) (j:=i) (by first|rfl|exact zB8 (by kernel_rfl)|exact zCd (by kernel_rfl)|(simp;done)) (by omega))) rfl:zBG ((zBu n (.own 2 []) (zDJ MM) F (replicate 8 0))).box [] 0 (6+i) (I (i:Int)).cells=some ((zBu n (.own 2 []) (zDJ MM) (F.set i (i:Int)) (replicate 8 0))).box/\zAP ((zBu n (.own 2 []) (zDJ MM) F (replicate 8 0))).box ((zBu n (.own 2 []) (zDJ MM) (F.set i (i:Int)) (replicate 8 0))).box []=true) an)<|zAR<|zAh 3<|zDk ((n.n.getD i d0).fst = -1) (fun k0=>(zAb<|zAn 7<|S_a [(0,.ob),(1,.ob),(1,.v (addr 5 [] 0 (6+(n.n.getD i d0).fst.toNat) none))] (ap ((by exact zAt (by omega)):decide (0<=(n.n.getD i d0).fst)=true)<|ap ((by exact zAt (by omega)):decide ((n.n.getD i d0).fst.toNat<8)=true)<|ap ((zF0 (by kernel_rfl)):addr 5 [] 0 (6+(n.n.getD i d0).fst.toNat*(fun x=>x.size) Tryz.prog.types[3]) none=addr 5 [] 0 (6+(n.n.getD i d0).fst.toNat) none) an)<|S_a [(0,.cs true ([I ((F.set i (i:Int)).getD (n.n.getD i d0).fst.toNat 0)]))] (ap (zDe (q:=((zBu n (.own 2 []) (zDJ MM) (F.set i (i:Int)) (replicate 8 0))).box) (xs:=[(zBu n (.own 2 []) (zDJ MM) (F.set i (i:Int)) (replicate 8 0))]) (x:=(zBu n (.own 2 []) (zDJ MM) (F.set i (i:Int)) (replicate 8 0))) rfl rfl (zLm (A:=[I n.h,prs n.l,sl (map ntV n.n),sl (map zA1 n.s),own 2 [],omap (map zFg MM)]) (B:=[z8 0,z8 1,z8 2,z8 3,z8 4,z8 5,z8 6,z8 7]) (F:=F.set i (i:Int)) (m:=8) (j:=(n.n.getD i d0).fst.toNat) (by first|rfl|exact zB8 (by kernel_rfl)|exact zCd (by kernel_rfl)|(simp;done)) (by omega)):zAy 5 ((zBu n (.own 2 []) (zDJ MM) (F.set i (i:Int)) (replicate 8 0))).box [] 0 (6+(n.n.getD i d0).fst.toNat) 1=some (true,[I ((F.set i (i:Int)).getD (n.n.getD i d0).fst.toNat 0)])) an)<|zAn 2<|S_a [(2,.ob),(1,.v (addr 5 [] 0 (6+i) none))] (ap ((by exact zAt (by omega)):decide (i<8)=true)<|ap ((zF0 (by kernel_rfl)):addr 5 [] 0 (6+i*(fun x=>x.size) Tryz.prog.types[3]) none=addr 5 [] 0 (6+i) none) an)<|S_a [(8,.root (((zBu n (.own 2 []) (zDJ MM) ((F.set i (i:Int)).set i ((F.set i (i:Int)).getD (n.n.getD i d0).fst.toNat 0)) (replicate 8 0))).box) true)] (ap (zQW (zLw (q:=((zBu n (.own 2 []) (zDJ MM) (F.set i (i:Int)) (replicate 8 0))).box) (xs:=[(zBu n (.own 2 []) (zDJ MM) (F.set i (i:Int)) (replicate 8 0))]) (x:=(zBu n (.own 2 []) (zDJ MM) (F.set i (i:Int)) (replicate 8 0))) (y:=(zBu n (.own 2 []) (zDJ MM) ((F.set i (i:Int)).set i ((F.set i (i:Int)).getD (n.n.getD i d0).fst.toNat 0)) (replicate 8 0))) (q':=((zBu n (.own 2 []) (zDJ MM) ((F.set i (i:Int)).set i ((F.set i (i:Int)).getD (n.n.getD i d0).fst.toNat 0)) (replicate 8 0))).box) rfl (zQs (A:=[I n.h,prs n.l,sl (map ntV n.n),sl (map zA1 n.s),own 2 [],omap (map zFg MM)]) (B:=[z8 0,z8 1,z8 2,z8 3,z8 4,z8 5,z8 6,z8 7]) (F:=F.set i (i:Int)) (m:=8) (j:=i) (u:=(F.set i (i:Int)).getD (n.n.getD i d0).fst.toNat 0) (by first|rfl|exact zB8 (by kernel_rfl)|exact zCd (by kernel_rfl)|(simp;done)) (by omega) (by first|omega|(simp<;>omega))) rfl (hb:=zQR (A:=[I n.h,prs n.l,sl (map ntV n.n),sl (map zA1 n.s),own 2 [],omap (map zFg MM)]) (B:=[z8 0,z8 1,z8 2,z8 3,z8 4,z8 5,z8 6,z8 7]) (F:=F.set i (i:Int)) (m:=8) (j:=i) (by first|rfl|exact zB8 (by kernel_rfl)|exact zCd (by kernel_rfl)|(simp;done)) (by omega))) rfl:zBG ((zBu n (.own 2 []) (zDJ MM) (F.set i (i:Int)) (replicate 8 0))).box [] 0 (6+i) (I ((F.set i (i:Int)).getD (n.n.getD i d0).fst.toNat 0)).cells=some ((zBu n (.own 2 []) (zDJ MM) ((F.set i (i:Int)).set i ((F.set i (i:Int)).getD (n.n.getD i d0).fst.toNat 0)) (replicate 8 0))).box/\zAP ((zBu n (.own 2 []) (zDJ MM) (F.set i (i:Int)) (replicate 8 0))).box ((zBu n (.own 2 []) (zDJ MM) ((F.set i (i:Int)).set i ((F.set i (i:Int)).getD (n.n.getD i d0).fst.toNat 0)) (replicate 8 0))).box []=true) an)<|zAR<|zAb<|S_i i<|S_g 1 ?_)) (fun k0=>(zAf<|zAb<|S_i i<|S_g 1 ?_))
   ·rw[zNC,if_neg k0] at yD;exact rnd (i+1,(F.set i i).set i ((F.set i i).getD (n.n.getD i d0).1.toNat 0)) ⟨by omega,yD.symm⟩ (by simp only;omega)
   ·rw[zNC,if_pos k0] at yD;exact rnd (i+1,F.set i i) ⟨by omega,yD.symm⟩ (by simp only;omega)
  ·have hFF:F=zAi n:=by rw[hF,zAi,show i=n.n.length by omega]
   subst hFF;clear hF;have ug:zAx n=zRM (zAi n) n.n.length n.n.length:=rfl;rw[ug];generalize hG:zAi n=F at *;clear ug h4;refine zAh 1<|zAc<|zAu ((i:Int)<(n.n.length:Int)) (by omega)<|zAq 2<|zAc<|zAl 2<|S_a [(0,.n n.n.length)] (ap (lnS ntV n.n) an)<|S_g 1<|zAd 4 ?_
   refine zAo (fun(i,L)=>i<=n.n.length/\L=zRM F n.n.length i) (fun(i,L)=>[(5,.box (zBu n (.own 2 []) (zDJ MM) F L)),(68,I (i:Nat))]) (fun(i,_)=>n.n.length-i) ((0:Nat),replicate 8 0) ⟨bG _,rfl⟩ fun(i,L) ⟨hi,hL⟩=>?_;have hLl:L.length=8:=by rw[hL];exact zJf i
   by_cases yB:i<n.n.length
   ·have yD:=zGj (F:=F) (m:=n.n.length) (i:=i);rw[<- hL] at yD;refine zAh 1<|zAc<|zAs ((i:Int)<(n.n.length:Int)) (by omega)<|zAf<|zAc<|zAd 5<|zAh 2<|zAl 2<|S_a [(0,.n n.n.length)] (ap (lnS ntV n.n) an)<|S_g 1<|zAd 6 ?_
    refine zAo (fun(k,Q)=>k<=n.n.length/\Q=zVq F i L k) (fun(k,Q)=>[(5,.box (zBu n (.own 2 []) (zDJ MM) F Q)),(74,I (k:Nat))]) (fun(k,_)=>n.n.length-k) ((0:Nat),L) ⟨bG _,rfl⟩ fun(k,Q) ⟨hk,hQ⟩=>?_;have hQl:Q.length=8:=by rw[hQ,zI2];exact hLl
    by_cases kd:k<n.n.length
    ·have j3:=zHl (F:=F) (L:=L) (i:=i) (k:=k);rw[<- hQ] at j3;clear yD hL hQ;refine zAh 1<|zAc<|zAs ((k:Int)<(n.n.length:Int)) (by omega)<|zAf<|zAc<|zAd 7<|zAh 2<|zAl 4<|S_a [(2,.ob),(1,.v (addr 5 [] 0 (6+k) none))] (ap ((by exact zAt (by omega)):decide (k<8)=true)<|ap ((zF0 (by kernel_rfl)):addr 5 [] 0 (6+k*(fun x=>x.size) Tryz.prog.types[3]) none=addr 5 [] 0 (6+k) none) an)<|S_a [(0,.cs true ([I (F.getD k 0)]))] (ap (zDe (q:=((zBu n (.own 2 []) (zDJ MM) F Q)).box) (xs:=[(zBu n (.own 2 []) (zDJ MM) F Q)]) (x:=(zBu n (.own 2 []) (zDJ MM) F Q)) rfl rfl (zLm (A:=[I n.h,prs n.l,sl (map ntV n.n),sl (map zA1 n.s),own 2 [],omap (map zFg MM)]) (B:=[I (Q.getD 0 0),I (Q.getD 1 0),I (Q.getD 2 0),I (Q.getD 3 0),I (Q.getD 4 0),I (Q.getD 5 0),I (Q.getD 6 0),I (Q.getD 7 0)]) (F:=F) (m:=8) (j:=k) (by first|rfl|exact zB8 (by kernel_rfl)|exact zCd (by kernel_rfl)|(simp;done)) (by omega)):zAy 5 ((zBu n (.own 2 []) (zDJ MM) F Q)).box [] 0 (6+k) 1=some (true,[I (F.getD k 0)])) an)<|zAn 4<|S_a [(2,.ob),(1,.v (addr 5 [] 0 (6+i) none))] (ap ((by exact zAt (by omega)):decide (i<8)=true)<|ap ((zF0 (by kernel_rfl)):addr 5 [] 0 (6+i*(fun x=>x.size) Tryz.prog.types[3]) none=addr 5 [] 0 (6+i) none) an)<|S_a [(0,.cs true ([I (F.getD i 0)]))] (ap (zDe (q:=((zBu n (.own 2 []) (zDJ MM) F Q)).box) (xs:=[(zBu n (.own 2 []) (zDJ MM) F Q)]) (x:=(zBu n (.own 2 []) (zDJ MM) F Q)) rfl rfl (zLm (A:=[I n.h,prs n.l,sl (map ntV n.n),sl (map zA1 n.s),own 2 [],omap (map zFg MM)]) (B:=[I (Q.getD 0 0),I (Q.getD 1 0),I (Q.getD 2 0),I (Q.getD 3 0),I (Q.getD 4 0),I (Q.getD 5 0),I (Q.getD 6 0),I (Q.getD 7 0)]) (F:=F) (m:=8) (j:=i) (by first|rfl|exact zB8 (by kernel_rfl)|exact zCd (by kernel_rfl)|(simp;done)) (by omega)):zAy 5 ((zBu n (.own 2 []) (zDJ MM) F Q)).box [] 0 (6+i) 1=some (true,[I (F.getD i 0)])) an)<|S_g 1<|zB2 (F.getD k 0=F.getD i 0) (fun k1=>(zAb<|zAn 6<|S_a [(2,.ob),(1,.v (addr 5 [] 0 (14+i) none))] (ap ((by exact zAt (by omega)):decide (i<8)=true)<|ap ((zF0 (by kernel_rfl)):addr 5 [] 0 (14+i*(fun x=>x.size) Tryz.prog.types[3]) none=addr 5 [] 0 (14+i) none) an)<|S_a [(0,.cs true ([I (Q.getD i 0)]))] (ap (zDe (q:=((zBu n (.own 2 []) (zDJ MM) F Q)).box) (xs:=[(zBu n (.own 2 []) (zDJ MM) F Q)]) (x:=(zBu n (.own 2 []) (zDJ MM) F Q)) rfl rfl (zLm (A:=[I n.h,prs n.l,sl (map ntV n.n),sl (map zA1 n.s),own 2 [],omap (map zFg MM),I (F.getD 0 0),I (F.getD 1 0),I (F.getD 2 0),I (F.getD 3 0),I (F.getD 4 0),I (F.getD 5 0),I (F.getD 6 0),I (F.getD 7 0)]) (B:=[]) (F:=Q) (m:=8) (j:=i) (by first|rfl|exact zB8 (by kernel_rfl)|exact zCd (by kernel_rfl)|(simp;done)) (by omega)):zAy 5 ((zBu n (.own 2 []) (zDJ MM) F Q)).box [] 0 (14+i) 1=some (true,[I (Q.getD i 0)])) an)<|zAn 2<|S_a [(9,.ret (I (max (Q.getD i 0) (k:Int))) [])] (ap (f165 (Q.getD i 0) ((k:Int))) an)<|zAn 2<|S_a [(2,.ob),(1,.v (addr 5 [] 0 (14+i) none))] (ap ((by exact zAt (by omega)):decide (i<8)=true)<|ap ((zF0 (by kernel_rfl)):addr 5 [] 0 (14+i*(fun x=>x.size) Tryz.prog.types[3]) none=addr 5 [] 0 (14+i) none) an)<|S_a [(8,.root (((zBu n (.own 2 []) (zDJ MM) F (Q.set i (max (Q.getD i 0) (k:Int))))).box) true)] (ap (zQW (zLw (q:=((zBu n (.own 2 []) (zDJ MM) F Q)).box) (xs:=[(zBu n (.own 2 []) (zDJ MM) F Q)]) (x:=(zBu n (.own 2 []) (zDJ MM) F Q)) (y:=(zBu n (.own 2 []) (zDJ MM) F (Q.set i (max (Q.getD i 0) (k:Int))))) (q':=((zBu n (.own 2 []) (zDJ MM) F (Q.set i (max (Q.getD i 0) (k:Int))))).box) rfl (zQs (A:=[I n.h,prs n.l,sl (map ntV n.n),sl (map zA1 n.s),own 2 [],omap (map zFg MM),I (F.getD 0 0),I (F.getD 1 0),I (F.getD 2 0),I (F.getD 3 0),I (F.getD 4 0),I (F.getD 5 0),I (F.getD 6 0),I (F.getD 7 0)]) (B:=[]) (F:=Q) (m:=8) (j:=i) (u:=max (Q.getD i 0) (k:Int)) (by first|rfl|exact zB8 (by kernel_rfl)|exact zCd (by kernel_rfl)|(simp;done)) (by omega) (by omega)) rfl (hb:=zQR (A:=[I n.h,prs n.l,sl (map ntV n.n),sl (map zA1 n.s),own 2 [],omap (map zFg MM),I (F.getD 0 0),I (F.getD 1 0),I (F.getD 2 0),I (F.getD 3 0),I (F.getD 4 0),I (F.getD 5 0),I (F.getD 6 0),I (F.getD 7 0)]) (B:=[]) (F:=Q) (m:=8) (j:=i) (by first|rfl|exact zB8 (by kernel_rfl)|exact zCd (by kernel_rfl)|(simp;done)) (by omega))) rfl:zBG ((zBu n (.own 2 []) (zDJ MM) F Q)).box [] 0 (14+i) (I (max (Q.getD i 0) (k:Int))).cells=some ((zBu n (.own 2 []) (zDJ MM) F (Q.set i (max (Q.getD i 0) (k:Int))))).box/\zAP ((zBu n (.own 2 []) (zDJ MM) F Q)).box ((zBu n (.own 2 []) (zDJ MM) F (Q.set i (max (Q.getD i 0) (k:Int))))).box []=true) an)<|zAR<|zAb<|S_i k<|S_g 1 ?_)) (fun k1=>(zAf<|zAb<|S_i k<|S_g 1 ?_))
     ·rw[zNH,if_pos (by assumption)] at j3;exact rnd (k+1,Q.set i (max (Q.getD i 0) k)) ⟨by omega,j3.symm⟩ (by simp only;omega)
     ·rw[zNH,if_neg (by assumption)] at j3;exact rnd (k+1,Q) ⟨by omega,j3.symm⟩ (by simp only;omega)
    ·refine zAh 1<|zAc<|zAu ((k:Int)<(n.n.length:Int)) (by omega)<|zAq 6<|zAb<|S_i i<|S_g 1 ?_
     exact rnd (i+1,Q) ⟨by omega,by rw[yD,hQ,show k=n.n.length by omega]⟩ (by simp only;omega)
   ·refine zAh 1<|zAc<|zAu ((i:Int)<(n.n.length:Int)) (by omega)<|zAq 4<|zAl 1<|zAn 1<|S_g 1<|zAk<|E_a [] an (tup [((zBu n (.own 2 []) (zDJ MM) F L)).box,I 0]) [] ?_ rfl
    rw[hL,show i=n.n.length by omega]
end
end Go.Eng
set_option maxRecDepth 10000
set_option maxHeartbeats 4000000
namespace Go.Eng
open Go Go.Proofs
abbrev mapM(M:LP):PV := .map (M.map zFg)
abbrev zE9(n:Nw)(cs:LP):PV := .ref (zBu n (prs cs) (mapM (n.l.map pr2)) (zAi n) (zAx n))
def zHK(n:Nw)(c:Int×Int):Bool:=inB c.1 0 (n.n.length-1)&&inB c.2 0 (n.s.length-1)
def zDG(n:Nw)(cs:LP):Int:=if zDg n=0 then if (cs.length:Int)>16 then 2 else if (!cs.all fun c=>zHK n c)=true then 1 else 0 else zDg n
def zCf(n:Nw)(cs:LP)(e:Int):Int:=if zDG n cs=0 then if inB e 0 12=true then 0 else 3 else zDG n cs
structure CrOk (n:Nw) (cs:LP):Prop where
 err:zDG n cs=0
 nw:NwOk n
 len:cs.length<=16
 cs:∀ c∈cs,(0<=c.1/\c.1<n.n.length)/\(0<=c.2/\c.2<n.s.length)
structure CrW (n:Nw) (cs:LP):Prop where
 nw:NwOk n
 len:cs.length<=1000
 cs:∀ c∈cs,(0<=c.1/\c.1<n.n.length)/\(0<=c.2/\c.2<n.s.length)
theorem CrOk.w{n:Nw}{cs:LP}(h:CrOk n cs):CrW n cs:=⟨h.nw,by have:=h.len;omega,h.cs⟩
theorem zXJ{n:Nw}{cs:LP}(he:zDG n cs=0):CrOk n cs:=by
 have he0:=he;unfold zDG at he;split at he
 case isFalse h=>exact absurd he h
 rename_i c1;split at he
 ·cases he
 split at he
 ·cases he
 rename_i c2 c3;simp only[ce,bI,bj] at c3;refine⟨he0,zVg c1,by omega,fun c hc=>?_⟩;have:=c3 c hc;simp only[zHK,bb] at this;have b1:=zEJ this.1;have b2:=zEJ this.2;omega
structure EvOk (n:Nw) (cs:LP) (e:Int):Prop where
 err:zCf n cs e=0
 cr:CrOk n cs
 ev:0<=e/\e<=12
theorem zOk{n:Nw}{cs:LP}{e:Int}(he:zCf n cs e=0):EvOk n cs e:=by
 have he0:=he;unfold zCf at he;split at he
 case isFalse h=>exact absurd he h
 rename_i c1;split at he
 ·rename_i h;exact⟨he0,zXJ c1,zEJ h⟩
 ·cases he
section
variable [Yo]
theorem f170(n:Nw)(x:Int)(hb:n.s.length<=6):FG 170 [nwV n,I x] (.bool (inB x 0 (n.s.length-1))):=by
 refine zAe Tryz.f170 ?_;refine zAh 2<|zAl 3<|S_a [(0,.n n.s.length)] (ap (lnS zA1 n.s) an)<|S_a [(1,.v (I ((n.s.length:Int)-1)))] (ap ((zBY rfl (by omega)):I (IntKind.i64.wrap ((n.s.length:Int)-1))=I ((n.s.length:Int)-1)) an)<|S_a [(10,.ret (bool (inB x 0 ((n.s.length:Int)-1))) [])] (ap (f107 x (0) ((n.s.length:Int)-1)) an)<|S_g 1<|zAk E_0
theorem f118(n:Nw)(c:Int×Int)(cp:PV)(M:LP)(F L:LI)(ho:NwOk n):FG 118 [.ref (zBu n cp (mapM M) F L),prV c] (.bool (zHK n c)):=by
 have h1:=ho.nl.2;have h2:=ho.sl.2;refine zAe Tryz.f118 ?_;refine zAh 2<|zAl 6<|S_a [(8,.ret (bool (inB c.fst 0 ((n.n.length:Int)-1))) [])] (ap (f106 n c.fst (by omega)) an)<|zAn 1<|zEq 12 (inB c.fst 0 ((n.n.length:Int)-1)) (fun k0=>(zAn 6<|S_a [(8,.ret (bool (inB c.snd 0 ((n.s.length:Int)-1))) [])] (ap (f170 n c.snd (by omega)) an)<|S_g 2<|zAk<|E_a [] an (bool (inB c.snd 0 ((n.s.length:Int)-1))) [] ?_ rfl)) (fun k0=>(S_g 9<|zAk<|E_a [] an (bool false) [] ?_ rfl))
 ·simp only[zHK,k0,ci]
 ·simp only[zHK,k0,di]
theorem f204_1(n:Nw)(M:LP)(F L:LI)(ho:NwOk n)(x:Int×Int):FG 204 [prV x,.ref (.func 118 [.ref (zBu n (.sl []) (mapM M) F L)] [])] (.bool (!(zHK n x))):=by
 refine zAe Tryz.f204 ?_;refine zAh 2<|zAl 2<|S_a [(7,.ret (bool (zHK n x)) [])] (ap (f118 n x (sl []) M F L (by omega)) an)<|S_g 2<|zAk E_0
theorem f203_1(n:Nw)(M:LP)(F L:LI)(ho:NwOk n)(l:LP)(hl:l.length<4294967296):FG 203 [.sl (l.map prV),.func 204 [] [.ref (.func 118 [.ref (zBu n (.sl []) (mapM M) F L)] [])]] (I (zEi (fun x=>!(zHK n x)) l)):=by
 refine zAe Tryz.f203 ?_;refine zAh 1<|zAc<|zAl 1<|S_a [(0,.n l.length)] (ap (lnS prV l) an)<|S_g 1<|zAd 0 ?_
 refine zAo (fun i=>i<=l.length/\∀ j,j<i->(fun x=>!(zHK n x)) (l.getD j d0)=false) (fun i=>[(8,I (i:Nat))]) (fun i=>l.length-i) (0:Nat) (by simp) fun i ⟨hi,ha⟩=>?_;refine zAh 1<|zAc<|zB2 ((i:Int)<(l.length:Int)) (fun k0=>(zAf<|zAc<|zAd 1<|zAh 2<|zAl 3<|S_a [(2,.v (prV (l.getD i d0)))] (ap (zBi d0 (by omega):(map prV l)[i]? = some (prV (l.getD i d0))) an)<|zAn 1<|S_a [(7,.ret (bool !zHK n (l.getD i d0)) [])] (ap (f204_1 n M F L (by omega) (l.getD i d0)) an)<|zAR<|zDw (!zHK n (l.getD i d0)) (fun k1=>(zAh 2<|zAk<|E_a [] an (I (i:Int)) [] ?_ rfl)) (fun k1=>(zAf<|zAb<|S_i i<|S_g 1 ?_)))) (fun k0=>(zAq 0<|zAh 1<|zAk<|E_a [] an (I (-1)) [] ?_ rfl))
 ·rw[zBK (i:=i) (by omega) (fun j hj=>by rw[<- zAp (d:=d0)];exact ha j hj) (by rw[<- zAp (d:=d0)];first|assumption|exact decide_eq_true ‹_›|(simp only[bF,decide_eq_false_iff_not];assumption))]
 ·refine⟨i+1,⟨by omega,fun j hj=>?_⟩,by omega,by kernel_rfl,by kernel_rfl⟩;rcases bC.1 hj with h|rfl
  ·exact ha j h
  ·first|assumption|exact decide_eq_false ‹_›|(simp only[bI,decide_eq_true_eq];first|assumption|(apply db;assumption))
 ·rw[zB6 fun j hj=>by rw[<- zAp (d:=d0)];exact ha j (by omega)]
theorem f159_1(n:Nw)(M:LP)(F L:LI)(ho:NwOk n)(l:LP)(hl:l.length<4294967296):FG 159 [.sl (l.map prV),.func 204 [] [.ref (.func 118 [.ref (zBu n (.sl []) (mapM M) F L)] [])]] (.bool (l.any (fun x=>!(zHK n x)))):=by
 refine zAe Tryz.f159 ?_;refine zAh 1<|zAl 2<|S_a [(7,.ret (I (zEi (fun x=>!zHK n x) l)) [])] (ap (f203_1 n M F L (by omega) l (by omega)) an)<|S_g 2<|zAk<|E_a [] an (bool (decide (zEi (fun x=>!zHK n x) l>=0))) [] ?_ rfl
 rw[zDI]
theorem f164_1(n:Nw)(M:LP)(F L:LI)(ho:NwOk n)(l:LP)(hl:l.length<4294967296):FG 164 [.sl (l.map prV),.func 118 [.ref (zBu n (.sl []) (mapM M) F L)] []] (.bool (l.all (fun x=>zHK n x))):=by
 refine zAe Tryz.f164 ?_;refine zAh 2<|zAl 2<|S_a [(12,.ret (bool (l.any fun x=>!zHK n x)) [])] (ap (f159_1 n M F L (by omega) l (by omega)) an)<|S_g 2<|zAk<|E_a [] an (bool !l.any fun x=>!zHK n x) [] ?_ rfl
 simp[cX]
theorem f99_1(n:Nw)(cs:LP)(ho:CrOk n cs):FG 99 [nwV n,prs cs] (.tup [zE9 n cs,I 0]):=by
 have hn:=ho.nw;have hl:=ho.len;have ha:(!cs.all fun c=>zHK n c)=false:=by
  simp only[bI,bj];intro c hc;have:=ho.cs c hc;simp only[zHK,inB,bb,decide_eq_true_eq];omega
 refine zAe Tryz.f99 ?_;refine zAh 3<|zAl 1<|S_a [(6,.ret (tup [(zBu n (own 2 []) (zDJ (map pr2 n.l)) (zAi n) (zAx n)).box,I 0]) [])] (ap (f139_1 n (by omega)) an)<|S_g 5<|zAc<|zAd 0<|zAh 3<|zAD<|zAl 1<|S_a [(0,.n cs.length)] (ap (lnS prV cs) an)<|S_g 2<|zAu ((cs.length:Int)>16) (by omega)<|zAl 3<|S_a [(13,.ret (bool (cs.all fun x=>zHK n x)) [])] (ap (f164_1 n (map pr2 n.l) (zAi n) (zAx n) (by omega) cs (by omega)) an)<|S_g 2<|zDw (!cs.all fun x=>zHK n x) (fun k0=>(zAh 2<|zAk<|E_a [] an (tup [PV.nilp,I 1]) [] ?_ rfl)) (fun k0=>(zAf<|zAh 5<|zAl 1<|zAn 1<|S_g 1<|zAk E_0))
 rw[ha] at k0;cases k0
theorem f99_2(n:Nw)(cs:LP)(hs:Small n)(hl:cs.length<1000000)(ho:¬ zDG n cs=0):FG 99 [nwV n,prs cs] (.tup [.nilp,I (zDG n cs)]):=by
 by_cases he:zDg n=0
 ·have hn:=zVg he;refine zAe Tryz.f99 ?_;refine zAh 3<|zAl 1<|S_a [(6,.ret (tup [(zBu n (own 2 []) (zDJ (map pr2 n.l)) (zAi n) (zAx n)).box,I 0]) [])] (ap (f139_1 n (by omega)) an)<|S_g 5<|zAc<|zAd 0<|zAh 3<|zAD<|zAl 1<|S_a [(0,.n cs.length)] (ap (lnS prV cs) an)<|S_g 2<|zB2 ((cs.length:Int)>16) (fun k0=>(zAh 2<|zAk<|E_a [] an (tup [PV.nilp,I 2]) [] ?_ rfl)) (fun k0=>(zAl 3<|S_a [(13,.ret (bool (cs.all fun x=>zHK n x)) [])] (ap (f164_1 n (map pr2 n.l) (zAi n) (zAx n) (by omega) cs (by omega)) an)<|S_g 2<|zDw (!cs.all fun x=>zHK n x) (fun k1=>(zAh 2<|zAk<|E_a [] an (tup [PV.nilp,I 1]) [] ?_ rfl)) (fun k1=>(zAf<|zAh 5<|zAl 1<|zAn 1<|S_g 1<|zAk<|E_a [] an (tup [(agg (I n.h::prs n.l::sl (map ntV n.n)::sl (map zA1 n.s)::prs cs::PV.map (map zFg (map pr2 n.l))::(zBa (zAi n) 8++zBa (zAx n) 8))).ref,I 0]) [] ?_ rfl))))
  ·simp only[zDG,he,k0,if_true]
  ·simp only[zDG,he,k0,k1,if_true,if_false];try rfl
  ·exact absurd (by simp only[zDG,he,k0,k1,if_true,if_false];rfl) ho
 ·refine zAe Tryz.f99 ?_;refine zAh 3<|zAl 1<|S_a [(6,.ret (tup [PV.nilp,I (zDg n)]) [])] (ap (f139_2 n (by omega) (by omega)) an)<|S_g 5<|zAc<|zAd 0<|zAh 3<|zCq (zDg n=0) (by omega)<|zAh 3<|zAk<|E_a [] an (tup [PV.nilp,I (zDg n)]) [] ?_ rfl
  simp only[zDG,he,if_false]
theorem f90_1(n:Nw)(cs:LP)(e:Int)(ho:EvOk n cs e):FG 90 [nwV n,prs cs,I e] (.tup [zE9 n cs,I 0]):=by
 have hc:=ho.cr;have he:inB e 0 12=true:=by have:=ho.ev;simp only[inB,bb,decide_eq_true_eq];omega
 refine zAe Tryz.f90 ?_;refine zAh 3<|zAl 2<|S_a [(8,.ret (tup [zE9 n cs,I 0]) [])] (ap (f99_1 n cs (by omega)) an)<|S_g 5<|zAc<|zAl 4<|S_a [(10,.ret (bool (inB e 0 12)) [])] (ap (f107 e (0) (12)) an)<|S_g 2<|zDw (!inB e 0 12) (fun k0=>(zAb<|S_g 1<|zAc<|zAh 2<|zBD<|zAh 3<|zAk<|E_a [] an (tup [PV.nilp,I 3]) [] ?_ rfl)) (fun k0=>(zAf<|zAc<|zAh 2<|zAD<|zAf<|zAh 3<|zAk E_0))
 rw[he] at k0;cases k0
theorem f90_2(n:Nw)(cs:LP)(e:Int)(hs:Small n)(hl:cs.length<1000000)(ho:¬ zCf n cs e=0):FG 90 [nwV n,prs cs,I e] (.tup [.nilp,I (zCf n cs e)]):=by
 by_cases he:zDG n cs=0
 ·have hc:=zXJ he;refine zAe Tryz.f90 ?_;refine zAh 3<|zAl 2<|S_a [(8,.ret (tup [zE9 n cs,I 0]) [])] (ap (f99_1 n cs (by omega)) an)<|S_g 5<|zAc<|zAl 4<|S_a [(10,.ret (bool (inB e 0 12)) [])] (ap (f107 e (0) (12)) an)<|S_g 2<|zDw (!inB e 0 12) (fun k0=>(zAb<|S_g 1<|zAc<|zAh 2<|zBD<|zAh 3<|zAk<|E_a [] an (tup [PV.nilp,I 3]) [] ?_ rfl)) (fun k0=>(zAf<|zAc<|zAh 2<|zAD<|zAf<|zAh 3<|zAk<|E_a [] an (tup [(agg (I n.h::prs n.l::sl (map ntV n.n)::sl (map zA1 n.s)::prs cs::PV.map (map zFg (map pr2 n.l))::(zBa (zAi n) 8++zBa (zAx n) 8))).ref,I 0]) [] ?_ rfl))
  ·rw[bF] at k0;simp only[zCf,he,k0,if_true];try rfl
  ·rw[bI] at k0;exact absurd (by simp only[zCf,he,k0,if_true]) ho
 ·refine zAe Tryz.f90 ?_;refine zAh 3<|zAl 2<|S_a [(8,.ret (tup [PV.nilp,I (zDG n cs)]) [])] (ap (f99_2 n cs (by omega) (by omega) (by omega)) an)<|S_g 5<|zAc<|zAl 3<|zHx 18 (zDG n cs=0) (by omega) (S_g 4<|zAD<|zAf<|zAc<|zAh 2<|zCq (zDG n cs=0) (by omega)<|zAh 3<|zAk<|E_a [] an (tup [PV.nilp,I (zDG n cs)]) [] ?_ rfl)
  simp only[zCf,he,if_false]
theorem f140(n:Nw)(cp:PV)(M:LP)(F L:LI)(ho:NwOk n)(h:Int)(s:Int)(hs:0<=s/\s<n.s.length):FG 140 [.ref (zBu n cp (mapM M) F L),I h,I s] (.bool (has (n.s.getD s.toNat []) h)):=by
 have h1:=zBt (d:=[]) ho.rows s.toNat (by omega);refine zAe Tryz.f140 ?_;refine zAh 1<|zAl 6<|S_a [(0,.ob),(1,.v (zA1 (n.s.getD s.toNat [])))] (ap ((by exact zAt (by omega)):decide (0<=s)=true)<|ap (zBi [] (by omega):(map zA1 n.s)[s.toNat]? = some (zA1 (n.s.getD s.toNat []))) an)<|zAn 2<|S_a [(8,.ret (bool (has (n.s.getD s.toNat []) h)) [])] (ap (f58 (n.s.getD s.toNat []) h (by omega)) an)<|S_g 1<|zAk E_0
theorem f116(n:Nw)(cs:LP)(h:Int):FG 116 [zE9 n cs,I h] (.func 169 [] [.ref (zE9 n cs),.ref (I h)]):=by
 refine zAe Tryz.f116 ?_;refine zAh 3<|zAh 2<|zAk E_0
end
def zGH(n:Nw)(a b:Int):Bool:=decide (pr2 (a,b)∈n.l.map pr2)
def zHf(n:Nw)(h:Nat)(o:Nat):LN:=(range o).filter fun o=>zGH n h o
theorem zKr{n:Nw}{h o:Nat}:zHf n h (o+1)=if zGH n h o=true then zHf n h o++[o] else zHf n h o:=by
 unfold zHf;rw[bV,cR];by_cases hn:zGH n h o=true
 ·rw[if_pos hn];simp[hn]
 ·rw[if_neg hn];simp[hn]
theorem zVE{n:Nw}{h t m:Nat}(ht:t<=m):zHf n h t <+: zHf n h m:=by
  induction ht with
  |refl=>exact fY _
  | step _ ih => rw [zKr];split
                 · exact ih.trans (List.prefix_append _ _)
                 · exact ih
theorem zVJ{α:Type}{x y:List α}(h:x <+: y){k:Int}(hk:k=x.length):x=y.take k.toNat:=by
 rw[hk,b7];exact List.prefix_iff_eq_take.1 h
abbrev zJY(n:Nw)(h o:Nat):List (List PV):=(zHf n h o).map fun(o:Nat)=>[I o]
abbrev zTZ(n:Nw)(cs:LP)(h:Nat):List PV:=[.ref (zE9 n cs),.ref (I h)]
theorem zXc[Yo](n:Nw)(cs:LP)(h:Nat)(ho:NwOk n)(hh:(h:Int)<n.h)(k:Int)(hk:k = -1\/1<=k/\k<=(zHf n h n.h.toNat).length)(i:Nat):W Tryz.prog zHk 169 Tryz.f169.ntmps (Tryz.f169.body.getD .ret) (zBe ([]++PV.yld i::zTZ n cs h) []) (some ⟨[],k,i⟩) fun x _ lg=>(x = .norm\/x = .ret)/\lg.map (·.xs)=some (if k = -1 then zJY n h n.h.toNat else(zJY n h n.h.toNat).take k.toNat):=by
 have hb:=ho.h;refine zAh 6<|zAd 0 ?_
 refine zWZ (fun(o,xs,kc)=>o<=n.h.toNat/\xs=zJY n h o/\kc=k-xs.length/\(k = -1\/1<=kc)) (fun(o,_,_)=>[(10,I (o:Nat))]) (fun(_,xs,kc)=>some ⟨xs,kc,i⟩) (fun(o,_,_)=>n.h.toNat-o) ((0:Nat),([]:List (List PV)),k) ⟨bG _,rfl,by simp,by omega⟩ fun(o,xs,kc) ⟨hr,jb,hkc,jV⟩=>?_;by_cases qO:(o:Int)<n.h
 ·have yS:=zKr (n:=n) (h:=h) (o:=o);by_cases hI:zGH n h o=true
  ·rw[if_pos hI] at yS;have hne2:pr2 ((h:Int),(o:Int))∈n.l.map pr2:=by simpa[zGH] using hI
   obtain⟨j,hj,yM⟩:=zSo hne2;have jP:zEP ((n.l.map pr2).map zFg) j=some (.bool true):=by
    have:j<n.l.length:=by simpa using hj
    simp[zEP,this]
   have gJ:xs++[[I o]]=zJY n h (o+1):=by rw[zJY,yS,cJ,jb];rfl
   have vB:xs++[[I o]] <+: zJY n h n.h.toNat:=by rw[gJ];exact(zVE (by omega)).map _
   refine zAh 1<|zAc<|zAs ((o:Int)<n.h) (by omega)<|zAf<|zAc<|zAd 1<|zAh 2<|zAl 7<|S_a [(6,.ret (prV (pr2 ((h:Int),(o:Int)))) [])] (ap (f110 (((h:Int),(o:Int)))) an)<|S_a [(2,.ix (some j)),(0,.v (bool true))] (ap yM<|ap (jP:zEP (map zFg (map pr2 n.l)) j=some (bool true)) an)<|zAn 3 ?_
   refine zXY kc xs [I o] i (fun hk3=>?_) (fun hk3=>?_) (by omega)
   ·refine S_g 2<|zBD<|zAk ?_
    refine⟨.inr rfl,?_⟩;have qK:k=(xs++[[I (o:Int)]]).length:=by simp;omega
    have jV:¬ k = -1:=by omega
    rw[if_neg jV,<- zVJ vB qK];show Option.map _ _=_;kernel_rfl
   ·refine S_g 2<|zAD<|zAf<|zAb<|S_i o<|S_g 1 ?_
    exact rnd (o+1,xs++[[I o]],kc-1) ⟨by omega,gJ,by simp;omega,by omega⟩ (by simp only;omega)
  ·rw[if_neg hI] at yS;have hne2:pr2 ((h:Int),(o:Int))∉n.l.map pr2:=by simpa[zGH] using hI
   have yM:=zLN hne2;refine zAh 1<|zAc<|zAs ((o:Int)<n.h) (by omega)<|zAf<|zAc<|zAd 1<|zAh 2<|zAl 7<|S_a [(6,.ret (prV (pr2 ((h:Int),(o:Int)))) [])] (ap (f110 (((h:Int),(o:Int)))) an)<|S_a [(2,.ix none)] (ap yM an)<|S_g 6<|zAD<|zAf<|zAb<|S_i o<|S_g 1 ?_
   exact rnd (o+1,xs,kc) ⟨by omega,by rw[zJY,yS];exact jb,hkc,jV⟩ (by simp only;omega)
 ·have e:o=n.h.toNat:=by omega
  subst e;have hZ:xs.length=(zHf n h n.h.toNat).length:=by rw[jb];simp
  have jV:k = -1:=by omega
  refine zAh 1<|zAc<|zAu ((n.h.toNat:Int)<n.h) (by omega)<|zAq 0 ?_
  refine⟨.inl rfl,?_⟩;rw[if_pos jV,<- jb];show Option.map _ _=_;kernel_rfl
theorem zaf(n:Nw)(cs:LP)(h:Nat)(ho:NwOk n)(hh:(h:Int)<n.h)(k:Int)(hk:k = -1\/1<=k/\k<=(zHf n h n.h.toNat).length):@zVR (yo1 Tryz.prog zHk) 169 [] (zTZ n cs h) k (if k = -1 then zJY n h n.h.toNat else(zJY n h n.h.toNat).take k.toNat) :=
 zVh Tryz.f169 (fun i=>@zXc yo0 n cs h ho hh k hk i) (by omega)
noncomputable instance nwYo:Yo:=yo1 Tryz.prog zHk
theorem zWq(n:Nw)(cs:LP)(h:Nat)(ho:NwOk n)(hh:(h:Int)<n.h):zGy 169 [] (zTZ n cs h) (zJY n h n.h.toNat):=by
 refine⟨?_,fun j h1 h2=>?_⟩
 ·have:=zaf n cs h ho hh (-1) (.inl rfl);rwa[if_pos rfl] at this
 ·have:=zaf n cs h ho hh (j:Int) (.inr ⟨by omega,by simpa using h2⟩);rw[if_neg (by omega)] at this;exact this
end Go.Eng
set_option maxRecDepth 10000
set_option maxHeartbeats 4000000
namespace Go.Eng
open Go Go.Proofs
abbrev hdV(w:LI):PV := .agg (zBa w 80)
def zRK(w:LI)(i:Nat)(x:Int):LI:=w.set i (max (w.getD i 0) x)
theorem zIW{w:LI}{i:Nat}{x:Int}:(zRK w i x).length=w.length:=by simp[zRK]
def begC(n:Nw)(h:Nat)(w:LI)(c:Int×Int):LI:=if has (n.s.getD c.2.toNat []) h=true then zRK w (h*8+((zAi n).getD c.1.toNat 0).toNat) c.1 else w
def begH(n:Nw)(h:Nat)(w:LI)(cs:LP):LI:=cs.foldl (begC n h) w
def begN(n:Nw)(cs:LP)(h:Nat):LI:=(range h).foldl (fun w h=>begH n h w cs) (replicate 80 (-1))
def nxtR(now:LI)(h o:Nat)(w:LI)(k:Nat):LI:=(range k).foldl (fun w i=>zRK w (h*8+i) (now.getD (o*8+i) 0)) w
def nxtH(now:LI)(h:Nat)(w:LI)(l:LN):LI:=l.foldl (fun w o=>nxtR now h o w 8) w
def nxtN(n:Nw)(now:LI)(h:Nat):LI:=(range h).foldl (fun w h=>nxtH now h w (zHf n h n.h.toNat)) now
def zJt(n:Nw)(cs:LP):LI:=begN n cs n.h.toNat
def zCv(n:Nw)(now:LI):LI:=nxtN n now n.h.toNat
def zAM(n:Nw)(cs:LP):Nat->LI
 |0=>zJt n cs|k+1=>zCv n (zAM n cs k)
theorem zV8{n:Nw}{h:Nat}{w:LI}{c:Int×Int}:(begC n h w c).length=w.length:=by unfold begC;split<;>simp[zIW]
theorem zMC{n:Nw}{h:Nat}:∀ {cs:LP} {w:LI},(begH n h w cs).length=w.length
 |[],w=>rfl|c::cs,w=>by
  show(begH n h (begC n h w c) cs).length=_
  rw[zMC,zV8]
theorem zJp{n:Nw}{cs:LP}{h:Nat}:begN n cs (h+1)=begH n h (begN n cs h) cs:=by
 simp only[begN,bV,cv,bY,cB]
theorem zMk{n:Nw}{cs:LP}:∀ h,(begN n cs h).length=80
 |0=>by simp[begN]|h+1=>by rw[zJp,zMC];exact zMk h
theorem zRU{n:Nw}{h:Nat}{w:LI}{cs:LP}{i:Nat}(hi:i<cs.length):begH n h w (cs.take (i+1))=begC n h (begH n h w (cs.take i)) (cs.getD i d0):=zDM hi
theorem zJX{now w:LI}{h o k:Nat}:nxtR now h o w (k+1)=zRK (nxtR now h o w k) (h*8+k) (now.getD (o*8+k) 0):=by
 simp only[nxtR,bV,cv,bY,cB]
theorem zH0{now w:LI}{h o:Nat}:∀ k,(nxtR now h o w k).length=w.length
 |0=>rfl|k+1=>by rw[zJX,zIW];exact zH0 k
theorem zMe{now:LI}{h:Nat}:∀ {l:LN} {w:LI},(nxtH now h w l).length=w.length
 |[],_=>rfl|o::l,w=>by
  show(nxtH now h (nxtR now h o w 8) l).length=_
  rw[zMe,zH0]
theorem zKP{n:Nw}{now:LI}{h:Nat}:nxtN n now (h+1)=nxtH now h (nxtN n now h) (zHf n h n.h.toNat):=by
 simp only[nxtN,bV,cv,bY,cB]
theorem zI4{n:Nw}{now:LI}:∀ h,(nxtN n now h).length=now.length
 |0=>rfl|h+1=>by rw[zKP,zMe];exact zI4 h
theorem zRR{now:LI}{h:Nat}{w:LI}{l:LN}{i:Nat}(hi:i<l.length):nxtH now h w (l.take (i+1))=nxtR now h (l.getD i 0) (nxtH now h w (l.take i)) 8:=zDM hi
theorem zPX{n:Nw}{cs:LP}:(zJt n cs).length=80:=zMk _
theorem zRV{n:Nw}{w:LI}(h:w.length=80):(zCv n w).length=80:=by rw[zCv,zI4,h]
theorem zBQ{n:Nw}{cs:LP}:∀ k,(zAM n cs k).length=80
 |0=>zPX|k+1=>zRV (zBQ k)
theorem zKA{F:LI}{i:Nat}{a:Int}(hF:F.length=8)(hi:i<8)(ha : -1<=a/\a<i)(j:Nat):(zNC F i a).getD j 0=if j=i then(if a = -1 then(i:Int) else F.getD a.toNat 0) else F.getD j 0:=by
 unfold zNC;by_cases hj:j=i
 ·subst hj;rw[if_pos rfl];split
  ·rw[zCY,if_pos ⟨rfl,by omega⟩]
  ·rw[zCY,if_pos ⟨rfl,by simp;omega⟩,zCY,if_neg (by omega)]
 ·rw[if_neg hj];split
  ·rw[zCY,if_neg (fun h=>hj h.1.symm)]
  ·rw[zCY,if_neg (fun h=>hj h.1.symm),zCY,if_neg (fun h=>hj h.1.symm)]
theorem zPb{n:Nw}(ho:NwOk n):∀ i,i<=n.n.length->∀ j,j<i->0<=(zQq n.n i).getD j 0/\(zQq n.n i).getD j 0<=j
 |0,_,j,hj=>absurd hj (bH j)
 | i + 1,hi,j,hj=>by
  have h8:=ho.nl.2;have ha:=ho.na i (by omega);rw[zQq,zKA (zHs i) (by omega) ha];split
  ·subst j;split
   ·omega
   ·have:=zPb ho i (by omega) ((n.n.getD i d0).1.toNat) (by omega);omega
  ·exact zPb ho i (by omega) j (by omega)
theorem zBL{n:Nw}(ho:NwOk n)(j:Nat)(hj:j<n.n.length):0<=(zAi n).getD j 0/\(zAi n).getD j 0<=j:=zPb ho _ (bi _) j hj
theorem zTB{n:Nw}:(zAx n).length=8:=zJf _
theorem f100(n:Nw)(cs:LP)(ho:CrW n cs):FG 100 [zE9 n cs] (hdV (zJt n cs)):=by
 have hb:=ho.nw.h;have hn:=ho.nw;have yO:=ho.len;refine zAe Tryz.f100 ?_;refine zAh 1<|zAh 1<|zAc<|zAh 1<|zAd 0 ?_
 refine zAo (fun(h,w)=>h<=10/\w.length=80/\∀ j,j<h*8->w.getD j 0 = -1) (fun(h,w)=>[(3,.box (hdV w)),(11,I (h:Nat))]) (fun(h,_)=>10-h) ((0:Nat),replicate 80 0) ⟨by omega,rfl,fun j h=>by omega⟩ fun(h,w) ⟨hh,hw,ha⟩=>?_;by_cases hhl:h<10
 ·refine zAh 1<|zAc<|zAs ((h:Int)<10) (by omega)<|zAf<|zAc<|zAd 1<|zAh 2<|zAh 1<|zAd 2 ?_
  refine zAo (fun(i,v)=>i<=8/\v.length=80/\∀ j,j<h*8+i->v.getD j 0 = -1) (fun(i,v)=>[(3,.box (hdV v)),(14,I (i:Nat))]) (fun(i,_)=>8-i) ((0:Nat),w) ⟨by omega,hw,fun j h=>ha j (by omega)⟩ fun(i,v) ⟨hi,hv,hav⟩=>?_;by_cases yB:i<8
  ·refine zAh 1<|zAc<|zAs ((i:Int)<8) (by omega)<|zAf<|zAc<|zAd 3<|zAh 2<|zAb<|zAn 2<|S_a [(2,.ob)] (ap ((by exact zAt (by omega)):decide (h<10)=true) an)<|S_a [(2,.ob)] (ap ((by exact zAt (by omega)):decide (i<8)=true) an)<|S_a [(7,.root ((agg (zBa (v.set (h*8+i) (-1)) 80)).box) true)] (ap (zQW (zLw (q:=(agg (zBa v 80)).box) (xs:=[agg (zBa v 80)]) (x:=agg (zBa v 80)) (y:=agg (zBa (v.set (h*8+i) (-1)) 80)) (q':=(agg (zBa (v.set (h*8+i) (-1)) 80)).box) rfl (zO5 (F:=v) (m:=80) (j:=h*8+i) (u:=-1) (by first|rfl|exact zB8 (by kernel_rfl)|exact zCd (by kernel_rfl)|exact zD0 (by kernel_rfl) (by kernel_rfl)|exact zD2 (by kernel_rfl)|exact zEd (by kernel_rfl) (by kernel_rfl)|exact zDW (by kernel_rfl)|(simp;done)) (by omega) (by omega)) rfl (hb:=zOB (F:=v) (m:=80) (j:=h*8+i) (by first|rfl|exact zB8 (by kernel_rfl)|exact zCd (by kernel_rfl)|exact zD0 (by kernel_rfl) (by kernel_rfl)|exact zD2 (by kernel_rfl)|exact zEd (by kernel_rfl) (by kernel_rfl)|exact zDW (by kernel_rfl)|(simp;done)) (by omega))) rfl:zBG (agg (zBa v 80)).box [] 0 (0+(h:Int).toNat*(fun x=>x.size) Tryz.prog.types[128]+(i:Int).toNat*(fun x=>x.size) Tryz.prog.types[3]) (I (-1)).cells=some (agg (zBa (v.set (h*8+i) (-1)) 80)).box/\zAP (agg (zBa v 80)).box (agg (zBa (v.set (h*8+i) (-1)) 80)).box []=true) an)<|zAR<|zAb<|S_i i<|S_g 1 ?_
   refine⟨(i+1,v.set (h*8+i) (-1)),⟨by omega,by simpa using hv,fun j hj=>?_⟩,by simp only;omega,by kernel_rfl,by kernel_rfl⟩;rw[zCY];split
   ·rfl
   ·exact hav j (by omega)
  ·refine zAh 1<|zAc<|zAu ((i:Int)<8) (by omega)<|zAq 2<|zAb<|S_i h<|S_g 1 ?_
   exact rnd (h+1,v) ⟨by omega,hv,fun j hj=>hav j (by omega)⟩ (by simp only;omega)
 ·have hw0:w=replicate 80 (-1):=by
   refine iC (by simp[hw]) fun j h1 h2=>?_;have:=ha j (by omega);rw[zAp h1] at this;rw[this,fS]
  clear ha;have hw0':begN n cs 0=w:=by rw[hw0];rfl
  clear hw0;refine zAh 1<|zAc<|zAu ((h:Int)<10) (by omega)<|zAq 0<|zAh 3<|zAc<|zAh 6<|zAd 4 ?_
  refine zAo (fun(h,v)=>h<=n.h.toNat/\v=begN n cs h) (fun(h,v)=>[(3,.box (hdV v)),(30,I (h:Nat))]) (fun(h,_)=>n.h.toNat-h) ((0:Nat),w) ⟨by omega,hw0'.symm⟩ fun(h,v) ⟨hh,hv⟩=>?_;have kU:v.length=80:=by rw[hv];exact zMk h
  by_cases hhl:(h:Int)<n.h
  ·have yD:=zJp (n:=n) (cs:=cs) (h:=h);rw[<- hv] at yD;refine zAh 1<|zAc<|zAs ((h:Int)<n.h) (by omega)<|zAf<|zAc<|zAd 5<|zAh 2<|zAl 4<|S_a [(0,.n cs.length)] (ap (lnS prV cs) an)<|S_g 1<|zAd 6 ?_
   refine zAo (fun(i,q)=>i<=cs.length/\q=begH n h v (cs.take i)) (fun(i,q)=>[(3,.box (hdV q)),(38,I (i:Nat))]) (fun(i,_)=>cs.length-i) ((0:Nat),v) ⟨by omega,rfl⟩ fun(i,q) ⟨hi,hq⟩=>?_;have kH:q.length=80:=by rw[hq,zMC];exact kU
   by_cases yB:i<cs.length
   ·have hci:=zBt (d:=d0) ho.cs i yB;have yF:=zRU (n:=n) (h:=h) (w:=v) yB;rw[<- hq] at yF;have v7:=zBL hn (cs.getD i d0).1.toNat (by omega);have kN:=hn.nl;have jL:=hci.2;have wH:0<=(cs.getD i d0).1/\(cs.getD i d0).1<8:=by omega
    have wJ:((zAi n).getD (cs.getD i d0).1.toNat 0).toNat<8:=by have:=hn.nl;omega
    clear yD hv hq;refine zAh 1<|zAc<|zAs ((i:Int)<(cs.length:Int)) (by omega)<|zAf<|zAc<|zAd 7<|zAc<|zAb<|S_a [(2,.v (prV (cs.getD i d0)))] (ap (zBi d0 (by omega):(map prV cs)[i]? = some (prV (cs.getD i d0))) an)<|S_g 3<|zAl 4<|S_a [(9,.ret (bool (has (n.s.getD (cs.getD i d0).snd.toNat []) (h:Int))) [])] (ap (f140 n (prs cs) (map pr2 n.l) (zAi n) (zAx n) (by omega) ((h:Int)) ((cs.getD i d0).snd) (by omega)) an)<|zAR<|zDw (has (n.s.getD (cs.getD i d0).snd.toNat []) (h:Int)) (fun k0=>(zAl 5<|S_a [(0,.ob),(1,.ob),(0,.v ((I ((zAi n).getD (cs.getD i d0).fst.toNat 0)).ref))] (ap ((by exact zAt (by omega)):decide (0<=(cs.getD i d0).fst)=true)<|ap ((by exact zAt (by omega)):decide ((cs.getD i d0).fst.toNat<8)=true)<|ap (zD9 (F:=zAi n) (m:=8) (j:=(cs.getD i d0).fst.toNat) (by omega):zBO (agg (zBa (zAi n) 8)).ref ((cs.getD i d0).fst.toNat*(fun x=>x.size) Tryz.prog.types[3]) none=some (I ((zAi n).getD (cs.getD i d0).fst.toNat 0)).ref) an)<|S_g 2<|zAb<|zAn 4<|S_a [(2,.ob)] (ap ((by exact zAt (by omega)):decide (h<10)=true) an)<|S_a [(0,.ob),(1,.ob)] (ap ((by exact zAt (by omega)):decide (0<=(zAi n).getD (cs.getD i d0).fst.toNat 0)=true)<|ap ((by exact zAt (by omega)):decide (((zAi n).getD (cs.getD i d0).fst.toNat 0).toNat<8)=true) an)<|S_a [(0,.cs true ([I (q.getD (h*8+((zAi n).getD (cs.getD i d0).fst.toNat 0).toNat) 0)]))] (ap (zDe (q:=(agg (zBa q 80)).box) (xs:=[agg (zBa q 80)]) (x:=agg (zBa q 80)) rfl rfl (zFG (F:=q) (m:=80) (j:=h*8+((zAi n).getD (cs.getD i d0).fst.toNat 0).toNat) (by first|rfl|exact zB8 (by kernel_rfl)|exact zCd (by kernel_rfl)|exact zD0 (by kernel_rfl) (by kernel_rfl)|exact zD2 (by kernel_rfl)|exact zEd (by kernel_rfl) (by kernel_rfl)|exact zDW (by kernel_rfl)|(simp;done)) (by omega)):zAy 3 (agg (zBa q 80)).box [] 0 (0+(h:Int).toNat*(fun x=>x.size) Tryz.prog.types[128]+((zAi n).getD (cs.getD i d0).fst.toNat 0).toNat*(fun x=>x.size) Tryz.prog.types[3]) 1=some (true,[I (q.getD (h*8+((zAi n).getD (cs.getD i d0).fst.toNat 0).toNat) 0)])) an)<|zAn 3<|S_a [(9,.ret (I (max (q.getD (h*8+((zAi n).getD (cs.getD i d0).fst.toNat 0).toNat) 0) (cs.getD i d0).fst)) [])] (ap (f165 (q.getD (h*8+((zAi n).getD (cs.getD i d0).fst.toNat 0).toNat) 0) ((cs.getD i d0).fst)) an)<|S_a [(2,.ob)] (ap ((by exact zAt (by omega)):decide (h<10)=true) an)<|S_a [(0,.ob),(1,.ob)] (ap ((by exact zAt (by omega)):decide (0<=(zAi n).getD (cs.getD i d0).fst.toNat 0)=true)<|ap ((by exact zAt (by omega)):decide (((zAi n).getD (cs.getD i d0).fst.toNat 0).toNat<8)=true) an)<|S_a [(8,.root ((agg (zBa (q.set (h*8+((zAi n).getD (cs.getD i d0).fst.toNat 0).toNat) (max (q.getD (h*8+((zAi n).getD (cs.getD i d0).fst.toNat 0).toNat) 0) (cs.getD i d0).fst)) 80)).box) true)] (ap (zQW (zLw (q:=(agg (zBa q 80)).box) (xs:=[agg (zBa q 80)]) (x:=agg (zBa q 80)) (y:=agg (zBa (q.set (h*8+((zAi n).getD (cs.getD i d0).fst.toNat 0).toNat) (max (q.getD (h*8+((zAi n).getD (cs.getD i d0).fst.toNat 0).toNat) 0) (cs.getD i d0).fst)) 80)) (q':=(agg (zBa (q.set (h*8+((zAi n).getD (cs.getD i d0).fst.toNat 0).toNat) (max (q.getD (h*8+((zAi n).getD (cs.getD i d0).fst.toNat 0).toNat) 0) (cs.getD i d0).fst)) 80)).box) rfl (zO5 (F:=q) (m:=80) (j:=h*8+((zAi n).getD (cs.getD i d0).fst.toNat 0).toNat) (u:=max (q.getD (h*8+((zAi n).getD (cs.getD i d0).fst.toNat 0).toNat) 0) (cs.getD i d0).fst) (by first|rfl|exact zB8 (by kernel_rfl)|exact zCd (by kernel_rfl)|exact zD0 (by kernel_rfl) (by kernel_rfl)|exact zD2 (by kernel_rfl)|exact zEd (by kernel_rfl) (by kernel_rfl)|exact zDW (by kernel_rfl)|(simp;done)) (by omega) (by omega)) rfl (hb:=zOB (F:=q) (m:=80) (j:=h*8+((zAi n).getD (cs.getD i d0).fst.toNat 0).toNat) (by first|rfl|exact zB8 (by kernel_rfl)|exact zCd (by kernel_rfl)|exact zD0 (by kernel_rfl) (by kernel_rfl)|exact zD2 (by kernel_rfl)|exact zEd (by kernel_rfl) (by kernel_rfl)|exact zDW (by kernel_rfl)|(simp;done)) (by omega))) rfl:zBG (agg (zBa q 80)).box [] 0 (0+(h:Int).toNat*(fun x=>x.size) Tryz.prog.types[128]+((zAi n).getD (cs.getD i d0).fst.toNat 0).toNat*(fun x=>x.size) Tryz.prog.types[3]) (I (max (q.getD (h*8+((zAi n).getD (cs.getD i d0).fst.toNat 0).toNat) 0) (cs.getD i d0).fst)).cells=some (agg (zBa (q.set (h*8+((zAi n).getD (cs.getD i d0).fst.toNat 0).toNat) (max (q.getD (h*8+((zAi n).getD (cs.getD i d0).fst.toNat 0).toNat) 0) (cs.getD i d0).fst)) 80)).box/\zAP (agg (zBa q 80)).box (agg (zBa (q.set (h*8+((zAi n).getD (cs.getD i d0).fst.toNat 0).toNat) (max (q.getD (h*8+((zAi n).getD (cs.getD i d0).fst.toNat 0).toNat) 0) (cs.getD i d0).fst)) 80)).box []=true) an)<|zAR<|zAb<|S_i i<|S_g 1 ?_)) (fun k0=>(zAf<|zAb<|S_i i<|S_g 1 ?_))
    ·rw[begC,if_pos k0] at yF;exact rnd (i+1,zRK q (h*8+((zAi n).getD (cs.getD i d0).1.toNat 0).toNat) (cs.getD i d0).1) ⟨by omega,yF.symm⟩ (by simp only;omega)
    ·rw[begC,if_neg (by rw[k0];simp)] at yF;exact rnd (i+1,q) ⟨by omega,yF.symm⟩ (by simp only;omega)
   ·refine zAh 1<|zAc<|zAu ((i:Int)<(cs.length:Int)) (by omega)<|zAq 6<|zAb<|S_i h<|S_g 1 ?_
    rw[bp (by omega)] at hq;exact rnd (h+1,q) ⟨by omega,by rw[yD,hq]⟩ (by simp only;omega)
  ·have e:h=n.h.toNat:=by omega
   subst e;refine zAh 1<|zAc<|zAu ((n.h.toNat:Int)<n.h) (by omega)<|zAq 4<|zAh 2<|zAk<|E_a [] an (agg (zBa v 80)) [] ?_ rfl
   rw[hv];rfl
theorem zKl{n:Nw}{h o m:Nat}(ho:o∈zHf n h m):o<m:=by
 simp only[zHf,bT,bx] at ho;exact ho.1
theorem zU2{w:LI}{o i:Nat}(hi:i<8):((w.drop o).take 8).getD i 0=w.getD (o+i) 0:=by
 simp[cE,cw,hi]
theorem f101(n:Nw)(cs:LP)(now:LI)(ho:NwOk n)(hw:now.length=80):FG 101 [zE9 n cs,hdV now] (hdV (zCv n now)):=by
 have hb:=ho.h;refine zAe Tryz.f101 ?_;refine zAh 2<|zAh 3<|zAc<|zAh 6<|zAd 0 ?_
 refine zAo (fun(h,v)=>h<=n.h.toNat/\v=nxtN n now h) (fun(h,v)=>[(5,.box (hdV v)),(16,I (h:Nat))]) (fun(h,_)=>n.h.toNat-h) ((0:Nat),now) ⟨by omega,rfl⟩ fun(h,v) ⟨hh,hv⟩=>?_;have kU:v.length=80:=by rw[hv,zI4];exact hw
 by_cases hhl:(h:Int)<n.h
 ·have yD:=zKP (n:=n) (now:=now) (h:=h);rw[<- hv] at yD;have hA:=zWq n cs h ho hhl;refine zAh 1<|zAc<|zAs ((h:Int)<n.h) (by omega)<|zAf<|zAc<|zAd 1<|zAh 3<|zAl 2<|S_a [(7,.ret (func 169 [] [(zE9 n cs).ref,(I (h:Int)).ref]) [])] (ap (f116 n cs ((h:Int))) an)<|zAR<|zAd 2 ?_
  refine zPm (t:=21) hA (fun j q=>q=nxtH now h v ((zHf n h n.h.toNat).take j)) (fun q=>[(5,.box (hdV q))]) v rfl (fun j x q hx hq=>?_) (fun q hq=>?_)
  ·rw[cC] at hx;obtain⟨o,hm,rfl⟩:=bl.1 hx;have hj:j<(zHf n h n.h.toNat).length:=(bg.1 hm).1;have qO:o<n.h.toNat:=zKl (bK hm);have kH:q.length=80:=by rw[hq,zMe];exact kU
   have yF:=zRR (now:=now) (h:=h) (w:=v) hj;rw[<- hq,show(zHf n h n.h.toNat).getD j 0=o by simp[cE,hm]] at yF;clear yD hv hA hq hm hj;refine zP5 ?_;refine zAb<|S_g 1 ?_
   refine⟨rfl,by kernel_rfl,?_⟩;refine zAd 3<|zAl 1<|S_a [(2,.ob)] (ap ((by exact zAt (by omega)):decide (o<10)=true) an)<|S_a [(0,.cs true (zBa (take 8 (drop (o*8) now)) 8))] (ap (zDe (q:=(agg (zBa now 80)).box) (xs:=[agg (zBa now 80)]) (x:=agg (zBa now 80)) rfl rfl (zXK (K:=8) (c:=o*8) (by omega) (by first|rfl|exact zB8 (by kernel_rfl)|exact zCd (by kernel_rfl)|exact zDW (by kernel_rfl)|(simp;done)) (by omega) (by kernel_rfl)):zAy 3 (agg (zBa now 80)).box [] 0 (0+(o:Int).toNat*(fun x=>x.size) Tryz.prog.types[128]) Tryz.prog.types[128].size=some (true,zBa (take 8 (drop (o*8) now)) 8)) an)<|S_g 1<|zAd 4 ?_
   refine zAo (fun(i,p)=>i<=8/\p=nxtR now h o q i) (fun(i,p)=>[(5,.box (hdV p)),(26,I (i:Nat))]) (fun(i,_)=>8-i) ((0:Nat),q) ⟨by omega,rfl⟩ fun(i,p) ⟨hi,hp⟩=>?_;have ud:p.length=80:=by rw[hp,zH0];exact kH
   by_cases yB:i<8
   ·have yS:=zJX (now:=now) (w:=q) (h:=h) (o:=o) (k:=i);rw[<- hp,<- zU2 yB] at yS;refine zAh 1<|zAc<|zAs ((i:Int)<8) (by omega)<|zAf<|zAc<|zAd 5<|zAl 1<|S_a [(2,.ob),(0,.v (I ((take 8 (drop (o*8) now)).getD i 0)))] (ap ((by exact zAt (by omega)):decide (i<8)=true)<|ap (zVV (F:=take 8 (drop (o*8) now)) (m:=8) (j:=i) (by omega):sub (agg (zBa (take 8 (drop (o*8) now)) 8)) (i*(fun x=>x.size) Tryz.prog.types[3]) none=some (I ((take 8 (drop (o*8) now)).getD i 0))) an)<|S_g 2<|zAb<|zAn 4<|S_a [(2,.ob)] (ap ((by exact zAt (by omega)):decide (h<10)=true) an)<|S_a [(2,.ob)] (ap ((by exact zAt (by omega)):decide (i<8)=true) an)<|S_a [(0,.cs true ([I (p.getD (h*8+i) 0)]))] (ap (zDe (q:=(agg (zBa p 80)).box) (xs:=[agg (zBa p 80)]) (x:=agg (zBa p 80)) rfl rfl (zFG (F:=p) (m:=80) (j:=h*8+i) (by first|rfl|exact zB8 (by kernel_rfl)|exact zCd (by kernel_rfl)|exact zD0 (by kernel_rfl) (by kernel_rfl)|exact zD2 (by kernel_rfl)|exact zEd (by kernel_rfl) (by kernel_rfl)|exact zDW (by kernel_rfl)|(simp;done)) (by omega)):zAy 5 (agg (zBa p 80)).box [] 0 (0+(h:Int).toNat*(fun x=>x.size) Tryz.prog.types[128]+(i:Int).toNat*(fun x=>x.size) Tryz.prog.types[3]) 1=some (true,[I (p.getD (h*8+i) 0)])) an)<|zAn 2<|S_a [(9,.ret (I (max (p.getD (h*8+i) 0) ((take 8 (drop (o*8) now)).getD i 0))) [])] (ap (f165 (p.getD (h*8+i) 0) ((take 8 (drop (o*8) now)).getD i 0)) an)<|S_a [(2,.ob)] (ap ((by exact zAt (by omega)):decide (h<10)=true) an)<|S_a [(2,.ob)] (ap ((by exact zAt (by omega)):decide (i<8)=true) an)<|S_a [(8,.root ((agg (zBa (p.set (h*8+i) (max (p.getD (h*8+i) 0) ((take 8 (drop (o*8) now)).getD i 0))) 80)).box) true)] (ap (zQW (zLw (q:=(agg (zBa p 80)).box) (xs:=[agg (zBa p 80)]) (x:=agg (zBa p 80)) (y:=agg (zBa (p.set (h*8+i) (max (p.getD (h*8+i) 0) ((take 8 (drop (o*8) now)).getD i 0))) 80)) (q':=(agg (zBa (p.set (h*8+i) (max (p.getD (h*8+i) 0) ((take 8 (drop (o*8) now)).getD i 0))) 80)).box) rfl (zO5 (F:=p) (m:=80) (j:=h*8+i) (u:=max (p.getD (h*8+i) 0) ((take 8 (drop (o*8) now)).getD i 0)) (by first|rfl|exact zB8 (by kernel_rfl)|exact zCd (by kernel_rfl)|exact zD0 (by kernel_rfl) (by kernel_rfl)|exact zD2 (by kernel_rfl)|exact zEd (by kernel_rfl) (by kernel_rfl)|exact zDW (by kernel_rfl)|(simp;done)) (by omega) (by omega)) rfl (hb:=zOB (F:=p) (m:=80) (j:=h*8+i) (by first|rfl|exact zB8 (by kernel_rfl)|exact zCd (by kernel_rfl)|exact zD0 (by kernel_rfl) (by kernel_rfl)|exact zD2 (by kernel_rfl)|exact zEd (by kernel_rfl) (by kernel_rfl)|exact zDW (by kernel_rfl)|(simp;done)) (by omega))) rfl:zBG (agg (zBa p 80)).box [] 0 (0+(h:Int).toNat*(fun x=>x.size) Tryz.prog.types[128]+(i:Int).toNat*(fun x=>x.size) Tryz.prog.types[3]) (I (max (p.getD (h*8+i) 0) ((take 8 (drop (o*8) now)).getD i 0))).cells=some (agg (zBa (p.set (h*8+i) (max (p.getD (h*8+i) 0) ((take 8 (drop (o*8) now)).getD i 0))) 80)).box/\zAP (agg (zBa p 80)).box (agg (zBa (p.set (h*8+i) (max (p.getD (h*8+i) 0) ((take 8 (drop (o*8) now)).getD i 0))) 80)).box []=true) an)<|zAR<|zAb<|S_i i<|S_g 1 ?_
    exact rnd (i+1,_) ⟨by omega,yS.symm⟩ (by simp only;omega)
   ·refine zAh 1<|zAc<|zAu ((i:Int)<8) (by omega)<|zAq 4 ?_
    rw[show i=8 by omega] at hp;exact⟨by kernel_rfl,p,by rw[yF,hp],by kernel_rfl⟩
  ·rw[bf,dp] at hq;show W _ _ _ _ _ _ _ _
   refine zAb<|S_i h<|S_g 1 ?_
   exact rnd (h+1,q) ⟨by omega,by rw[yD,hq]⟩ (by simp only;omega)
 ·have e:h=n.h.toNat:=by omega
  subst e;refine zAh 1<|zAc<|zAu ((n.h.toNat:Int)<n.h) (by omega)<|zAq 0<|zAh 2<|zAk<|E_a [] an (agg (zBa v 80)) [] ?_ rfl
  rw[hv];rfl
end Go.Eng
