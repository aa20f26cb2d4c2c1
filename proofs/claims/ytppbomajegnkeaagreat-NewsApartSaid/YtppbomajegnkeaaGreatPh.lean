/- No cry at a stand that is offered mends two of the gaps that are apart, so that there are never more of them than further cries are needed; each other gap is mended by a cry that mends one of them; a gap is stuck just if none of these stands is jM near enough to its jN; and with all stands none is; for every list of numbers, evening and stands. -/
import Derived.Test.YtppbomajegnkeaaGreatPg
import Derived.Test.YtppbomajegnkeaaGreatPd
set_option linter.unusedVariables false
set_option linter.unusedSimpArgs false
set_option linter.unusedSectionVars false
set_option maxHeartbeats 1000000
open Nat (beq ble blt)
open List (map replicate take drop range length filter)
open Go.Eng.PV (own agg addr func sl bor tup omap bad bool int)
namespace Go.Eng
open Go
def zNG(n:Nw)(x y:Int):Bool:=decide ((zAg n).getD y.toNat 0=(zAg n).getD x.toNat 0)
def zVn(n:Nw)(l:LI)(x:Int):LI:=if l.findIdx (zNG n x)<l.length then l.set (l.findIdx (zNG n x)) (max (l.getD (l.findIdx (zNG n x)) 0) x) else l++[x]
structure RowK' (n:Nw) (l:LI):Prop where
 el:∀ x∈l,0<=x/\x<n.n.length
 one:l.Pairwise fun x y=>(zAg n).getD x.toNat 0≠(zAg n).getD y.toNat 0
def lev(n:Nw)(l:LI)(c:Nat)(v:Int):Prop:=v<=-1\/∃ y∈l,(zAg n).getD y.toNat 0=(c:Int)/\v<=y
theorem zWy:∀ (k:Nat) (l:LN),l.Nodup->(∀ x∈l,x<k)->l.length<=k
 |0,l,_,h=>by
  cases l with
  |nil=>simp|cons x l=>exact absurd (h x (by simp)) (by omega)
 | k + 1,l,hn,h=>by
  have h1:=zWy k (l.erase k) (hn.erase k) fun x hx=>by
   have h2:=h x (fR hx);have h3:x≠k:=fun e=>by
    subst e;rw[hn.erase_eq_filter] at hx;have:=(bO.1 hx).2;simp at this
   omega
  rw[List.length_erase] at h1;split at h1<;>omega
theorem zTy(n:Nw)(l:LI)(x:Int):(∃ a y b,l=a++y::b/\(zAg n).getD y.toNat 0=(zAg n).getD x.toNat 0/\zVn n l x=a++max y x::b)\/((∀ y∈l,(zAg n).getD y.toNat 0≠(zAg n).getD x.toNat 0)/\zVn n l x=l++[x]):=by
 by_cases h:l.findIdx (zNG n x)<l.length
 ·left;have hp:=fo (w:=h);refine⟨l.take (l.findIdx (zNG n x)),l[l.findIdx (zNG n x)],l.drop (l.findIdx (zNG n x)+1),?_,by simpa[zNG] using hp,?_⟩
  ·rw[List.getElem_cons_drop,cw]
  ·unfold zVn;rw[if_pos h,zAu h,cm,if_pos h]
 ·right;refine⟨fun y hy he=>h (List.findIdx_lt_length.2 ⟨y,hy,decide_eq_true he⟩),?_⟩;unfold zVn;rw[if_neg h]
theorem zXp{n:Nw}{l:LI}{x:Int}(hl:RowK' n l)(hx:0<=x/\x<n.n.length):RowK' n (zVn n l x)/\∀ c v,lev n (zVn n l x) c v↔lev n l c v\/(zAg n).getD x.toNat 0=(c:Int)/\v<=x:=by
 obtain⟨h1,h2⟩:=hl;rcases zTy n l x with⟨a,y,b,rfl,hy,he⟩|⟨hn,he⟩
 ·rw [he];have hm:(zAg n).getD (max y x).toNat 0=(zAg n).getD y.toNat 0:=by
   rcases Int.le_total y x with h|h
   ·rw[iC h,hy]
   ·rw[fV h]
  have hyy:=h1 y (by simp);refine⟨⟨fun z hz=>?_,?_⟩,fun c v=>?_⟩
  ·rcases bj.1 hz with h|h
   ·exact h1 z (by simp[h])
   ·rcases bx.1 h with rfl|h
    ·omega
    ·exact h1 z (by simp[h])
  ·rw[dW,cL] at h2 ⊢;obtain⟨g1,⟨g2,g3⟩,g4⟩:=h2;refine⟨g1,⟨fun z hz=>by rw[hm];exact g2 z hz,g3⟩,fun z hz t ht=>?_⟩;rcases bx.1 ht with rfl|ht
   ·rw[hm];exact g4 z hz y (by simp)
   ·exact g4 z hz t (by simp[ht])
  ·unfold lev;constructor
   ·rintro(h|⟨z,hz,h3,h4⟩)
    ·exact .inl (.inl h)
    ·rcases bj.1 hz with h|h
     ·exact .inl (.inr ⟨z,by simp[h],h3,h4⟩)
     ·rcases bx.1 h with rfl|h
      ·rw[hm] at h3;rcases Int.le_total y x with yS|yS
       ·rw[iC yS] at h4;exact .inr ⟨by rw[<- hy];exact h3,h4⟩
       ·rw[fV yS] at h4;exact .inl (.inr ⟨y,by simp,h3,h4⟩)
      ·exact .inl (.inr ⟨z,by simp[h],h3,h4⟩)
   ·rintro((h|⟨z,hz,h3,h4⟩)|⟨h3,h4⟩)
    ·exact .inl h
    ·rcases bj.1 hz with h|h
     ·exact .inr ⟨z,by simp[h],h3,h4⟩
     ·rcases bx.1 h with rfl|h
      ·exact .inr ⟨max z x,by simp,by rw[hm];exact h3,by omega⟩
      ·exact .inr ⟨z,by simp[h],h3,h4⟩
    ·exact .inr ⟨max y x,by simp,by rw[hm,hy];exact h3,by omega⟩
 ·rw [he];refine ⟨⟨fun z hz=>?_,?_⟩,fun c v=>?_⟩
  ·rcases bj.1 hz with h|h
   ·exact h1 z h
   ·rw[bk.1 h];exact hx
  ·rw[dW];exact⟨h2,by simp,fun z hz t ht=>by rw[bk.1 ht];exact hn z hz⟩
  ·unfold lev;constructor
   ·rintro(h|⟨z,hz,h3,h4⟩)
    ·exact .inl (.inl h)
    ·rcases bj.1 hz with h|h
     ·exact .inl (.inr ⟨z,h,h3,h4⟩)
     ·rw[bk.1 h] at h3 h4;exact .inr ⟨h3,h4⟩
   ·rintro((h|⟨z,hz,h3,h4⟩)|⟨h3,h4⟩)
    ·exact .inl h
    ·exact .inr ⟨z,by simp[hz],h3,h4⟩
    ·exact .inr ⟨x,by simp,h3,h4⟩
structure TR (n:Nw) (S:Nat->Nat->Int->Prop) (rows:List LI):Prop where
 len:rows.length=n.h.toNat
 row:∀ h,h<n.h.toNat->RowK' n (rows.getD h [])
 lv:∀ h,h<n.h.toNat->∀ c,c<8->∀ v,lev n (rows.getD h []) c v↔S h c v
theorem TR.same{n:Nw}{S S':Nat->Nat->Int->Prop}{rows:List LI}(hr:TR n S rows)(h:∀ a,a<n.h.toNat->∀ c,c<8->∀ v,S a c v↔S' a c v):TR n S' rows :=
 ⟨hr.len,hr.row,fun a ha c hc v=>(hr.lv a ha c hc v).trans (h a ha c hc v)⟩
theorem TR.put{n:Nw}{S:Nat->Nat->Int->Prop}{rows:List LI}(hr:TR n S rows){h:Nat}(hh:h<n.h.toNat){x:Int}(hx:0<=x/\x<n.n.length) :
  TR n (fun a c v=>S a c v\/a=h/\(zAg n).getD x.toNat 0=(c:Int)/\v<=x) (rows.set h (zVn n (rows.getD h []) x)):=by
 obtain⟨h1,h2⟩:=zXp (hr.row h hh) hx;have hg:∀ a,(rows.set h (zVn n (rows.getD h []) x)).getD a []=if h=a then zVn n (rows.getD h []) x else rows.getD a []:=by
  intro a;have hl:=hr.len;simp only[bU,dV];by_cases e:h=a
  ·subst e;rw[if_pos rfl,if_pos rfl,if_pos (by omega)];rfl
  ·rw[if_neg e,if_neg e]
 refine⟨by simpa using hr.len,fun a ha=>?_,fun a ha c hc v=>?_⟩
 ·rw[hg];split
  ·exact h1
  ·exact hr.row a ha
 ·rw[hg];by_cases e:h=a
  ·subst e;rw[if_pos rfl,h2,hr.lv h hh c hc];exact⟨fun h=>h.imp id fun h=>⟨rfl,h⟩,fun h=>h.imp id fun h=>h.2⟩
  ·rw[if_neg e,hr.lv a ha c hc];exact⟨.inl,fun h=>h.elim id fun h=>absurd h.1.symm e⟩
end Go.Eng
set_option maxHeartbeats 1000000
namespace Go.Eng
open Go
section
variable (all:LP) (cov:Int×Int->Int×Int->Bool)
def chs:Nat->LP->LP->Bool×LP->Bool×LP
 |0,_,_,st=>st|k+1,ch,left,st=>if (st.1&&decide (st.2.length<=ch.length))=true then st else match left with
  |[]=>(true,ch)|g::rest=>all.foldl (fun st c=>if cov c g=true then chs k (ch++[c]) ((g::rest).filter fun x=>!cov c x) st else st) st
def zQ6(ext left:LP):Prop:=(∀ c∈ext,c∈all)/\∀ g∈left,∃ c∈ext,cov c g=true
structure ChOk (ch left:LP) (st r:Bool×LP):Prop where
 new:r=st\/r.1=true/\∃ ext,r.2=ch++ext/\zQ6 all cov ext left
 mono:st.1=true->r.1=true/\r.2.length<=st.2.length
 best:∀ ext,zQ6 all cov ext left->r.1=true/\r.2.length<=ch.length+ext.length
theorem zWd : ∀ (k : Nat) (ch left:LP) (st:Bool×LP),left.length<k->ChOk all cov ch left st (chs all cov k ch left st)
 |0,_,_,_,h=>absurd h (cD _)
 | k + 1,ch,left,st,hk=>by
  unfold chs;by_cases h0:(st.1&&decide (st.2.length<=ch.length))=true
  ·rw[if_pos h0];rw[bb,decide_eq_true_eq] at h0;exact⟨.inl rfl,fun h=>⟨h,bf _⟩,fun ext _=>⟨h0.1,by omega⟩⟩
  rw[if_neg h0]
  cases left with
  |nil=>
   refine⟨.inr ⟨rfl,[],by simp,by simp[zQ6]⟩,fun h=>⟨rfl,?_⟩,fun ext _=>⟨rfl,by simp⟩⟩;rw[bb,decide_eq_true_eq] at h0;have:¬ st.2.length<=ch.length:=fun h1=>h0 ⟨h,h1⟩;show ch.length<=st.2.length
   omega
  | cons g rest =>
   have key : ∀ (L : LP) (st:Bool×LP),(∀ c∈L,c∈all) ->
     let r:=L.foldl (fun st c=>if cov c g=true then chs all cov k (ch++[c]) ((g::rest).filter fun x=>!cov c x) st else st) st
     (r=st\/r.1=true/\∃ ext,r.2=ch++ext/\zQ6 all cov ext (g::rest))/\(st.1=true->r.1=true/\r.2.length<=st.2.length) /\
      ∀ c∈L,cov c g=true->∀ ext,zQ6 all cov ext ((g::rest).filter fun x=>!cov c x)->r.1=true/\r.2.length<=ch.length+1+ext.length:=by
    intro L
    induction L with
    |nil=>intro st _;exact⟨.inl rfl,fun h=>⟨h,bf _⟩,fun c hc=>by simp at hc⟩
    | cons c L ih =>
     intro st hL;simp only[bM];have hLt:∀ c∈L,c∈all:=fun x hx=>hL x (bZ _ hx);by_cases hc:cov c g=true
     ·rw [if_pos hc];have yA:((g::rest).filter fun x => !cov c x).length<k:=by
       have:((g::rest).filter fun x=>!cov c x)=rest.filter fun x=>!cov c x:=by rw[bV (by simp[hc])]
       rw[this];have:=bC (fun x=>!cov c x) rest;simp only[bD] at hk;omega
      have hr:=zWd k (ch++[c]) ((g::rest).filter fun x=>!cov c x) st yA;generalize chs all cov k (ch++[c]) ((g::rest).filter fun x=>!cov c x) st=st1 at hr ⊢;obtain⟨i1,i2,i3⟩:=ih st1 hLt;refine⟨?_,fun h=>?_,fun x hx hxg ext he=>?_⟩
      ·rcases i1 with i1|i1
       ·rw[i1];rcases hr.new with h|⟨h,ext,h2,h3,h4⟩
        ·exact .inl h
        ·refine .inr ⟨h,c::ext,by rw[h2];simp,fun y hy=>?_,fun y hy=>?_⟩
         ·rcases bx.1 hy with rfl|hy
          ·exact hL _ (by simp)
          ·exact h3 y hy
         ·by_cases hcy:cov c y=true
          ·exact⟨c,by simp,hcy⟩
          ·obtain⟨z,hz,hzy⟩:=h4 y (bO.2 ⟨hy,by simpa using hcy⟩);exact⟨z,by simp[hz],hzy⟩
       ·exact .inr i1
      ·have h1:=hr.mono h;have h2:=i2 h1.1;exact⟨h2.1,by omega⟩
      ·rcases bx.1 hx with rfl|hx
       ·have h1:=hr.best ext he;have h2:=i2 h1.1;rw[bu,bT] at h1;exact⟨h2.1,by omega⟩
       ·exact i3 x hx hxg ext he
     ·rw[if_neg hc];obtain⟨i1,i2,i3⟩:=ih st hLt;refine⟨i1,i2,fun x hx hxg ext he=>?_⟩;rcases bx.1 hx with rfl|hx
      ·exact absurd hxg hc
      ·exact i3 x hx hxg ext he
   obtain⟨k1,k2,k3⟩:=key all st fun _ h=>h;refine⟨k1,k2,fun ext ⟨he1,he2⟩=>?_⟩;obtain⟨c,hc,hcg⟩:=he2 g (by simp);have h1:=k3 c (he1 c hc) hcg (ext.erase c) ⟨fun x hx=>he1 x (fR hx),fun y hy=>by
    obtain⟨hy1,hy2⟩:=bO.1 hy;obtain⟨z,hz,hzy⟩:=he2 y hy1;have hI:z≠c:=fun e=>by rw[e] at hzy;simp[hzy] at hy2
    exact⟨z,(List.mem_erase_of_ne hI).2 hz,hzy⟩⟩
   rw[iD hc] at h1;have:=fH hc;exact⟨h1.1,bB h1.2 (by omega)⟩
theorem zKz:∀ (k:Nat) (ch left:LP) (st:Bool×LP) (m:Nat),st.2.length<=m->ch.length+left.length<=m->(chs all cov k ch left st).2.length<=m
 |0,_,_,_,_,h,_=>h
 | k + 1,ch,left,st,m,h1,h2=>by
  unfold chs;split
  ·exact h1
  cases left with
  |nil=>simpa using h2
  | cons g rest =>
   have key:∀ (L:LP) (st:Bool×LP),st.2.length<=m->(L.foldl (fun st c=>if cov c g=true then chs all cov k (ch++[c]) ((g::rest).filter fun x=>!cov c x) st else st) st).2.length<=m:=by
    intro L
    induction L with
    |nil=>intro st h;exact h|cons c L ih=>
     intro st h;rw[bM];refine ih _ ?_;by_cases hc:cov c g=true
     ·rw[if_pos hc];refine zKz k _ _ _ m h ?_;rw[bV (by simp[hc])];have:=bC (fun x=>!cov c x) rest;simp only[bu,bT,bD,b7] at h2 ⊢;omega
     ·rw[if_neg hc];exact h
   exact key all st h1
def chF(k:Nat)(ch:LP)(g:Int×Int)(rest:LP)(st:Bool×LP)(c:Int×Int):Bool×LP:=if cov c g=true then chs all cov k (ch++[c]) ((g::rest).filter fun x=>!cov c x) st else st
theorem zRS{k:Nat}{ch:LP}{g:Int×Int}{rest:LP}{m:Nat}(h2:ch.length+(g::rest).length<=m):∀ (L:LP) (st:Bool×LP),st.2.length<=m->(L.foldl (chF all cov k ch g rest) st).2.length<=m:=by
 intro L
 induction L with
 |nil=>intro st h;exact h|cons c L ih=>
  intro st h;rw[bM];refine ih _ ?_;unfold chF;by_cases hc:cov c g=true
  ·rw[if_pos hc];refine zKz all cov k _ _ _ m h ?_;rw[bV (by simp[hc])];have:=bC (fun x=>!cov c x) rest;simp only[bu,bT,bD,b7] at h2 ⊢;omega
  ·rw[if_neg hc];exact h
theorem zPH{k:Nat}{ch:LP}{g:Int×Int}{rest:LP}{st:Bool×LP}(h:¬ (st.1&&decide (st.2.length<=ch.length))=true):chs all cov (k+1) ch (g::rest) st=all.foldl (chF all cov k ch g rest) st:=by
 unfold chs;rw[if_neg h];rfl
theorem zUE{k:Nat}{ch left:LP}{st:Bool×LP}(h:(st.1&&decide (st.2.length<=ch.length))=true):chs all cov (k+1) ch left st=st:=by
 unfold chs;rw[if_pos h]
theorem zSX{k:Nat}{ch:LP}{st:Bool×LP}(h:¬ (st.1&&decide (st.2.length<=ch.length))=true):chs all cov (k+1) ch [] st=(true,ch):=by
 unfold chs;rw[if_neg h]
end
theorem zZo{es es' es'':List (PV×PV)}(h:es'=es''):zAz (fun _=>some (.omap es')) (.box (.omap es)) [(0,0)]=some (.box (.omap es''))/\zAI (.box (.omap es)) (.box (.omap es'')) [(0,0)]=true:=by
 subst h;exact⟨rfl,rfl⟩
end Go.Eng
set_option maxRecDepth 10000
set_option maxHeartbeats 4000000
namespace Go.Eng
open Go Go.Proofs
theorem f124(c:LP)(g:Int×Int)(hc:c.length<=1000):FG 124 [prV g,.ref (prs c)] (.bool (has c g)):=by
 refine zAd Tryz.f124 ?_;refine zAj 2<|zAl 2<|S_a [(8,.ret (bool (has c g)) [])] (ap (f81 c g (by omega)) an)<|S_g 1<|zAn E_0
theorem f174_2(c:LP)(hc:c.length<=1000)(l:LP)(hl:l.length<4294967296):FG 174 [.sl (l.map prV),.func 124 [] [.ref (prs c)]] (I (zDZ (fun x=>has c x) l)):=by
 refine zAd Tryz.f174 ?_;refine zAj 1<|zAc<|zAl 1<|S_a [(0,.n l.length)] (ap (lnS prV l) an)<|S_g 1<|zAf 0 ?_
 refine zAr (fun i=>i<=l.length/\∀ j,j<i->(fun x=>has c x) (l.getD j d0)=false) (fun i=>[(8,I (i:Nat))]) (fun i=>l.length-i) (0:Nat) (by simp) fun i ⟨hi,ha⟩=>?_;refine zAj 1<|zAc<|zCN ((i:Int)<(l.length:Int)) (fun k0=>(zAh<|zAc<|zAf 1<|zAj 2<|zAl 3<|S_a [(2,.v (prV (l.getD i d0)))] (ap (zBN d0 (by omega):(map prV l)[i]? = some (prV (l.getD i d0))) an)<|zAm 1<|S_a [(7,.ret (bool (has c (l.getD i d0))) [])] (ap (f124 c (l.getD i d0) (by omega)) an)<|zA3<|zEx (has c (l.getD i d0)) (fun k1=>(zAj 2<|zAn<|E_a [] an (I (i:Int)) [] ?_ rfl)) (fun k1=>(zAh<|zAb<|S_i i<|S_g 1 ?_)))) (fun k0=>(zAD 0<|zAj 1<|zAn<|E_a [] an (I (-1)) [] ?_ rfl))
 ·rw[zBG (i:=i) (by omega) (fun j hj=>by rw[<- zAu (d:=d0)];exact ha j hj) (by rw[<- zAu (d:=d0)];first|assumption|exact decide_eq_true ‹_›|(simp only[bG,decide_eq_false_iff_not];assumption))]
 ·refine⟨i+1,⟨by omega,fun j hj=>?_⟩,by omega,by kernel_rfl,by kernel_rfl⟩;rcases bP.1 hj with h|rfl
  ·exact ha j h
  ·first|assumption|exact decide_eq_false ‹_›|(simp only[bE,decide_eq_true_eq];first|assumption|(apply cR;assumption))
 ·rw[zBY fun j hj=>by rw[<- zAu (d:=d0)];exact ha j (by omega)]
theorem f122_2(c:LP)(hc:c.length<=1000)(l:LP)(hl:l.length<4294967296):FG 122 [.own 2 (l.map prV),.func 124 [] [.ref (prs c)]] (.own 2 ((l.filter fun x=>!(has c x)).map prV)):=by
 have h1:=zMc (fun x=>has c x) l;have y5:=f174_2 c hc l hl;by_cases hm:zDZ (fun x=>has c x) l = -1
 ·rw[hm] at y5;rw[h1.1 hm];refine zAd Tryz.f122 ?_;refine zAj 1<|zAl 2<|S_a [(3,.ob),(0,.v (prs l)),(3,.ret (I (-1)) [])] (ap (blz (map prV l))<|ap (frT prV l)<|ap y5 an)<|S_g 1<|zAc<|zAj 2<|zCy<|zAl 1<|S_a [(2,.yes)] (ap ((by exact zBq (by simp<;>omega)):(beq 0 0&&(map prV l).length.beq (map prV l).length)=true) an)<|zA3<|zAn<|E_z [(1,.yes),(1,.v (own 2 (map prV l)))] (ap (blz (map prV l))<|ap ((zAT zA6):own 2 (take (map prV l).length (drop 0 (map prV l)))=own 2 (map prV l)) an)
 ·obtain⟨i0,j8,hil0,qZ⟩:=h1.2 hm;rw[j8] at y5;clear h1 hm;refine zAd Tryz.f122 ?_;refine zAj 1<|zAl 2<|S_a [(3,.ob),(0,.v (prs l)),(3,.ret (I (i0:Int)) [])] (ap (blz (map prV l))<|ap (frT prV l)<|ap y5 an)<|S_g 1<|zAc<|zAj 2<|zAB<|zAh<|zAc<|zAl 1<|S_i i0<|S_g 1<|zAf 0 ?_
  refine zAr (fun(i,j,S)=>j<=l.length/\i<j/\S.length=l.length/\S.take i=(l.take j).filter (fun x=>!(has c x))/\∀ r,j<=r->S.getD r d0=l.getD r d0) (fun(i,j,S)=>[(0,.own 2 (S.map prV)),(5,I (i:Nat)),(6,I (j:Nat))]) (fun(_,j,_)=>l.length-j) (i0,i0+1,l) ⟨by omega,by omega,rfl,qZ,fun _ _=>rfl⟩ fun(i,j,S) ⟨hj,hij,hS,ht,hd⟩=>?_;by_cases y9:j<l.length
  ·have gV:=True.intro;have hx:=hd j (bf j);have yD:=zGZ (fun x=>!(has c x)) l j d0 y9;rw[<- hx] at yD;clear y5;have vi:=hd;clear hd hx;refine zAc<|zAl 2<|S_a [(0,.n S.length)] (ap (lnS prV S) an)<|S_g 1<|zAM ((j:Int)<(S.length:Int)) (by omega)<|zAh<|zAc<|zAf 1<|zAl 2<|S_a [(2,.ob),(1,.n j)] (ap ((by exact zAp (by simp only[be,zzLn]<;>omega)):decide (j<(map prV S).length)=true)<|ap ((by simp):some (0+j)=some j) an)<|S_a [(0,.cs true ([I (S.getD j d0).fst,I (S.getD j d0).snd]))] (ap (zCn (q:=own 2 (map prV S)) (xs:=map prV S) (x:=prV (S.getD j d0)) rfl (zBN d0 (by omega)):zAq 0 (own 2 (map prV S)) [] j 0 Tryz.prog.types[108].size=some (true,[I (S.getD j d0).fst,I (S.getD j d0).snd])) an)<|S_g 2<|zAl 2<|S_a [(7,.ret (bool (has c (S.getD j d0))) [])] (ap (f124 c (S.getD j d0) (by omega)) an)<|S_g 1<|zEx (!has c (S.getD j d0)) (fun k0=>(zAl 3<|S_a [(2,.ob),(1,.n i)] (ap ((by exact zAp (by simp only[be,zzLn]<;>omega)):decide (i<(map prV S).length)=true)<|ap ((by simp):some (0+i)=some i) an)<|S_a [(8,.root (own 2 (map prV (S.set i (S.getD j d0)))) true)] (ap (zKK (zBN d0 (by omega)) zDJ:zBv (own 2 (map prV S)) [] i 0 (prV (S.getD j d0)).cells=some (own 2 (map prV (S.set i (S.getD j d0))))/\zAI (own 2 (map prV S)) (own 2 (map prV (S.set i (S.getD j d0)))) []=true) an)<|zA3<|zAb<|zAm 1<|S_i i<|S_g 1<|zAb<|zAm 1<|S_i j<|S_g 1 ?_)) (fun k0=>(zAh<|zAb<|zAm 1<|S_i j<|S_g 1 ?_))
   ·have hb:((fun x=>!(has c x)) (S.getD j d0))=true:=by first|assumption|(simp only[bG,decide_eq_false_iff_not];assumption)
    rw[if_pos hb] at yD;refine⟨(i+1,j+1,S.set i (S.getD j d0)),⟨by omega,by omega,by simpa using hS,?_,fun r uF=>?_⟩,by simp only;omega,by kernel_rfl,by kernel_rfl⟩
    ·rw[yD,<- ht,zFt (by omega)]
    ·rw[zGY (by omega)];exact vi r (by omega)
   ·have hb:((fun x=>!(has c x)) (S.getD j d0))=false:=by first|assumption|(simp only[bE,decide_eq_true_eq];assumption)
    rw[if_neg (fun h=>Bool.noConfusion (hb.symm.trans h))] at yD;exact rnd (i,j+1,S) ⟨by omega,by omega,hS,by rw[yD,ht],fun r uF=>vi r (by omega)⟩ (by simp only;omega)
  ·refine zAc<|zAl 2<|S_a [(0,.n S.length)] (ap (lnS prV S) an)<|S_g 1<|zAQ ((j:Int)<(S.length:Int)) (by omega)<|zAD 0<|zAl 2<|S_a [(3,.ob),(0,.yes),(0,.yes),(0,.v (bor 0 [] 2 i (S.length-i)))] (ap ((by exact zAR (by simp only[be,zzLn,zAO]<;>omega)):i.ble (map prV S).length=true)<|ap ((by exact zAR (by simp only[be,zzLn,zAO]<;>omega)):(map prV S).length.ble (map prV S).length=true)<|ap ((by simp<;>omega):(i.beq 0||i.blt (map prV S).length)=true)<|ap ((by simp):bor 0 [] 2 (0+i) ((map prV S).length-i)=bor 0 [] 2 i (S.length-i)) an)<|zLC (g:=prV) (fun q=>q) 0 2 i (S.length-i) S ((0,0)) (by first|omega|(simp<;>omega)) ⟨rfl,rfl⟩ (fun _=>(by first|exact zIN|exact⟨rfl,rfl,rfl,rfl,bf _,rfl⟩)) zRs.nil (zA3<|zAl 2<|S_a [(4,.yes)] (ap ((by exact zAR (by simp<;>omega)):i.ble (map prV (take i S++replicate (S.length-i) (0,0)++drop (i+(S.length-i)) S)).length=true) an)<|S_g 1<|zAn<|E_a [(1,.yes),(1,.v (own 2 (map prV (take i (take i S++replicate (S.length-i) (0,0)++drop (i+(S.length-i)) S)))))] (ap ((by exact zAR (by simp<;>omega)):(0+((i:Int).toNat-0)).ble (map prV (take i S++replicate (S.length-i) (0,0)++drop (i+(S.length-i)) S)).length=true)<|ap ((by simp):own 2 (take i (drop 0 (map prV (take i S++replicate (S.length-i) (0,0)++drop (i+(S.length-i)) S))))=own 2 (map prV (take i (take i S++replicate (S.length-i) (0,0)++drop (i+(S.length-i)) S)))) an) (own 2 (map prV (take i (take i S++replicate (S.length-i) (0,0)++drop (i+(S.length-i)) S)))) [] ?_ rfl)
   rw[bw (d4 y9)] at ht;rw[<- ht,cO,cP (by rw[cj];omega),fC,iB]
theorem f44_1(n:Nw)(cs:LP)(e:Int)(st:LI)(ho:OffOk n cs e st)(yD:st.length<1000000):FG 44 [nwV n,prs cs,I e,zBT st] (.tup [.sl ((zUl n cs e.toNat (zAA n (zAy n cs e.toNat)) st).map prV),I 0]):=by
 have yy:=ho.ev;have kM:=yy.cr;have kO:=kM.w;have hn:=kM.nw;have uY:=kM.len;have he:=yy.ev;have vS:=hn.nl;have vm:=zCY (w:=zAy n cs e.toNat) hn;have uD:∀ g∈zAA n (zAy n cs e.toNat),(0<=g.1/\g.1<n.h)/\(0<=g.2/\g.2<n.n.length):=zMj;have kT:=f121_1 n cs e st ho yD;rw[<- zYq];generalize zAA n (zAy n cs e.toNat)=G at *;refine zAd Tryz.f44 ?_;refine zAj 3<|zAl 4<|S_a [(12,.ret (tup [zE9 n cs,prs G,agg [zWk n cs e G],I 0]) [])] (ap kT an)<|S_g 10<|zAc<|zAj 2<|zAB<|zAh<|zAc<|zAl 2<|S_a [(0,.n n.n.length)] (ap (lnS ntV n.n) an)<|S_g 1<|zAf 0 ?_
 refine zAr (fun(i,L,_)=>i<=n.n.length/\L=zX7 n cs e.toNat G st i) (fun((i:Nat),(L:LP),(f:Bool))=>[(11,bif f then .own 2 (L.map prV) else .sl (L.map prV)),(34,I (i:Nat))]) (fun(i,_,_)=>n.n.length-i) ((0:Nat),G,false) ⟨bN _,rfl⟩ fun(i,L,f) ⟨hi,hL⟩=>?_;have hLl:L.length<=G.length:=by rw[hL];exact zQc i
 by_cases yR:i<n.n.length
 ·have yx:=zMO (n:=n) (cs:=cs) (e:=e.toNat) (G:=G) (st:=st) (k:=i);rw[<- hL] at yx;clear hL;cases f
  ·refine zAj 1<|zAc<|zAM ((i:Int)<(n.n.length:Int)) (by omega)<|zAh<|zAc<|zAf 1<|zAj 2<|zAl 1<|S_a [(0,.n st.length)] (ap (lnS I st) an)<|S_g 1<|zAf 2 ?_
   refine zAr (fun(j,M,_)=>j<=st.length/\M=zWj n cs e.toNat G i L (st.take j)) (fun((j:Nat),(M:LP),(f:Bool))=>[(11,bif f then .own 2 (M.map prV) else .sl (M.map prV)),(39,I (j:Nat))]) (fun(j,_,_)=>st.length-j) ((0:Nat),L,false) ⟨bN _,rfl⟩ fun(j,M,f) ⟨hj,hM⟩=>?_;have hMl:M.length<=L.length:=by rw[hM];exact zI4 _ _
   by_cases y9:j<st.length
   ·have yM:=zMQ (n:=n) (cs:=cs) (e:=e.toNat) (G:=G) (L:=L) (i:=i) y9;have yT:=zCl (d:=(0:Int)) ho.rng j y9;rw[<- hM] at yM;have kB:(0<=(((i:Int),st.getD j 0):Int×Int).1/\(((i:Int),st.getD j 0):Int×Int).1<n.n.length)/\(0<=(((i:Int),st.getD j 0):Int×Int).2/\(((i:Int),st.getD j 0):Int×Int).2<n.s.length):=by simp only;omega
    have wi:=f173 n cs G e ((i:Int),st.getD j 0) kO uY (by omega) (by omega) uD kB;have yN:(zC0 n (zAy n (cs++[((i:Int),st.getD j 0)]) e.toNat) G).length<=1000:=bB (bC _ _) (by omega);generalize zC0 n (zAy n (cs++[((i:Int),st.getD j 0)]) e.toNat) G=C at *;clear hM yx kT uD;cases f
    ·refine zAj 1<|zAc<|zAM ((j:Int)<(st.length:Int)) (by omega)<|zAh<|zAc<|zAf 3<|zAc<|zAb<|S_a [(2,.v (I (st.getD j 0)))] (ap (zBN (0) (by omega):(map I st)[j]? = some (I (st.getD j 0))) an)<|S_g 2<|zAl 5<|S_a [(9,.ret (prs C) [])] (ap wi an)<|S_g 2<|zAb<|zAm 1<|S_a [(6,.ret (own 2 (map prV M)) [])] (ap (f123 M (by omega)) an)<|zAm 1<|S_a [(3,.ob),(1,.v (own 2 (map prV M))),(9,.ret (own 2 (map prV (filter (fun x=>!has C x) M))) []),(1,.yes)] (ap ((by exact zAR (by simp only[be,zzLn,zAO]<;>omega)):(map prV M).length.ble (map prV M).length=true)<|ap ((zAT zA6):own 2 (take (map prV M).length (drop 0 (map prV M)))=own 2 (map prV M))<|ap (f122_2 C (by omega) M (by omega))<|ap ((by exact zBM _):(own 2 (map prV (filter (fun x=>!has C x) M))).free=true) an)<|S_g 1<|zAb<|S_i j<|S_g 1 ?_
     exact rnd (j+1,M.filter fun g=>!has C g,true) ⟨by omega,yM.symm⟩ (by simp only;omega)
    ·refine zAj 1<|zAc<|zAM ((j:Int)<(st.length:Int)) (by omega)<|zAh<|zAc<|zAf 3<|zAc<|zAb<|S_a [(2,.v (I (st.getD j 0)))] (ap (zBN (0) (by omega):(map I st)[j]? = some (I (st.getD j 0))) an)<|S_g 2<|zAl 5<|S_a [(9,.ret (prs C) [])] (ap wi an)<|S_g 2<|zAb<|zAm 1<|S_a [(3,.ob),(0,.v (prs M)),(2,.ret (own 2 (map prV M)) []),(1,.yes)] (ap (blz (map prV M))<|ap (frT prV M)<|ap (f123 M (by omega))<|ap ((by exact zBM _):(own 2 (map prV M)).free=true) an)<|zAm 1<|S_a [(3,.ob),(1,.v (own 2 (map prV M))),(9,.ret (own 2 (map prV (filter (fun x=>!has C x) M))) []),(1,.yes)] (ap ((by exact zAR (by simp only[be,zzLn,zAO]<;>omega)):(map prV M).length.ble (map prV M).length=true)<|ap ((zAT zA6):own 2 (take (map prV M).length (drop 0 (map prV M)))=own 2 (map prV M))<|ap (f122_2 C (by omega) M (by omega))<|ap ((by exact zBM _):(own 2 (map prV (filter (fun x=>!has C x) M))).free=true) an)<|S_g 1<|zAb<|S_i j<|S_g 1 ?_
     exact rnd (j+1,M.filter fun g=>!has C g,true) ⟨by omega,yM.symm⟩ (by simp only;omega)
   ·rw[bw (by omega)] at hM;rw[<- hM] at yx;clear hM kT uD;cases f
    ·refine zAj 1<|zAc<|zAQ ((j:Int)<(st.length:Int)) (by omega)<|zAD 2<|zAb<|S_i i<|S_g 1 ?_
     exact rnd (i+1,M,false) ⟨by omega,yx.symm⟩ (by simp only;omega)
    ·refine zAj 1<|zAc<|zAQ ((j:Int)<(st.length:Int)) (by omega)<|zAD 2<|zAb<|S_i i<|S_g 1 ?_
     exact rnd (i+1,M,true) ⟨by omega,yx.symm⟩ (by simp only;omega)
  ·refine zAj 1<|zAc<|zAM ((i:Int)<(n.n.length:Int)) (by omega)<|zAh<|zAc<|zAf 1<|zAj 2<|zAl 1<|S_a [(0,.n st.length)] (ap (lnS I st) an)<|S_g 1<|zAf 2 ?_
   refine zAr (fun(j,M,_)=>j<=st.length/\M=zWj n cs e.toNat G i L (st.take j)) (fun((j:Nat),(M:LP),(f:Bool))=>[(11,bif f then .own 2 (M.map prV) else .sl (M.map prV)),(39,I (j:Nat))]) (fun(j,_,_)=>st.length-j) ((0:Nat),L,true) ⟨bN _,rfl⟩ fun(j,M,f) ⟨hj,hM⟩=>?_;have hMl:M.length<=L.length:=by rw[hM];exact zI4 _ _
   by_cases y9:j<st.length
   ·have yM:=zMQ (n:=n) (cs:=cs) (e:=e.toNat) (G:=G) (L:=L) (i:=i) y9;have yT:=zCl (d:=(0:Int)) ho.rng j y9;rw[<- hM] at yM;have kB:(0<=(((i:Int),st.getD j 0):Int×Int).1/\(((i:Int),st.getD j 0):Int×Int).1<n.n.length)/\(0<=(((i:Int),st.getD j 0):Int×Int).2/\(((i:Int),st.getD j 0):Int×Int).2<n.s.length):=by simp only;omega
    have wi:=f173 n cs G e ((i:Int),st.getD j 0) kO uY (by omega) (by omega) uD kB;have yN:(zC0 n (zAy n (cs++[((i:Int),st.getD j 0)]) e.toNat) G).length<=1000:=bB (bC _ _) (by omega);generalize zC0 n (zAy n (cs++[((i:Int),st.getD j 0)]) e.toNat) G=C at *;clear hM yx kT uD;cases f
    ·refine zAj 1<|zAc<|zAM ((j:Int)<(st.length:Int)) (by omega)<|zAh<|zAc<|zAf 3<|zAc<|zAb<|S_a [(2,.v (I (st.getD j 0)))] (ap (zBN (0) (by omega):(map I st)[j]? = some (I (st.getD j 0))) an)<|S_g 2<|zAl 5<|S_a [(9,.ret (prs C) [])] (ap wi an)<|S_g 2<|zAb<|zAm 1<|S_a [(6,.ret (own 2 (map prV M)) [])] (ap (f123 M (by omega)) an)<|zAm 1<|S_a [(3,.ob),(1,.v (own 2 (map prV M))),(9,.ret (own 2 (map prV (filter (fun x=>!has C x) M))) []),(1,.yes)] (ap ((by exact zAR (by simp only[be,zzLn,zAO]<;>omega)):(map prV M).length.ble (map prV M).length=true)<|ap ((zAT zA6):own 2 (take (map prV M).length (drop 0 (map prV M)))=own 2 (map prV M))<|ap (f122_2 C (by omega) M (by omega))<|ap ((by exact zBM _):(own 2 (map prV (filter (fun x=>!has C x) M))).free=true) an)<|S_g 1<|zAb<|S_i j<|S_g 1 ?_
     exact rnd (j+1,M.filter fun g=>!has C g,true) ⟨by omega,yM.symm⟩ (by simp only;omega)
    ·refine zAj 1<|zAc<|zAM ((j:Int)<(st.length:Int)) (by omega)<|zAh<|zAc<|zAf 3<|zAc<|zAb<|S_a [(2,.v (I (st.getD j 0)))] (ap (zBN (0) (by omega):(map I st)[j]? = some (I (st.getD j 0))) an)<|S_g 2<|zAl 5<|S_a [(9,.ret (prs C) [])] (ap wi an)<|S_g 2<|zAb<|zAm 1<|S_a [(3,.ob),(0,.v (prs M)),(2,.ret (own 2 (map prV M)) []),(1,.yes)] (ap (blz (map prV M))<|ap (frT prV M)<|ap (f123 M (by omega))<|ap ((by exact zBM _):(own 2 (map prV M)).free=true) an)<|zAm 1<|S_a [(3,.ob),(1,.v (own 2 (map prV M))),(9,.ret (own 2 (map prV (filter (fun x=>!has C x) M))) []),(1,.yes)] (ap ((by exact zAR (by simp only[be,zzLn,zAO]<;>omega)):(map prV M).length.ble (map prV M).length=true)<|ap ((zAT zA6):own 2 (take (map prV M).length (drop 0 (map prV M)))=own 2 (map prV M))<|ap (f122_2 C (by omega) M (by omega))<|ap ((by exact zBM _):(own 2 (map prV (filter (fun x=>!has C x) M))).free=true) an)<|S_g 1<|zAb<|S_i j<|S_g 1 ?_
     exact rnd (j+1,M.filter fun g=>!has C g,true) ⟨by omega,yM.symm⟩ (by simp only;omega)
   ·rw[bw (by omega)] at hM;rw[<- hM] at yx;clear hM kT uD;cases f
    ·refine zAj 1<|zAc<|zAQ ((j:Int)<(st.length:Int)) (by omega)<|zAD 2<|zAb<|S_i i<|S_g 1 ?_
     exact rnd (i+1,M,false) ⟨by omega,yx.symm⟩ (by simp only;omega)
    ·refine zAj 1<|zAc<|zAQ ((j:Int)<(st.length:Int)) (by omega)<|zAD 2<|zAb<|S_i i<|S_g 1 ?_
     exact rnd (i+1,M,true) ⟨by omega,yx.symm⟩ (by simp only;omega)
 ·rw[show i=n.n.length by omega] at hL;rw[<- hL];clear hL kT uD;cases f
  ·refine zAj 1<|zAc<|zAQ ((i:Int)<(n.n.length:Int)) (by omega)<|zAD 0<|zAj 3<|zAn E_0
  ·refine zAj 1<|zAc<|zAQ ((i:Int)<(n.n.length:Int)) (by omega)<|zAD 0<|zAl 1<|S_a [(2,.yes)] (ap ((by exact zBq (by simp<;>omega)):(beq 0 0&&(map prV L).length.beq (map prV L).length)=true) an)<|S_g 1<|zAn<|E_z [(1,.envv ([(3,zBT st),(4,(agg [I n.h,prs n.l,sl (map ntV n.n),sl (map zBT n.s)]).box),(8,prs L),(9,I 0),(12,(agg [func 173 [] [(agg (I n.h::prs n.l::sl (map ntV n.n)::sl (map zBT n.s)::prs cs::PV.map (map zDW (map pr2 n.l))::(zA5 (zAg n) 8++zA5 (zAN n) 8))).ref.ref,(prs G).ref,(I e).ref]]).box),(13,I 0),(18,tup [bad,bad,bad,bad]),(23,tup [bad,bad,bad,bad]),(25,prs G),(29,bool false),(33,I (n.n.length:Int)),(34,I (i:Int)),(35,bool (decide ((i:Int)<(n.n.length:Int)))),(55,bor 11 [] 2 0 (map prV L).length),(2000288,(agg (I n.h::prs n.l::sl (map ntV n.n)::sl (map zBT n.s)::prs cs::PV.map (map zDW (map pr2 n.l))::(zA5 (zAg n) 8++zA5 (zAN n) 8))).ref),(2000289,prs G),(2000290,agg [func 173 [] [(agg (I n.h::prs n.l::sl (map ntV n.n)::sl (map zBT n.s)::prs cs::PV.map (map zDW (map pr2 n.l))::(zA5 (zAg n) 8++zA5 (zAN n) 8))).ref.ref,(prs G).ref,(I e).ref]]),(2000291,I 0)]) (prs L))] (ap (And.intro (f9 (by kernel_rfl:Env.frz [(3,zBT st),(4,(agg [I n.h,prs n.l,sl (map ntV n.n),sl (map zBT n.s)]).box),(8,own 2 (map prV L)),(9,I 0),(12,(agg [func 173 [] [(agg (I n.h::prs n.l::sl (map ntV n.n)::sl (map zBT n.s)::prs cs::PV.map (map zDW (map pr2 n.l))::(zA5 (zAg n) 8++zA5 (zAN n) 8))).ref.ref,(prs G).ref,(I e).ref]]).box),(13,I 0),(18,tup [bad,bad,bad,bad]),(23,tup [bad,bad,bad,bad]),(25,prs G),(29,bool false),(33,I (n.n.length:Int)),(34,I (i:Int)),(35,bool (decide ((i:Int)<(n.n.length:Int)))),(55,bor 11 [] 2 0 (map prV L).length),(2000288,(agg (I n.h::prs n.l::sl (map ntV n.n)::sl (map zBT n.s)::prs cs::PV.map (map zDW (map pr2 n.l))::(zA5 (zAg n) 8++zA5 (zAN n) 8))).ref),(2000289,prs G),(2000290,agg [func 173 [] [(agg (I n.h::prs n.l::sl (map ntV n.n)::sl (map zBT n.s)::prs cs::PV.map (map zDW (map pr2 n.l))::(zA5 (zAg n) 8++zA5 (zAN n) 8))).ref.ref,(prs G).ref,(I e).ref]]),(2000291,I 0)] 8 []=some [(3,zBT st),(4,(agg [I n.h,prs n.l,sl (map ntV n.n),sl (map zBT n.s)]).box),(8,sl (zAt (map prV L))),(9,I 0),(12,(agg [func 173 [] [(agg (I n.h::prs n.l::sl (map ntV n.n)::sl (map zBT n.s)::prs cs::PV.map (map zDW (map pr2 n.l))::(zA5 (zAg n) 8++zA5 (zAN n) 8))).ref.ref,(prs G).ref,(I e).ref]]).box),(13,I 0),(18,tup [bad,bad,bad,bad]),(23,tup [bad,bad,bad,bad]),(25,prs G),(29,bool false),(33,I (n.n.length:Int)),(34,I (i:Int)),(35,bool (decide ((i:Int)<(n.n.length:Int)))),(55,bor 11 [] 2 0 (map prV L).length),(2000288,(agg (I n.h::prs n.l::sl (map ntV n.n)::sl (map zBT n.s)::prs cs::PV.map (map zDW (map pr2 n.l))::(zA5 (zAg n) 8++zA5 (zAN n) 8))).ref),(2000289,prs G),(2000290,agg [func 173 [] [(agg (I n.h::prs n.l::sl (map ntV n.n)::sl (map zBT n.s)::prs cs::PV.map (map zDW (map pr2 n.l))::(zA5 (zAg n) 8++zA5 (zAN n) 8))).ref.ref,(prs G).ref,(I e).ref]]),(2000291,I 0)]) ((by simp only[show zAt (map prV L)=map prV L from(by first|exact zAs _|exact zAE _|exact zAx _|exact zAY (zAE _)|exact zAY (zAx _)|exact zB7 (by simp[zBF]) (zAs _))]):some [(3,zBT st),(4,(agg [I n.h,prs n.l,sl (map ntV n.n),sl (map zBT n.s)]).box),(8,sl (zAt (map prV L))),(9,I 0),(12,(agg [func 173 [] [(agg (I n.h::prs n.l::sl (map ntV n.n)::sl (map zBT n.s)::prs cs::PV.map (map zDW (map pr2 n.l))::(zA5 (zAg n) 8++zA5 (zAN n) 8))).ref.ref,(prs G).ref,(I e).ref]]).box),(13,I 0),(18,tup [bad,bad,bad,bad]),(23,tup [bad,bad,bad,bad]),(25,prs G),(29,bool false),(33,I (n.n.length:Int)),(34,I (i:Int)),(35,bool (decide ((i:Int)<(n.n.length:Int)))),(55,bor 11 [] 2 0 (map prV L).length),(2000288,(agg (I n.h::prs n.l::sl (map ntV n.n)::sl (map zBT n.s)::prs cs::PV.map (map zDW (map pr2 n.l))::(zA5 (zAg n) 8++zA5 (zAN n) 8))).ref),(2000289,prs G),(2000290,agg [func 173 [] [(agg (I n.h::prs n.l::sl (map ntV n.n)::sl (map zBT n.s)::prs cs::PV.map (map zDW (map pr2 n.l))::(zA5 (zAg n) 8++zA5 (zAN n) 8))).ref.ref,(prs G).ref,(I e).ref]]),(2000291,I 0)]=some [(3,zBT st),(4,(agg [I n.h,prs n.l,sl (map ntV n.n),sl (map zBT n.s)]).box),(8,prs L),(9,I 0),(12,(agg [func 173 [] [(agg (I n.h::prs n.l::sl (map ntV n.n)::sl (map zBT n.s)::prs cs::PV.map (map zDW (map pr2 n.l))::(zA5 (zAg n) 8++zA5 (zAN n) 8))).ref.ref,(prs G).ref,(I e).ref]]).box),(13,I 0),(18,tup [bad,bad,bad,bad]),(23,tup [bad,bad,bad,bad]),(25,prs G),(29,bool false),(33,I (n.n.length:Int)),(34,I (i:Int)),(35,bool (decide ((i:Int)<(n.n.length:Int)))),(55,bor 11 [] 2 0 (map prV L).length),(2000288,(agg (I n.h::prs n.l::sl (map ntV n.n)::sl (map zBT n.s)::prs cs::PV.map (map zDW (map pr2 n.l))::(zA5 (zAg n) 8++zA5 (zAN n) 8))).ref),(2000289,prs G),(2000290,agg [func 173 [] [(agg (I n.h::prs n.l::sl (map ntV n.n)::sl (map zBT n.s)::prs cs::PV.map (map zDW (map pr2 n.l))::(zA5 (zAg n) 8++zA5 (zAN n) 8))).ref.ref,(prs G).ref,(I e).ref]]),(2000291,I 0)])) (zH9 (by first|exact zAs _|exact zAE _|exact zAx _):PV.mapW (inl 8 [] (own 2 (map prV L))) (bor 8 [] 2 0 (map prV L).length)=prs L)) an)
end Go.Eng
set_option maxRecDepth 10000
set_option maxHeartbeats 4000000
namespace Go.Eng
open Go Go.Proofs
def zLf(P:Program)(t:TypeId):List Field:=match P.underlying t with
 |some (.struct fs)=>fs.toList|_=>[]
theorem zYC(a b c d:Int):eqT Tryz.prog 20 37 (.agg [I a,I b]) (.agg [I c,I d])=some (decide (a=c)&&decide (b=d)):=by
 have s1:eqT Tryz.prog 20 37 (.agg [I a,I b]) (.agg [I c,I d])=(match some (a==c) with|some true=>zQO (eqT Tryz.prog 19) (shT Tryz.prog) (.agg [I a,I b]) (.agg [I c,I d]) (zLf Tryz.prog 37).tail|r=>r):=by kernel_rfl
 have s2:zQO (eqT Tryz.prog 19) (shT Tryz.prog) (.agg [I a,I b]) (.agg [I c,I d]) (zLf Tryz.prog 37).tail=(match some (b==d) with|some true=>some true|r=>r):=by kernel_rfl
 rw[s1];show _=some ((a==c)&&(b==d))
 cases a==c
 ·rfl
 simp only[s2,cy];cases b==d<;>rfl
abbrev zCa(la:Int)(M:Int->LP)(s:Int):PV×PV:=(prV (la,s),prs (M s))
theorem zP1{la:Int}{M:Int->LP}{ss:LI}(s:Int):zCh Tryz.prog 37 (prV (la,s)) (ss.map (zCa la M)) 0=some (ss.findIdx? fun y=>decide (s=y)):=by
 rw[zKt (kx:=fun _=>la) (ky:=fun s=>s) (fun _=>rfl) zYC la s ss 0];simp
theorem zOE{la:Int}{M:Int->LP}{ss:LI}(hn:ss.Nodup){i:Nat}(hi:i<ss.length):zCh Tryz.prog 37 (prV (la,ss.getD i 0)) (ss.map (zCa la M)) 0=some (some i)/\zD4 (ss.map (zCa la M)) i=some (prs (M (ss.getD i 0))):=by
 constructor
 ·rw[zP1,da.2];refine⟨hi,by rw[decide_eq_true_eq,zAu hi],fun j hj=>?_⟩;rw[decide_eq_true_eq,zAu hi];intro e;have:=(iq.1 hn) j i (by omega) hi hj;exact this e.symm
 ·simp only[zD4,cH,bl hi,bv,zAu hi]
theorem zXj{la:Int}{M:Int->LP}{ss:LI}{s:Int}(h:s∉ss):zCh Tryz.prog 37 (prV (la,s)) (ss.map (zCa la M)) 0=some none:=by
 rw[zP1,dm.2];intro y hy;rw[decide_eq_false_iff_not];rintro rfl;exact h hy
section
variable [Yo]
theorem f188(la:Int)(M:Int->LP)(ss:LI)(hn:ss.Nodup)(hM:∀ s,(M s).length<=80)(i:Nat)(hi:i<ss.length)(g:Int×Int):FG 188 [prV g,.ref (.map (ss.map (zCa la M))),.ref (prV (la,ss.getD i 0))] (.bool (has (M (ss.getD i 0)) g)):=by
 obtain⟨yB,yj⟩:=zOE (la:=la) (M:=M) hn hi;have hl:=hM (ss.getD i 0);refine zAd Tryz.f188 ?_;refine zAj 2<|zAl 2<|S_a [(2,.ix (some i)),(0,.v (prs (M (ss.getD i 0))))] (ap yB<|ap (yj:zD4 (map (zCa la M) ss) i=some (prs (M (ss.getD i 0)))) an)<|zAm 1<|S_a [(8,.ret (bool (has (M (ss.getD i 0)) g)) [])] (ap (f81 (M (ss.getD i 0)) g (by omega)) an)<|S_g 1<|zAn E_0
theorem f174_3(la:Int)(M:Int->LP)(ss:LI)(hn:ss.Nodup)(hM:∀ s,(M s).length<=80)(z:Nat)(hz:z<ss.length)(l:LP)(hl:l.length<4294967296):FG 174 [.sl (l.map prV),.func 188 [] [.ref (.map (ss.map (zCa la M))),.ref (prV (la,ss.getD z 0))]] (I (zDZ (fun x=>has (M (ss.getD z 0)) x) l)):=by
 refine zAd Tryz.f174 ?_;refine zAj 1<|zAc<|zAl 1<|S_a [(0,.n l.length)] (ap (lnS prV l) an)<|S_g 1<|zAf 0 ?_
 refine zAr (fun i=>i<=l.length/\∀ j,j<i->(fun x=>has (M (ss.getD z 0)) x) (l.getD j d0)=false) (fun i=>[(8,I (i:Nat))]) (fun i=>l.length-i) (0:Nat) (by simp) fun i ⟨hi,ha⟩=>?_;refine zAj 1<|zAc<|zCN ((i:Int)<(l.length:Int)) (fun k0=>(zAh<|zAc<|zAf 1<|zAj 2<|zAl 3<|S_a [(2,.v (prV (l.getD i d0)))] (ap (zBN d0 (by omega):(map prV l)[i]? = some (prV (l.getD i d0))) an)<|zAm 1<|S_a [(8,.ret (bool (has (M (ss.getD z 0)) (l.getD i d0))) [])] (ap (f188 la M ss (by omega) (by omega) z (by omega) (l.getD i d0)) an)<|zA3<|zEx (has (M (ss.getD z 0)) (l.getD i d0)) (fun k1=>(zAj 2<|zAn<|E_a [] an (I (i:Int)) [] ?_ rfl)) (fun k1=>(zAh<|zAb<|S_i i<|S_g 1 ?_)))) (fun k0=>(zAD 0<|zAj 1<|zAn<|E_a [] an (I (-1)) [] ?_ rfl))
 ·rw[zBG (i:=i) (by omega) (fun j hj=>by rw[<- zAu (d:=d0)];exact ha j hj) (by rw[<- zAu (d:=d0)];first|assumption|exact decide_eq_true ‹_›|(simp only[bG,decide_eq_false_iff_not];assumption))]
 ·refine⟨i+1,⟨by omega,fun j hj=>?_⟩,by omega,by kernel_rfl,by kernel_rfl⟩;rcases bP.1 hj with h|rfl
  ·exact ha j h
  ·first|assumption|exact decide_eq_false ‹_›|(simp only[bE,decide_eq_true_eq];first|assumption|(apply cR;assumption))
 ·rw[zBY fun j hj=>by rw[<- zAu (d:=d0)];exact ha j (by omega)]
theorem f122_3(la:Int)(M:Int->LP)(ss:LI)(hn:ss.Nodup)(hM:∀ s,(M s).length<=80)(z:Nat)(hz:z<ss.length)(l:LP)(hl:l.length<4294967296):FG 122 [.own 2 (l.map prV),.func 188 [] [.ref (.map (ss.map (zCa la M))),.ref (prV (la,ss.getD z 0))]] (.own 2 ((l.filter fun x=>!(has (M (ss.getD z 0)) x)).map prV)):=by
 have h1:=zMc (fun x=>has (M (ss.getD z 0)) x) l;have y5:=f174_3 la M ss hn hM z hz l hl;by_cases hm:zDZ (fun x=>has (M (ss.getD z 0)) x) l = -1
 ·rw[hm] at y5;rw[h1.1 hm];refine zAd Tryz.f122 ?_;refine zAj 1<|zAl 2<|S_a [(3,.ob),(0,.v (prs l)),(3,.ret (I (-1)) [])] (ap (blz (map prV l))<|ap (frT prV l)<|ap y5 an)<|S_g 1<|zAc<|zAj 2<|zCy<|zAl 1<|S_a [(2,.yes)] (ap ((by exact zBq (by simp<;>omega)):(beq 0 0&&(map prV l).length.beq (map prV l).length)=true) an)<|zA3<|zAn<|E_z [(1,.yes),(1,.v (own 2 (map prV l)))] (ap (blz (map prV l))<|ap ((zAT zA6):own 2 (take (map prV l).length (drop 0 (map prV l)))=own 2 (map prV l)) an)
 ·obtain⟨i0,j8,hil0,qZ⟩:=h1.2 hm;rw[j8] at y5;clear h1 hm;refine zAd Tryz.f122 ?_;refine zAj 1<|zAl 2<|S_a [(3,.ob),(0,.v (prs l)),(3,.ret (I (i0:Int)) [])] (ap (blz (map prV l))<|ap (frT prV l)<|ap y5 an)<|S_g 1<|zAc<|zAj 2<|zAB<|zAh<|zAc<|zAl 1<|S_i i0<|S_g 1<|zAf 0 ?_
  refine zAr (fun(i,j,S)=>j<=l.length/\i<j/\S.length=l.length/\S.take i=(l.take j).filter (fun x=>!(has (M (ss.getD z 0)) x))/\∀ r,j<=r->S.getD r d0=l.getD r d0) (fun(i,j,S)=>[(0,.own 2 (S.map prV)),(5,I (i:Nat)),(6,I (j:Nat))]) (fun(_,j,_)=>l.length-j) (i0,i0+1,l) ⟨by omega,by omega,rfl,qZ,fun _ _=>rfl⟩ fun(i,j,S) ⟨hj,hij,hS,ht,hd⟩=>?_;by_cases y9:j<l.length
  ·have gV:=True.intro;have hx:=hd j (bf j);have yD:=zGZ (fun x=>!(has (M (ss.getD z 0)) x)) l j d0 y9;rw[<- hx] at yD;clear y5;have vi:=hd;clear hd hx;refine zAc<|zAl 2<|S_a [(0,.n S.length)] (ap (lnS prV S) an)<|S_g 1<|zAM ((j:Int)<(S.length:Int)) (by omega)<|zAh<|zAc<|zAf 1<|zAl 2<|S_a [(2,.ob),(1,.n j)] (ap ((by exact zAp (by simp only[be,zzLn]<;>omega)):decide (j<(map prV S).length)=true)<|ap ((by simp):some (0+j)=some j) an)<|S_a [(0,.cs true ([I (S.getD j d0).fst,I (S.getD j d0).snd]))] (ap (zCn (q:=own 2 (map prV S)) (xs:=map prV S) (x:=prV (S.getD j d0)) rfl (zBN d0 (by omega)):zAq 0 (own 2 (map prV S)) [] j 0 Tryz.prog.types[108].size=some (true,[I (S.getD j d0).fst,I (S.getD j d0).snd])) an)<|S_g 2<|zAl 2<|S_a [(8,.ret (bool (has (M (ss.getD z 0)) (S.getD j d0))) [])] (ap (f188 la M ss (by omega) (by omega) z (by omega) (S.getD j d0)) an)<|S_g 1<|zEx (!has (M (ss.getD z 0)) (S.getD j d0)) (fun k0=>(zAl 3<|S_a [(2,.ob),(1,.n i)] (ap ((by exact zAp (by simp only[be,zzLn]<;>omega)):decide (i<(map prV S).length)=true)<|ap ((by simp):some (0+i)=some i) an)<|S_a [(8,.root (own 2 (map prV (S.set i (S.getD j d0)))) true)] (ap (zKK (zBN d0 (by omega)) zDJ:zBv (own 2 (map prV S)) [] i 0 (prV (S.getD j d0)).cells=some (own 2 (map prV (S.set i (S.getD j d0))))/\zAI (own 2 (map prV S)) (own 2 (map prV (S.set i (S.getD j d0)))) []=true) an)<|zA3<|zAb<|zAm 1<|S_i i<|S_g 1<|zAb<|zAm 1<|S_i j<|S_g 1 ?_)) (fun k0=>(zAh<|zAb<|zAm 1<|S_i j<|S_g 1 ?_))
   ·have hb:((fun x=>!(has (M (ss.getD z 0)) x)) (S.getD j d0))=true:=by first|assumption|(simp only[bG,decide_eq_false_iff_not];assumption)
    rw[if_pos hb] at yD;refine⟨(i+1,j+1,S.set i (S.getD j d0)),⟨by omega,by omega,by simpa using hS,?_,fun r uF=>?_⟩,by simp only;omega,by kernel_rfl,by kernel_rfl⟩
    ·rw[yD,<- ht,zFt (by omega)]
    ·rw[zGY (by omega)];exact vi r (by omega)
   ·have hb:((fun x=>!(has (M (ss.getD z 0)) x)) (S.getD j d0))=false:=by first|assumption|(simp only[bE,decide_eq_true_eq];assumption)
    rw[if_neg (fun h=>Bool.noConfusion (hb.symm.trans h))] at yD;exact rnd (i,j+1,S) ⟨by omega,by omega,hS,by rw[yD,ht],fun r uF=>vi r (by omega)⟩ (by simp only;omega)
  ·refine zAc<|zAl 2<|S_a [(0,.n S.length)] (ap (lnS prV S) an)<|S_g 1<|zAQ ((j:Int)<(S.length:Int)) (by omega)<|zAD 0<|zAl 2<|S_a [(3,.ob),(0,.yes),(0,.yes),(0,.v (bor 0 [] 2 i (S.length-i)))] (ap ((by exact zAR (by simp only[be,zzLn,zAO]<;>omega)):i.ble (map prV S).length=true)<|ap ((by exact zAR (by simp only[be,zzLn,zAO]<;>omega)):(map prV S).length.ble (map prV S).length=true)<|ap ((by simp<;>omega):(i.beq 0||i.blt (map prV S).length)=true)<|ap ((by simp):bor 0 [] 2 (0+i) ((map prV S).length-i)=bor 0 [] 2 i (S.length-i)) an)<|zLC (g:=prV) (fun q=>q) 0 2 i (S.length-i) S ((0,0)) (by first|omega|(simp<;>omega)) ⟨rfl,rfl⟩ (fun _=>(by first|exact zIN|exact⟨rfl,rfl,rfl,rfl,bf _,rfl⟩)) zRs.nil (zA3<|zAl 2<|S_a [(4,.yes)] (ap ((by exact zAR (by simp<;>omega)):i.ble (map prV (take i S++replicate (S.length-i) (0,0)++drop (i+(S.length-i)) S)).length=true) an)<|S_g 1<|zAn<|E_a [(1,.yes),(1,.v (own 2 (map prV (take i (take i S++replicate (S.length-i) (0,0)++drop (i+(S.length-i)) S)))))] (ap ((by exact zAR (by simp<;>omega)):(0+((i:Int).toNat-0)).ble (map prV (take i S++replicate (S.length-i) (0,0)++drop (i+(S.length-i)) S)).length=true)<|ap ((by simp):own 2 (take i (drop 0 (map prV (take i S++replicate (S.length-i) (0,0)++drop (i+(S.length-i)) S))))=own 2 (map prV (take i (take i S++replicate (S.length-i) (0,0)++drop (i+(S.length-i)) S)))) an) (own 2 (map prV (take i (take i S++replicate (S.length-i) (0,0)++drop (i+(S.length-i)) S)))) [] ?_ rfl)
   rw[bw (d4 y9)] at ht;rw[<- ht,cO,cP (by rw[cj];omega),fC,iB]
abbrev zGE(la:Int)(M:Int->LP)(ss:LI):List PV:=[.addr 50000000 [] 0 0 none,.addr 50000001 [] 0 0 none,.ref (.sl (ss.map fun s=>prV (la,s))),.ref (.map (ss.map (zCa la M))),.addr 50000002 [] 0 0 none]
abbrev zMa(la:Int)(M:Int->LP)(ss:LI)(f:Bool)(b:LP):List PV :=
 [.box (.bool f),.box (.own 2 (b.map prV)),.box (.func 187 [] (zGE la M ss))]
def zFI(M:Int->LP)(c g:Int×Int):Bool:=has (M c.2) g
abbrev zHs(la:Int)(ss:LI):LP:=ss.map fun s=>(la,s)
theorem f187(la:Int)(M:Int->LP)(ss:LI)(hn:ss.Nodup)(hM:∀ s,(M s).length<=80)(ui:ss.length<=6):∀ (k:Nat) (ch left:LP) (f:Bool) (b:LP),left.length<k->left.length<=80->ch.length+left.length<=200->b.length<=200 ->
  zBD Tryz.prog zCx 187 (.sl (ch.map prV) :: .sl (left.map prV)::zGE la M ss) (zMa la M ss f b) (.tup []) (zMa la M ss (chs (zHs la ss) (zFI M) k ch left (f,b)).1 (chs (zHs la ss) (zFI M) k ch left (f,b)).2):=by
 intro k
 induction k with
 |zero=>intro ch left f b h;exact absurd h (cD _)
 | succ k ih =>
  intro ch left f b hk hl80 yN yD;unfold zMa;refine zAd Tryz.f187 ?_;by_cases kw:(f&&decide (b.length<=ch.length))=true
  ·rw[zUE _ _ kw];rw[bb,decide_eq_true_eq] at kw;obtain⟨rfl,yA⟩:=kw;clear ih;refine zAc<|zAl 3<|S_a [(0,.n ch.length)] (ap (lnS prV ch) an)<|S_a [(1,.v (bor 50000001 [(0,0)] 2 0 b.length))] (ap ((by simp):bor 50000001 [(0,0)] 2 0 (map prV b).length=bor 50000001 [(0,0)] 2 0 b.length) an)<|S_g 3<|zAM ((ch.length:Int)>=(b.length:Int)) (by omega)<|zAn E_0
  ·refine zFJ (fun(_:Bool)=>True) (fun(x:Bool)=>[(18,.bool x)]) [] ?_ fun x _=>?_
   ·clear ih;cases f
    ·refine zAj 8<|zAB<|zAh ?_
     exact⟨false,trivial,by kernel_rfl,by kernel_rfl⟩
    ·have yA:¬ b.length<=ch.length:=by simpa using kw
     refine zAl 3<|S_a [(0,.n ch.length)] (ap (lnS prV ch) an)<|S_a [(1,.v (bor 50000001 [(0,0)] 2 0 b.length))] (ap ((by simp):bor 50000001 [(0,0)] 2 0 (map prV b).length=bor 50000001 [(0,0)] 2 0 b.length) an)<|S_g 3<|zAQ ((ch.length:Int)>=(b.length:Int)) (by omega)<|zAh ?_
     exact⟨decide ((ch.length:Int)>=b.length),trivial,by kernel_rfl,by kernel_rfl⟩
   cases left with
   |nil=>
    rw[zSX _ _ kw];clear ih kw;refine zAc<|zAl 1<|zAm 1<|S_g 1<|zCy<|zAl 1<|S_a [(6,.ret (own 2 (map prV ch)) [])] (ap (f61 ch (by omega)) an)<|S_g 2<|zAn E_0
   | cons g rest =>
    rw[zPH _ _ kw];generalize hL:g::rest=lf at *;have hg:g=lf.getD 0 d0:=by rw[<- hL];rfl
    have hlr:lf.length=rest.length+1:=by rw[<- hL];rfl
    refine zAc<|zAl 1<|S_a [(0,.n lf.length)] (ap (lnS prV lf) an)<|S_g 1<|zAQ ((lf.length:Int)=0) (by omega)<|zAh<|zAl 1<|S_a [(0,.n ss.length)] (ap (lnS (fun s=>prV (la,s)) ss) an)<|S_g 1<|zAf 0 ?_
    refine zAr (fun(i,s)=>i<=ss.length/\s=((zHs la ss).take i).foldl (chF (zHs la ss) (zFI M) k ch g rest) (f,b)) (fun((i:Nat),(s:Bool×LP))=>[(26,I (i:Nat)),(50000000,.box (.bool s.1)),(50000001,.box (.own 2 (s.2.map prV)))]) (fun(i,_)=>ss.length-i) ((0:Nat),(f,b)) ⟨bN _,rfl⟩ fun(i,s) ⟨hi,hs⟩=>?_;have jP:s.2.length<=200:=by rw[hs];exact zRS _ _ (by rw[hL];exact yN) _ _ yD
    by_cases yR:i<ss.length
    ·obtain⟨yB,yj⟩:=zOE (la:=la) (M:=M) hn yR;have yM:((zHs la ss).take (i+1)).foldl (chF (zHs la ss) (zFI M) k ch g rest) (f,b)=chF (zHs la ss) (zFI M) k ch g rest s (la,ss.getD i 0):=by
      have jz:i<(zHs la ss).length:=by simpa using yR
      rw[zB5 (d:=d0) jz,cE,<- hs,zAu jz];simp only[zHs,fP,bM,cv,zAu yR]
     have hMl:=hM (ss.getD i 0);have ct:=f81 (M (ss.getD i 0)) g (by omega);clear hs;by_cases hc:has (M (ss.getD i 0)) g=true
     ·have qd:zFI M (la,ss.getD i 0) g=true:=hc;have hlf:(lf.filter fun x=>!zFI M (la,ss.getD i 0) x).length<=rest.length:=by
       rw[<- hL,bV (by rw[qd];simp)];exact bC _ _
      have ihc:=ih (ch++[(la,ss.getD i 0)]) (lf.filter fun x=>!zFI M (la,ss.getD i 0) x) s.1 s.2 (by omega) (by omega) (by rw[bu,bT];omega) jP;rw[chF,if_pos qd,hL] at yM;have hrl:(chs (zHs la ss) (zFI M) k (ch++[(la,ss.getD i 0)]) (lf.filter fun x=>!zFI M (la,ss.getD i 0) x) (s.1,s.2)).2.length<=200:=zKz _ _ k _ _ _ 200 jP (by rw[bu,bT];omega);rw[show(s.1,s.2)=s from rfl] at ihc hrl;generalize chs (zHs la ss) (zFI M) k (ch++[(la,ss.getD i 0)]) (lf.filter fun x=>!zFI M (la,ss.getD i 0) x) s=s2 at *;have hfe:(lf.filter fun x=>!zFI M (la,ss.getD i 0) x)=lf.filter fun x=>!(has (M (ss.getD i 0)) x):=rfl;rw[hfe] at ihc hlf;have df:=f122_3 la M ss hn hM i yR lf (by omega);rw[hc,hg] at ct;generalize (lf.filter fun x=>!(has (M (ss.getD i 0)) x))=L at *;unfold zMa at ihc;clear ih yD kw;refine zAj 1<|zAc<|zAM ((i:Int)<(ss.length:Int)) (by omega)<|zAh<|zAc<|zAf 1<|zAc<|zAb<|S_a [(2,.v (prV (la,ss.getD i 0)))] (ap (zBN (0) (by omega):(map (fun s=>prV (la,s)) ss)[i]? = some (prV (la,ss.getD i 0))) an)<|S_g 3<|zAl 2<|S_a [(2,.ix (some i)),(0,.v (prs (M (ss.getD i 0))))] (ap yB<|ap (yj:zD4 (map (zCa la M) ss) i=some (prs (M (ss.getD i 0)))) an)<|zAm 1<|S_a [(2,.v (prV (lf.getD 0 d0)))] (ap (zBN d0 (by omega):(map prV lf)[0]? = some (prV (lf.getD 0 d0))) an)<|zAm 1<|S_a [(8,.ret (bool true) [])] (ap ct an)<|zA3<|zCy<|zAb<|zAm 2<|S_a [(6,.ret (own 2 (map prV ch)) [])] (ap (f61 ch (by omega)) an)<|zAm 2<|S_a [(4,.ob),(0,.ob),(0,.yes),(2,.v (own 2 (map prV (ch++[(la,ss.getD i 0)]))))] (ap (blz (map prV ch))<|ap ((by exact zAR (by simp only[be,zzLn,zAO]<;>omega)):((map prV ch).length + [prV (la,ss.getD i 0)].length).ble zAO=true)<|ap ((by exact zBq (by simp<;>omega)):(0+(map prV ch).length).beq (map prV ch).length=true)<|ap ((zAT (zBE (by kernel_rfl))):own 2 (map prV ch++[prV (la,ss.getD i 0)])=own 2 (map prV (ch++[(la,ss.getD i 0)]))) an)<|zAm 1<|S_a [(6,.ret (own 2 (map prV lf)) [])] (ap (f123 lf (by omega)) an)<|zAm 1<|S_a [(3,.ob),(1,.v (own 2 (map prV lf))),(10,.ret (own 2 (map prV L)) []),(1,.yes)] (ap ((by exact zAR (by simp only[be,zzLn,zAO]<;>omega)):(map prV lf).length.ble (map prV lf).length=true)<|ap ((zAT zA6):own 2 (take (map prV lf).length (drop 0 (map prV lf)))=own 2 (map prV lf))<|ap df<|ap ((by exact zBM _):(own 2 (map prV L)).free=true) an)<|S_a [(3,.ob),(0,.v (prs (ch++[(la,ss.getD i 0)]))),(1,.ob),(0,.v (prs L)),(4,.ret (tup []) ([(bool s2.fst).box,(own 2 (map prV s2.snd)).box,(func 187 [] (zGE la M ss)).box])),(2,.no),(1,.envv ([(0,prs ch),(1,prs lf),(2,addr 50000000 [] 0 0 none),(3,addr 50000001 [] 0 0 none),(4,(sl (map (fun s=>prV (la,s)) ss)).ref),(5,(PV.map (map (zCa la M) ss)).ref),(6,addr 50000002 [] 0 0 none),(10,(prV (la,ss.getD i 0)).box),(18,bool x),(21,bool ((lf.length:Int)==0)),(24,sl (map (fun s=>prV (la,s)) ss)),(25,I (ss.length:Int)),(26,I (i:Int)),(27,bool (decide ((i:Int)<(ss.length:Int)))),(36,bool true),(37,func 187 [] [addr 50000000 [] 0 0 none,addr 50000001 [] 0 0 none,(sl (map (fun s=>prV (la,s)) ss)).ref,(PV.map (map (zCa la M) ss)).ref,addr 50000002 [] 0 0 none]),(38,prs ch),(39,bad),(40,prV (la,ss.getD i 0)),(41,bad),(42,prs (ch++[(la,ss.getD i 0)])),(43,prs lf),(44,bad),(45,func 188 [] [(PV.map (map (zCa la M) ss)).ref,addr 10 [] 0 0 (some 2)]),(46,own 2 (map prV L)),(50000000,(bool s.fst).box),(50000001,(own 2 (map prV s.snd)).box),(50000002,(func 187 [] [addr 50000000 [] 0 0 none,addr 50000001 [] 0 0 none,(sl (map (fun s=>prV (la,s)) ss)).ref,(PV.map (map (zCa la M) ss)).ref,addr 50000002 [] 0 0 none]).box)]) (prs (ch++[(la,ss.getD i 0)]))),(2,.envv ([(0,prs ch),(1,prs lf),(2,addr 50000000 [] 0 0 none),(3,addr 50000001 [] 0 0 none),(4,(sl (map (fun s=>prV (la,s)) ss)).ref),(5,(PV.map (map (zCa la M) ss)).ref),(6,addr 50000002 [] 0 0 none),(10,(prV (la,ss.getD i 0)).box),(18,bool x),(21,bool ((lf.length:Int)==0)),(24,sl (map (fun s=>prV (la,s)) ss)),(25,I (ss.length:Int)),(26,I (i:Int)),(27,bool (decide ((i:Int)<(ss.length:Int)))),(36,bool true),(37,func 187 [] [addr 50000000 [] 0 0 none,addr 50000001 [] 0 0 none,(sl (map (fun s=>prV (la,s)) ss)).ref,(PV.map (map (zCa la M) ss)).ref,addr 50000002 [] 0 0 none]),(38,prs ch),(39,bad),(40,prV (la,ss.getD i 0)),(41,bad),(42,prs (ch++[(la,ss.getD i 0)])),(43,prs lf),(44,bad),(45,func 188 [] [(PV.map (map (zCa la M) ss)).ref,addr 10 [] 0 0 (some 2)]),(46,prs L),(50000000,(bool s.fst).box),(50000001,(own 2 (map prV s.snd)).box),(50000002,(func 187 [] [addr 50000000 [] 0 0 none,addr 50000001 [] 0 0 none,(sl (map (fun s=>prV (la,s)) ss)).ref,(PV.map (map (zCa la M) ss)).ref,addr 50000002 [] 0 0 none]).box)]) (prs L)),(5,.ret (tup []) ([(bool s2.fst).box,(own 2 (map prV s2.snd)).box,(func 187 [] (zGE la M ss)).box]))] (ap (blz (map prV (ch++[(la,ss.getD i 0)])))<|ap (frT prV (ch++[(la,ss.getD i 0)]))<|ap (blz (map prV L))<|ap (frT prV L)<|ap ihc<|ap ((by simp[PV.free,zBM,zD1]):zD1 [(bool s2.fst).box,(own 2 (map prV s2.snd)).box,(func 187 [] (zGE la M ss)).box]=false)<|ap (And.intro (f9 (by kernel_rfl:Env.frz [(0,prs ch),(1,prs lf),(2,addr 50000000 [] 0 0 none),(3,addr 50000001 [] 0 0 none),(4,(sl (map (fun s=>prV (la,s)) ss)).ref),(5,(PV.map (map (zCa la M) ss)).ref),(6,addr 50000002 [] 0 0 none),(10,(prV (la,ss.getD i 0)).box),(18,bool x),(21,bool ((lf.length:Int)==0)),(24,sl (map (fun s=>prV (la,s)) ss)),(25,I (ss.length:Int)),(26,I (i:Int)),(27,bool (decide ((i:Int)<(ss.length:Int)))),(36,bool true),(37,func 187 [] [addr 50000000 [] 0 0 none,addr 50000001 [] 0 0 none,(sl (map (fun s=>prV (la,s)) ss)).ref,(PV.map (map (zCa la M) ss)).ref,addr 50000002 [] 0 0 none]),(38,prs ch),(39,bad),(40,prV (la,ss.getD i 0)),(41,bad),(42,own 2 (map prV (ch++[(la,ss.getD i 0)]))),(43,prs lf),(44,bad),(45,func 188 [] [(PV.map (map (zCa la M) ss)).ref,addr 10 [] 0 0 (some 2)]),(46,own 2 (map prV L)),(50000000,(bool s.fst).box),(50000001,(own 2 (map prV s.snd)).box),(50000002,(func 187 [] [addr 50000000 [] 0 0 none,addr 50000001 [] 0 0 none,(sl (map (fun s=>prV (la,s)) ss)).ref,(PV.map (map (zCa la M) ss)).ref,addr 50000002 [] 0 0 none]).box)] 42 []=some [(0,prs ch),(1,prs lf),(2,addr 50000000 [] 0 0 none),(3,addr 50000001 [] 0 0 none),(4,(sl (map (fun s=>prV (la,s)) ss)).ref),(5,(PV.map (map (zCa la M) ss)).ref),(6,addr 50000002 [] 0 0 none),(10,(prV (la,ss.getD i 0)).box),(18,bool x),(21,bool ((lf.length:Int)==0)),(24,sl (map (fun s=>prV (la,s)) ss)),(25,I (ss.length:Int)),(26,I (i:Int)),(27,bool (decide ((i:Int)<(ss.length:Int)))),(36,bool true),(37,func 187 [] [addr 50000000 [] 0 0 none,addr 50000001 [] 0 0 none,(sl (map (fun s=>prV (la,s)) ss)).ref,(PV.map (map (zCa la M) ss)).ref,addr 50000002 [] 0 0 none]),(38,prs ch),(39,bad),(40,prV (la,ss.getD i 0)),(41,bad),(42,sl (zAt (map prV (ch++[(la,ss.getD i 0)])))),(43,prs lf),(44,bad),(45,func 188 [] [(PV.map (map (zCa la M) ss)).ref,addr 10 [] 0 0 (some 2)]),(46,own 2 (map prV L)),(50000000,(bool s.fst).box),(50000001,(own 2 (map prV s.snd)).box),(50000002,(func 187 [] [addr 50000000 [] 0 0 none,addr 50000001 [] 0 0 none,(sl (map (fun s=>prV (la,s)) ss)).ref,(PV.map (map (zCa la M) ss)).ref,addr 50000002 [] 0 0 none]).box)]) ((by simp only[show zAt (map prV (ch++[(la,ss.getD i 0)]))=map prV (ch++[(la,ss.getD i 0)]) from(by first|exact zAs _|exact zAE _|exact zAx _|exact zAY (zAE _)|exact zAY (zAx _)|exact zB7 (by simp[zBF]) (zAs _))]):some [(0,prs ch),(1,prs lf),(2,addr 50000000 [] 0 0 none),(3,addr 50000001 [] 0 0 none),(4,(sl (map (fun s=>prV (la,s)) ss)).ref),(5,(PV.map (map (zCa la M) ss)).ref),(6,addr 50000002 [] 0 0 none),(10,(prV (la,ss.getD i 0)).box),(18,bool x),(21,bool ((lf.length:Int)==0)),(24,sl (map (fun s=>prV (la,s)) ss)),(25,I (ss.length:Int)),(26,I (i:Int)),(27,bool (decide ((i:Int)<(ss.length:Int)))),(36,bool true),(37,func 187 [] [addr 50000000 [] 0 0 none,addr 50000001 [] 0 0 none,(sl (map (fun s=>prV (la,s)) ss)).ref,(PV.map (map (zCa la M) ss)).ref,addr 50000002 [] 0 0 none]),(38,prs ch),(39,bad),(40,prV (la,ss.getD i 0)),(41,bad),(42,sl (zAt (map prV (ch++[(la,ss.getD i 0)])))),(43,prs lf),(44,bad),(45,func 188 [] [(PV.map (map (zCa la M) ss)).ref,addr 10 [] 0 0 (some 2)]),(46,own 2 (map prV L)),(50000000,(bool s.fst).box),(50000001,(own 2 (map prV s.snd)).box),(50000002,(func 187 [] [addr 50000000 [] 0 0 none,addr 50000001 [] 0 0 none,(sl (map (fun s=>prV (la,s)) ss)).ref,(PV.map (map (zCa la M) ss)).ref,addr 50000002 [] 0 0 none]).box)]=some [(0,prs ch),(1,prs lf),(2,addr 50000000 [] 0 0 none),(3,addr 50000001 [] 0 0 none),(4,(sl (map (fun s=>prV (la,s)) ss)).ref),(5,(PV.map (map (zCa la M) ss)).ref),(6,addr 50000002 [] 0 0 none),(10,(prV (la,ss.getD i 0)).box),(18,bool x),(21,bool ((lf.length:Int)==0)),(24,sl (map (fun s=>prV (la,s)) ss)),(25,I (ss.length:Int)),(26,I (i:Int)),(27,bool (decide ((i:Int)<(ss.length:Int)))),(36,bool true),(37,func 187 [] [addr 50000000 [] 0 0 none,addr 50000001 [] 0 0 none,(sl (map (fun s=>prV (la,s)) ss)).ref,(PV.map (map (zCa la M) ss)).ref,addr 50000002 [] 0 0 none]),(38,prs ch),(39,bad),(40,prV (la,ss.getD i 0)),(41,bad),(42,prs (ch++[(la,ss.getD i 0)])),(43,prs lf),(44,bad),(45,func 188 [] [(PV.map (map (zCa la M) ss)).ref,addr 10 [] 0 0 (some 2)]),(46,own 2 (map prV L)),(50000000,(bool s.fst).box),(50000001,(own 2 (map prV s.snd)).box),(50000002,(func 187 [] [addr 50000000 [] 0 0 none,addr 50000001 [] 0 0 none,(sl (map (fun s=>prV (la,s)) ss)).ref,(PV.map (map (zCa la M) ss)).ref,addr 50000002 [] 0 0 none]).box)])) (zH9 (by first|exact zAs _|exact zAE _|exact zAx _):PV.mapW (inl 42 [] (own 2 (map prV (ch++[(la,ss.getD i 0)])))) (bor 42 [] 2 0 (map prV (ch++[(la,ss.getD i 0)])).length)=prs (ch++[(la,ss.getD i 0)])))<|ap (And.intro (f9 (by kernel_rfl:Env.frz [(0,prs ch),(1,prs lf),(2,addr 50000000 [] 0 0 none),(3,addr 50000001 [] 0 0 none),(4,(sl (map (fun s=>prV (la,s)) ss)).ref),(5,(PV.map (map (zCa la M) ss)).ref),(6,addr 50000002 [] 0 0 none),(10,(prV (la,ss.getD i 0)).box),(18,bool x),(21,bool ((lf.length:Int)==0)),(24,sl (map (fun s=>prV (la,s)) ss)),(25,I (ss.length:Int)),(26,I (i:Int)),(27,bool (decide ((i:Int)<(ss.length:Int)))),(36,bool true),(37,func 187 [] [addr 50000000 [] 0 0 none,addr 50000001 [] 0 0 none,(sl (map (fun s=>prV (la,s)) ss)).ref,(PV.map (map (zCa la M) ss)).ref,addr 50000002 [] 0 0 none]),(38,prs ch),(39,bad),(40,prV (la,ss.getD i 0)),(41,bad),(42,prs (ch++[(la,ss.getD i 0)])),(43,prs lf),(44,bad),(45,func 188 [] [(PV.map (map (zCa la M) ss)).ref,addr 10 [] 0 0 (some 2)]),(46,own 2 (map prV L)),(50000000,(bool s.fst).box),(50000001,(own 2 (map prV s.snd)).box),(50000002,(func 187 [] [addr 50000000 [] 0 0 none,addr 50000001 [] 0 0 none,(sl (map (fun s=>prV (la,s)) ss)).ref,(PV.map (map (zCa la M) ss)).ref,addr 50000002 [] 0 0 none]).box)] 46 []=some [(0,prs ch),(1,prs lf),(2,addr 50000000 [] 0 0 none),(3,addr 50000001 [] 0 0 none),(4,(sl (map (fun s=>prV (la,s)) ss)).ref),(5,(PV.map (map (zCa la M) ss)).ref),(6,addr 50000002 [] 0 0 none),(10,(prV (la,ss.getD i 0)).box),(18,bool x),(21,bool ((lf.length:Int)==0)),(24,sl (map (fun s=>prV (la,s)) ss)),(25,I (ss.length:Int)),(26,I (i:Int)),(27,bool (decide ((i:Int)<(ss.length:Int)))),(36,bool true),(37,func 187 [] [addr 50000000 [] 0 0 none,addr 50000001 [] 0 0 none,(sl (map (fun s=>prV (la,s)) ss)).ref,(PV.map (map (zCa la M) ss)).ref,addr 50000002 [] 0 0 none]),(38,prs ch),(39,bad),(40,prV (la,ss.getD i 0)),(41,bad),(42,prs (ch++[(la,ss.getD i 0)])),(43,prs lf),(44,bad),(45,func 188 [] [(PV.map (map (zCa la M) ss)).ref,addr 10 [] 0 0 (some 2)]),(46,sl (zAt (map prV L))),(50000000,(bool s.fst).box),(50000001,(own 2 (map prV s.snd)).box),(50000002,(func 187 [] [addr 50000000 [] 0 0 none,addr 50000001 [] 0 0 none,(sl (map (fun s=>prV (la,s)) ss)).ref,(PV.map (map (zCa la M) ss)).ref,addr 50000002 [] 0 0 none]).box)]) ((by simp only[show zAt (map prV L)=map prV L from(by first|exact zAs _|exact zAE _|exact zAx _|exact zAY (zAE _)|exact zAY (zAx _)|exact zB7 (by simp[zBF]) (zAs _))]):some [(0,prs ch),(1,prs lf),(2,addr 50000000 [] 0 0 none),(3,addr 50000001 [] 0 0 none),(4,(sl (map (fun s=>prV (la,s)) ss)).ref),(5,(PV.map (map (zCa la M) ss)).ref),(6,addr 50000002 [] 0 0 none),(10,(prV (la,ss.getD i 0)).box),(18,bool x),(21,bool ((lf.length:Int)==0)),(24,sl (map (fun s=>prV (la,s)) ss)),(25,I (ss.length:Int)),(26,I (i:Int)),(27,bool (decide ((i:Int)<(ss.length:Int)))),(36,bool true),(37,func 187 [] [addr 50000000 [] 0 0 none,addr 50000001 [] 0 0 none,(sl (map (fun s=>prV (la,s)) ss)).ref,(PV.map (map (zCa la M) ss)).ref,addr 50000002 [] 0 0 none]),(38,prs ch),(39,bad),(40,prV (la,ss.getD i 0)),(41,bad),(42,prs (ch++[(la,ss.getD i 0)])),(43,prs lf),(44,bad),(45,func 188 [] [(PV.map (map (zCa la M) ss)).ref,addr 10 [] 0 0 (some 2)]),(46,sl (zAt (map prV L))),(50000000,(bool s.fst).box),(50000001,(own 2 (map prV s.snd)).box),(50000002,(func 187 [] [addr 50000000 [] 0 0 none,addr 50000001 [] 0 0 none,(sl (map (fun s=>prV (la,s)) ss)).ref,(PV.map (map (zCa la M) ss)).ref,addr 50000002 [] 0 0 none]).box)]=some [(0,prs ch),(1,prs lf),(2,addr 50000000 [] 0 0 none),(3,addr 50000001 [] 0 0 none),(4,(sl (map (fun s=>prV (la,s)) ss)).ref),(5,(PV.map (map (zCa la M) ss)).ref),(6,addr 50000002 [] 0 0 none),(10,(prV (la,ss.getD i 0)).box),(18,bool x),(21,bool ((lf.length:Int)==0)),(24,sl (map (fun s=>prV (la,s)) ss)),(25,I (ss.length:Int)),(26,I (i:Int)),(27,bool (decide ((i:Int)<(ss.length:Int)))),(36,bool true),(37,func 187 [] [addr 50000000 [] 0 0 none,addr 50000001 [] 0 0 none,(sl (map (fun s=>prV (la,s)) ss)).ref,(PV.map (map (zCa la M) ss)).ref,addr 50000002 [] 0 0 none]),(38,prs ch),(39,bad),(40,prV (la,ss.getD i 0)),(41,bad),(42,prs (ch++[(la,ss.getD i 0)])),(43,prs lf),(44,bad),(45,func 188 [] [(PV.map (map (zCa la M) ss)).ref,addr 10 [] 0 0 (some 2)]),(46,prs L),(50000000,(bool s.fst).box),(50000001,(own 2 (map prV s.snd)).box),(50000002,(func 187 [] [addr 50000000 [] 0 0 none,addr 50000001 [] 0 0 none,(sl (map (fun s=>prV (la,s)) ss)).ref,(PV.map (map (zCa la M) ss)).ref,addr 50000002 [] 0 0 none]).box)])) (zH9 (by first|exact zAs _|exact zAE _|exact zAx _):PV.mapW (inl 46 [] (own 2 (map prV L))) (bor 46 [] 2 0 (map prV L).length)=prs L))<|ap ihc an)<|zA3<|zAb<|S_i i<|S_g 1 ?_
      exact rnd (i+1,s2) ⟨by omega,yM.symm⟩ (by simp only;omega)
     ·rw[cA] at hc;rw[chF,if_neg (by rw[show zFI M (la,ss.getD i 0) g=false from hc];simp)] at yM;rw[hc,hg] at ct;clear ih yD kw;refine zAj 1<|zAc<|zAM ((i:Int)<(ss.length:Int)) (by omega)<|zAh<|zAc<|zAf 1<|zAc<|zAb<|S_a [(2,.v (prV (la,ss.getD i 0)))] (ap (zBN (0) (by omega):(map (fun s=>prV (la,s)) ss)[i]? = some (prV (la,ss.getD i 0))) an)<|S_g 3<|zAl 2<|S_a [(2,.ix (some i)),(0,.v (prs (M (ss.getD i 0))))] (ap yB<|ap (yj:zD4 (map (zCa la M) ss) i=some (prs (M (ss.getD i 0)))) an)<|zAm 1<|S_a [(2,.v (prV (lf.getD 0 d0)))] (ap (zBN d0 (by omega):(map prV lf)[0]? = some (prV (lf.getD 0 d0))) an)<|zAm 1<|S_a [(8,.ret (bool false) [])] (ap ct an)<|zA3<|zAB<|zAh<|zAb<|S_i i<|S_g 1 ?_
      exact rnd (i+1,s) ⟨by omega,yM.symm⟩ (by simp only;omega)
    ·rw[bw (by simp;omega)] at hs;rw[<- hs];clear ih hs;refine zAj 1<|zAc<|zAQ ((i:Int)<(ss.length:Int)) (by omega)<|zAD 0 E_0
end
end Go.Eng
set_option maxRecDepth 10000
set_option maxHeartbeats 4000000
namespace Go.Eng
open Go Go.Proofs
section
variable [Yo]
theorem f61a:FG 61 [.nils 0] (.own 2 []):=zIh (fn:=Tryz.f61)
theorem f187a(la:Int)(M:Int->LP)(ss:LI)(hn:ss.Nodup)(hM:∀ s,(M s).length<=80)(ui:ss.length<=6)(k:Nat)(left:LP)(hk:left.length<k+1)(hl80:left.length<=80) :
  zBD Tryz.prog zCx 187 (.nils 0 :: .sl (left.map prV)::zGE la M ss) (zMa la M ss false []) (.tup []) (zMa la M ss (chs (zHs la ss) (zFI M) (k+1) [] left (false,[])).1 (chs (zHs la ss) (zFI M) (k+1) [] left (false,[])).2):=by
 have yN:([]:LP).length+left.length<=200:=by simp only[b7];omega
 have yD:([]:LP).length<=200:=by simp
 unfold zMa;refine zAd Tryz.f187 ?_
 ·cases left with
  |nil=>
   rw[zSX _ _ (by simp)];refine zAc<|zAj 8<|zAB<|zAh<|zAc<|zAl 1<|zAm 1<|S_g 1<|zCy<|zAl 1<|S_a [(6,.ret (own 2 []) [])] (ap f61a an)<|S_g 2<|zAn E_0
  | cons g rest =>
   rw[zPH _ _ (by simp)];generalize hL:g::rest=lf at *;have hg:g=lf.getD 0 d0:=by rw[<- hL];rfl
   have hlr:lf.length=rest.length+1:=by rw[<- hL];rfl
   refine zAc<|zAj 8<|zAB<|zAh<|zAc<|zAl 1<|S_a [(0,.n lf.length)] (ap (lnS prV lf) an)<|S_g 1<|zAQ ((lf.length:Int)=0) (by omega)<|zAh<|zAl 1<|S_a [(0,.n ss.length)] (ap (lnS (fun s=>prV (la,s)) ss) an)<|S_g 1<|zAf 0 ?_
   refine zAr (fun(i,s)=>i<=ss.length/\s=((zHs la ss).take i).foldl (chF (zHs la ss) (zFI M) k [] g rest) (false,[])) (fun((i:Nat),(s:Bool×LP))=>[(26,I (i:Nat)),(50000000,.box (.bool s.1)),(50000001,.box (.own 2 (s.2.map prV)))]) (fun(i,_)=>ss.length-i) ((0:Nat),(false,[])) ⟨bN _,rfl⟩ fun(i,s) ⟨hi,hs⟩=>?_;have jP:s.2.length<=200:=by rw[hs];exact zRS _ _ (by rw[hL];exact yN) _ _ yD
   by_cases yR:i<ss.length
   ·obtain⟨yB,yj⟩:=zOE (la:=la) (M:=M) hn yR;have yM:((zHs la ss).take (i+1)).foldl (chF (zHs la ss) (zFI M) k [] g rest) (false,[])=chF (zHs la ss) (zFI M) k [] g rest s (la,ss.getD i 0):=by
     have jz:i<(zHs la ss).length:=by simpa using yR
     rw[zB5 (d:=d0) jz,cE,<- hs,zAu jz];simp only[zHs,fP,bM,cv,zAu yR]
    have hMl:=hM (ss.getD i 0);have ct:=f81 (M (ss.getD i 0)) g (by omega);clear hs;by_cases hc:has (M (ss.getD i 0)) g=true
    ·have qd:zFI M (la,ss.getD i 0) g=true:=hc;have hlf:(lf.filter fun x=>!zFI M (la,ss.getD i 0) x).length<=rest.length:=by
      rw[<- hL,bV (by rw[qd];simp)];exact bC _ _
     have ihc:=f187 la M ss hn hM ui k ([]++[(la,ss.getD i 0)]) (lf.filter fun x=>!zFI M (la,ss.getD i 0) x) s.1 s.2 (by omega) (by omega) (by rw[bu,bT];omega) jP;rw[chF,if_pos qd,hL] at yM;have hrl:(chs (zHs la ss) (zFI M) k ([]++[(la,ss.getD i 0)]) (lf.filter fun x=>!zFI M (la,ss.getD i 0) x) (s.1,s.2)).2.length<=200:=zKz _ _ k _ _ _ 200 jP (by rw[bu,bT];omega);rw[show(s.1,s.2)=s from rfl] at ihc hrl;generalize chs (zHs la ss) (zFI M) k ([]++[(la,ss.getD i 0)]) (lf.filter fun x=>!zFI M (la,ss.getD i 0) x) s=s2 at *;have hfe:(lf.filter fun x=>!zFI M (la,ss.getD i 0) x)=lf.filter fun x=>!(has (M (ss.getD i 0)) x):=rfl;rw[hfe] at ihc hlf;have df:=f122_3 la M ss hn hM i yR lf (by omega);rw[hc,hg] at ct;generalize (lf.filter fun x=>!(has (M (ss.getD i 0)) x))=L at *;unfold zMa at ihc;clear yD;refine zAj 1<|zAc<|zAM ((i:Int)<(ss.length:Int)) (by omega)<|zAh<|zAc<|zAf 1<|zAc<|zAb<|S_a [(2,.v (prV (la,ss.getD i 0)))] (ap (zBN (0) (by omega):(map (fun s=>prV (la,s)) ss)[i]? = some (prV (la,ss.getD i 0))) an)<|S_g 3<|zAl 2<|S_a [(2,.ix (some i)),(0,.v (prs (M (ss.getD i 0))))] (ap yB<|ap (yj:zD4 (map (zCa la M) ss) i=some (prs (M (ss.getD i 0)))) an)<|zAm 1<|S_a [(2,.v (prV (lf.getD 0 d0)))] (ap (zBN d0 (by omega):(map prV lf)[0]? = some (prV (lf.getD 0 d0))) an)<|zAm 1<|S_a [(8,.ret (bool true) [])] (ap ct an)<|zA3<|zCy<|zAb<|zAm 2<|S_a [(6,.ret (own 2 []) [])] (ap f61a an)<|zAm 4<|S_a [(6,.ret (own 2 (map prV lf)) [])] (ap (f123 lf (by omega)) an)<|zAm 1<|S_a [(3,.ob),(1,.v (own 2 (map prV lf))),(10,.ret (own 2 (map prV L)) []),(1,.yes)] (ap ((by exact zAR (by simp only[be,zzLn,zAO]<;>omega)):(map prV lf).length.ble (map prV lf).length=true)<|ap ((zAT zA6):own 2 (take (map prV lf).length (drop 0 (map prV lf)))=own 2 (map prV lf))<|ap df<|ap ((by exact zBM _):(own 2 (map prV L)).free=true) an)<|S_a [(6,.ob),(0,.v (prs L)),(4,.ret (tup []) ([(bool s2.fst).box,(own 2 (map prV s2.snd)).box,(func 187 [] (zGE la M ss)).box])),(2,.no),(4,.envv ([(0,PV.nils 0),(1,prs lf),(2,addr 50000000 [] 0 0 none),(3,addr 50000001 [] 0 0 none),(4,(sl (map (fun s=>prV (la,s)) ss)).ref),(5,(PV.map (map (zCa la M) ss)).ref),(6,addr 50000002 [] 0 0 none),(10,(prV (la,ss.getD i 0)).box),(18,bool false),(21,bool ((lf.length:Int)==0)),(24,sl (map (fun s=>prV (la,s)) ss)),(25,I (ss.length:Int)),(26,I (i:Int)),(27,bool (decide ((i:Int)<(ss.length:Int)))),(36,bool true),(37,func 187 [] [addr 50000000 [] 0 0 none,addr 50000001 [] 0 0 none,(sl (map (fun s=>prV (la,s)) ss)).ref,(PV.map (map (zCa la M) ss)).ref,addr 50000002 [] 0 0 none]),(38,PV.nils 0),(39,bad),(40,prV (la,ss.getD i 0)),(41,bad),(42,sl [prV (la,ss.getD i 0)]),(43,prs lf),(44,bad),(45,func 188 [] [(PV.map (map (zCa la M) ss)).ref,addr 10 [] 0 0 (some 2)]),(46,prs L),(50000000,(bool s.fst).box),(50000001,(own 2 (map prV s.snd)).box),(50000002,(func 187 [] [addr 50000000 [] 0 0 none,addr 50000001 [] 0 0 none,(sl (map (fun s=>prV (la,s)) ss)).ref,(PV.map (map (zCa la M) ss)).ref,addr 50000002 [] 0 0 none]).box)]) (prs L)),(5,.ret (tup []) ([(bool s2.fst).box,(own 2 (map prV s2.snd)).box,(func 187 [] (zGE la M ss)).box]))] (ap (blz (map prV L))<|ap (frT prV L)<|ap ihc<|ap ((by simp[PV.free,zBM,zD1]):zD1 [(bool s2.fst).box,(own 2 (map prV s2.snd)).box,(func 187 [] (zGE la M ss)).box]=false)<|ap (And.intro (f9 (by kernel_rfl:Env.frz [(0,PV.nils 0),(1,prs lf),(2,addr 50000000 [] 0 0 none),(3,addr 50000001 [] 0 0 none),(4,(sl (map (fun s=>prV (la,s)) ss)).ref),(5,(PV.map (map (zCa la M) ss)).ref),(6,addr 50000002 [] 0 0 none),(10,(prV (la,ss.getD i 0)).box),(18,bool false),(21,bool ((lf.length:Int)==0)),(24,sl (map (fun s=>prV (la,s)) ss)),(25,I (ss.length:Int)),(26,I (i:Int)),(27,bool (decide ((i:Int)<(ss.length:Int)))),(36,bool true),(37,func 187 [] [addr 50000000 [] 0 0 none,addr 50000001 [] 0 0 none,(sl (map (fun s=>prV (la,s)) ss)).ref,(PV.map (map (zCa la M) ss)).ref,addr 50000002 [] 0 0 none]),(38,PV.nils 0),(39,bad),(40,prV (la,ss.getD i 0)),(41,bad),(42,sl [prV (la,ss.getD i 0)]),(43,prs lf),(44,bad),(45,func 188 [] [(PV.map (map (zCa la M) ss)).ref,addr 10 [] 0 0 (some 2)]),(46,own 2 (map prV L)),(50000000,(bool s.fst).box),(50000001,(own 2 (map prV s.snd)).box),(50000002,(func 187 [] [addr 50000000 [] 0 0 none,addr 50000001 [] 0 0 none,(sl (map (fun s=>prV (la,s)) ss)).ref,(PV.map (map (zCa la M) ss)).ref,addr 50000002 [] 0 0 none]).box)] 46 []=some [(0,PV.nils 0),(1,prs lf),(2,addr 50000000 [] 0 0 none),(3,addr 50000001 [] 0 0 none),(4,(sl (map (fun s=>prV (la,s)) ss)).ref),(5,(PV.map (map (zCa la M) ss)).ref),(6,addr 50000002 [] 0 0 none),(10,(prV (la,ss.getD i 0)).box),(18,bool false),(21,bool ((lf.length:Int)==0)),(24,sl (map (fun s=>prV (la,s)) ss)),(25,I (ss.length:Int)),(26,I (i:Int)),(27,bool (decide ((i:Int)<(ss.length:Int)))),(36,bool true),(37,func 187 [] [addr 50000000 [] 0 0 none,addr 50000001 [] 0 0 none,(sl (map (fun s=>prV (la,s)) ss)).ref,(PV.map (map (zCa la M) ss)).ref,addr 50000002 [] 0 0 none]),(38,PV.nils 0),(39,bad),(40,prV (la,ss.getD i 0)),(41,bad),(42,sl [prV (la,ss.getD i 0)]),(43,prs lf),(44,bad),(45,func 188 [] [(PV.map (map (zCa la M) ss)).ref,addr 10 [] 0 0 (some 2)]),(46,sl (zAt (map prV L))),(50000000,(bool s.fst).box),(50000001,(own 2 (map prV s.snd)).box),(50000002,(func 187 [] [addr 50000000 [] 0 0 none,addr 50000001 [] 0 0 none,(sl (map (fun s=>prV (la,s)) ss)).ref,(PV.map (map (zCa la M) ss)).ref,addr 50000002 [] 0 0 none]).box)]) ((by simp only[show zAt (map prV L)=map prV L from(by first|exact zAs _|exact zAE _|exact zAx _|exact zAY (zAE _)|exact zAY (zAx _)|exact zB7 (by simp[zBF]) (zAs _))]):some [(0,PV.nils 0),(1,prs lf),(2,addr 50000000 [] 0 0 none),(3,addr 50000001 [] 0 0 none),(4,(sl (map (fun s=>prV (la,s)) ss)).ref),(5,(PV.map (map (zCa la M) ss)).ref),(6,addr 50000002 [] 0 0 none),(10,(prV (la,ss.getD i 0)).box),(18,bool false),(21,bool ((lf.length:Int)==0)),(24,sl (map (fun s=>prV (la,s)) ss)),(25,I (ss.length:Int)),(26,I (i:Int)),(27,bool (decide ((i:Int)<(ss.length:Int)))),(36,bool true),(37,func 187 [] [addr 50000000 [] 0 0 none,addr 50000001 [] 0 0 none,(sl (map (fun s=>prV (la,s)) ss)).ref,(PV.map (map (zCa la M) ss)).ref,addr 50000002 [] 0 0 none]),(38,PV.nils 0),(39,bad),(40,prV (la,ss.getD i 0)),(41,bad),(42,sl [prV (la,ss.getD i 0)]),(43,prs lf),(44,bad),(45,func 188 [] [(PV.map (map (zCa la M) ss)).ref,addr 10 [] 0 0 (some 2)]),(46,sl (zAt (map prV L))),(50000000,(bool s.fst).box),(50000001,(own 2 (map prV s.snd)).box),(50000002,(func 187 [] [addr 50000000 [] 0 0 none,addr 50000001 [] 0 0 none,(sl (map (fun s=>prV (la,s)) ss)).ref,(PV.map (map (zCa la M) ss)).ref,addr 50000002 [] 0 0 none]).box)]=some [(0,PV.nils 0),(1,prs lf),(2,addr 50000000 [] 0 0 none),(3,addr 50000001 [] 0 0 none),(4,(sl (map (fun s=>prV (la,s)) ss)).ref),(5,(PV.map (map (zCa la M) ss)).ref),(6,addr 50000002 [] 0 0 none),(10,(prV (la,ss.getD i 0)).box),(18,bool false),(21,bool ((lf.length:Int)==0)),(24,sl (map (fun s=>prV (la,s)) ss)),(25,I (ss.length:Int)),(26,I (i:Int)),(27,bool (decide ((i:Int)<(ss.length:Int)))),(36,bool true),(37,func 187 [] [addr 50000000 [] 0 0 none,addr 50000001 [] 0 0 none,(sl (map (fun s=>prV (la,s)) ss)).ref,(PV.map (map (zCa la M) ss)).ref,addr 50000002 [] 0 0 none]),(38,PV.nils 0),(39,bad),(40,prV (la,ss.getD i 0)),(41,bad),(42,sl [prV (la,ss.getD i 0)]),(43,prs lf),(44,bad),(45,func 188 [] [(PV.map (map (zCa la M) ss)).ref,addr 10 [] 0 0 (some 2)]),(46,prs L),(50000000,(bool s.fst).box),(50000001,(own 2 (map prV s.snd)).box),(50000002,(func 187 [] [addr 50000000 [] 0 0 none,addr 50000001 [] 0 0 none,(sl (map (fun s=>prV (la,s)) ss)).ref,(PV.map (map (zCa la M) ss)).ref,addr 50000002 [] 0 0 none]).box)])) (zH9 (by first|exact zAs _|exact zAE _|exact zAx _):PV.mapW (inl 46 [] (own 2 (map prV L))) (bor 46 [] 2 0 (map prV L).length)=prs L))<|ap ihc an)<|zA3<|zAb<|S_i i<|S_g 1 ?_
     exact rnd (i+1,s2) ⟨by omega,yM.symm⟩ (by simp only;omega)
    ·rw[cA] at hc;rw[chF,if_neg (by rw[show zFI M (la,ss.getD i 0) g=false from hc];simp)] at yM;rw[hc,hg] at ct;clear yD;refine zAj 1<|zAc<|zAM ((i:Int)<(ss.length:Int)) (by omega)<|zAh<|zAc<|zAf 1<|zAc<|zAb<|S_a [(2,.v (prV (la,ss.getD i 0)))] (ap (zBN (0) (by omega):(map (fun s=>prV (la,s)) ss)[i]? = some (prV (la,ss.getD i 0))) an)<|S_g 3<|zAl 2<|S_a [(2,.ix (some i)),(0,.v (prs (M (ss.getD i 0))))] (ap yB<|ap (yj:zD4 (map (zCa la M) ss) i=some (prs (M (ss.getD i 0)))) an)<|zAm 1<|S_a [(2,.v (prV (lf.getD 0 d0)))] (ap (zBN d0 (by omega):(map prV lf)[0]? = some (prV (lf.getD 0 d0))) an)<|zAm 1<|S_a [(8,.ret (bool false) [])] (ap ct an)<|zA3<|zAB<|zAh<|zAb<|S_i i<|S_g 1 ?_
     exact rnd (i+1,s) ⟨by omega,yM.symm⟩ (by simp only;omega)
   ·rw[bw (by simp;omega)] at hs;rw[<- hs];clear hs;refine zAj 1<|zAc<|zAQ ((i:Int)<(ss.length:Int)) (by omega)<|zAD 0 E_0
end
theorem zJQ{α:Type}(x:α)(f:α->α):∀ A:List α,(A++[x]).modify A.length f=A++[f x]
 |[]=>rfl|a::A=>congrArg (List.cons a) (zJQ x f A)
def zS7(n:Nw)(cs:LP)(e:Nat)(G:LP)(la s:Int):LP:=zC0 n (zAy n (cs++[(la,s)]) e) G
theorem f134(n:Nw)(cs G L:LP)(e:Int)(x:Nat)(ss:LI)(ho:CrW n cs)(uY:cs.length<=16)(he:0<=e/\e<=12)(hG:∀ g∈G,(0<=g.1/\g.1<n.h)/\(0<=g.2/\g.2<n.n.length))(hGl:G.length<=80)(hL:L.length<=80)(hx:x<n.n.length)(hn:ss.Nodup)(ui:ss.length<=6)(yT:∀ s∈ss,0<=s/\s<n.s.length) :
  FG 134 [zE9 n cs,.agg [zWk n cs e G],prs L,I x,zBT ss] (.tup [.own 2 ((chs (zHs ((zAN n).getD x 0) ss) (zFI (zS7 n cs e.toNat G ((zAN n).getD x 0))) (L.length+1) [] L (false,[])).2.map prV),.bool (chs (zHs ((zAN n).getD x 0) ss) (zFI (zS7 n cs e.toNat G ((zAN n).getD x 0))) (L.length+1) [] L (false,[])).1]):=by
 have hN:=ho.nw;have vS:=hN.nl;have gY:=hN.sl;have hM:∀ s,(zS7 n cs e.toNat G ((zAN n).getD x 0) s).length<=80:=fun s=>bB (bC _ _) hGl;obtain⟨lx,hlx,hlx2,_⟩:=zEW hN hx;have ye:∀ s,s∈ss->FG 173 [prV ((zAN n).getD x 0,s),.ref (zE9 n cs),.ref (prs G),.ref (I e)] (prs (zS7 n cs e.toNat G ((zAN n).getD x 0) s)):=fun s hs=>by
  have:=yT s hs;exact f173 n cs G e ((zAN n).getD x 0,s) ho (by omega) (by omega) (by omega) hG ⟨⟨by simp only[hlx];omega,by simp only[hlx];omega⟩,by simp only;omega,by simp only;omega⟩
 have yc:=f187a ((zAN n).getD x 0) (zS7 n cs e.toNat G ((zAN n).getD x 0)) ss hn hM ui L.length L (by omega) hL;have hla8:(zAN n).length=8:=zTM;generalize zS7 n cs e.toNat G ((zAN n).getD x 0)=M at *;generalize chs (zHs ((zAN n).getD x 0) ss) (zFI M) (L.length+1) [] L (false,[])=R at *;refine zAd Tryz.f134 ?_;refine zAj 3<|zAj 3<|zAj 1<|zAc<|zAl 1<|S_a [(0,.n ss.length)] (ap (lnS I ss) an)<|S_g 1<|zAf 0 ?_
 refine zAr (fun(i,q)=>i<=ss.length/\q=ss.take i) (fun((i:Nat),(q:LI))=>[(12,.box (.omap (q.map (zCa ((zAN n).getD x 0) M)))),(13,.box (.own 2 (q.map fun s=>prV ((zAN n).getD x 0,s)))),(23,I (i:Nat))]) (fun(i,_)=>ss.length-i) ((0:Nat),([]:LI)) ⟨bN _,rfl⟩ fun(i,q) ⟨hi,hq⟩=>?_;by_cases yR:i<ss.length
 ·have jl:ss.getD i 0∈ss:=by rw[zAu yR];exact cM _
  have jO:=ye _ jl;have vl:ss.getD i 0∉q:=fun h=>by
   rw[hq] at h;obtain⟨j,hj,he⟩:=fY h;have hj2:j<i:=by simp at hj;omega
   rw[ij,zAu yR] at he;exact(iq.1 hn) j i (by omega) yR hj2 he
  have yB:=zXj (la:=(zAN n).getD x 0) (M:=M) vl;have uW:q.length=i:=by rw[hq];simp;omega
  have yM:ss.take (i+1)=q++[ss.getD i 0]:=by rw[hq];exact zB5 yR
  clear ye yc vl hq;have qc:zQy (q.map (zCa ((zAN n).getD x 0) M)++[(prV ((zAN n).getD x 0,ss.getD i 0),.sl [])]) q.length=some (prV ((zAN n).getD x 0,ss.getD i 0)):=by
   unfold zQy;rw[de (by simp),be,iT];rfl
  have yZ:(q.map (zCa ((zAN n).getD x 0) M)++[(prV ((zAN n).getD x 0,ss.getD i 0),sl [])]).modify q.length (fun _=>(prV ((zAN n).getD x 0,ss.getD i 0),zA0 (prs (M (ss.getD i 0)))))=(q++[ss.getD i 0]).map (zCa ((zAN n).getD x 0) M):=by
   have hfz:zA0 (prs (M (ss.getD i 0)))=prs (M (ss.getD i 0)):=rfl;rw[hfz];have e1:(q.map (zCa ((zAN n).getD x 0) M)).length=q.length:=by simp
   rw[<- e1,zJQ,cT];rfl
  refine zAj 1<|zAc<|zAM ((i:Int)<(ss.length:Int)) (by omega)<|zAh<|zAc<|zAf 1<|zAc<|zAb<|S_a [(2,.v (I (ss.getD i 0)))] (ap (zBN (0) (by omega):(map I ss)[i]? = some (I (ss.getD i 0))) an)<|S_g 2<|zAl 4<|S_a [(2,.ob),(0,.v ((I ((zAN n).getD x 0)).ref))] (ap ((by exact zAp (by omega)):decide (x<8)=true)<|ap (zD0 (F:=zAN n) (m:=8) (j:=x) (by omega):zBQ (agg (zA5 (zAN n) 8)).ref (x*(fun x=>x.size) Tryz.prog.types[3]) none=some (I ((zAN n).getD x 0)).ref) an)<|S_g 5<|zAb<|zAm 2<|S_a [(1,.v (bor 13 [(0,0)] 2 0 q.length))] (ap ((by simp):bor 13 [(0,0)] 2 0 (map (fun s=>prV ((zAN n).getD x 0,s)) q).length=bor 13 [(0,0)] 2 0 q.length) an)<|zAm 2<|S_a [(4,.ob),(0,.ob),(0,.yes),(2,.v (own 2 (map (fun s=>prV ((zAN n).getD x 0,s)) (q++[ss.getD i 0]))))] (ap ((by exact zAR (by simp only[be,zzLn,zAO]<;>omega)):(0+q.length).ble (map (fun s=>prV ((zAN n).getD x 0,s)) q).length=true)<|ap ((by exact zAR (by simp only[be,zzLn,zAO]<;>omega)):((map (fun s=>prV ((zAN n).getD x 0,s)) q).length + [agg [I ((zAN n).getD x 0),I (ss.getD i 0)]].length).ble zAO=true)<|ap ((by exact zBq (by simp<;>omega)):(0+q.length).beq (map (fun s=>prV ((zAN n).getD x 0,s)) q).length=true)<|ap ((zAT (zBE (by kernel_rfl))):own 2 (map (fun s=>prV ((zAN n).getD x 0,s)) q++[agg [I ((zAN n).getD x 0),I (ss.getD i 0)]])=own 2 (map (fun s=>prV ((zAN n).getD x 0,s)) (q++[ss.getD i 0]))) an)<|zAm 3<|S_a [(9,.ret (prs (M (ss.getD i 0))) [])] (ap jO an)<|zAm 1<|S_a [(3,.ix none),(5,.v (I (q.length:Int)))] (ap yB<|ap ((by simp):I (↑(map (zCa ((zAN n).getD x 0) M) q).length:Int)=I (q.length:Int)) an)<|zAm 1<|S_a [(6,.v (prV ((zAN n).getD x 0,ss.getD i 0))),(0,.root ((omap (map (zCa ((zAN n).getD x 0) M) (q++[ss.getD i 0]))).box) true)] (ap qc<|ap (zZo (es:=map (zCa ((zAN n).getD x 0) M) q++[(prV ((zAN n).getD x 0,ss.getD i 0),sl [])]) yZ) an)<|zA3<|zAb<|S_i i<|S_g 1 ?_
  exact rnd (i+1,q++[ss.getD i 0]) ⟨by omega,yM.symm⟩ (by simp only;omega)
 ·have e1:i=ss.length:=by omega
  rw[e1,dt] at hq;subst hq;unfold zMa at yc;clear ye;refine zAj 1<|zAc<|zAQ ((i:Int)<(q.length:Int)) (by omega)<|zOw 0 ([(0,(agg (I n.h::prs n.l::sl (map ntV n.n)::sl (map zBT n.s)::prs cs::PV.map (map zDW (map pr2 n.l))::(zA5 (zAg n) 8++zA5 (zAN n) 8))).ref),(2,prs L),(3,I (x:Int)),(4,zBT q),(6,(agg [func 173 [] [(agg (I n.h::prs n.l::sl (map ntV n.n)::sl (map zBT n.s)::prs cs::PV.map (map zDW (map pr2 n.l))::(zA5 (zAg n) 8++zA5 (zAN n) 8))).ref.ref,(prs G).ref,(I e).ref]]).box),(12,(PV.map (map (zCa ((zAN n).getD x 0) M) q)).ref),(13,(sl (zAt (map (fun s=>prV ((zAN n).getD x 0,s)) q))).ref),(21,zBT q),(22,I (q.length:Int)),(23,I (i:Int)),(24,bool (decide ((i:Int)<(q.length:Int))))]) ([(0,(agg (I n.h::prs n.l::sl (map ntV n.n)::sl (map zBT n.s)::prs cs::PV.map (map zDW (map pr2 n.l))::(zA5 (zAg n) 8++zA5 (zAN n) 8))).ref),(2,prs L),(3,I (x:Int)),(4,zBT q),(6,(agg [func 173 [] [(agg (I n.h::prs n.l::sl (map ntV n.n)::sl (map zBT n.s)::prs cs::PV.map (map zDW (map pr2 n.l))::(zA5 (zAg n) 8++zA5 (zAN n) 8))).ref.ref,(prs G).ref,(I e).ref]]).box),(12,(PV.map (map (zCa ((zAN n).getD x 0) M) q)).ref),(13,(sl (map (fun s=>prV ((zAN n).getD x 0,s)) q)).ref),(21,zBT q),(22,I (q.length:Int)),(23,I (i:Int)),(24,bool (decide ((i:Int)<(q.length:Int))))]) (by simp only[show zAt (map (fun s=>prV ((zAN n).getD x 0,s)) q)=map (fun s=>prV ((zAN n).getD x 0,s)) q from(by first|exact zAs _|exact zAE _|exact zAx _|exact zAY (zAE _)|exact zAY (zAx _)|exact zB7 (by simp[zBF]) (zAs _))])<|zAj 1<|zAj 2<|zAj 1<|zAj 2<|zAl 2<|S_a [(10,.ret (tup []) ([(bool R.fst).box,(own 2 (map prV R.snd)).box,(func 187 [] (zGE ((zAN n).getD x 0) M q)).box]))] (ap yc an)<|zA3<|zAc<|zAb<|S_a [(1,.v (bor 17 [(0,0)] 2 0 R.snd.length))] (ap ((by simp):bor 17 [(0,0)] 2 0 (map prV R.snd).length=bor 17 [(0,0)] 2 0 R.snd.length) an)<|zAm 1<|zAm 1<|S_g 1<|zAn<|E_z [(1,.yes),(1,.v (own 2 (map prV R.snd)))] (ap ((by exact zAR (by simp only[be,zzLn,zAO]<;>omega)):(0+R.snd.length).ble (map prV R.snd).length=true)<|ap ((by simp[zBF]):own 2 (take R.snd.length (drop 0 (map prV R.snd)))=own 2 (map prV R.snd)) an)
end Go.Eng
set_option maxRecDepth 10000
set_option maxHeartbeats 4000000
namespace Go.Eng
open Go Go.Proofs
def fwR(n:Nw)(cs:LP)(e:Nat)(st:LI)(i:Nat):Bool×LP :=
 chs (zHs ((zAN n).getD i 0) st) (zFI (zS7 n cs e (zAA n (zAy n cs e)) ((zAN n).getD i 0))) ((ofL n i (zAA n (zAy n cs e))).length+1) [] (ofL n i (zAA n (zAy n cs e))) (false,[])
def fwB(n:Nw)(i:Nat):Bool:=decide ((zAg n).getD i 0=i)
def fwL(n:Nw)(cs:LP)(e:Nat)(st:LI)(k:Nat):LP:=(range k).flatMap fun i=>if fwB n i=true then(fwR n cs e st i).2 else[]
def zR5(n:Nw)(cs:LP)(e:Nat)(st:LI)(k:Nat):Bool:=(range k).all fun i=>!fwB n i||(fwR n cs e st i).1
theorem zPe{n:Nw}{cs:LP}{e:Nat}{st:LI}{k:Nat}:fwL n cs e st (k+1)=if fwB n k=true then fwL n cs e st k++(fwR n cs e st k).2 else fwL n cs e st k:=by
 unfold fwL;rw[b9,fy];split
 ·rename_i h;simp[h]
 ·rename_i h;simp[h]
theorem zS8{n:Nw}{cs:LP}{e:Nat}{st:LI}{i:Nat}(ho:NwOk n):(fwR n cs e st i).2.length<=80:=by
 have h1:(ofL n i (zAA n (zAy n cs e))).length<=80:=bB (bC _ _) (zCY ho);exact zKz _ _ _ _ _ _ 80 (by simp) (by simpa using h1)
theorem zOD{n:Nw}{cs:LP}{e:Nat}{st:LI}(ho:NwOk n):∀ k,(fwL n cs e st k).length<=k*80
 |0=>by simp[fwL]|k+1=>by
  have h1:=zOD (cs:=cs) (e:=e) (st:=st) ho k;have h2:=zS8 (cs:=cs) (e:=e) (st:=st) (i:=k) ho;rw[zPe];split
  ·rw[bu];omega
  ·omega
theorem zYl{n:Nw}{cs:LP}{e:Nat}{st:LI}{k i:Nat}(hi:i<k)(hb:fwB n i=true)(h:(fwR n cs e st i).1=false):zR5 n cs e st k=false:=by
 simp only[zR5,ii];exact⟨i,bF.2 hi,by simp[hb,h]⟩
theorem zV3{n:Nw}{st:LI}(gY:n.s.length<=6)(hr:∀ s∈st,0<=s/\s<n.s.length)(hn:st.Nodup):st.length<=6:=by
 have:=zWy 6 (st.map Int.toNat) (by
  rw[List.Nodup,il];refine List.Pairwise.imp_of_mem (fun{x y} hx hy h=>?_) hn;have:=hr x hx;have:=hr y hy;omega) fun y hy=>by
   obtain⟨x,hx,rfl⟩:=b4.1 hy;have:=hr x hx;omega
 simpa using this
theorem f57_1(n:Nw)(cs:LP)(e:Int)(st:LI)(ho:OffOk n cs e st):FG 57 [nwV n,prs cs,I e,zBT st] (.tup [.own 2 ((if zR5 n cs e.toNat st n.n.length=true then fwL n cs e.toNat st n.n.length else[]).map prV),I (if zR5 n cs e.toNat st n.n.length=true then 0 else 6)]):=by
 have yy:=ho.ev;have kM:=yy.cr;have kO:=kM.w;have hn:=kM.nw;have uY:=kM.len;have he:=yy.ev;have vS:=hn.nl;have gY:=hn.sl.2;have hst6:=zV3 gY ho.rng ho.nd;have vm:=zCY (w:=zAy n cs e.toNat) hn;have uD:∀ g∈zAA n (zAy n cs e.toNat),(0<=g.1/\g.1<n.h)/\(0<=g.2/\g.2<n.n.length):=zMj;have kT:=f121_1 n cs e st ho (by omega);have hcu:∀ i:Nat,i<n.n.length->FG 134 [zE9 n cs,.agg [zWk n cs e (zAA n (zAy n cs e.toNat))],prs (ofL n i (zAA n (zAy n cs e.toNat))),I i,zBT st] (.tup [.own 2 ((fwR n cs e.toNat st i).2.map prV),.bool (fwR n cs e.toNat st i).1]):=fun i hi=>
  f134 n cs (zAA n (zAy n cs e.toNat)) (ofL n i (zAA n (zAy n cs e.toNat))) e i st kO uY he uD vm (bB (bC _ _) vm) hi ho.nd hst6 ho.rng
 have qD:∀ i:Nat,(ofL n i (zAA n (zAy n cs e.toNat))).length<=80:=fun i=>bB (bC _ _) vm;have uH:∀ i:Nat,(fwR n cs e.toNat st i).2.length<=80:=fun i=>zS8 hn;have gW:∀ i:Nat,i<n.n.length->fwB n i=true->(fwR n cs e.toNat st i).1=false->zR5 n cs e.toNat st n.n.length=false:=fun i hi hb h=>zYl hi hb h;refine zAd Tryz.f57 ?_;refine zAj 3<|zAl 4<|S_a [(12,.ret (tup [zE9 n cs,prs (zAA n (zAy n cs e.toNat)),agg [zWk n cs e (zAA n (zAy n cs e.toNat))],I 0]) [])] (ap kT an)<|S_g 10<|zAc<|zAj 2<|zAB<|zAh<|zAj 1<|zAc<|zAl 2<|S_a [(0,.n n.n.length)] (ap (lnS ntV n.n) an)<|S_g 1<|zAf 0 ?_
 refine zAr (fun(i,q)=>i<=n.n.length/\q=fwL n cs e.toNat st i/\∀ j,j<i->fwB n j=true->(fwR n cs e.toNat st j).1=true) (fun((i:Nat),(q:LP))=>[(14,.own 2 (q.map prV)),(34,I (i:Nat))]) (fun(i,_)=>n.n.length-i) ((0:Nat),([]:LP)) ⟨bN _,by simp[fwL],fun j hj=>absurd hj (cD j)⟩ fun(i,q) ⟨hi,hq,ha⟩=>?_;have wF:q.length<=i*80:=by rw[hq];exact zOD hn i
 by_cases yR:i<n.n.length
 ·have yM:=zPe (n:=n) (cs:=cs) (e:=e.toNat) (st:=st) (k:=i);rw[<- hq] at yM;have hci:=hcu i yR;have hoi:=qD i;have gI:=uH i;have hfbi:=gW i yR;have hon:(fwB n i=true->(fwR n cs e.toNat st i).1=true)->∀ j,j<i+1->fwB n j=true->(fwR n cs e.toNat st j).1=true:=fun h j hj=>by
   rcases bP.1 hj with h2|rfl
   ·exact ha j h2
   ·exact h
  clear hcu qD uH gW ha hq;generalize fwR n cs e.toNat st i=R at *;generalize zAA n (zAy n cs e.toNat)=G at *;by_cases hb:(zAg n).getD i 0=i
  ·have j5:fwB n i=true:=decide_eq_true hb;rw[if_pos j5] at yM;refine zAj 1<|zAc<|zAM ((i:Int)<(n.n.length:Int)) (by omega)<|zAh<|zAc<|zAf 1<|zAj 2<|zAc<|zAl 4<|S_a [(2,.ob),(0,.v ((I ((zAg n).getD i 0)).ref))] (ap ((by exact zAp (by omega)):decide (i<8)=true)<|ap (zD0 (F:=zAg n) (m:=8) (j:=i) (by omega):zBQ (agg (zA5 (zAg n) 8)).ref (i*(fun x=>x.size) Tryz.prog.types[3]) none=some (I ((zAg n).getD i 0)).ref) an)<|S_g 3<|zMB ((zAg n).getD i 0=(i:Int)) (by omega)<|zAh<|zAl 5<|S_a [(9,.ret (own 2 (map prV (ofL n (i:Int) G))) [])] (ap (f135 n cs G ((i:Int)) (by omega) (by omega) (by omega)) an)<|zAm 2<|S_a [(6,.ob),(0,.v (prs (ofL n (i:Int) G))),(6,.ret (tup [own 2 (map prV R.snd),bool R.fst]) []),(1,.yes)] (ap (blz (map prV (ofL n (i:Int) G)))<|ap (frT prV (ofL n (i:Int) G))<|ap hci<|ap ((by exact zZc (zBM _) rfl):(tup [own 2 (map prV R.snd),bool R.fst]).free=true) an)<|S_g 5<|zAc<|zAj 2<|zEx (!R.fst) (fun k0=>(zAj 2<|zAn<|E_a [] an (tup [own 2 [],I 6]) [] ?_ rfl)) (fun k0=>(zAh<|zAb<|zAm 2<|S_a [(1,.ob),(0,.vs (map prV R.snd)),(0,.ob),(0,.ob),(0,.ob),(2,.ob),(0,.ob),(0,.yes),(2,.v (own 2 (map prV (q++R.snd))))] (ap (blz (map prV R.snd))<|ap ((by simp[zBF]):take (map prV R.snd).length (drop 0 (map prV R.snd))=map prV R.snd)<|ap ((by exact all_map _):((map prV R.snd).all fun x=>x.plain)=true)<|ap ((by exact all_map _):((map prV R.snd).all fun y=>y.cells.length.beq ((fun x=>x.size) Tryz.prog.types[37])&&y.cells.all fun q=>q.oneCell)=true)<|ap ((by exact d5.2 (zKj _)):(zBx (map prV R.snd)).isEmpty=true)<|ap (blz (map prV q))<|ap ((by exact zAR (by simp only[be,zzLn,zAO]<;>omega)):((map prV q).length+(map prV R.snd).length).ble zAO=true)<|ap ((by exact zBq (by simp<;>omega)):(0+(map prV q).length).beq (map prV q).length=true)<|ap ((by simp):own 2 (map prV q++map prV R.snd)=own 2 (map prV (q++R.snd))) an)<|S_g 1<|zAb<|S_i i<|S_g 1 ?_))
   ·rw[hfbi j5 (by simpa using k0)];rfl
   ·exact rnd (i+1,q++R.2) ⟨by omega,yM.symm,hon fun _=>by simpa using k0⟩ (by simp only;omega)
  ·have hbf:fwB n i=false:=decide_eq_false hb;rw[if_neg (by rw[hbf];simp)] at yM;refine zAj 1<|zAc<|zAM ((i:Int)<(n.n.length:Int)) (by omega)<|zAh<|zAc<|zAf 1<|zAj 2<|zAc<|zAl 4<|S_a [(2,.ob),(0,.v ((I ((zAg n).getD i 0)).ref))] (ap ((by exact zAp (by omega)):decide (i<8)=true)<|ap (zD0 (F:=zAg n) (m:=8) (j:=i) (by omega):zBQ (agg (zA5 (zAg n) 8)).ref (i*(fun x=>x.size) Tryz.prog.types[3]) none=some (I ((zAg n).getD i 0)).ref) an)<|S_g 3<|zJB ((zAg n).getD i 0=(i:Int)) (by omega)<|zAD 1<|zAb<|S_i i<|S_g 1 ?_
   exact rnd (i+1,q) ⟨by omega,yM.symm,hon fun h=>absurd h (by rw[hbf];simp)⟩ (by simp only;omega)
 ·have e1:i=n.n.length:=by omega
  subst e1;have yE:zR5 n cs e.toNat st n.n.length=true:=by
   simp only[zR5,bi,bF];intro j hj;cases hbj:fwB n j
   ·rfl
   ·rw[ha j hj hbj];rfl
  rw[yE,if_pos rfl,if_pos rfl,<- hq];clear hcu qD uH gW ha hq;refine zAj 1<|zAc<|zAQ ((n.n.length:Int)<(n.n.length:Int)) (by omega)<|zAD 0<|zAl 1<|S_a [(2,.yes)] (ap ((by exact zBq (by simp<;>omega)):(beq 0 0&&(map prV q).length.beq (map prV q).length)=true) an)<|S_g 1<|zAn<|E_z [(1,.yes),(1,.v (own 2 (map prV q)))] (ap (blz (map prV q))<|ap ((zAT zA6):own 2 (take (map prV q).length (drop 0 (map prV q)))=own 2 (map prV q)) an)
end Go.Eng
set_option maxHeartbeats 1000000
namespace Go.Eng
open Go
theorem zD2{l:LP}{g:Int×Int}:has l g=true↔g∈l:=by
 simp only[has,bX,decide_eq_true_eq];exact⟨fun⟨x,h1,h2⟩=>h2▸h1,fun h=>⟨g,h,rfl⟩⟩
theorem zWO{n:Nw}{cs:LP}{la s:Int}{e h x:Nat}(ho:CrW n (cs++[(la,s)]))(hh:h<n.h.toNat)(hx:x<n.n.length)(hl:(zAN n).getD x 0=la)(hg:zLr n (zAy n cs e) h x=true) :
  zFI (zS7 n cs e (zAA n (zAy n cs e)) la) (la,s) ((h:Int),(x:Int))=true↔zFl n (la,s) e h ((zAg n).getD x 0).toNat:=by
 have hm:((h:Int),(x:Int))∈zAA n (zAy n cs e):=(zKk hh hx).2 hg;show has (zC0 n (zAy n (cs++[(la,s)]) e) (zAA n (zAy n cs e))) ((h:Int),(x:Int))=true↔_
 rw[zD2,zUC hm,zKk hh hx,zVa ho (la:=la) (fun c hc=>by rw[bk.1 hc]) e hh hx hl];constructor
 ·intro h1;exact b5 fun h2=>h1 ⟨hg,fun⟨c,hc,h3⟩=>h2 (by rw[bk.1 hc] at h3;exact h3)⟩
 ·intro h1 h2;exact h2.2 ⟨(la,s),by simp,h1⟩
end Go.Eng
set_option maxHeartbeats 1000000
namespace Go.Eng
open Go
end Go.Eng
set_option maxHeartbeats 1000000
namespace Go.Eng
open Go
end Go.Eng
set_option maxHeartbeats 1000000
namespace Go.Eng
open Go
end Go.Eng
set_option maxHeartbeats 1000000
namespace Go.Eng
open Go
theorem zWz{n:Nw}{cs:LP}{e:Nat}{st:LI}{i:Nat}(hr:(fwR n cs e st i).1=true):zQ6 (zHs ((zAN n).getD i 0) st) (zFI (zS7 n cs e (zAA n (zAy n cs e)) ((zAN n).getD i 0))) (fwR n cs e st i).2 (ofL n i (zAA n (zAy n cs e))):=by
 have hR:=zWd (zHs ((zAN n).getD i 0) st) (zFI (zS7 n cs e (zAA n (zAy n cs e)) ((zAN n).getD i 0))) ((ofL n i (zAA n (zAy n cs e))).length+1) [] (ofL n i (zAA n (zAy n cs e))) (false,[]) (by omega);have vC:chs (zHs ((zAN n).getD i 0) st) (zFI (zS7 n cs e (zAA n (zAy n cs e)) ((zAN n).getD i 0))) ((ofL n i (zAA n (zAy n cs e))).length+1) [] (ofL n i (zAA n (zAy n cs e))) (false,[])=fwR n cs e st i:=rfl;rw[vC] at hR;rcases hR.new with h|⟨_,ext,h2,h3⟩
 ·rw[h] at hr;cases hr
 ·rw[dn] at h2;rw[h2];exact h3
theorem zTo{n:Nw}{cs:LP}{e:Nat}{st:LI}{c:Int×Int}{k:Nat}:c∈fwL n cs e st k↔∃ i,i<k/\fwB n i=true/\c∈(fwR n cs e st i).2:=by
 simp only[fwL,cG,bF];constructor
 ·rintro⟨i,h1,h2⟩;split at h2
  ·exact⟨i,h1,by assumption,h2⟩
  ·simp at h2
 ·rintro⟨i,h1,h2,h3⟩;exact⟨i,h1,by rw[if_pos h2];exact h3⟩
end Go.Eng
