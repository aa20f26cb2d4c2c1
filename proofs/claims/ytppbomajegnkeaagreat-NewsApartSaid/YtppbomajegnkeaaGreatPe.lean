/- No cry at a stand that is offered mends two of the gaps that are apart, so that there are never more of them than further cries are needed; each other gap is mended by a cry that mends one of them; a gap is stuck just if none of these stands is jM near enough to its jN; and with all stands none is; for every list of numbers, evening and stands. -/
import Derived.Test.YtppbomajegnkeaaGreatPd
import Derived.ProofKit
import Derived.ChangeArms
import Derived.Test.YtppbomajegnkeaaGreatProg
import Derived.Shelf.SlSortCmp.NoneTotal
import Derived.Test.YtppbomajegnkeaaGreatPa
import Derived.Test.YtppbomajegnkeaaGreatRows
set_option linter.unusedVariables false
set_option linter.unusedSimpArgs false
set_option linter.unusedSectionVars false
open Nat (beq ble blt)
open List (map replicate take drop range length filter)
open Go.Eng.PV (own agg addr func sl bor tup omap bad bool int)
namespace Go.Eng
open Go Go.ChangeShapes Go.WideShapes Go.ChangeAt Go.RowKit
section
variable {H:Type} {enc:TypeId×Value->H} {P:Program}
theorem zOm{f:Func}{s:ChangeSpec}{apart fresh j3 again:Bool}{W W':World}{args:Array Value}{v:Value}{ds gs:List (DataW H)}{before pa pv:List MemPlace}
  (hW:DataW.Whole enc P f.params.toList s.vars apart W args.toList ds gs before)
  (yi:∀ (b:Nat) (sp:Nat->Bool) (hd:Bool),DataW.TrodAll enc P W' b sp hd f.resultTypes.toList (v.resultList f.resultTypes.size) (s.fn H (ds++gs)).results [])
  (yP:∀ sp:Nat->Bool,(∀ p∈before,sp p.block=true)->DataW.TrodAll enc P W' 0 sp true f.params.toList args.toList (s.fn H (ds++gs)).args pa)
  (jv:∀ sp:Nat->Bool,(∀ p∈before,sp p.block=true)->DataW.TrodVars enc P W' sp s.vars (s.fn H (ds++gs)).vars pv)
  (yg:before=pa++pv) (hold':∀ b,b<W.heap.size->W'.heap[b]? = W.heap[b]?) (hk:W.keptBut W' (· ∈ before))
  (yE:∀ (j:Nat) (t:TypeId) (r:Value),f.resultTypes[j]? = some t->(v.resultList f.resultTypes.size)[j]? = some r->Value.okWide P W' .any 0 t r) :
  s.post enc P f apart fresh j3 again W args v W':=by
 have yG:=hW.lt;have hold:∀ p∈before,(fun b=>decide (b<W.heap.size)) p.block=true:=fun p hp=>by simpa using yG p hp
 refine⟨ds,gs,before,[],pa,pv,hW,yi _ _ _,yP _ hold,jv _ hold,World.keptBut_mono (fun p hp=>⟨hp,?_⟩) hk,fun _=>?_⟩
 ·rw[yg,bj] at hp;exact Or.inr hp
 ·obtain⟨_,_,_,_,_,hz,hn⟩:=hW;refine⟨yE,_,_,([]++pa)++pv,⟨[]++pa,pv,trodAll_append (yP _ (fun _ _=>rfl)) (yi _ _ _),jv _ (fun _ _=>rfl),rfl,?_,?_⟩,?_⟩
  ·intro b off hp;have jp:MemPlace.cell b off∈before:=by rw[yg];simpa using hp
   have h1:=hz b off jp;have h2:=yG _ jp;unfold World.frozen? at h1 ⊢;rw[hold' b h2];exact h1
  ·intro ha;have:=hn ha;rw[yg] at this;simpa using this
  ·intro p hp _;rw[yg];simpa using hp
theorem zG8{W W':World}{sp':Nat->Bool}(hl:laidOutB P=true)(hb:Below W.heap.size W W'):∀ {ts:List TypeId} {vs:List Value} {ds:List (DataW H)} {ps:List MemPlace},(∀ t∈ts,P.readableRec t=true/\t<P.types.size)->DataW.TrodAll enc P W 0 (fun _=>true) true ts vs ds ps->(∀ x∈ps,x.block<W.heap.size)->(∀ x∈ps,sp' x.block=true) ->
  DataW.TrodAll enc P W' 0 sp' true ts vs ds ps
 |[],vs,ds,ps,_,h,_,_=>by
  obtain⟨rfl,rfl,rfl⟩:=trodAll_nil h;exact trodAll_mk0
 |t::ts,vs,ds,ps,ht,h,yG,hs=>by
  obtain⟨v,vs',d,ds',p,q,rfl,rfl,rfl,h1,h2⟩:=trodAll_cons h;exact⟨p,q,WideElems.Trod_stays hl (ht t (by simp)).1 (ht t (by simp)).2 h1 (fun x hx=>hb.same (yG x (by simp[hx]))) (fun x hx=>hs x (by simp[hx])),zG8 hl hb (fun t h=>ht t (by simp[h])) h2 (fun x hx=>yG x (by simp[hx])) (fun x hx=>hs x (by simp[hx])),rfl⟩
theorem zUB{f:Func}{s:ChangeSpec}{apart fresh j3 again:Bool}{W W':World}{args:Array Value}{ds:List (DataW H)}{before:List MemPlace}{tb:TypeId}(hl:laidOutB P=true)(jv:s.vars=[])(htb:P.underlying tb=some .bool)(qC:f.resultTypes=#[tb])(vH:∀ t∈f.params.toList,P.readableRec t=true/\t<P.types.size)
  (jk:s.fn H ds={results:=[.lit (.bool true)],args:=ds}) (hW:DataW.Whole enc P f.params.toList s.vars apart W args.toList ds [] before)
  (h1:W.heap.size<=W'.heap.size) (h2:∀ b,b<W.heap.size->W'.heap[b]? = W.heap[b]?) (h3:W'.os=W.os) (h4:W'.tape=W.tape) (h5:W'.output=W.output):s.post enc P f apart fresh j3 again W args (.bool true) W':=by
 have yG:=hW.lt;have hb:Below W.heap.size W W':=⟨h3,h4,h5,h1,h2⟩;obtain⟨pa,pv,hA,hV,yg,hz,hn⟩:=id hW;have hpv:pv=[]:=by
  rw[jv] at hV;exact(trodVars_none hV).2
 subst hpv;have hrl:(Value.bool true).resultList f.resultTypes.size=[.bool true]:=by rw[qC];rfl
 have LL:s.fn H (ds++[])={results:=[.lit (.bool true)],args:=ds}:=by rw[dR];exact jk
 have qN:∀ x∈pa,x.block<W.heap.size:=fun x hx=>yG x (by rw[yg];simp[hx]);refine zOm (pa:=pa) (pv:=[]) hW (fun b sp hd=>?_) (fun sp yd=>?_) (fun sp yd=>?_) yg h2 ?_ ?_
 ·rw[hrl,qC,LL];exact trodAll_mk1 (shut_bool htb true)
 ·rw[LL];exact zG8 hl hb vH hA qN (fun x hx=>yd x (by rw[yg];simp[hx]))
 ·rw[jv,LL];rfl
 ·refine⟨h3,h5,fun i hi=>?_⟩;rw[h2 i hi]
  cases W.heap[i]? with
  |none=>rfl|some o=>cases o<;>first|exact⟨rfl,rfl,rfl,fun _ _=>rfl⟩|exact .inr ⟨rfl,rfl⟩|rfl
 ·exact ok_one qC rfl (okWide_bool_mk htb true)
end
end Go.Eng
namespace Go.Eng
open Go
section
variable {w:World} {Φ:Nat->Prop} {A:Al}
end
end Go.Eng
namespace Go.Eng
open Go
section
variable {P:Program} {H:zBg}
theorem zS5{f:FuncId}{fn:Func}(h:P.funcs[f]? = some fn):fn∈P.funcs.toList:=by
 rw[<- bS] at h;exact bH h
theorem zII (h : (P.funcs.toList.all fun fn => !(fn.name == "runtime.NumGoroutine")) = true) : zET P := fun f fn hf => by
  have:=bi.1 h fn (zS5 hf);simpa using this
theorem zYt (h:((range P.funcs.size).all fun f=>bif beq (H f).intr 0 then(match P.funcs[f]? with
  |some fn=>zXG P fn|none=>true) else true)=true):Fit P H:=fun f fn hf hi=>by
 have yG:=(bY.1 hf).1;have:=bi.1 h f (bF.2 yG);rw[hi,hf] at this;exact this
end
end Go.Eng
namespace Go.Eng
open Go Go.ChangeShapes Go.WideShapes Go.ChangeAt Go.RowKit
inductive Sh where
 |num (k:IntKind)
 |bool
 |list (ag:Bool) (parts:List Sh)
mutual
def zZA:Sh->PV->Prop
 |.num k,p=>∃ n,p = .int k n/\k.min<=n/\n<=k.max|.bool,p=>∃ b,p = .bool b|.list ag ss,p=>∃ xs,p = .sl xs/\xs.length<=maxLen/\∀ x∈xs,zEs ss x.cells/\x.isAgg=ag
def zEs:List Sh->List PV->Prop
 |[],ps=>ps=[]|s::ss,ps=>∃ p qs,ps=p::qs/\zZA s p/\zEs ss qs
end
def zYb(P:Program)(t:TypeId):Bool :=
 match P.underlying t with
 |some (.struct _)=>true|some (.array ..)=>true|_=>false
def zZv(P:Program)(t:TypeId):Bool :=
 match P.underlying t with
 |some (.struct _)=>true|_=>false
def zHB(P:Program)(sh:TypeId->Option (List Sh))(n:Nat):List Field->Nat->Option (List Sh)
 |[],off=>if off=n then some [] else none
 |f::fs,off=>if f.offset=off then match sh f.type with
  |some a=>if a.length=P.cellsOf f.type then(zHB P sh n fs (off+P.cellsOf f.type)).map (a++·) else none
  |none=>none else none
def zDs(P:Program):Nat->TypeId->Option (List Sh)
 |0,_=>none
 | n + 1,t=>match P.underlying t with
  |some (.int k)=>some [.num k]|some .bool=>some [.bool]|some (.slice e)=>match zDs P n e with
   |some ss=>if ss.length=P.cellsOf e/\0<ss.length/\(zYb P e=true\/ss.length=1) then some [.list (zYb P e) ss] else none
   |none=>none
  |some (.struct fs)=>zHB P (zDs P n) (P.cellsOf t) fs.toList 0|some (.array m e)=>match zDs P n e with
   |some es=>if P.cellsOf t=m*P.cellsOf e then some (replicate m es).flatten else none
   |none=>none
  |_=>none
section
variable {H:Type} {enc:TypeId×Value->H} {P:Program} {w:World} {spare:Nat->Bool} {uX:Bool} {Φ:Nat->Prop} {base:Nat}
theorem zEs.app:∀ {a b:List Sh} {p q:List PV},zEs a p->zEs b q->zEs (a++b) (p++q)
 |[],b,p,q,h1,h2=>by simp only[zEs] at h1;subst h1;exact h2|s::a,b,p,q,h1,h2=>by
  obtain⟨x,xs,rfl,h3,h4⟩:=h1;exact⟨x,xs++q,rfl,h3,zEs.app h4 h2⟩
theorem zEs.length:∀ {a:List Sh} {p:List PV},zEs a p->p.length=a.length
 |[],p,h=>by simp only[zEs] at h;subst h;rfl|s::a,p,h=>by
  obtain⟨x,xs,rfl,_,h4⟩:=h;simp[zEs.length h4]
theorem zNh{sh:TypeId->Option (List Sh)}{N n:Nat}{cs:List Value}(jO:cs.length=N)(ih:∀ t (vs:List Value) x ss,sh t=some ss->DataW.trod enc P w 0 spare uX n t vs=some x->∃ ps,zEs ss ps/\zA8 w Φ zCm ps vs []) :
  ∀ (fs:List Field) (off:Nat) (ss:List Sh),zHB P sh N fs off=some ss->(∀ f∈fs,∃ y,DataW.trod enc P w 0 spare uX n f.type ((cs.drop f.offset).take (P.cellsOf f.type))=some y)->off<=N->∃ ps,zEs ss ps/\zA8 w Φ zCm ps (cs.drop off) []
 |[],off,ss,h,_,yS=>by
  simp only[zHB] at h;split at h
  ·rename_i he;cases h;exact⟨[],rfl,by rw[dh (by omega)];exact⟨rfl,rfl⟩⟩
  ·cases h
 | f :: fs,off,ss,h,hf,yS=>by
  simp only[zHB] at h;split at h
  ·rename_i ho
   cases hs:sh f.type with
   |none=>rw[hs] at h;cases h
   | some a =>
    rw[hs] at h;simp only at h;split at h
    ·rename_i jz;obtain⟨b,hb,rfl⟩:=bm.1 h;obtain⟨y,hy⟩:=hf f (by simp);rw[ho] at hy;obtain⟨ps,h1,h2⟩:=ih _ _ _ _ hs hy;have hl:=h2.length;have kR:=h1.length;simp only[cj,dz] at hl;have uN:off+P.cellsOf f.type<=N:=by omega
     obtain⟨qs,h3,h4⟩:=zNh jO ih fs _ b hb (fun g hg=>hf g (by simp[hg])) uN;refine⟨ps++qs,h1.app h3,?_⟩;have:=h2.append h4;rw[<- dA,cw] at this;exact this
    ·cases h
  ·cases h
theorem zRE{s:Nat}{ag:Bool}{ss:List Sh}(hs:0<s)(jj:ag=true\/s=1):∀ (len:Nat) (c:List Value),c.length=len*s->(∀ i,i<len->∃ ps,zEs ss ps/\ps.length=s/\zA8 w Φ zCm ps ((c.drop (i*s)).take s) []) ->
  ∃ (xs:List PV) (us:List Value),xs.length=len/\(∀ x∈xs,zEs ss x.cells/\x.isAgg=ag/\x.cells.length=s)/\(∀ u∈us,u.cells.size=s)/\us.map zCv=xs.map PV.isAgg/\c=flat us/\zA8 w Φ zCm xs us []
 |0,c,hc,_=>⟨[],[],rfl,by simp,by simp,rfl,by rw[fg] at hc;rw[bq hc];rfl,rfl,rfl⟩
 | len + 1,c,hc,h=>by
  obtain⟨ps,h1,h2,h3⟩:=h 0 (by omega);simp only[fg,dX] at h3;have yN:(c.take s).length=s:=by simp;rw[hc,cS];omega
  obtain⟨xs,us,g1,g2,g3,g4,g5,g6⟩:=zRE hs jj len (c.drop s) (by simp[hc,cS]) (fun i hi=>by
   obtain⟨ps,h1,h2,h3⟩:=h (i+1) (by omega);refine⟨ps,h1,h2,?_⟩;rw[dA,show s+i*s=(i+1)*s by rw[cS];omega];exact h3)
  have jF:c=c.take s++c.drop s:=(cw s c).symm
  cases ag with
  | true =>
   refine⟨.agg ps::xs,.agg (c.take s).toArray::us,by simp[g1],fun x hx=>?_,fun u hu=>?_,by simp[zCv,PV.isAgg,g4],?_,⟨_,us,[],[],rfl,rfl,⟨_,rfl,by simpa using h3⟩,g6⟩⟩
   ·rcases bx.1 hx with rfl|hx
    ·exact⟨h1,rfl,h2⟩
    ·exact g2 x hx
   ·rcases bx.1 hu with rfl|hu
    ·simpa[Value.cells] using yN
    ·exact g3 u hu
   ·conv=>lhs;rw[jF]
    rw[g5];rfl
  | false =>
   have vA:s=1:=by
    rcases jj with h|h
    ·cases h
    ·exact h
   subst vA;obtain⟨p,rfl⟩:=iM.1 h2;obtain⟨u,hu⟩:=iM.1 yN;rw[hu] at h3 jF;obtain⟨u',us',L1,L2,he,hL,h4,h5⟩:=h3;cases he;obtain⟨rfl,rfl⟩:=dx.1 hL.symm;have yQ:p.isAgg=false/\p.cells=[p]/\u.cells=#[u]/\zCv u=false:=by
    obtain⟨p',qs,hp,hfp,_⟩:∃ p' qs,[p]=p'::qs/\(∃ s,zZA s p')/\True:=by
     cases ss with
     |nil=>simp only[zEs] at h1;cases h1|cons s ss=>obtain⟨x,xs,h6,h7,_⟩:=h1;exact⟨x,xs,h6,⟨s,h7⟩,trivial⟩
    cases hp;obtain⟨s,hfp⟩:=hfp
    cases s with
    |num k=>obtain⟨n,rfl,_⟩:=hfp;obtain⟨rfl,_⟩:=h4;exact⟨rfl,rfl,rfl,rfl⟩
    |bool=>obtain⟨n,rfl⟩:=hfp;obtain⟨rfl,_⟩:=h4;exact⟨rfl,rfl,rfl,rfl⟩
    |list ag' ss'=>
     obtain⟨ys,rfl,_⟩:=hfp;obtain⟨_,⟨_,a,n,rfl,_⟩|⟨a,n,c',us',sz,rfl,_⟩⟩:=h4<;>exact⟨rfl,rfl,rfl,rfl⟩
   refine⟨p::xs,u::us,by simp[g1],fun x hx=>?_,fun v hv=>?_,by simp[yQ.1,yQ.2.2.2,g4],?_,⟨u,us,[],[],rfl,rfl,h4,g6⟩⟩
   ·rcases bx.1 hx with rfl|hx
    ·rw[yQ.2.1];exact⟨h1,yQ.1,rfl⟩
    ·exact g2 x hx
   ·rcases bx.1 hv with rfl|hv
    ·rw[yQ.2.2.1];rfl
    ·exact g3 v hv
   ·conv=>lhs;rw[jF]
    rw[g5];simp only[flat,dU,yQ.2.2.1]
theorem zVR{n:Nat}{e t:TypeId}{fuel:Nat}{cs:List Value}{x:DataW H×List MemPlace}(ht:P.underlying t=some (.array n e))(h:DataW.trod enc P w base spare uX fuel t cs=some x) :
  ∃ (xs:List (DataW H×List MemPlace)) (m:Nat),cs.length=P.cellsOf t/\xs.length=n/\∀ (i:Nat),i<n->DataW.trod enc P w base spare uX m e ((cs.drop (i*P.cellsOf e)).take (P.cellsOf e))=xs[i]?:=by
 cases fuel with
 |zero=>simp[DataW.trod] at h|succ m=>
  unfold DataW.trod at h;rw[ht] at h;split at h<;>simp_all;obtain⟨hl,xs,hp,hd⟩:=h;exact⟨xs,by simpa using mapM_some_length hp,m,fun i hi=>mapM_some_get hp i i (by simp[hi])⟩
theorem zV8{s:Nat}{es:List Sh}:∀ (n:Nat) (c:List Value),c.length=n*s->(∀ i,i<n->∃ ps,zEs es ps/\zA8 w Φ zCm ps ((c.drop (i*s)).take s) [])->∃ ps,zEs (replicate n es).flatten ps/\zA8 w Φ zCm ps c []
 |0,c,hc,_=>⟨[],rfl,by rw[fg] at hc;rw[bq hc];exact⟨rfl,rfl⟩⟩
 | n + 1,c,hc,h=>by
  obtain⟨ps,h1,h2⟩:=h 0 (by omega);simp only[fg,dX] at h2;obtain⟨qs,h3,h4⟩:=zV8 (s:=s) n (c.drop s) (by simp[hc,cS]) fun i hi=>by
   obtain⟨ps,h1,h2⟩:=h (i+1) (by omega);refine⟨ps,h1,?_⟩;rw[dA,show s+i*s=(i+1)*s by rw[cS];omega];exact h2
  refine⟨ps++qs,?_,?_⟩
  ·rw[fX,List.flatten_cons];exact h1.app h3
  ·have:=h2.append h4;rw[cw] at this;exact this
theorem zMo : ∀ (n m:Nat) (t:TypeId) (vs:List Value) (x:DataW H×List MemPlace) (ss:List Sh),zDs P n t=some ss->DataW.trod enc P w 0 spare uX m t vs=some x->∃ ps,zEs ss ps/\zA8 w (fun b=>b<w.heap.size) zCm ps vs []
 |0,m,t,vs,x,ss,h,_=>by cases h
 | n + 1, m, t,vs,x,ss,h,hx=>by
  simp only[zDs] at h;split at h
  ·rename_i k ht;cases h;obtain⟨i,rfl,_,hw⟩:=DataW.trod_int ht hx;simp only[Lit.wf,bb,decide_eq_true_eq] at hw;exact⟨[.int k i],⟨_,[],rfl,⟨i,rfl,hw.1,hw.2⟩,rfl⟩,_,_,[],[],rfl,rfl,⟨rfl,rfl⟩,rfl,rfl⟩
  ·rename_i ht;cases h;obtain⟨b,rfl,_⟩:=DataW.trod_bool ht hx;exact⟨[.bool b],⟨_,[],rfl,⟨b,rfl⟩,rfl⟩,_,_,[],[],rfl,rfl,⟨rfl,rfl⟩,rfl,rfl⟩
  ·rename_i e ht
   cases jh:zDs P n e with
   |none=>rw[jh] at h;cases h
   | some es =>
    rw[jh] at h;simp only at h;split at h
    ·rename_i hc;cases h;obtain⟨j9,jF,uf⟩:=hc;rcases DataW.trod_slice ht hx with⟨rfl,_⟩|⟨a,len,cap,zZO,rest,k,_,rfl,_,_,gx,hcm,jH,yj,_⟩
     ·exact⟨[.sl []],⟨_,[],rfl,⟨[],rfl,bN _,by simp⟩,rfl⟩,_,_,[],[],rfl,rfl,⟨rfl,.inl ⟨rfl,_,_,rfl,fun _=>rfl⟩⟩,rfl,rfl⟩
     ·by_cases h0:len=0
      ·subst h0;exact⟨[.sl []],⟨_,[],rfl,⟨[],rfl,bN _,by simp⟩,rfl⟩,_,_,[],[],rfl,rfl,⟨rfl,.inl ⟨rfl,_,_,rfl,fun h=>by cases h⟩⟩,rfl,rfl⟩
      have zBi:∀ i,i<len->∃ (cs:List Value) (y:DataW H×List MemPlace),cs.length=P.cellsOf e/\(∀ j,j<P.cellsOf e->w.cell? ((a.add (i*P.cellsOf e)).add j)=cs[j]?)/\DataW.trod enc P w 0 spare uX k e cs=some y:=by
       intro i hi;have:=yj i hi;rw[bl (by omega)] at this;obtain⟨cs,h1,h2⟩:=iF.1 this;obtain⟨_,h3,h4⟩:=World.cells?_some h1;exact⟨cs,_,h3,h4,h2⟩
      obtain⟨cs0,_,h00,h01,_⟩:=zBi 0 (by omega);have yU:=h01 0 (by omega);rw[bl (by omega)] at yU;have yd:a.spot=none/\∃ row el fr,w.heap[a.block]? = some (.cells row el fr):=by
       simp only[fg,Addr.add,if_true,World.cell?] at yU
       cases hb:w.heap[a.block]? with
       |none=>rw[hb] at yU;cases yU|some o=>
        cases o<;>rw[hb] at yU<;>simp only at yU<;>try (cases yU;done)
        rename_i row el fr
        cases hs:a.spot with
        |some s=>rw[hs] at yU;cases yU|none=>exact⟨rfl,row,el,fr,rfl⟩
      obtain⟨yf,row,el,fr,yH⟩:=yd;have jo:∀ i j,i<len->j<P.cellsOf e->w.cell? ((a.add (i*P.cellsOf e)).add j)=row[a.off+(i*P.cellsOf e+j)]?:=by
       intro i j hi hj;have key:∀ m:Nat,(a.add m).block=a.block/\(a.add m).off=a.off+m/\(a.add m).spot=none:=by
        intro m;unfold Addr.add;split
        ·rename_i h;subst h;exact⟨rfl,rfl,yf⟩
        ·exact⟨rfl,rfl,by simp⟩
       have key2:∀ m j:Nat,w.cell? ((a.add m).add j)=row[a.off+(m+j)]?:=by
        intro m j;obtain⟨k1,k2,k3⟩:=key m;by_cases h:j=0
        ·subst h;simp only[Addr.add,if_true,World.cell?] at *;rw[k1,yH];simp only;rw[k3,k2];simp
        ·have:(a.add m).add j=⟨a.block,a.off+m+j,none⟩:=by
          generalize a.add m=a1 at k1 k2 k3;unfold Addr.add;rw[if_neg h,k1,k2]
         rw[this];simp only[World.cell?,yH];rw[cg];rfl
       exact key2 _ _
      have jP:=zRE (w:=w) (Φ:=fun b=>b<w.heap.size) (ss:=es) jF (by rw[j9] at uf ⊢;exact uf) len (seg row a.off (len*P.cellsOf e)) ?_ ?_
      ·obtain⟨xs,us,g1,g2,g3,g4,g5,g6⟩:=jP;refine⟨[.sl xs],⟨_,[],rfl,⟨xs,rfl,by omega,fun x hx=>⟨(g2 x hx).1,(g2 x hx).2.1⟩⟩,rfl⟩,_,_,[],[],rfl,rfl,⟨rfl,.inr ⟨a,cap,row,us,P.cellsOf e,by rw[g1],yf,by omega,(bY.1 yH).1,⟨el,fr,yH⟩,?_,⟨?_,g4⟩,by rw[g1];exact g5,g6⟩⟩,rfl,rfl⟩
       ·intro x hx;rw[<- j9];exact(g2 x hx).2.2
       ·intro u hu;rw[<- j9];exact g3 u hu
      ·
       have:=zBi (len-1) (by omega);obtain⟨cs,_,h1,h2,_⟩:=this;have h3:=h2 (P.cellsOf e-1) (by omega);rw[jo _ _ (by omega) (by omega),bl (by omega)] at h3;have h4:=(bY.1 h3).1;have h5:(len-1)*P.cellsOf e+P.cellsOf e=len*P.cellsOf e:=by
        obtain⟨l,rfl⟩:∃ l,len=l+1:=⟨len-1,by omega⟩;rw[dP,cS];omega
       simp only[seg,cj,dz,fx,j9];omega
      ·intro i hi;obtain⟨cs,y,h1,h2,h3⟩:=zBi i hi;obtain⟨ps,h4,h5⟩:=zMo n k e cs y es jh h3;refine⟨ps,h4,by rw[h4.length],?_⟩;have:((seg row a.off (len*P.cellsOf e)).drop (i*es.length)).take es.length=cs:=by
        rw[j9];apply cW;intro j;have qP:i*P.cellsOf e+P.cellsOf e<=len*P.cellsOf e:=by
         have:(i+1)*P.cellsOf e<=len*P.cellsOf e:=cY _ (by omega);rw[cS] at this;omega
        simp only[seg,cu,ck];split
        ·rename_i hj;rw[if_pos (by omega),bS,<- jo i j hi hj,h2 j hj]
        ·rw[cV (by omega)]
       rw[this];exact h5
    ·cases h
  ·rename_i fs ht;obtain⟨xs,k,_,_,hl,vZ,hf⟩:=DataW.trod_struct ht hx;obtain⟨ps,h1,h2⟩:=zNh (Φ:=fun b=>b<w.heap.size) hl (fun t vs x ss h1 h2=>zMo n k t vs x ss h1 h2) fs.toList 0 ss h (fun f yv=>by
    obtain⟨i,hi⟩:=cC yv;have gm:fs[i]? = some f:=by rw[<- bS];exact hi
    have yG:=(bY.1 gm).1;exact ⟨xs[i]'(by omega), by rw [hf i f gm, bl (by omega)]⟩) (bN _)
   exact⟨ps,h1,by simpa using h2⟩
  ·rename_i m' e ht
   cases jh:zDs P n e with
   |none=>rw[jh] at h;cases h|some es=>
    rw[jh] at h;simp only at h;split at h
    ·rename_i hc;cases h;obtain⟨xs,k,hl,vZ,hf⟩:=zVR ht hx;exact zV8 m' vs (by rw[hl,hc]) fun i hi=>zMo n k e _ _ es jh (by rw[hf i hi,bl (by omega)])
    ·cases h
  ·cases h
def zXm(x:Bool×List Sh)(p:PV):Prop:=if x.1 then ∃ cs,p = .agg cs/\zEs x.2 cs else zEs x.2 [p]
def zLP:List (Bool×List Sh)->List PV->Prop
 |[],ps=>ps=[]|s::ss,ps=>∃ p qs,ps=p::qs/\zXm s p/\zLP ss qs
def zFE(P:Program):List TypeId->Option (List (Bool×List Sh))
 |[]=>some []|t::ts=>match zDs P 20 t,zFE P ts with
  |some ss,some rest=>if zZv P t=true\/zYb P t=false/\ss.length=1 then some ((zZv P t,ss)::rest) else none
  |_,_=>none
theorem zLP.length:∀ {ss:List (Bool×List Sh)} {ps:List PV},zLP ss ps->ps.length=ss.length
 |[],ps,h=>by simp only[zLP] at h;subst h;rfl|s::ss,ps,h=>by
  obtain⟨p,qs,rfl,_,h2⟩:=h;simp[zLP.length h2]
theorem zSk{n:Nat}{t:TypeId}{ss:List Sh}(h:zDs P n t=some ss)(ha:zYb P t=false):(∃ k,P.underlying t=some (.int k))\/P.underlying t=some .bool\/∃ e,P.underlying t=some (.slice e):=by
 cases n with
 |zero=>cases h|succ n=>
  simp only[zDs] at h;split at h
  ·exact .inl ⟨_,by assumption⟩
  ·exact .inr (.inl (by assumption))
  ·exact .inr (.inr ⟨_,by assumption⟩)
  ·rename_i fs ht;simp only[zYb,ht] at ha;cases ha
  ·rename_i ht;simp only[zYb,ht] at ha;cases ha
  ·cases h
theorem zSL : ∀ (ts:List TypeId) (vs:List Value) (ds:List (DataW H)) (ps:List MemPlace) (ss:List (Bool×List Sh)),zFE P ts=some ss->DataW.TrodAll enc P w 0 spare uX ts vs ds ps->(∀ (j:Nat) t v,ts[j]? = some t->vs[j]? = some v->Value.okWide P w .any base t v) ->
  ∃ qs,zLP ss qs/\zA8 w (fun b=>b<w.heap.size) zCm qs vs []
 |[],vs,ds,ps,ss,hs,h,_=>by
  obtain⟨rfl,_,_⟩:=trodAll_nil h;cases hs;exact⟨[],rfl,rfl,rfl⟩
 | t :: ts,vs,ds,ps,ss,hs,h,hv=>by
  obtain⟨v,vs',d,ds',p,q,rfl,rfl,rfl,⟨fuel,h1⟩,h2⟩:=trodAll_cons h;simp only[zFE] at hs
  cases yD:zDs P 20 t with
  |none=>rw[yD] at hs;cases hs
  | some s =>
   cases yp:zFE P ts with
   |none=>rw[yD,yp] at hs;cases hs
   | some rest =>
    rw[yD,yp] at hs;simp only at hs;split at hs
    ·rename_i hc;cases hs;obtain⟨qs,g1,g2⟩:=zSL ts vs' ds' q rest yp h2 (fun j t v ht yK=>hv (j+1) t v (by simpa using ht) (by simpa using yK));obtain⟨cs,g3,g4⟩:=zMo 20 fuel t v.cells.toList _ s yD h1;have yE:=hv 0 t v rfl rfl
     cases ha:zZv P t with
     | true =>
      have ql:∃ fs,P.underlying t=some (.struct fs):=by
       simp only[zZv] at ha;split at ha
       ·exact⟨_,by assumption⟩
       ·cases ha
      obtain⟨fs,ht⟩:=ql;obtain⟨row,rfl,_⟩:=okWide_struct ht yE;exact⟨.agg cs::qs,⟨_,_,rfl,by simp only[zXm,if_true];exact⟨cs,rfl,g3⟩,g1⟩,_,_,[],[],rfl,rfl,⟨row,rfl,g4⟩,g2⟩
     | false =>
      have yQ:v.cells.toList=[v]:=by
       rcases zSk yD (hc.elim (fun h=>by rw[h] at ha;cases ha) fun h=>h.1) with⟨k,ht⟩|ht|⟨e,ht⟩
       ·obtain⟨n,rfl⟩:=okWide_int ht yE;rfl
       ·obtain⟨n,rfl⟩:=okWide_bool ht yE;rfl
       ·obtain⟨a,n,c,rfl⟩:=okWide_slice ht yE;rfl
      rw[yQ] at g4;obtain⟨u,us,L1,L2,he,hL,g5,g6⟩:∃ u us L1 L2,cs=u::us/\([]:LN)=L1++L2/\Rep w (fun b=>b<w.heap.size) zCm u v L1/\zA8 w (fun b=>b<w.heap.size) zCm us [] L2:=by
       cases cs with
       |nil=>have:=g4.length;simp at this|cons u us=>
        obtain⟨v',vs'',L1,L2,he,hL,g5,g6⟩:=g4;cases he;exact⟨u,us,L1,L2,rfl,hL,g5,g6⟩
      obtain⟨rfl,rfl⟩:=dx.1 hL.symm;have wT:us=[]:=bq (by have:=g6.length;simp at this;omega);subst wT;subst he;exact⟨u::qs,⟨_,_,rfl,by simp only[zXm,bp,if_false];exact g3,g1⟩,_,_,[],[],rfl,rfl,g5,g2⟩
    ·cases hs
theorem zTF{α:Type}{R:α->Prop}{enc:α->PV}:∀ {xs:List PV},(∀ x∈xs,∃ a,x=enc a/\R a)->∃ l:List α,xs=l.map enc/\∀ a∈l,R a
 |[],_=>⟨[],rfl,by simp⟩
 | x :: xs,h=>by
  obtain⟨a,rfl,ha⟩:=h x (by simp);obtain⟨l,rfl,hl⟩:=zTF (xs:=xs) fun y hy=>h y (by simp[hy]);exact⟨a::l,rfl,fun b hb=>by
   rcases bx.1 hb with rfl|hb
   ·exact ha
   ·exact hl b hb⟩
theorem zVf{k:IntKind}{p:PV}(h:zZA (.list false [.num k]) p):∃ l:LI,p = .sl (l.map (.int k))/\l.length<=maxLen/\∀ n∈l,k.min<=n/\n<=k.max:=by
 obtain⟨xs,rfl,hl,hx⟩:=h;obtain⟨l,rfl,hb⟩:=zTF (α:=Int) (R:=fun n=>k.min<=n/\n<=k.max) (enc := .int k) (xs:=xs) fun x u9=>by
  obtain⟨⟨q,qs,hc,⟨n,rfl,hn⟩,vr⟩,ha⟩:=hx x u9;simp only[zEs] at vr;subst vr;refine⟨n,?_,hn⟩;cases x<;>simp[PV.cells] at hc<;>first|exact hc|simp_all[PV.isAgg]
 exact⟨l,rfl,by simpa using hl,hb⟩
theorem zJu:∀ {ts:List TypeId} {vs:List Value} {ds:List (DataW H)} {ps:List MemPlace},DataW.TrodAll enc P w 0 spare uX ts vs ds ps->ds.length=ts.length
 |[],vs,ds,ps,h=>by obtain⟨_,rfl,_⟩:=trodAll_nil h;rfl
 |t::ts,vs,ds,ps,h=>by
  obtain⟨_,_,_,_,_,_,rfl,rfl,_,_,h2⟩:=trodAll_cons h;simp[zJu h2]
theorem zXi{Hh:zBg}{f:FuncId}{fn:Func}{s:ChangeSpec}{apart fresh j3 again:Bool}{W:World}{args:Array Value}{ds:List (DataW H)}{before:List MemPlace}{tb:TypeId}{ss:List (Bool×List Sh)}(zFd:P.follows .mixedOrders=true)(hnm:zET P)(zM4:Fit P Hh)(hin:zEX P Hh)
  (hl:laidOutB P=true) (jv:s.vars=[]) (htb:P.underlying tb=some .bool) (qC:fn.resultTypes=#[tb]) (vH:fn.params.toList.all (fun t=>P.readableRec t&&blt t P.types.size)=true) (jk:∀ ds,ds.length=fn.params.size->s.fn H ds={results:=[.lit (.bool true)],args:=ds}) (ui:zFE P fn.params.toList=some ss) (yA:ss.length<=1000)
  (hg:∀ qs,zLP ss qs->@zBD (yo1 P Hh) P Hh f qs [] (.bool true) [])
  (LK:∀ (j:Nat) t v,fn.params[j]? = some t->args[j]? = some v->Value.okWide P W .any base t v) (hW:DataW.Whole enc P fn.params.toList s.vars apart W args.toList ds [] before) :
  Calls P f args W fun e W'=>∃ v,e = .returned v/\s.post enc P fn apart fresh j3 again W args v W':=by
 obtain⟨pa,pv,hA,_,_,_,_⟩:=id hW;obtain⟨qs,kb,jx⟩:=zSL fn.params.toList args.toList ds pa ss ui hA (fun j t v ht hv=>LK j t v (by rw[<- bS];exact ht) (by rw[<- bS];exact hv));have wF:=kb.length;refine(zT7 (Φ:=fun b=>b<W.heap.size) zFd hnm zM4 hin (hg qs kb) (fun b hb=>hb) jx (by rw[wF];exact bB yA (by decide))).mono fun e W' ⟨he,g1,g2,g3,g4,g5⟩=>?_;subst he;refine⟨_,rfl,zUB hl jv htb qC (fun t ht=>?_) (jk ds (by have:=zJu hA;simpa using this)) hW g1 g2 g3 g4 g5⟩;have:=bi.1 vH t ht;rw[bb] at this;exact⟨this.1,zCe this.2⟩
end
end Go.Eng
namespace Go.Eng
open Go
section
variable {P:Program} {H:zBg}
def zEU(f:FuncId):zBg:=fun g=>bif beq g f then{} else{intr:=9}
theorem zQY(zFd:P.follows .mixedOrders=true)(hnm:zET P){f:FuncId}{fn:Func}(hf:P.funcs[f]? = some fn)(yE:zXG P fn=true)(n:Nat):zGx P (@zCZ P (zEU f) yo0 n):=by
 refine @zFo P (zEU f) yo0 zFd hnm (fun g gn hg hi=>?_) (fun g gn args hid v hX hg hi hr=>?_) (fun g first i caps k plan h=>by cases h) n
 ·cases hb:beq g f with
  |true=>
   rw[bd hb,hf] at hg;cases hg;exact yE
  |false=>simp[zEU,hb] at hi
 ·cases hb:beq g f with
  |true=>exact absurd (by simp[zEU,hb]) hi|false=>
   have e:(zEU f g).intr=9:=by simp[zEU,hb]
   rw[e] at hr;simp[intrin] at hr
theorem zPP{α:Type}{f:Nat->α}{s:Nat}{v:α}(h:f s=v):upd f s v=f:=by
 funext t;by_cases ht:t=s
 ·subst ht;rw[zAi,h]
 ·rw[zAe ht]
theorem zLB{f:FuncId}{p q v:PV}(hp:p.heavy=false){w:World}{Φ:Nat->Prop}{rv:Nat->Value}{E:Nat->PV}{L:Nat->LN}{vs:Array Value}(hE:∀ s,s<zAa->E s=(zBf [q] []).get s)(ko:∀ s,zAa<=s->E s = .bad)
  (C:Conf w (fun b=>∃ s,b∈L s) Φ w Φ rv E L) (yI:vs.size=1) (yn:∀ i,i<1->vs[i]? = some (rv i)) (jc:∀ s,1<=s->s<zAk->rv s=undef) (hL0:L 0=[]) (hr:Rep w Φ (zBa w rv E) p (rv 0) []) (h:Means P f [p] [] v []) :
  Calls P f vs w fun e w'=>∃ u Φ' rv' E' L',e = .returned u/\Conf w (fun b=>∃ s,b∈L s) Φ w' Φ' rv' E' L'/\([]:List PV).length=([]:List PV).length /\
   (∀ j,j<([]:List PV).length->E' (zAk+j)=([]:List PV).getD j .bad/\rv' (zAk+j)=rv (zAk+j))/\Gave v u rv' E':=by
 have C1:=C.put (s:=0) hp hr;rw[zPP hL0,zPP rfl] at C1;have h1:(1:Nat)<=zAk:=by decide
 have hg:(0:Nat)<zAa:=by decide
 refine h w Φ rv (upd E 0 p) L vs (fun s hs=>?_) (fun s hs=>?_) C1 yI yn jc
 ·by_cases h:s=0
  ·subst h;rw[zAi];rfl
  ·rw[zAe h,hE s hs,zDm (args:=[q]) h1,zDm (args:=[p]) h1];simp[h,show ¬ s<1 by omega]
 ·rw[zAe (by omega)];exact ko s hs
theorem zRT{f:FuncId}{v:PV}(h1:Means P f [.nils 0] [] v [])(h2:Means P f [.nn] [] v []):Means P f [.sl []] [] v []:=by
 intro w Φ rv E L vs hE ko C yI yn jc;have h0:E 0 = .sl []:=by rw[hE 0 (by decide)];rfl
 have hr:=C.rep 0;rw[h0] at hr;obtain⟨hL0,hc⟩:=hr;have hc:∃ a n,rv 0 = .slice a 0 n/\(a=none->n=0):=by
  rcases hc with⟨_,a,n,hv,ha⟩|⟨a,n,c,us,sz,hv,_⟩
  ·exact⟨a,n,hv,ha⟩
  ·exact⟨some a,n,hv,fun h=>by cases h⟩
 obtain⟨a,n,hv,ha⟩:=hc
 cases a with
 |none=>
  rw[ha rfl] at hv;exact zLB (p := .nils 0) rfl hE ko C yI yn jc hL0 ⟨hv,rfl⟩ h1
 |some a=>exact zLB (p := .nn) rfl hE ko C yI yn jc hL0 ⟨rfl,a,n,hv⟩ h2
theorem zQK{f:FuncId}{v:PV}{k:Nat}(h1:Means P f [.nils 0] [] v []):Means P f [.nils k] [] v []:=by
 intro w Φ rv E L vs hE ko C yI yn jc;have h0:E 0 = .nils k:=by rw[hE 0 (by decide)];rfl
 have hr:=C.rep 0;rw[h0] at hr;exact zLB (p := .nils 0) rfl hE ko C yI yn jc hr.2 ⟨hr.1,rfl⟩ h1
theorem zLZ(zFd:P.follows .mixedOrders=true)(hnm:zET P){f:FuncId}{fn:Func}(hf:P.funcs[f]? = some fn)(hb:fn.body.isSome=true)(yE:zXG P fn=true){sz:Nat}(yI:(fn.resultTypes[0]?).bind (fun t=>(zB1 P t).bind (szT P))=some sz)
  (r1:∃ n,@zCZ P (zEU f) yo0 n f [.nils 0] []=some (.own sz [],[])) (r2:∃ n,@zCZ P (zEU f) yo0 n f [.nn] []=some (.own sz [],[]))
  (r3:∀ x xs,(∀ y∈x::xs,y.plain=true/\y.cells.length=sz)->(x::xs).length<=zAO->∃ n,@zCZ P (zEU f) yo0 n f [.sl (x::xs)] []=some (.own sz (x::xs),[])) :
  ∀ args hid v hX,intrin P fn 1 args hid=some (v,hX)->Callable P f/\Means P f args hid v hX:=by
 have so:=zQY zFd hnm hf yE
 have hc:Callable P f:=⟨fn,hf,by cases hx:fn.body with
  |none=>rw[hx] at hb;cases hb|some _=>rfl⟩
 obtain⟨n1,r1⟩:=r1;obtain⟨n2,r2⟩:=r2;have m1:Means P f [.nils 0] [] (.own sz []) []:=(so n1 _ _ _ _ _ r1).2;have m2:=(so n2 _ _ _ _ _ r2).2;intro args hid v hX h;refine⟨hc,?_⟩;rcases args with _|⟨p,_|⟨p2,ps⟩⟩
 ·simp[intrin] at h
 ·rcases hid with _|⟨q,qs⟩
  ·cases p<;>first|(simp[intrin] at h;done)|skip
   ·rename_i k;simp only[intrin,yI,ba,bz] at h;obtain⟨rfl,rfl⟩:=h;exact zQK m1
   ·rename_i xs;simp only[intrin,yI] at h;split at h
    ·rename_i hx;simp only[ba,bz] at h;obtain⟨rfl,rfl⟩:=h;simp only[bb,decide_eq_true_eq,bi] at hx
     cases xs with
     |nil=>exact zRT m1 m2|cons x xs=>
      obtain⟨n3,r3⟩:=r3 x xs (fun y hy=>by simpa using hx.1 y hy) hx.2;exact(so n3 _ _ _ _ _ r3).2
    ·cases h
  ·simp[intrin] at h
 ·simp[intrin] at h
theorem zG2[Yo]{f:FuncId}{fn:Func}{sz:Nat}{α:Type}(g:α->PV)(l:List α)(hl:l.length<=4294967296)(hg:∀ x,((g x).plain&&beq (g x).cells.length sz)=true:=by intro x;kernel_rfl)(hf:P.funcs[f]? = some fn:=by kernel_rfl)(hi:(H f).intr=1:=by kernel_rfl)
  (yI:(fn.resultTypes[0]?).bind (fun t=>(zB1 P t).bind (szT P))=some sz:=by kernel_rfl):zBD P H f [.sl (l.map g)] [] (.own sz (l.map g)) []:=by
 refine⟨1,fun n hn=>?_⟩;obtain⟨k,rfl⟩:∃ k,n=k+1:=⟨n-1,by omega⟩;show zGX P H (zCZ P H k) Yo.yo zCb (k+1) f _ _=_
 have ja:((l.map g).all (fun x=>x.plain&&decide (x.cells.length=sz))&&decide ((l.map g).length<=zAO))=true:=by
  simp only[List.all_map,bb,bi,be,decide_eq_true_eq,Function.comp];refine⟨fun x _=>?_,hl⟩;have:=hg x;simp only[bb] at this;exact⟨this.1,bd this.2⟩
 simp only[bb,decide_eq_true_eq] at ja;simp only[zGX,hf,hi,intrin,yI];rw[if_pos (by decide),if_pos (by simpa using ja)]
theorem zHf{f:FuncId}{args:List PV}{v:PV}(h:@zBD yo0 P (zEU f) f args [] v []):∃ n,@zCZ P (zEU f) yo0 n f args []=some (v,[]):=by
 obtain⟨n,h⟩:=h;exact⟨n,h n (bf _)⟩
end
end Go.Eng
set_option maxRecDepth 100000
namespace Go.Eng
open Go Go.Proofs
def idV(p:PV):PV:=p
theorem zIt(xs:List PV):xs.map idV=xs:=by
 induction xs with
 |nil=>rfl|cons x xs ih=>rw[bL,ih];rfl
theorem zFu:∀ {l:List PV},(∀ y∈l,y.plain=true)->zBx l=[]
 |[],_=>rfl|p::ps,h=>by
  rw[zBx,(zMb (h p (by simp))).2,zFu fun y hy=>h y (by simp[hy])];rfl
theorem zSd{xs:List PV}{sz n:Nat}(h:∀ y∈xs,y.plain=true/\y.cells.length=sz)(hn:beq sz n=true):((xs.map idV).all fun y=>y.cells.length.beq n&&y.cells.all fun q=>q.oneCell)=true:=by
 rw[zIt,bi];intro y hy;rw[bb];exact⟨by rw[(h y hy).2];exact hn,bi.2 fun q hq=>zJW (h y hy).1 q hq⟩
theorem zX1{xs:List PV}{sz:Nat}(h:∀ y∈xs,y.plain=true/\y.cells.length=sz):((xs.map idV).all fun x=>x.plain)=true:=by
 rw[zIt,bi];exact fun y hy=>(h y hy).1
section
variable [Yo]
theorem zZM:zBD Tryz.prog (zEU 61) 61 [.nils 0] [] (.own 2 []) []:=zBD.closed 50
theorem zZF:zBD Tryz.prog (zEU 61) 61 [.nn] [] (.own 2 []) []:=zBD.closed 50
theorem zZy(xs:List PV)(h:∀ y∈xs,y.plain=true/\y.cells.length=2)(hI:0<xs.length)(hl:xs.length<=4294967296):zBD Tryz.prog (zEU 61) 61 [.sl (xs.map idV)] [] (.own 2 (xs.map idV)) []:=by
 refine zAd Tryz.f61 ?_;refine zAj 1<|zAc<|zAl 1<|S_a [(0,.v (bool false))] (ap (zOG (by omega):zG5 Tryz.prog BinOp.eql 27 (sl (map idV xs)) (zEM (Value.slice none 0 0))=some (bool false)) an)<|zA3<|zAB<|zAh<|zAl 2<|S_a [(0,.ob),(0,.ob),(0,.ob),(3,.ob)] (ap (zX1 h:((map idV xs).all fun x=>x.plain)=true)<|ap (zSd h (by kernel_rfl):((map idV xs).all fun y=>y.cells.length.beq ((fun x=>x.size) Tryz.prog.types[37])&&y.cells.all fun q=>q.oneCell)=true)<|ap (?_:(zBx (map idV xs)).isEmpty=true)<|ap ((by exact zAR (by simp only[be,zzLn,zAO]<;>omega)):(0+(map idV xs).length).ble zAO=true) an)<|S_g 1<|zAn<|E_a [(1,.yes),(1,.v (own 2 (map idV (take ([]++map idV xs).length xs))))] (ap (blz ([]++map idV xs))<|ap ((by simp[zBF]):own 2 (take ([]++map idV xs).length (drop 0 ([]++map idV xs)))=own 2 (map idV (take ([]++map idV xs).length xs))) an) (own 2 (map idV (take ([]++map idV xs).length xs))) [] (by simp[*]) rfl
 rw[zIt,zFu fun y hy=>(h y hy).1];rfl
theorem zZD:zBD Tryz.prog (zEU 65) 65 [.nils 0] [] (.own 1 []) []:=zBD.closed 50
theorem zZB:zBD Tryz.prog (zEU 65) 65 [.nn] [] (.own 1 []) []:=zBD.closed 50
theorem zZT(xs:List PV)(h:∀ y∈xs,y.plain=true/\y.cells.length=1)(hI:0<xs.length)(hl:xs.length<=4294967296):zBD Tryz.prog (zEU 65) 65 [.sl (xs.map idV)] [] (.own 1 (xs.map idV)) []:=by
 refine zAd Tryz.f65 ?_;refine zAj 1<|zAc<|zAl 1<|S_a [(0,.v (bool false))] (ap (zOG (by omega):zG5 Tryz.prog BinOp.eql 51 (sl (map idV xs)) (zEM (Value.slice none 0 0))=some (bool false)) an)<|zA3<|zAB<|zAh<|zAl 2<|S_a [(0,.ob),(0,.ob),(0,.ob),(3,.ob)] (ap (zX1 h:((map idV xs).all fun x=>x.plain)=true)<|ap (zSd h (by kernel_rfl):((map idV xs).all fun y=>y.cells.length.beq ((fun x=>x.size) Tryz.prog.types[3])&&y.cells.all fun q=>q.oneCell)=true)<|ap (?_:(zBx (map idV xs)).isEmpty=true)<|ap ((by exact zAR (by simp only[be,zzLn,zAO]<;>omega)):(0+(map idV xs).length).ble zAO=true) an)<|S_g 1<|zAn<|E_a [(1,.yes),(1,.v (own 1 (map idV (take ([]++map idV xs).length xs))))] (ap (blz ([]++map idV xs))<|ap ((by simp[zBF]):own 1 (take ([]++map idV xs).length (drop 0 ([]++map idV xs)))=own 1 (map idV (take ([]++map idV xs).length xs))) an) (own 1 (map idV (take ([]++map idV xs).length xs))) [] (by simp[*]) rfl
 rw[zIt,zFu fun y hy=>(h y hy).1];rfl
theorem zYr:zBD Tryz.prog (zEU 123) 123 [.nils 0] [] (.own 2 []) []:=zBD.closed 50
theorem zYy:zBD Tryz.prog (zEU 123) 123 [.nn] [] (.own 2 []) []:=zBD.closed 50
theorem zYU(xs:List PV)(h:∀ y∈xs,y.plain=true/\y.cells.length=2)(hI:0<xs.length)(hl:xs.length<=4294967296):zBD Tryz.prog (zEU 123) 123 [.sl (xs.map idV)] [] (.own 2 (xs.map idV)) []:=by
 refine zAd Tryz.f123 ?_;refine zAj 1<|zAc<|zAl 1<|S_a [(0,.v (bool false))] (ap (zOG (by omega):zG5 Tryz.prog BinOp.eql 40 (sl (map idV xs)) (zEM (Value.slice none 0 0))=some (bool false)) an)<|zA3<|zAB<|zAh<|zAl 2<|S_a [(0,.ob),(0,.ob),(0,.ob),(3,.ob)] (ap (zX1 h:((map idV xs).all fun x=>x.plain)=true)<|ap (zSd h (by kernel_rfl):((map idV xs).all fun y=>y.cells.length.beq ((fun x=>x.size) Tryz.prog.types[108])&&y.cells.all fun q=>q.oneCell)=true)<|ap (?_:(zBx (map idV xs)).isEmpty=true)<|ap ((by exact zAR (by simp only[be,zzLn,zAO]<;>omega)):(0+(map idV xs).length).ble zAO=true) an)<|S_g 1<|zAn<|E_a [(1,.yes),(1,.v (own 2 (map idV (take ([]++map idV xs).length xs))))] (ap (blz ([]++map idV xs))<|ap ((by simp[zBF]):own 2 (take ([]++map idV xs).length (drop 0 ([]++map idV xs)))=own 2 (map idV (take ([]++map idV xs).length xs))) an) (own 2 (map idV (take ([]++map idV xs).length xs))) [] (by simp[*]) rfl
 rw[zIt,zFu fun y hy=>(h y hy).1];rfl
end
theorem zWY:∀ args hid v hX,intrin Tryz.prog Tryz.f61 1 args hid=some (v,hX)->Callable Tryz.prog 61/\Means Tryz.prog 61 args hid v hX :=
 zLZ (f:=61) (fn:=Tryz.f61) (sz:=2) (by kernel_rfl) (zII (by kernel_rfl)) (by kernel_rfl) (by kernel_rfl) (by kernel_rfl) (by kernel_rfl) (zHf (@zZM yo0)) (zHf (@zZF yo0)) fun x xs h hl=>by
  have:=zHf (@zZy yo0 (x::xs) h (by simp) hl);rw[zIt] at this;exact this
theorem zXy:∀ args hid v hX,intrin Tryz.prog Tryz.f65 1 args hid=some (v,hX)->Callable Tryz.prog 65/\Means Tryz.prog 65 args hid v hX :=
 zLZ (f:=65) (fn:=Tryz.f65) (sz:=1) (by kernel_rfl) (zII (by kernel_rfl)) (by kernel_rfl) (by kernel_rfl) (by kernel_rfl) (by kernel_rfl) (zHf (@zZD yo0)) (zHf (@zZB yo0)) fun x xs h hl=>by
  have:=zHf (@zZT yo0 (x::xs) h (by simp) hl);rw[zIt] at this;exact this
theorem zVz:∀ args hid v hX,intrin Tryz.prog Tryz.f123 1 args hid=some (v,hX)->Callable Tryz.prog 123/\Means Tryz.prog 123 args hid v hX :=
 zLZ (f:=123) (fn:=Tryz.f123) (sz:=2) (by kernel_rfl) (zII (by kernel_rfl)) (by kernel_rfl) (by kernel_rfl) (by kernel_rfl) (by kernel_rfl) (zHf (@zYr yo0)) (zHf (@zYy yo0)) fun x xs h hl=>by
  have:=zHf (@zYU yo0 (x::xs) h (by simp) hl);rw[zIt] at this;exact this
theorem zYP:∀ f∈[61,65,123],∀ fn,Tryz.prog.funcs[f]? = some fn->∀ args hid v hX,intrin Tryz.prog fn 1 args hid=some (v,hX)->Callable Tryz.prog f/\Means Tryz.prog f args hid v hX:=by
 intro f hf fn jk;simp only[bx,du,or_false] at hf;rcases hf with rfl|rfl|rfl
 ·have e:Tryz.prog.funcs[61]? = some Tryz.f61:=by kernel_rfl
  rw[e] at jk;cases jk;exact zWY
 ·have e:Tryz.prog.funcs[65]? = some Tryz.f65:=by kernel_rfl
  rw[e] at jk;cases jk;exact zXy
 ·have e:Tryz.prog.funcs[123]? = some Tryz.f123:=by kernel_rfl
  rw[e] at jk;cases jk;exact zVz
end Go.Eng
namespace Go.Eng
open Go
section
variable {P:Program} {H:zBg}
theorem zIh[Yo]{f:FuncId}{fn:Func}{sz:Nat}(hf:P.funcs[f]? = some fn:=by kernel_rfl)(hi:(H f).intr=1:=by kernel_rfl)(yI:(fn.resultTypes[0]?).bind (fun t=>(zB1 P t).bind (szT P))=some sz:=by kernel_rfl):zBD P H f [.nils 0] [] (.own sz []) []:=by
 refine⟨1,fun n hn=>?_⟩;obtain⟨k,rfl⟩:∃ k,n=k+1:=⟨n-1,by omega⟩;show zGX P H (zCZ P H k) Yo.yo zCb (k+1) f _ _=_
 simp only[zGX,hf,hi,intrin,yI];rw[if_pos (by decide)]
theorem zPL:∀ l:LP,(l.map fun p=>agg [.int .i64 p.1,.int .i64 p.2]).mapM zYf=some l
 |[]=>rfl|x::l=>by
  have ih:=zPL l;simp only[bL,f8,ih,zYf];rfl
theorem zOV[Yo]{f:FuncId}{g:Nat}{fn:Func}(l:LP)(hl:l.length<=4294967296)(hb:l.all zXc=true)(hf:P.funcs[f]? = some fn:=by kernel_rfl)(hn:(H f).intr=g+100:=by kernel_rfl):zBD P H f [.bor zAk [] 2 0 l.length,.func g [] []] [.own 2 (l.map fun p=>.agg [.int .i64 p.1,.int .i64 p.2])] (.tup []) [.own 2 ((l.mergeSort zLd).map fun p=>.agg [.int .i64 p.1,.int .i64 p.2])]:=by
 refine⟨1,fun n vt=>?_⟩;obtain⟨k,rfl⟩:∃ k,n=k+1:=⟨n-1,by omega⟩;show zGX P H (zCZ P H k) Yo.yo zCb (k+1) f _ _=_
 have e:zTn g [.bor zAk [] 2 0 l.length,.func g [] []] [.own 2 (l.map fun p=>.agg [.int .i64 p.1,.int .i64 p.2])]=some (.tup [],[.own 2 ((l.mergeSort zLd).map fun p=>.agg [.int .i64 p.1,.int .i64 p.2])]):=by
  show(match(l.map fun p=>agg [.int .i64 p.1,.int .i64 p.2]).mapM zYf with|some ps=>_|none=>none)=_
  rw[zPL];exact if_pos ⟨rfl,rfl,hl,rfl,hb⟩
 simp only[zGX,hf,hn];rw[if_pos (by omega)];have e2:intrin P fn (g+100) [.bor zAk [] 2 0 l.length,.func g [] []] [.own 2 (l.map fun p=>.agg [.int .i64 p.1,.int .i64 p.2])]=zTn g [.bor zAk [] 2 0 l.length,.func g [] []] [.own 2 (l.map fun p=>.agg [.int .i64 p.1,.int .i64 p.2])]:=by
  unfold intrin;split<;>first|(exfalso;omega)|skip
  rw[if_pos (by omega),dP]
 rw[e2];exact e
theorem zUG(cl so:List FuncId)(sf:List (FuncId×FuncId))(h:((range P.funcs.size).all fun f=>beq (H f).intr 0||beq (H f).intr 9||(beq (H f).intr 1&&cl.any (beq f))||(beq (H f).intr 2&&so.any (beq f))||sf.any fun q=>beq f q.1&&beq (H f).intr (q.2+100))=true)
  (hc:∀ f∈cl,∀ fn,P.funcs[f]? = some fn->∀ args hid v hX,intrin P fn 1 args hid=some (v,hX)->Callable P f/\Means P f args hid v hX)
  (hs:∀ f∈so,∀ fn,P.funcs[f]? = some fn->∀ args hid v hX,intrin P fn 2 args hid=some (v,hX)->Callable P f/\Means P f args hid v hX)
  (kN:∀ q∈sf,∀ fn,P.funcs[q.1]? = some fn->∀ args hid v hX,intrin P fn (q.2+100) args hid=some (v,hX)->Callable P q.1/\Means P q.1 args hid v hX):zEX P H:=fun f fn args hid v hX hf hi hr=>by
 have yG:=(bY.1 hf).1;have:=bi.1 h f (bF.2 yG);rw[bW,bW,bW,bW,bb,bb] at this;rcases this with(((h1|h1)|⟨h1,h2⟩)|⟨h1,h2⟩)|h1
 ·exact absurd (bd h1) hi
 ·rw[bd h1] at hr;simp[intrin] at hr
 ·rw[bd h1] at hr;obtain⟨g,hg,hb⟩:=bX.1 h2;rw[bd hb] at hf ⊢;exact hc g hg fn hf args hid v hX hr
 ·rw[bd h1] at hr;obtain⟨g,hg,hb⟩:=bX.1 h2;rw[bd hb] at hf ⊢;exact hs g hg fn hf args hid v hX hr
 ·obtain⟨q,hq,hb⟩:=bX.1 h1;rw[bb] at hb;rw[bd hb.2] at hr;rw[bd hb.1] at hf ⊢;exact kN q hq fn hf args hid v hX hr
end
end Go.Eng
namespace Go.Eng
open Go
abbrev FP:=Fin 1000000×Fin 1000000
def fpI(x:FP):Int×Int:=((x.1.val:Int),(x.2.val:Int))
def encF(x:FP):List Value:=[.int .i64 (x.1.val:Int),.int .i64 (x.2.val:Int)]
def cfF(x y:FP):Int:=if x.1.val=y.1.val then(x.2.val:Int)-y.2.val else(x.1.val:Int)-y.1.val
def zY1(p:Int×Int):Value := .agg #[.int .i64 p.1,.int .i64 p.2]
def prP(p:Int×Int):PV := .agg [.int .i64 p.1,.int .i64 p.2]
theorem ltF(x y:FP):Go.Proofs.ltOf cfF x y=decide (cfF x y<0):=rfl
theorem swoF:Go.Sort.SWO (Go.Proofs.ltOf cfF) where
 irrefl x:=by rw[ltF];simp[cfF]
 trans x y z h1 h2:=by
  have h1:=of_decide_eq_true (h1:decide (cfF x y<0)=true);have h2:=of_decide_eq_true (h2:decide (cfF y z<0)=true);refine decide_eq_true (?_:cfF x z<0);unfold cfF at *;split at h1<;>split at h2<;>split<;>omega
 ntrans x y z h1 h2:=by
  have h1:=of_decide_eq_false (h1:decide (cfF x y<0)=false);have h2:=of_decide_eq_false (h2:decide (cfF y z<0)=false);refine decide_eq_false (?_:¬ cfF x z<0);unfold cfF at *;split at h1<;>split at h2<;>split<;>omega
theorem totF(x y:FP)(h1:Go.Proofs.ltOf cfF x y=false)(h2:Go.Proofs.ltOf cfF y x=false):x=y:=by
 have h1:=of_decide_eq_false (h1:decide (cfF x y<0)=false);have h2:=of_decide_eq_false (h2:decide (cfF y x<0)=false);unfold cfF at *;have h:x.1.val=y.1.val/\x.2.val=y.2.val:=by split at h1<;>split at h2<;>omega
 exact fZ (Fin.ext h.1) (Fin.ext h.2)
theorem zQa:∀ l:LP,l.all zXc=true->∃ d:List FP,l=d.map fpI
 |[],_=>⟨[],rfl⟩|x::l,h=>by
  rw[cF,bb] at h;obtain⟨d,hd⟩:=zQa l h.2;have h1:=h.1;simp only[zXc,bb,decide_eq_true_eq] at h1;refine⟨(⟨x.1.toNat,by omega⟩,⟨x.2.toNat,by omega⟩)::d,?_⟩;rw[bL,<- hd];congr 1;exact fZ (by simp only[fpI];omega) (by simp only[fpI];omega)
theorem zW1(d:List FP):(d.mergeSort fun x y=>!(Go.Proofs.ltOf cfF) y x).map fpI=(d.map fpI).mergeSort zLd:=by
 refine List.map_mergeSort fun a _ b _=>?_;rw[ltF];unfold cfF zLd fpI;rw[co];simp only[bG,decide_eq_false_iff_not,bW,bb,decide_eq_true_eq];split<;>omega
def zFm(l:LP):List Value:=l.flatMap fun p=>[.int .i64 p.1,.int .i64 p.2]
theorem zG9:∀ l:LP,(zFm l).length=l.length*2
 |[]=>rfl|x::l=>by
  have:=zG9 l;simp only[zFm,dU,bu,bD,b7] at this ⊢;omega
theorem zKc:∀ (d:List FP) (t:Nat),t<d.length*2->(zFm (d.map fpI))[t]? = some ((encF (d.toArray[t / 2]!))[t % 2]!)
 |[],t,h=>absurd h (by simp)|x::d,0,_=>by simp[zFm,fpI,encF]|x::d,1,_=>by simp[zFm,fpI,encF]|x::d,t+2,h=>by
  have ih:=zKc d t (by rw[bD] at h;omega);have e1:(t+2) / 2=t / 2+1:=by omega
  have e2:(t+2) % 2=t % 2:=by omega
  rw[e1,e2];have e3:(x::d).toArray[t / 2+1]! = d.toArray[t / 2]!:=by simp
  rw[e3,<- ih];simp[zFm]
theorem zW6(d:List FP):(Go.Sort.flatK encF 2 d.toArray).toList=zFm (d.map fpI):=by
 apply cW;intro t;by_cases h:t<d.length*2
 ·rw[zKc d t h,bS,cQ (by rw[Go.Sort.size_flatK];simpa using h)];have:=Go.Sort.get_flatK encF 2 d.toArray t (by simpa using h);rw[getElem!_pos _ t (by rw[Go.Sort.size_flatK];simpa using h)] at this;rw[this]
 ·rw[cV (by rw[fx,Go.Sort.size_flatK];simpa using h),cV (by rw[zG9,be];omega)]
section
variable {P:Program} {H:zBg}
theorem zTC:∀ {xs:List PV} {l:LP},xs.mapM zYf=some l->xs=l.map prP
 |[],l,h=>by
  simp at h;subst h;rfl
 |x :: xs,l,h=>by
  simp only[f8,bind,iF,pure,ba] at h;obtain⟨n,hn,l',gc,rfl⟩:=h;unfold zYf at hn;split at hn
  ·simp only[ba] at hn;subst hn;rw[bL,zTC (xs:=xs) gc];rfl
  ·cases hn
theorem zPu{w:World}{Φ:Nat->Prop}{A:Al}:∀ {l:LP} {us:List Value} {L:LN},zA8 w Φ A (l.map prP) us L->us=l.map zY1/\L=[]
 |[],us,L,h=>h|x::l,us,L,h=>by
  obtain⟨v,vs,L1,L2,rfl,rfl,⟨ws,rfl,v1,vs1,M1,M2,h1,rfl,⟨rfl,rfl⟩,v2,vs2,M3,M4,rfl,rfl,⟨rfl,rfl⟩,rfl,rfl⟩,h2⟩:=h;obtain⟨rfl,rfl⟩:=zPu h2;refine⟨?_,rfl⟩;rw[bL];congr 1;unfold zY1;congr 1;exact fS h1
theorem zPw{w:World}{Φ:Nat->Prop}{A:Al}:∀ l:LP,zA8 w Φ A (l.map prP) (l.map zY1) []
 |[]=>⟨rfl,rfl⟩|x::l=>⟨_,_,[],[],rfl,rfl,⟨_,rfl,_,_,[],[],rfl,rfl,⟨rfl,rfl⟩,_,_,[],[],rfl,rfl,⟨rfl,rfl⟩,rfl,rfl⟩,zPw l⟩
theorem zMn:∀ l:LP,flat (l.map zY1)=zFm l
 |[]=>rfl|x::l=>by
  rw[bL,zCE,zMn l];rfl
theorem zMC(F:List Value)(o:Nat)(c:Array Value)(h:o+F.length<=c.size)(k:Nat)(u:Value)(hk:F[k]? = some u) :
  (Go.Sort.putCells id o F.toArray c)[o+k]? = some u:=by
 obtain⟨yG,hk⟩:=bg.1 hk;rw[Go.Sort.putCells,Array.getElem?_mapIdx,cQ (by omega),bv,if_pos (by simpa using yG)];rw[show o+k-o=k by omega,getElem!_pos _ k (by simpa using yG)];simp only[List.getElem_toArray,id];rw[hk]
theorem zOX{f:FuncId}{g:Nat}(h0:∀ p cap w,Calls P f #[.slice p 0 cap,.func (.func g) #[] #[]] w fun e w'=>e = .returned (.tuple #[])/\w'=w)
  (h1:∀ (blk off cap:Nat) (d:List FP) (w:World),Go.Sort.HoldsK encF 2 w blk off d.toArray->blk<w.heap.size->d.length<4611686018427387904 ->
   Calls P f #[.slice (some ⟨blk,off,none⟩) d.length cap,.func (.func g) #[] #[]] w fun e w'=>e = .returned (.tuple #[])/\∃ n os,w'=Go.Proofs.sortWorldK encF 2 w blk off n (d.mergeSort fun x y=>!(Go.Proofs.ltOf cfF) y x).toArray os)
  (d:List FP) (hl:d.length<4611686018427387904):Means P f [.bor zAk [] 2 0 d.length,.func g [] []] [.own 2 ((d.map fpI).map prP)] (.tup []) [.own 2 (((d.map fpI).mergeSort zLd).map prP)]:=by
 intro w Φ rv E L vs hE ko C yI yn jc;have e0:E 0 = .bor zAk [] 2 0 d.length:=by rw[hE 0 (by decide)];rfl
 have e1:E 1 = .func g [] []:=by rw[hE 1 (by decide)];rfl
 have eH:E zAk = .own 2 ((d.map fpI).map prP):=by rw[hE zAk (by decide)];rfl
 have u6:=yn 0 (by simp);have kZ:=yn 1 (by simp);have r1:=C.rep 1;rw[e1] at r1;obtain⟨_,fs,qs,qk,⟨vY,_⟩,⟨vr,_⟩⟩:=r1;have vY:fs=#[]:=fS vY;have vr:qs=#[]:=fS vr;rw[vY,vr] at qk;have hvs0:vs=#[rv 0,rv 1]:=by
  apply ib;intro i
  match i with
  |0=>exact u6|1=>exact kZ|i+2=>
   have:vs.size=2:=yI;rw[fE (by omega)];rfl
 have r0:=C.rep 0;rw[e0] at r0;obtain⟨hL0,hg,⟨a,cap,vJ,yV,y7,yd⟩,uK⟩:=r0;have rH:=C.rep zAk;rw[eH] at rH;have jP:zBX (rv 0) (rv zAk) 2 0 d.length:=by
  obtain⟨sz,xs,h3,h4,h5⟩:=uK (rv zAk) (.own 2 ((d.map fpI).map prP)) (by rw[eH];rfl) rfl;subst h4;exact h5
 have gave:∀ (rv':Nat->Value) (E':Nat->PV),Gave (.tup []) (.tuple #[]) rv' E':=fun rv' E'=>⟨fun h=>absurd rfl (h []),fun ps yg=>⟨#[],rfl,by cases yg;rfl,fun j p h=>by cases yg;simp at h⟩⟩
 cases gx:d with
 |nil=>
  subst gx;rw[hvs0,vJ,qk];refine(h0 a cap w).mono ?_;rintro e w' ⟨rfl,rfl⟩;refine⟨_,Φ,rv,E,L,rfl,C,rfl,fun j hj=>?_,gave _ _⟩;have:j=0:=by simpa using hj
  subst this;exact⟨by rw[bQ,eH];simp,rfl⟩
 | cons x0 l0 =>
  rw[<- gx];have hI:d≠[]:=by rw[gx];simp
  rcases rH with⟨hx,_⟩|⟨a0,n,c,us,L',hL,hv,hsp0,gv,yH,yF,yN,⟨wT,_⟩,jL,jW⟩
  ·exact absurd (List.map_eq_nil_iff.1 (List.map_eq_nil_iff.1 hx)) hI
  obtain⟨rfl,rfl⟩:=zPu jW;rw[zMn] at jL;rw[hv] at jP;simp only[zBX,fg,dw] at jP;obtain⟨hv0',_⟩:=jP;have yA:((d.map fpI).map prP).length=d.length:=by simp
  rw[yA] at gv jL hv;have jo:∀ k u,(zFm (d.map fpI))[k]? = some u->c[a0.off+k]? = some u:=by
   intro k u hk;rw[<- jL] at hk;exact zDj hk
  have hrow':=yH;obtain⟨et,het⟩:=hrow';have uE:a0.block<w.heap.size:=(bY.1 het).1;have hFl:(zFm (d.map fpI)).length=d.length*2:=by rw[zG9,be]
  have hH:Go.Sort.HoldsK encF 2 w a0.block (a0.off+0) d.toArray:=by
   intro j hj;have hj':j<d.length*2:=by simpa using hj
   refine⟨?_,by simp[World.frozen?,het]⟩;rw[zC2 yH.any,bQ];refine jo j _ ?_;rw[zKc d j hj'];have:=Go.Sort.get_flatK encF 2 d.toArray j (by simpa using hj');rw[this];rfl
  rw[hvs0,hv0',qk];refine(h1 a0.block (a0.off+0) n d w hH uE hl).mono ?_;rintro e w' ⟨rfl,k,os,rfl⟩;rw[bQ];have hS:=zW1 d;have wh:((d.map fpI).mergeSort zLd).length=d.length:=by rw[List.length_mergeSort,be]
  generalize hm:d.mergeSort (fun x y=>!(Go.Proofs.ltOf cfF) y x)=m at *;have hFm:=zW6 m;rw[hS] at hFm;generalize (d.map fpI).mergeSort zLd=S at *;have hSF:(zFm S).length=d.length*2:=by rw[zG9,wh]
  have hpr:Go.Proofs.sortWorldK encF 2 w a0.block a0.off k m.toArray os=Go.Sort.grow (Go.Sort.putRow id (Go.Sort.ahead w k) a0.block a0.off (zFm S).toArray) os:=by
   unfold Go.Proofs.sortWorldK Go.Sort.putRowK;rw[<- hFm,Array.toArray_toList]
  rw[hpr];have heap1:∀ b,(Go.Sort.putRow id (Go.Sort.ahead w k) a0.block a0.off (zFm S).toArray).heap[b]? = if a0.block=b then(w.heap[b]?).map (Go.Sort.onCells (Go.Sort.putCells id a0.off (zFm S).toArray)) else w.heap[b]?:=by
   intro b;simp only[Go.Sort.putRow,Go.Sort.mapBlock,Go.Sort.ahead,dS]
  have hbs1:∀ b,b<w.heap.size->(Go.Sort.grow (Go.Sort.putRow id (Go.Sort.ahead w k) a0.block a0.off (zFm S).toArray) os).heap[b]? = if a0.block=b then(w.heap[b]?).map (Go.Sort.onCells (Go.Sort.putCells id a0.off (zFm S).toArray)) else w.heap[b]?:=by
   intro b hb;rw[Go.Sort.heap_grow_old _ _ (by simpa using hb),heap1]
  have j2:zE2 (Go.Sort.grow (Go.Sort.putRow id (Go.Sort.ahead w k) a0.block a0.off (zFm S).toArray) os) a0.block (Go.Sort.putCells id a0.off (zFm S).toArray c):=by
   refine⟨et,?_⟩;rw[hbs1 _ uE,if_pos rfl,het];rfl
  have C1:=C.take (s:=zAk) (g:=zAa) (by decide) (bf _);have hgh:zAk≠zAa:=by decide
  have C2:=C1.make (w':=Go.Sort.grow (Go.Sort.putRow id (Go.Sort.ahead w k) a0.block a0.off (zFm S).toArray) os) (fun s=>beq s zAa) (fun s hs=>by rw[bd hs];exact bf _) (g:=zAa) (bf _) (p := .own 2 (S.map prP)) (v:=rv zAk) (Lp:=[a0.block])
   (fun A hA=>.inr ⟨a0,n,_,S.map zY1,[],rfl,by rw[hv];simp[wh],hsp0,by simpa[wh] using gv,j2,by simpa[Go.Sort.putCells] using yF,fun x hx=>by
     obtain⟨y,_,rfl⟩:=b4.1 hx;rfl,⟨fun u hu=>by
     obtain⟨y,_,rfl⟩:=b4.1 hu;rfl,by
     rw[ir,ir];exact d6 fun _ _=>rfl⟩,by
     rw[zMn,be,wh];refine zGU hSF fun j u hj=>?_;exact zMC _ _ _ (by rw[hSF];omega) _ _ hj,zPw _⟩)
   (by simp) (fun b hb=>.inl ⟨zAa,by rw[zAi,hL];exact bx.2 (.inl (by simpa using hb)),by decide⟩) (by simp) (fun b hb hc=>by
    rw[hbs1 b hb,if_neg];intro hab;have:=hc zAa (by rw[zAi,hL,<- hab];simp);exact absurd this (by decide)) ⟨rfl,rfl,rfl⟩
  have C3:=C2.lay (d:=zAk) (g:=zAa) (by decide) (bf _);refine⟨_,_,_,_,_,rfl,C3,rfl,fun j hj=>?_,gave _ _⟩;have:j=0:=by simpa using hj
  subst this;rw[bQ];refine⟨?_,?_⟩
  ·rw[zAe hgh,zAi,zAi];rfl
  ·rw[zAi,zAi]
theorem sortF_ok{f:FuncId}{g:Nat}{fn:Func}(hf:P.funcs[f]? = some fn)(hb:fn.body.isSome=true)(h0:∀ p cap w,Calls P f #[.slice p 0 cap,.func (.func g) #[] #[]] w fun e w'=>e = .returned (.tuple #[])/\w'=w)
  (h1:∀ (blk off cap:Nat) (d:List FP) (w:World),Go.Sort.HoldsK encF 2 w blk off d.toArray->blk<w.heap.size->d.length<4611686018427387904 ->
   Calls P f #[.slice (some ⟨blk,off,none⟩) d.length cap,.func (.func g) #[] #[]] w fun e w'=>e = .returned (.tuple #[])/\∃ n os,w'=Go.Proofs.sortWorldK encF 2 w blk off n (d.mergeSort fun x y=>!(Go.Proofs.ltOf cfF) y x).toArray os) :
  ∀ args hid v hX,intrin P fn (g+100) args hid=some (v,hX)->Callable P f/\Means P f args hid v hX:=by
 have hc:Callable P f:=⟨fn,hf,by cases hx:fn.body with
  |none=>rw[hx] at hb;cases hb|some _=>rfl⟩
 intro args hid v hX h;refine⟨hc,?_⟩;have h2:zTn g args hid=some (v,hX):=by
  unfold intrin at h;split at h<;>first|(exfalso;omega)|skip
  rw[if_pos (by omega),dP] at h;exact h
 unfold zTn at h2;split at h2
 ·split at h2
  ·rename_i ps ww;split at h2
   ·rename_i vP;obtain⟨rfl,rfl,js,rfl,ja⟩:=vP;simp only[ba,bz] at h2;obtain⟨rfl,rfl⟩:=h2;rw[zTC ww];obtain⟨d,rfl⟩:=zQa ps ja;rw[be];exact zOX h0 h1 d (Nat.lt_of_le_of_lt (by simpa using js) (by decide))
   ·cases h2
  ·cases h2
 ·cases h2
end
end Go.Eng
set_option maxHeartbeats 1000000
namespace Go.Proofs
open Go.Shelf
def Tryz.sortGap_ren:Go.Shelf.Ren:=⟨fun|6=>146|15=>133|14=>194|28=>185|29=>186|20=>213|21=>214|22=>215|23=>216|24=>217|25=>218|26=>219|27=>220|46=>225|47=>206|48=>207|49=>226|50=>227|57=>228|n=>n,fun|22=>40|24=>108|25=>197|3=>3|39=>180|0=>0|53=>174|55=>225|4=>4|46=>217|45=>216|50=>221|5=>5|9=>9|66=>235|70=>116|76=>247|77=>248|n=>n,fun|n=>n⟩
theorem Tryz.sortGap:Go.Proofs.SlLaysF0.n6 Tryz.prog Tryz.sortGap_ren:={
 mixed:=by kernel_rfl
 f6:=⟨Tryz.f146.name,by decide,Tryz.func146.trans (congrArg some (by kernel_rfl))⟩
 f14:=⟨Tryz.f194.name,by decide,Tryz.func194.trans (congrArg some (by kernel_rfl))⟩
 f15:=Tryz.func133.trans (congrArg some (by kernel_rfl))
 f20:=⟨Tryz.f213.name,by decide,Tryz.func213.trans (congrArg some (by kernel_rfl))⟩
 f21:=⟨Tryz.f214.name,by decide,Tryz.func214.trans (congrArg some (by kernel_rfl))⟩
 f22:=⟨Tryz.f215.name,by decide,Tryz.func215.trans (congrArg some (by kernel_rfl))⟩
 f23:=⟨Tryz.f216.name,by decide,Tryz.func216.trans (congrArg some (by kernel_rfl))⟩
 f24:=⟨Tryz.f217.name,by decide,Tryz.func217.trans (congrArg some (by kernel_rfl))⟩
 f25:=⟨Tryz.f218.name,by decide,Tryz.func218.trans (congrArg some (by kernel_rfl))⟩
 f26:=⟨Tryz.f219.name,by decide,Tryz.func219.trans (congrArg some (by kernel_rfl))⟩
 f27:=⟨Tryz.f220.name,by decide,Tryz.func220.trans (congrArg some (by kernel_rfl))⟩
 f28:=Tryz.func185.trans (congrArg some (by kernel_rfl))
 f29:=Tryz.func186.trans (congrArg some (by kernel_rfl))
 f46:=⟨Tryz.f225.name,by decide,Tryz.func225.trans (congrArg some (by kernel_rfl))⟩
 f47:=Tryz.func206.trans (congrArg some (by kernel_rfl))
 f48:=Tryz.func207.trans (congrArg some (by kernel_rfl))
 f49:=⟨Tryz.f226.name,by decide,Tryz.func226.trans (congrArg some (by kernel_rfl))⟩
 f50:=⟨Tryz.f227.name,by decide,Tryz.func227.trans (congrArg some (by kernel_rfl))⟩
 f57:=⟨Tryz.f228.name,by decide,Tryz.func228.trans (congrArg some (by kernel_rfl))⟩
 t0:=Tryz.underlying0
 a0:=Tryz.isAgg0
 z0:=Tryz.sizeOf0
 v0:=Tryz.zeroValue0
 t3:=Tryz.underlying3
 a3:=Tryz.isAgg3
 z3:=Tryz.sizeOf3
 v3:=Tryz.zeroValue3
 t4:=Tryz.underlying4
 a4:=Tryz.isAgg4
 z4:=Tryz.sizeOf4
 v4:=Tryz.zeroValue4
 t5:=Tryz.underlying5
 a5:=Tryz.isAgg5
 z5:=Tryz.sizeOf5
 v5:=Tryz.zeroValue5
 t9:=Tryz.underlying9
 a9:=Tryz.isAgg9
 z9:=Tryz.sizeOf9
 v9:=Tryz.zeroValue9
 t22:=Tryz.underlying40
 a22:=Tryz.isAgg40
 z22:=Tryz.sizeOf40
 v22:=Tryz.zeroValue40
 t25:=Tryz.underlying197
 a25:=Tryz.isAgg197
 z25:=Tryz.sizeOf197
 v25:=Tryz.zeroValue197
 t39:=Tryz.underlying180
 a39:=Tryz.isAgg180
 z39:=Tryz.sizeOf180
 v39:=Tryz.zeroValue180
 t45:=Tryz.underlying216
 a45:=Tryz.isAgg216
 z45:=Tryz.sizeOf216
 v45:=Tryz.zeroValue216
 t46:=Tryz.underlying217
 a46:=Tryz.isAgg217
 z46:=Tryz.sizeOf217
 v46:=Tryz.zeroValue217
 t50:=Tryz.underlying221
 a50:=Tryz.isAgg221
 z50:=Tryz.sizeOf221
 v50:=Tryz.zeroValue221
 t53:=Tryz.underlying174
 a53:=Tryz.isAgg174
 z53:=Tryz.sizeOf174
 v53:=Tryz.zeroValue174
 t55:=Tryz.underlying225
 a55:=Tryz.isAgg225
 z55:=Tryz.sizeOf225
 v55:=Tryz.zeroValue225
 t66:=Tryz.underlying235
 a66:=Tryz.isAgg235
 z66:=Tryz.sizeOf235
 v66:=Tryz.zeroValue235
 t70:=Tryz.underlying116
 a70:=Tryz.isAgg116
 z70:=Tryz.sizeOf116
 v70:=Tryz.zeroValue116
 t76:=Tryz.underlying247
 a76:=Tryz.isAgg247
 z76:=Tryz.sizeOf247
 v76:=Tryz.zeroValue247
 t77:=Tryz.underlying248
 a77:=Tryz.isAgg248
 z77:=Tryz.sizeOf248
 v77:=Tryz.zeroValue248}
theorem Tryz.cmp147(x y:Go.Eng.FP)(W:World):Calls Tryz.prog 147 #[.agg #[.int .i64 (x.1.val:Int),.int .i64 (x.2.val:Int)],.agg #[.int .i64 (y.1.val:Int),.int .i64 (y.2.val:Int)]] W fun e w'=>e = .returned (.int .i64 (Go.Eng.cfF x y))/\∃ q os',w'=Go.Sort.grow (W.drewN q) os':=by
 go_enter Tryz.func147,Tryz.ntmps147
 go_wp2
 ·rename_i h;have h2:¬ (x.1.val:Int)=y.1.val:=by simpa using h
  have e1:Go.Eng.cfF x y=(x.1.val:Int)-y.1.val:=by
   unfold Go.Eng.cfF;rw[if_neg (by omega)]
  go_ret
  exact⟨by rw[e1];rfl,0,_,by rw[Go.Sort.alloc_eq_grow,Go.Sort.alloc_eq_grow,Go.Sort.grow_grow];rfl⟩
 ·rename_i h;have h2:(x.1.val:Int)=y.1.val:=by simpa using h
  have e1:Go.Eng.cfF x y=(x.2.val:Int)-y.2.val:=by
   unfold Go.Eng.cfF;rw[if_pos (by omega)]
  go_ret
  exact⟨by rw[e1];rfl,0,_,by rw[Go.Sort.alloc_eq_grow,Go.Sort.alloc_eq_grow,Go.Sort.grow_grow];rfl⟩
theorem Tryz.sortFs:∀ q∈[((146:FuncId),(147:FuncId))],∀ fn,Tryz.prog.funcs[q.1]? = some fn->∀ args hid v hX,Go.Eng.intrin Tryz.prog fn (q.2+100) args hid=some (v,hX)->Go.Eng.Callable Tryz.prog q.1/\Go.Eng.Means Tryz.prog q.1 args hid v hX:=fun q hq fn jk=>by
 rw[bk] at hq;subst hq;have e:Tryz.prog.funcs[146]? = some Tryz.f146:=Tryz.func146;rw[e] at jk;cases jk;have eg:∀ args w,(callFunc 147 args).run Tryz.prog w = .ok (.enter 147 args) w:=enters_of Tryz.func147 (by kernel_rfl) rfl;refine Go.Eng.sortF_ok e rfl (fun p cap w=>AnyF.slices_SortFunc_none (Tryz.sortGap) p cap (.func (.func 147) #[] #[]) w) fun blk off cap d w h1 h2 h3=>?_;exact AnyQ.slices_SortFunc_total Tryz.sortGap 2 Tryz.isAgg108 Tryz.sizeOf108 Go.Eng.encF (fun _=>rfl) (fun x v hv=>by simp[Go.Eng.encF] at hv;rcases hv with rfl|rfl<;>rfl) Go.Eng.cfF Go.Eng.swoF 147 #[] blk off cap d.toArray w eg (fun _ _ _ _ x y=>Tryz.cmp147 x y _) h1 h2 h3 Go.Eng.totF
end Go.Proofs
namespace Go.Proofs.YtppbomajegnkeaaGreat
open Go.ChangeShapes Go.WideShapes Go.ChangeAt Go.RowKit Go.Eng
theorem Tryz.own:ownKnob Tryz.prog.godebug=none:=by kernel_rfl
theorem Tryz.laidOut:laidOutB Tryz.prog=true:=by kernel_rfl
theorem zFd:Tryz.prog.follows .mixedOrders=true:=by kernel_rfl
theorem hnm:zET Tryz.prog:=zII (by kernel_rfl)
theorem zM4:Fit Tryz.prog zCx:=zYt (by kernel_rfl)
theorem hin:zEX Tryz.prog zCx:=zUG [61,65,123] [] [(146,147)] (by kernel_rfl) zYP (fun _ h=>by cases h) Tryz.sortFs
end Go.Proofs.YtppbomajegnkeaaGreat
namespace Go.Eng
open Go
theorem zWn{k:IntKind}{p:PV}(h:zXm (false,[.num k]) p):∃ n,p = .int k n/\k.min<=n/\n<=k.max:=by
 simp only[zXm,bp,if_false] at h;obtain⟨q,qs,hc,⟨n,rfl,hn⟩,vr⟩:=h;cases hc;exact⟨n,rfl,hn⟩
theorem zSS{k:IntKind}{p:PV}(h:zXm (false,[.list false [.num k]]) p):∃ l:LI,p = .sl (l.map (.int k))/\l.length<=maxLen/\∀ n∈l,k.min<=n/\n<=k.max:=by
 simp only[zXm,bp,if_false] at h;obtain⟨q,qs,hc,h,vr⟩:=h;cases hc;exact zVf h
end Go.Eng
set_option maxRecDepth 10000
set_option maxHeartbeats 4000000
namespace Go.Eng
open Go Go.Proofs
theorem zAu{α:Type}{l:List α}{i:Nat}{d:α}(h:i<l.length):l.getD i d=l[i]:=by simp[List.getD,bl h]
theorem zCk{α β:Type}{f:β->α->β}{b:β}{l:List α}{i:Nat}{d:α}(h:i<l.length):(l.take (i+1)).foldl f b=f ((l.take i).foldl f b) (l.getD i d):=by
 rw[zAu h];exact zQB h
theorem zJh{α:Type}{l m:List α}{i:Nat}{d:α}(h:i<l.length)(h':i<m.length)(ha:l.take i=m.take i)(he:l.getD i d=m.getD i d):l.take (i+1)=m.take (i+1):=by
 rw[zAu h,zAu h'] at he;rw[ff,ff,ha,bl h,bl h',he]
theorem zB5{α:Type}{l:List α}{i:Nat}{d:α}(h:i<l.length):l.take (i+1)=l.take i++[l.getD i d]:=by
 rw[ff,bl h,zAu h];rfl
theorem zCl{α:Type}{l:List α}{d:α}{p:α->Prop}(h:∀ x∈l,p x)(i:Nat)(hi:i<l.length):p (l.getD i d):=by
 rw[zAu hi];exact h _ (cM hi)
theorem zBL{l:LI}{i j:Nat}{v:Int}:(l.set i v).getD j 0=if i=j/\j<l.length then v else l.getD j 0:=by
 simp only[bU,dV];by_cases h:i=j
 ·subst h;by_cases h2:i<l.length
  ·simp[h2]
  ·simp[h2]
 ·simp[h]
def zDZ{α:Type}(φ:α->Bool)(l:List α):Int:=if l.findIdx φ<l.length then(l.findIdx φ:Int) else -1
theorem zBG {α : Type} {φ : α -> Bool} {l : List α} {i : Nat} (h : i < l.length) (h0 : ∀ j (hj : j < i), φ (l[j]'(by omega)) = false) (hi : φ l[i] = true) : zDZ φ l = i := by
 have:l.findIdx φ=i:=by
  rw[List.findIdx_eq h];exact⟨hi,fun j hj=>by simpa using h0 j hj⟩
 simp[zDZ,this,h]
theorem zBY {α : Type} {φ : α -> Bool} {l : List α} (h0 : ∀ j (hj : j < l.length), φ (l[j]'hj) = false) : zDZ φ l = -1 := by
 have:¬ l.findIdx φ<l.length:=by
  intro h;have:=fo (w:=h);rw[h0 _ h] at this;cases this
 simp[zDZ,this]
theorem zDy{α:Type}(φ:α->Bool)(l:List α):decide (zDZ φ l>=0)=l.any φ:=by
 unfold zDZ;split
 ·rename_i h;have:=fo (w:=h);have h2:l.any φ=true:=bX.2 ⟨_,cM h,this⟩;rw[h2];simp
 ·rename_i h;have h2:l.any φ=false:=by
   rw[dG];intro x hx hp;exact h (List.findIdx_lt_length_of_exists ⟨x,hx,hp⟩)
  rw[h2];simp
structure Nw where
 h:Int
 l:LP
 n:List (Int×Bool)
 s:List LI
abbrev prV(x:Int×Int):PV := .agg [I x.1,I x.2]
abbrev ntV(x:Int×Bool):PV := .agg [I x.1,.bool x.2]
abbrev prs(l:LP):PV := .sl (l.map prV)
abbrev zLt(l:LI):PV := .own 1 (l.map I)
abbrev nwV(n:Nw):PV := .agg [I n.h,.sl (n.l.map prV),.sl (n.n.map ntV),.sl (n.s.map zBT)]
abbrev nwO(n:Nw):PV := .agg [I n.h,.own 2 (n.l.map prV),.own 2 (n.n.map ntV),.own 1 (n.s.map zLt)]
instance:FrzOf zLt zBT:=⟨fun x=>by simp only[zA0,zF7]⟩
def inB(n lo hi:Int):Bool:=decide (lo<=n)&&decide (n<=hi)
def pr2(x:Int×Int):Int×Int:=(if x.2<x.1 then x.2 else x.1,if x.2>x.1 then x.2 else x.1)
abbrev FG[Yo](f:FuncId)(args:List PV)(v:PV):Prop:=zBD Tryz.prog zCx f args [] v []
section
variable [Yo]
theorem f107(n lo hi:Int):FG 107 [I n,I lo,I hi] (.bool (inB n lo hi)):=by
 refine zAd Tryz.f107 ?_;refine zAj 1<|zAl 4<|zNU 10 (n>=lo) (fun k0=>(S_g 5<|zAn<|E_a [] an (bool (decide (n<=hi))) [] ?_ rfl)) (fun k0=>(S_g 5<|zAn<|E_a [] an (bool false) [] ?_ rfl))
 ·simp only[inB,decide_eq_true k0,cy]
 ·simp only[inB,decide_eq_false k0,dB]
theorem f165(n k:Int):FG 165 [I n,.sl [I k]] (I (max n k)):=by
 refine zAd Tryz.f165 ?_;refine zAj 1<|zAc<|zAl 1<|zAm 1<|S_g 1<|zAf 0 ?_
 refine zAr (fun(i,v)=>i=0/\v=n\/i=1/\v=if k>n then k else n) (fun(i,v)=>[(0,I v),(9,I (i:Nat))]) (fun(i,_)=>1-i) ((0:Nat),n) (.inl ⟨rfl,rfl⟩) fun(i,v) hi=>?_;rcases hi with⟨rfl,rfl⟩|⟨rfl,rfl⟩
 ·refine zAj 1<|zAc<|zCy<|zAh<|zAc<|zAf 1<|zAj 3<|zAb<|S_g 4<|zAb<|S_g 2 ?_
  exact rnd (1,if k>v then k else v) (.inr ⟨rfl,rfl⟩) (by simp only;omega)
 ·refine zAj 1<|zAc<|zAB<|zAD 0<|zAj 2<|zAn<|E_a [] an (I (if k>n then k else n)) [] ?_ rfl
  rw[Int.max_def];by_cases h:k>n
  ·rw[if_pos h,if_pos (by omega)]
  ·rw[if_neg h];split
   ·have:n=k:=by omega
    rw[this]
   ·rfl
theorem f110(x:Int×Int):FG 110 [prV x] (prV (pr2 x)):=by
 refine zAd Tryz.f110 ?_;refine zAj 2<|zAl 1<|zAm 1<|zAm 1<|zAm 2<|zAm 1<|zAm 1<|zAm 1<|S_g 4<|zAn E_0
theorem f109(n:Nw)(x:Int)(hb:1<=n.h/\n.h<=10):FG 109 [nwV n,I x] (.bool (inB x 0 (n.h-1))):=by
 refine zAd Tryz.f109 ?_;refine zAj 2<|zAl 3<|S_a [(1,.v (I (n.h-1)))] (ap ((zBW rfl (by omega)):I (IntKind.i64.wrap (n.h-1))=I (n.h-1)) an)<|S_a [(10,.ret (bool (inB x 0 (n.h-1))) [])] (ap (f107 x (0) (n.h-1)) an)<|S_g 1<|zAn E_0
theorem f106(n:Nw)(x:Int)(hb:n.n.length<=8):FG 106 [nwV n,I x] (.bool (inB x 0 (n.n.length-1))):=by
 refine zAd Tryz.f106 ?_;refine zAj 2<|zAl 3<|S_a [(0,.n n.n.length)] (ap (lnS ntV n.n) an)<|S_a [(1,.v (I ((n.n.length:Int)-1)))] (ap ((zBW rfl (by omega)):I (IntKind.i64.wrap ((n.n.length:Int)-1))=I ((n.n.length:Int)-1)) an)<|S_a [(10,.ret (bool (inB x 0 ((n.n.length:Int)-1))) [])] (ap (f107 x (0) ((n.n.length:Int)-1)) an)<|S_g 1<|zAn E_0
end
end Go.Eng
namespace Go.Eng
open Go
end Go.Eng
set_option maxRecDepth 10000
set_option maxHeartbeats 4000000
namespace Go.Eng
open Go Go.Proofs
def has{α:Type}[DecidableEq α](l:List α)(x:α):Bool:=l.any fun y=>decide (x=y)
theorem zW5{α:Type}[DecidableEq α]{l:List α}{x:α}:has l x=decide (x∈l):=by
 rw[co];simp[has]
theorem zS1{x y:Int×Int}:(decide (x.1=y.1)&&decide (x.2=y.2))=decide (x=y):=by
 rw[co];simp[Prod.ext_iff]
section
variable [Yo]
theorem f98(l m:List (Int))(hl:l.length<4294967296):FG 98 [.sl (l.map I),.sl (m.map I)] (.bool (decide (l=m))):=by
 refine zAd Tryz.f98 ?_;refine zAj 1<|zAc<|zAl 1<|S_a [(0,.n l.length)] (ap (lnS I l) an)<|zAm 1<|S_a [(0,.n m.length)] (ap (lnS I m) an)<|S_g 1<|zEk ((l.length:Int)=(m.length:Int)) (fun k0=>(zAj 1<|zAn<|E_a [] an (bool false) [] ?_ rfl)) (fun k0=>(zAh<|zAc<|zAl 1<|S_a [(0,.n l.length)] (ap (lnS I l) an)<|S_g 1<|zAf 0 ?_))
 ·simp;intro h;subst h;simp at *
 refine zAr (fun i=>i<=l.length/\l.take i=m.take i) (fun i=>[(13,I (i:Nat))]) (fun i=>l.length-i) (0:Nat) (by simp) fun i ⟨hi,ha⟩=>?_;refine zAj 1<|zAc<|zCN ((i:Int)<(l.length:Int)) (fun k1=>(zAh<|zAc<|zAf 1<|zAj 2<|zAl 2<|S_a [(2,.v (I (l.getD i 0)))] (ap (zBN (0) (by omega):(map I l)[i]? = some (I (l.getD i 0))) an)<|zAm 3<|S_a [(2,.v (I (m.getD i 0)))] (ap (zBN (0) (by omega):(map I m)[i]? = some (I (m.getD i 0))) an)<|S_g 2<|zEk (l.getD i 0=m.getD i 0) (fun k2=>(zAj 1<|zAn<|E_a [] an (bool false) [] ?_ rfl)) (fun k2=>(zAh<|zAb<|S_i i<|S_g 1 ?_)))) (fun k1=>(zAD 0<|zAj 1<|zAn<|E_a [] an (bool true) [] ?_ rfl))
 ·simp;intro h;subst h;omega
 ·refine⟨i+1,⟨by omega,?_⟩,by omega,by kernel_rfl,by kernel_rfl⟩;exact zJh (d:=0) (by omega) (by omega) ha (by assumption)
 ·rw[bw (by omega),bw (by omega)] at ha;simp[ha]
theorem f28(l m:List (Int))(hl:l.length<4294967296):FG 28 [.sl (l.map I),.sl (m.map I)] (.bool (decide (l=m))):=by
 refine zAd Tryz.f28 ?_;refine zAj 1<|zAl 2<|S_a [(8,.ret (bool (decide (l=m))) [])] (ap (f98 l m (by omega)) an)<|S_g 1<|zAn E_0
theorem f158(l m:LP)(hl:l.length<4294967296):FG 158 [.sl (l.map prV),.sl (m.map prV)] (.bool (decide (l=m))):=by
 refine zAd Tryz.f158 ?_;refine zAj 1<|zAc<|zAl 1<|S_a [(0,.n l.length)] (ap (lnS prV l) an)<|zAm 1<|S_a [(0,.n m.length)] (ap (lnS prV m) an)<|S_g 1<|zEk ((l.length:Int)=(m.length:Int)) (fun k0=>(zAj 1<|zAn<|E_a [] an (bool false) [] ?_ rfl)) (fun k0=>(zAh<|zAc<|zAl 1<|S_a [(0,.n l.length)] (ap (lnS prV l) an)<|S_g 1<|zAf 0 ?_))
 ·simp;intro h;subst h;simp at *
 refine zAr (fun i=>i<=l.length/\l.take i=m.take i) (fun i=>[(13,I (i:Nat))]) (fun i=>l.length-i) (0:Nat) (by simp) fun i ⟨hi,ha⟩=>?_;refine zAj 1<|zAc<|zCN ((i:Int)<(l.length:Int)) (fun k1=>(zAh<|zAc<|zAf 1<|zAj 2<|zAl 2<|S_a [(2,.v (prV (l.getD i d0)))] (ap (zBN d0 (by omega):(map prV l)[i]? = some (prV (l.getD i d0))) an)<|zAm 3<|S_a [(2,.v (prV (m.getD i d0)))] (ap (zBN d0 (by omega):(map prV m)[i]? = some (prV (m.getD i d0))) an)<|zAm 1<|S_a [(0,.v (bool !(decide ((l.getD i d0).fst=(m.getD i d0).fst)&&decide ((l.getD i d0).snd=(m.getD i d0).snd))))] (ap (zLS:zG5 Tryz.prog BinOp.neq 108 (prV (l.getD i d0)) (prV (m.getD i d0))=some (bool !(decide ((l.getD i d0).fst=(m.getD i d0).fst)&&decide ((l.getD i d0).snd=(m.getD i d0).snd)))) an)<|zA3<|zEx (!(decide ((l.getD i d0).fst=(m.getD i d0).fst)&&decide ((l.getD i d0).snd=(m.getD i d0).snd))) (fun k2=>(zAj 1<|zAn<|E_a [] an (bool false) [] ?_ rfl)) (fun k2=>(zAh<|zAb<|S_i i<|S_g 1 ?_)))) (fun k1=>(zAD 0<|zAj 1<|zAn<|E_a [] an (bool true) [] ?_ rfl))
 ·simp;intro h;subst h;simp at *
 ·refine⟨i+1,⟨by omega,?_⟩,by omega,by kernel_rfl,by kernel_rfl⟩;exact zJh (d:=d0) (by omega) (by omega) ha (by first|assumption|(simp only[cA,bE,bb,decide_eq_true_eq] at k2;exact fZ k2.1 k2.2))
 ·rw[bw (by omega),bw (by omega)] at ha;simp[ha]
theorem f78(l m:LP)(hl:l.length<4294967296):FG 78 [.sl (l.map prV),.sl (m.map prV)] (.bool (decide (l=m))):=by
 refine zAd Tryz.f78 ?_;refine zAj 1<|zAl 2<|S_a [(8,.ret (bool (decide (l=m))) [])] (ap (f158 l m (by omega)) an)<|S_g 1<|zAn E_0
theorem f105(l m:LP)(hl:l.length<4294967296):FG 105 [.sl (l.map prV),.sl (m.map prV)] (.bool (decide (l=m))):=by
 refine zAd Tryz.f105 ?_;refine zAj 1<|zAc<|zAl 1<|S_a [(0,.n l.length)] (ap (lnS prV l) an)<|zAm 1<|S_a [(0,.n m.length)] (ap (lnS prV m) an)<|S_g 1<|zEk ((l.length:Int)=(m.length:Int)) (fun k0=>(zAj 1<|zAn<|E_a [] an (bool false) [] ?_ rfl)) (fun k0=>(zAh<|zAc<|zAl 1<|S_a [(0,.n l.length)] (ap (lnS prV l) an)<|S_g 1<|zAf 0 ?_))
 ·simp;intro h;subst h;simp at *
 refine zAr (fun i=>i<=l.length/\l.take i=m.take i) (fun i=>[(13,I (i:Nat))]) (fun i=>l.length-i) (0:Nat) (by simp) fun i ⟨hi,ha⟩=>?_;refine zAj 1<|zAc<|zCN ((i:Int)<(l.length:Int)) (fun k1=>(zAh<|zAc<|zAf 1<|zAj 2<|zAl 2<|S_a [(2,.v (prV (l.getD i d0)))] (ap (zBN d0 (by omega):(map prV l)[i]? = some (prV (l.getD i d0))) an)<|zAm 3<|S_a [(2,.v (prV (m.getD i d0)))] (ap (zBN d0 (by omega):(map prV m)[i]? = some (prV (m.getD i d0))) an)<|zAm 1<|S_a [(0,.v (bool !(decide ((l.getD i d0).fst=(m.getD i d0).fst)&&decide ((l.getD i d0).snd=(m.getD i d0).snd))))] (ap (zLS:zG5 Tryz.prog BinOp.neq 37 (prV (l.getD i d0)) (prV (m.getD i d0))=some (bool !(decide ((l.getD i d0).fst=(m.getD i d0).fst)&&decide ((l.getD i d0).snd=(m.getD i d0).snd)))) an)<|zA3<|zEx (!(decide ((l.getD i d0).fst=(m.getD i d0).fst)&&decide ((l.getD i d0).snd=(m.getD i d0).snd))) (fun k2=>(zAj 1<|zAn<|E_a [] an (bool false) [] ?_ rfl)) (fun k2=>(zAh<|zAb<|S_i i<|S_g 1 ?_)))) (fun k1=>(zAD 0<|zAj 1<|zAn<|E_a [] an (bool true) [] ?_ rfl))
 ·simp;intro h;subst h;simp at *
 ·refine⟨i+1,⟨by omega,?_⟩,by omega,by kernel_rfl,by kernel_rfl⟩;exact zJh (d:=d0) (by omega) (by omega) ha (by first|assumption|(simp only[cA,bE,bb,decide_eq_true_eq] at k2;exact fZ k2.1 k2.2))
 ·rw[bw (by omega),bw (by omega)] at ha;simp[ha]
theorem f34(l m:LP)(hl:l.length<4294967296):FG 34 [.sl (l.map prV),.sl (m.map prV)] (.bool (decide (l=m))):=by
 refine zAd Tryz.f34 ?_;refine zAj 1<|zAl 2<|S_a [(8,.ret (bool (decide (l=m))) [])] (ap (f105 l m (by omega)) an)<|S_g 1<|zAn E_0
theorem f136(l:List (Int))(x:Int)(hl:l.length<4294967296):FG 136 [.sl (l.map I),I x] (I (zDZ (fun y=>decide (x=y)) l)):=by
 refine zAd Tryz.f136 ?_;refine zAj 1<|zAc<|zAl 1<|S_a [(0,.n l.length)] (ap (lnS I l) an)<|S_g 1<|zAf 0 ?_
 refine zAr (fun i=>i<=l.length/\∀ j,j<i->decide (x=l.getD j 0)=false) (fun i=>[(8,I (i:Nat))]) (fun i=>l.length-i) (0:Nat) (by simp) fun i ⟨hi,ha⟩=>?_;refine zAj 1<|zAc<|zCN ((i:Int)<(l.length:Int)) (fun k0=>(zAh<|zAc<|zAf 1<|zAj 2<|zAl 3<|S_a [(2,.v (I (l.getD i 0)))] (ap (zBN (0) (by omega):(map I l)[i]? = some (I (l.getD i 0))) an)<|S_g 2<|zCN (x=l.getD i 0) (fun k1=>(zAj 2<|zAn<|E_a [] an (I (i:Int)) [] ?_ rfl)) (fun k1=>(zAh<|zAb<|S_i i<|S_g 1 ?_)))) (fun k0=>(zAD 0<|zAj 1<|zAn<|E_a [] an (I (-1)) [] ?_ rfl))
 ·rw[zBG (i:=i) (by omega) (fun j hj=>by rw[<- zAu (d:=0)];exact ha j hj) (by rw[<- zAu (d:=0)];simp only[decide_eq_true_eq,decide_eq_false_iff_not] at *;omega)]
 ·refine⟨i+1,⟨by omega,fun j hj=>?_⟩,by omega,by kernel_rfl,by kernel_rfl⟩;rcases bP.1 hj with h|rfl
  ·exact ha j h
  ·simp only[decide_eq_true_eq,decide_eq_false_iff_not] at *;omega
 ·rw[zBY fun j hj=>by rw[<- zAu (d:=0)];exact ha j (by omega)]
theorem f58(l:List (Int))(x:Int)(hl:l.length<4294967296):FG 58 [.sl (l.map I),I x] (.bool (has l x)):=by
 refine zAd Tryz.f58 ?_;refine zAj 1<|zAl 2<|S_a [(8,.ret (I (zDZ (fun y=>decide (x=y)) l)) [])] (ap (f136 l x (by omega)) an)<|S_g 2<|zAn<|E_a [] an (bool (decide (zDZ (fun y=>decide (x=y)) l>=0))) [] ?_ rfl
 rw[zDy];rfl
theorem f161(l:LP)(x:Int×Int)(hl:l.length<4294967296):FG 161 [.sl (l.map prV),prV x] (I (zDZ (fun y=>decide (x=y)) l)):=by
 refine zAd Tryz.f161 ?_;refine zAj 2<|zAc<|zAl 1<|S_a [(0,.n l.length)] (ap (lnS prV l) an)<|S_g 1<|zAf 0 ?_
 refine zAr (fun i=>i<=l.length/\∀ j,j<i->decide (x=l.getD j d0)=false) (fun i=>[(8,I (i:Nat))]) (fun i=>l.length-i) (0:Nat) (by simp) fun i ⟨hi,ha⟩=>?_;refine zAj 1<|zAc<|zCN ((i:Int)<(l.length:Int)) (fun k0=>(zAh<|zAc<|zAf 1<|zAj 2<|zAl 3<|S_a [(2,.v (prV (l.getD i d0)))] (ap (zBN d0 (by omega):(map prV l)[i]? = some (prV (l.getD i d0))) an)<|zAm 1<|S_a [(0,.v (bool (decide (x.fst=(l.getD i d0).fst)&&decide (x.snd=(l.getD i d0).snd))))] (ap (zX2:zG5 Tryz.prog BinOp.eql 108 (prV x) (prV (l.getD i d0))=some (bool (decide (x.fst=(l.getD i d0).fst)&&decide (x.snd=(l.getD i d0).snd)))) an)<|zA3<|zEx (decide (x.fst=(l.getD i d0).fst)&&decide (x.snd=(l.getD i d0).snd)) (fun k1=>(zAj 2<|zAn<|E_a [] an (I (i:Int)) [] ?_ rfl)) (fun k1=>(zAh<|zAb<|S_i i<|S_g 1 ?_)))) (fun k0=>(zAD 0<|zAj 1<|zAn<|E_a [] an (I (-1)) [] ?_ rfl))
 ·rw[zBG (i:=i) (by omega) (fun j hj=>by rw[<- zAu (d:=d0)];exact ha j hj) (by rw[<- zAu (d:=d0)];rw[<- zS1];assumption)]
 ·refine⟨i+1,⟨by omega,fun j hj=>?_⟩,by omega,by kernel_rfl,by kernel_rfl⟩;rcases bP.1 hj with h|rfl
  ·exact ha j h
  ·rw[<- zS1];assumption
 ·rw[zBY fun j hj=>by rw[<- zAu (d:=d0)];exact ha j (by omega)]
theorem f81(l:LP)(x:Int×Int)(hl:l.length<4294967296):FG 81 [.sl (l.map prV),prV x] (.bool (has l x)):=by
 refine zAd Tryz.f81 ?_;refine zAj 2<|zAl 2<|S_a [(8,.ret (I (zDZ (fun y=>decide (x=y)) l)) [])] (ap (f161 l x (by omega)) an)<|S_g 2<|zAn<|E_a [] an (bool (decide (zDZ (fun y=>decide (x=y)) l>=0))) [] ?_ rfl
 rw[zDy];rfl
theorem f65(l:List (Int))(hl:l.length<4294967296):FG 65 [.sl (l.map I)] (.own 1 (l.map I)):=zG2 (fn:=Tryz.f65) I l (by omega)
theorem f123(l:LP)(hl:l.length<4294967296):FG 123 [.sl (l.map prV)] (.own 2 (l.map prV)):=zG2 (fn:=Tryz.f123) prV l (by omega)
theorem f61(l:LP)(hl:l.length<4294967296):FG 61 [.sl (l.map prV)] (.own 2 (l.map prV)):=zG2 (fn:=Tryz.f61) prV l (by omega)
theorem f210(x:Int):FG 210 [I x] (.bool false):=by
 refine zAd Tryz.f210 ?_;refine zAj 1<|zAj 4<|zAn<|E_a [] an (bool (x != x)) [] (by simp[*]) rfl
theorem f182(x y:Int):FG 182 [I x,I y] (.bool (decide (x<y))):=by
 refine zAd Tryz.f182 ?_;refine zAj 1<|zAl 1<|S_a [(6,.ret (bool false) [])] (ap (f210 x) an)<|S_g 11<|zAn E_0
end
end Go.Eng
set_option maxRecDepth 10000
set_option maxHeartbeats 4000000
namespace Go.Eng
open Go Go.Proofs
def zXl(o:LI)(x:Int):LI:=if o.getLast? = some x then o else o++[x]
def zHk(l:LI):LI:=l.foldl zXl []
theorem zTQ(o:LI)(x:Int):(zXl o x).getLast? = some x:=by
 unfold zXl;split
 ·assumption
 ·simp
theorem zHw{l:LI}{i:Nat}(h:i<l.length):zHk (l.take (i+1))=zXl (zHk (l.take i)) (l.getD i 0):=zCk h
theorem zSE{l:LI}{i:Nat}(h:i<l.length):(zHk (l.take (i+1))).getLast? = some (l.getD i 0):=by
 rw[zHw h];exact zTQ _ _
theorem zHu{l:LI}{i:Nat}(h0:0<i)(h:i<l.length):zHk (l.take (i+1))=if l.getD i 0=l.getD (i-1) 0 then zHk (l.take i) else zHk (l.take i)++[l.getD i 0]:=by
 obtain⟨j,rfl⟩:∃ j,i=j+1:=⟨i-1,by omega⟩;rw[zHw h,zXl,zSE (by omega)];simp only[dP,ba,eq_comm]
theorem zLY{S:LI}{p:Nat}{x:Int}(h:p<S.length):(S.set p x).take (p+1)=S.take p++[x]:=by
 rw[zB5 (d:=0) (by simpa using h),List.take_set_of_le (bf p),zBL,if_pos ⟨rfl,h⟩]
theorem zHr{l:LI}:∀ k,k<=l.length->(∀ j,1<=j->j<k->l.getD j 0≠l.getD (j-1) 0)->zHk (l.take k)=l.take k
 |0,_,_=>rfl|k+1,hk,h=>by
  have ih:=zHr k (by omega) fun j h1 h2=>h j h1 (by omega)
  cases k with
  |zero=>rw[zHw (by omega)];simp[zHk,zXl,zB5 (d:=0) (show 0<l.length by omega)]|succ k=>rw[zHu (by omega) (by omega),if_neg (h (k+1) (by omega) (by omega)),ih,<- zB5 (by omega)]
def zT2(l:LI):Bool:=(range (l.length-1)).all fun j=>decide (l.getD j 0<l.getD (j+1) 0)
def zFZ(l:LI):Bool:=(range (l.length-1)).all fun j=>decide (l.getD j 0<=l.getD (j+1) 0)
section
variable [Yo]
theorem f155(l:LI)(hl:l.length<4294967296):FG 155 [zBT l] (.bool (zFZ l)):=by
 refine zAd Tryz.f155 ?_;refine zAj 1<|zAc<|zAl 1<|S_a [(0,.n l.length)] (ap (lnS I l) an)<|S_a [(1,.v (I ((l.length:Int)-1)))] (ap ((zBW rfl (by omega)):I (IntKind.i64.wrap ((l.length:Int)-1))=I ((l.length:Int)-1)) an)<|S_g 1<|zAf 0 ?_
 refine zAr (fun(x:Int)=>x<l.length/\∀ j:Nat,x<j->j<l.length->0<j->l.getD (j-1) 0<=l.getD j 0) (fun x=>[(3,I x)]) (fun x=>x.toNat) ((l.length:Int)-1) ⟨by omega,fun j h1 h2=>by omega⟩ fun x ⟨hi,ha⟩=>?_;have e2:(x-1).toNat=x.toNat-1:=by omega
 by_cases h1:0<x
 ·refine zAc<|zAj 2<|zAM (x>0) (by omega)<|zAh<|zAc<|zAf 1<|zAl 2<|S_a [(0,.ob),(1,.v (I (l.getD x.toNat 0)))] (ap ((by exact zAp (by omega)):decide (0<=x)=true)<|ap (zBN (0) (by omega):(map I l)[x.toNat]? = some (I (l.getD x.toNat 0))) an)<|zAm 3<|S_a [(1,.v (I (x-1)))] (ap ((zBW rfl (by omega)):I (IntKind.i64.wrap (x-1))=I (x-1)) an)<|S_a [(0,.ob),(1,.v (I (l.getD (x-1).toNat 0)))] (ap ((by exact zAp (by omega)):decide (0<=x-1)=true)<|ap (zBN (0) (by omega):(map I l)[(x-1).toNat]? = some (I (l.getD (x-1).toNat 0))) an)<|zAm 1<|S_a [(8,.ret (bool (decide (l.getD x.toNat 0<l.getD (x-1).toNat 0))) [])] (ap (f182 (l.getD x.toNat 0) (l.getD (x-1).toNat 0)) an)<|zA3<|zCN (l.getD x.toNat 0<l.getD (x-1).toNat 0) (fun k0=>(zAj 1<|zAn<|E_a [] an (bool false) [] ?_ rfl)) (fun k0=>(zAh<|zAb<|zAm 1<|S_a [(1,.v (I (x-1)))] (ap ((zBW rfl (by omega)):I (IntKind.i64.wrap (x-1))=I (x-1)) an)<|S_g 1 ?_))
  ·rw[e2] at k0;have:zFZ l=false:=by
    simp only[zFZ,ii];exact⟨x.toNat-1,bF.2 (by omega),by rw[show x.toNat-1+1=x.toNat by omega];simp only[decide_eq_true_eq];omega⟩
   rw[this]
  ·rw[e2] at k0;refine⟨x-1,⟨by omega,fun j h3 h4 h5=>?_⟩,by omega,by kernel_rfl,by kernel_rfl⟩;by_cases hj:j=x.toNat
   ·subst hj;omega
   ·exact ha j (by omega) h4 h5
 ·refine zAc<|zAj 2<|zAQ (x>0) (by omega)<|zAD 0<|zAj 1<|zAn<|E_a [] an (bool true) [] ?_ rfl
  have:zFZ l=true:=by
   simp only[zFZ,bi,bF,decide_eq_true_eq];exact fun j hj=>by have:=ha (j+1) (by omega) (by omega) (by omega);simpa using this
  rw[this]
theorem f97(l:LI)(hl:l.length<4294967296):FG 97 [.own 1 (l.map I)] (.own 1 ((zHk l).map I)):=by
 refine zAd Tryz.f97 ?_;refine zAj 1<|zAc<|zAl 1<|S_a [(0,.n l.length)] (ap (lnS I l) an)<|S_g 1<|zCN ((l.length:Int)<2) (fun k0=>(zAl 1<|S_a [(2,.yes)] (ap ((by exact zBq (by simp<;>omega)):(beq 0 0&&(map I l).length.beq (map I l).length)=true) an)<|zA3<|zAn<|E_a [(1,.yes),(1,.v (own 1 (map I l)))] (ap (blz (map I l))<|ap ((zAT zA6):own 1 (take (map I l).length (drop 0 (map I l)))=own 1 (map I l)) an) (own 1 (map I l)) [] ?_ rfl)) (fun k0=>(zAh<|zAc<|zAj 1<|zAf 0 ?_))
 ·have:=zHr (l:=l) l.length (bf _) fun j h1 h2=>by omega
  rw[dt] at this;rw[this]
 ·refine zAr (fun k=>1<=k/\k<=l.length/\∀ j,1<=j->j<k->l.getD j 0≠l.getD (j-1) 0) (fun k=>[(3,I (k:Nat))]) (fun k=>l.length-k) (1:Nat) ⟨by omega,by omega,fun j h1 h2=>absurd h1 (by omega)⟩ fun k ⟨jY,hk,ha⟩=>?_;have jl:=zHr k hk ha;refine zAc<|zAl 2<|S_a [(0,.n l.length)] (ap (lnS I l) an)<|S_g 1<|zCN ((k:Int)<(l.length:Int)) (fun k2=>(zAh<|zAc<|zAf 1<|zAl 2<|S_a [(2,.ob),(1,.n k)] (ap ((by exact zAp (by simp only[be,zzLn]<;>omega)):decide (k<(map I l).length)=true)<|ap ((by simp):some (0+k)=some k) an)<|S_a [(0,.cs false ([I (l.getD k 0)]))] (ap (zCn (q:=own 1 (map I l)) (xs:=map I l) (x:=I (l.getD k 0)) rfl (zBN (0) (by omega)):zAq 0 (own 1 (map I l)) [] k 0 1=some (false,[I (l.getD k 0)])) an)<|zAm 2<|S_a [(1,.v (I (↑(k-1):Int)))] (ap ((zBW (by omega) (by omega)):I (IntKind.i64.wrap ((k:Int)-1))=I (↑(k-1):Int)) an)<|S_a [(2,.ob),(1,.n (k-1))] (ap ((by exact zAp (by simp only[be,zzLn]<;>omega)):decide (k-1<(map I l).length)=true)<|ap ((by simp):some (0+(k-1))=some (k-1)) an)<|S_a [(0,.cs false ([I (l.getD (k-1) 0)]))] (ap (zCn (q:=own 1 (map I l)) (xs:=map I l) (x:=I (l.getD (k-1) 0)) rfl (zBN (0) (by omega)):zAq 0 (own 1 (map I l)) [] (k-1) 0 1=some (false,[I (l.getD (k-1) 0)])) an)<|S_g 1<|zCN (l.getD k 0=l.getD (k-1) 0) (fun k3=>(zAl 2<|S_a [(3,.ob),(0,.yes),(0,.yes),(0,.v (bor 0 [] 1 k (l.length-k)))] (ap ((by exact zAR (by simp only[be,zzLn,zAO]<;>omega)):k.ble (map I l).length=true)<|ap ((by exact zAR (by simp only[be,zzLn,zAO]<;>omega)):(map I l).length.ble (map I l).length=true)<|ap ((by simp<;>omega):(k.beq 0||k.blt (map I l).length)=true)<|ap ((by simp):bor 0 [] 1 (0+k) ((map I l).length-k)=bor 0 [] 1 k (l.length-k)) an)<|S_g 1<|zAc<|zAj 1<|zAf 2 ?_)) (fun k3=>(zAh<|zAb<|zAm 1<|S_i k<|S_g 1 ?_)))) (fun k2=>(zAD 0<|zAl 1<|S_a [(2,.yes)] (ap ((by exact zBq (by simp<;>omega)):(beq 0 0&&(map I l).length.beq (map I l).length)=true) an)<|zA3<|zAn<|E_a [(1,.yes),(1,.v (own 1 (map I l)))] (ap (blz (map I l))<|ap ((zAT zA6):own 1 (take (map I l).length (drop 0 (map I l)))=own 1 (map I l)) an) (own 1 (map I l)) [] ?_ rfl))
  ·have e0:zHk (l.take (k+1))=l.take k:=by rw[zHu (by omega) (by omega),if_pos k3,jl]
   clear ha jl;refine zAr (fun(p,q,S)=>1<=q/\k+q<=l.length/\p<k+q/\S.length=l.length/\S.take p=zHk (l.take (k+q))/\∀ j,k+q<=j+1->S.getD j 0=l.getD j 0) (fun(p,q,S)=>[(0,.own 1 (S.map I)),(3,I (p:Nat)),(5,I (q:Nat))]) (fun(p,q,S)=>l.length-(k+q)) (k,(1:Nat),l) ⟨by omega,by omega,by omega,rfl,e0.symm,fun _ _=>rfl⟩ fun(p,q,S) ⟨hq,hkq,hp,hS,hc,hd⟩=>?_;have kR:(zHk (l.take (k+q))).length=p:=by rw[<- hc,cj];omega
   by_cases vd:k+q<l.length
   ·have hx:=hd (k+q) (by omega);have hy:=hd (k+q-1) (by omega);have yD:=zHu (l:=l) (i:=k+q) (by omega) vd;have vi:=hd;clear hd;refine zAc<|zAj 4<|zAM ((q:Int)<(↑(l.length-k):Int)) (by omega)<|zAh<|zAc<|zAf 3<|zAl 2<|S_a [(2,.ob)] (ap ((by exact zAp (by omega)):decide (q<l.length-k)=true) an)<|S_a [(0,.cs false ([I (S.getD (k+q) 0)]))] (ap (zCn (q:=own 1 (map I S)) (xs:=map I S) (x:=I (S.getD (k+q) 0)) rfl (zBN (0) (by omega)):zAq 0 (own 1 (map I S)) [] (k+(q:Int).toNat) 0 1=some (false,[I (S.getD (k+q) 0)])) an)<|zAm 2<|S_a [(1,.v (I (↑(q-1):Int)))] (ap ((zBW (by omega) (by omega)):I (IntKind.i64.wrap ((q:Int)-1))=I (↑(q-1):Int)) an)<|S_a [(2,.ob)] (ap ((by exact zAp (by omega)):decide (q-1<l.length-k)=true) an)<|S_a [(0,.cs false ([I (S.getD (k+(q-1)) 0)]))] (ap (zCn (q:=own 1 (map I S)) (xs:=map I S) (x:=I (S.getD (k+(q-1)) 0)) rfl (zBN (0) (by omega)):zAq 0 (own 1 (map I S)) [] (k+(↑(q-1):Int).toNat) 0 1=some (false,[I (S.getD (k+(q-1)) 0)])) an)<|S_g 1<|zEk (S.getD (k+q) 0=S.getD (k+(q-1)) 0) (fun k4=>(zAl 4<|S_a [(2,.ob)] (ap ((by exact zAp (by omega)):decide (q<l.length-k)=true) an)<|S_a [(0,.cs false ([I (S.getD (k+q) 0)]))] (ap (zCn (q:=own 1 (map I S)) (xs:=map I S) (x:=I (S.getD (k+q) 0)) rfl (zBN (0) (by omega)):zAq 0 (own 1 (map I S)) [] (k+(q:Int).toNat) 0 1=some (false,[I (S.getD (k+q) 0)])) an)<|S_a [(2,.ob),(1,.n p)] (ap ((by exact zAp (by simp only[be,zzLn]<;>omega)):decide (p<(map I S).length)=true)<|ap ((by simp):some (0+p)=some p) an)<|S_a [(8,.root (own 1 (map I (S.set p (S.getD (k+q) 0)))) true)] (ap (zKK (zBN (0) (by omega)) zDJ:zBv (own 1 (map I S)) [] p 0 (I (S.getD (k+q) 0)).cells=some (own 1 (map I (S.set p (S.getD (k+q) 0))))/\zAI (own 1 (map I S)) (own 1 (map I (S.set p (S.getD (k+q) 0)))) []=true) an)<|zA3<|zAb<|zAm 1<|S_i p<|S_g 1<|zAb<|zAm 1<|S_i q<|S_g 1 ?_)) (fun k4=>(zAh<|zAb<|zAm 1<|S_i q<|S_g 1 ?_))
    ·rw[show k+(q-1)=k+q-1 by omega,hx,hy] at k4;rw[if_neg k4] at yD;refine⟨(p+1,q+1,S.set p (S.getD (k+q) 0)),⟨by omega,by omega,by omega,by simpa using hS,?_,fun j hj=>?_⟩,by simp only;omega,by kernel_rfl,by kernel_rfl⟩
     ·rw[<- cg,yD,<- hc,hx,zLY (by omega)]
     ·rw[zBL,if_neg (by omega)];exact vi j (by omega)
    ·rw[show k+(q-1)=k+q-1 by omega,hx,hy] at k4;rw[if_pos k4] at yD;exact rnd (p,q+1,S) ⟨by omega,by omega,by omega,hS,by rw[<- cg,yD,hc],fun j hj=>vi j (by omega)⟩ (by simp only;omega)
   ·refine zAc<|zAj 4<|zAQ ((q:Int)<(↑(l.length-k):Int)) (by omega)<|zAD 2<|zAl 2<|S_a [(3,.ob),(0,.yes),(0,.yes),(0,.v (bor 0 [] 1 p (S.length-p)))] (ap ((by exact zAR (by simp only[be,zzLn,zAO]<;>omega)):p.ble (map I S).length=true)<|ap ((by exact zAR (by simp only[be,zzLn,zAO]<;>omega)):(map I S).length.ble (map I S).length=true)<|ap ((by simp<;>omega):(p.beq 0||p.blt (map I S).length)=true)<|ap ((by simp):bor 0 [] 1 (0+p) ((map I S).length-p)=bor 0 [] 1 p (S.length-p)) an)<|zLC (g:=I) (fun q=>q) 0 1 p (S.length-p) S (0) (by first|omega|(simp<;>omega)) ⟨rfl,rfl⟩ (fun _=>(by first|exact zIN|exact⟨rfl,rfl,rfl,rfl,bf _,rfl⟩)) zRs.nil (zA3<|zAl 2<|S_a [(4,.yes)] (ap ((by exact zAR (by simp<;>omega)):p.ble (map I (take p S++replicate (S.length-p) 0++drop (p+(S.length-p)) S)).length=true) an)<|S_g 1<|zAn<|E_a [(1,.yes),(1,.v (own 1 (map I (take p (take p S++replicate (S.length-p) 0++drop (p+(S.length-p)) S)))))] (ap ((by exact zAR (by simp<;>omega)):(0+((p:Int).toNat-0)).ble (map I (take p S++replicate (S.length-p) 0++drop (p+(S.length-p)) S)).length=true)<|ap ((by simp):own 1 (take p (drop 0 (map I (take p S++replicate (S.length-p) 0++drop (p+(S.length-p)) S))))=own 1 (map I (take p (take p S++replicate (S.length-p) 0++drop (p+(S.length-p)) S)))) an) (own 1 (map I (take p (take p S++replicate (S.length-p) 0++drop (p+(S.length-p)) S)))) [] ?_ rfl)
    rw[show k+q=l.length by omega,dt] at hc;rw[<- hc,cO,cP (by rw[cj];omega),fC,iB]
  ·refine⟨k+1,⟨by omega,by omega,fun j h1 h2=>?_⟩,by omega,by kernel_rfl,by kernel_rfl⟩;by_cases hj:j=k
   ·subst hj;assumption
   ·exact ha j h1 (by omega)
  ·rw[show k=l.length by omega,dt] at jl;rw[jl]
end
end Go.Eng
