/- The statement NewsFewest jQ for all arguments: further cries that are returned leave none and are as few as can be, and the gaps that are apart, or the errors, are as specified; arguments are not modified. -/
import Derived.Test.YtppbomajegnkeaaGreatPd
import Derived.ProofKit
import Derived.ChangeArms
import Derived.Test.YtppbomajegnkeaaGreatProg
import Derived.Shelf.SlSortCmp.NoneTotal
import Derived.Test.YtppbomajegnkeaaGreatPa
import Derived.Test.YtppbomajegnkeaaGreatRows
set_option linter.unusedVariables false
set_option linter.unusedSimpArgs false
set_option linter.unusedSectionVars false
open Nat (beq ble blt)
open List (map replicate take drop range length filter)
open Go.Eng.PV (own agg addr func sl bor tup omap bad bool int)
namespace Go.Eng
open Go Go.ChangeShapes Go.WideShapes Go.ChangeAt Go.RowKit
section
variable {H:Type} {enc:TypeId×Value->H} {P:Program}
theorem zPh{f:Func}{s:ChangeSpec}{apart fresh j9 again:Bool}{W W':World}{args:Array Value}{v:Value}{ds gs:List (DataW H)}{before pa pv:List MemPlace}
  (hW:DataW.Whole enc P f.params.toList s.vars apart W args.toList ds gs before)
  (yk:∀ (b:Nat) (sp:Nat->Bool) (hd:Bool),DataW.TrodAll enc P W' b sp hd f.resultTypes.toList (v.resultList f.resultTypes.size) (s.fn H (ds++gs)).results [])
  (yP:∀ sp:Nat->Bool,(∀ p∈before,sp p.block=true)->DataW.TrodAll enc P W' 0 sp true f.params.toList args.toList (s.fn H (ds++gs)).args pa)
  (kG:∀ sp:Nat->Bool,(∀ p∈before,sp p.block=true)->DataW.TrodVars enc P W' sp s.vars (s.fn H (ds++gs)).vars pv)
  (yj:before=pa++pv) (hold':∀ b,b<W.heap.size->W'.heap[b]? = W.heap[b]?) (hk:W.keptBut W' (· ∈ before))
  (yE:∀ (j:Nat) (t:TypeId) (r:Value),f.resultTypes[j]? = some t->(v.resultList f.resultTypes.size)[j]? = some r->Value.okWide P W' .any 0 t r) :
  s.post enc P f apart fresh j9 again W args v W':=by
 have yI:=hW.lt;have hold:∀ p∈before,(fun b=>decide (b<W.heap.size)) p.block=true:=fun p hp=>by simpa using yI p hp
 refine⟨ds,gs,before,[],pa,pv,hW,yk _ _ _,yP _ hold,kG _ hold,World.keptBut_mono (fun p hp=>⟨hp,?_⟩) hk,fun _=>?_⟩
 ·rw[yj,bk] at hp;exact Or.inr hp
 ·obtain⟨_,_,_,_,_,hz,hn⟩:=hW;refine⟨yE,_,_,([]++pa)++pv,⟨[]++pa,pv,trodAll_append (yP _ (fun _ _=>rfl)) (yk _ _ _),kG _ (fun _ _=>rfl),rfl,?_,?_⟩,?_⟩
  ·intro b off hp;have jy:MemPlace.cell b off∈before:=by rw[yj];simpa using hp
   have h1:=hz b off jy;have h2:=yI _ jy;unfold World.frozen? at h1 ⊢;rw[hold' b h2];exact h1
  ·intro ha;have:=hn ha;rw[yj] at this;simpa using this
  ·intro p hp _;rw[yj];simpa using hp
theorem zHN{W W':World}{sp':Nat->Bool}(hl:laidOutB P=true)(hb:Below W.heap.size W W'):∀ {ts:List TypeId} {vs:List Value} {ds:List (DataW H)} {ps:List MemPlace},(∀ t∈ts,P.readableRec t=true/\t<P.types.size)->DataW.TrodAll enc P W 0 (fun _=>true) true ts vs ds ps->(∀ x∈ps,x.block<W.heap.size)->(∀ x∈ps,sp' x.block=true) ->
  DataW.TrodAll enc P W' 0 sp' true ts vs ds ps
 |[],vs,ds,ps,_,h,_,_=>by
  obtain⟨rfl,rfl,rfl⟩:=trodAll_nil h;exact trodAll_mk0
 |t::ts,vs,ds,ps,ht,h,yI,hs=>by
  obtain⟨v,vs',d,ds',p,q,rfl,rfl,rfl,h1,h2⟩:=trodAll_cons h;exact⟨p,q,WideElems.Trod_stays hl (ht t (by simp)).1 (ht t (by simp)).2 h1 (fun x hx=>hb.same (yI x (by simp[hx]))) (fun x hx=>hs x (by simp[hx])),zHN hl hb (fun t h=>ht t (by simp[h])) h2 (fun x hx=>yI x (by simp[hx])) (fun x hx=>hs x (by simp[hx])),rfl⟩
theorem zVM{f:Func}{s:ChangeSpec}{apart fresh j9 again:Bool}{W W':World}{args:Array Value}{ds:List (DataW H)}{before:List MemPlace}{tb:TypeId}(hl:laidOutB P=true)(kG:s.vars=[])(htb:P.underlying tb=some .bool)(qN:f.resultTypes=#[tb])(vP:∀ t∈f.params.toList,P.readableRec t=true/\t<P.types.size)
  (kE:s.fn H ds={results:=[.lit (.bool true)],args:=ds}) (hW:DataW.Whole enc P f.params.toList s.vars apart W args.toList ds [] before)
  (h1:W.heap.size<=W'.heap.size) (h2:∀ b,b<W.heap.size->W'.heap[b]? = W.heap[b]?) (h3:W'.os=W.os) (h4:W'.tape=W.tape) (h5:W'.output=W.output):s.post enc P f apart fresh j9 again W args (.bool true) W':=by
 have yI:=hW.lt;have hb:Below W.heap.size W W':=⟨h3,h4,h5,h1,h2⟩;obtain⟨pa,pv,hA,hV,yj,hz,hn⟩:=id hW;have hpv:pv=[]:=by
  rw[kG] at hV;exact(trodVars_none hV).2
 subst hpv;have kM:(Value.bool true).resultList f.resultTypes.size=[.bool true]:=by rw[qN];rfl
 have hfn':s.fn H (ds++[])={results:=[.lit (.bool true)],args:=ds}:=by rw[dO];exact kE
 have qW:∀ x∈pa,x.block<W.heap.size:=fun x hx=>yI x (by rw[yj];simp[hx]);refine zPh (pa:=pa) (pv:=[]) hW (fun b sp hd=>?_) (fun sp ye=>?_) (fun sp ye=>?_) yj h2 ?_ ?_
 ·rw[kM,qN,hfn'];exact trodAll_mk1 (shut_bool htb true)
 ·rw[hfn'];exact zHN hl hb vP hA qW (fun x hx=>ye x (by rw[yj];simp[hx]))
 ·rw[kG,hfn'];rfl
 ·refine⟨h3,h5,fun i hi=>?_⟩;rw[h2 i hi]
  cases W.heap[i]? with
  |none=>rfl|some o=>cases o<;>first|exact⟨rfl,rfl,rfl,fun _ _=>rfl⟩|exact .inr ⟨rfl,rfl⟩|rfl
 ·exact ok_one qN rfl (okWide_bool_mk htb true)
end
end Go.Eng
namespace Go.Eng
open Go
section
variable {w:World} {Φ:Nat->Prop} {A:Al}
end
end Go.Eng
namespace Go.Eng
open Go
section
variable {P:Program} {H:zBd}
theorem zS4{f:FuncId}{fn:Func}(h:P.funcs[f]? = some fn):fn∈P.funcs.toList:=by
 rw[<- bU] at h;exact bK h
theorem zI0 (h : (P.funcs.toList.all fun fn => !(fn.name == "runtime.NumGoroutine")) = true) : zE0 P := fun f fn hf => by
  have:=bj.1 h fn (zS4 hf);simpa using this
theorem zYB (h:((range P.funcs.size).all fun f=>bif beq (H f).intr 0 then(match P.funcs[f]? with
  |some fn=>zXO P fn|none=>true) else true)=true):Fit P H:=fun f fn hf hi=>by
 have yI:=(b6.1 hf).1;have:=bj.1 h f (bx.2 yI);rw[hi,hf] at this;exact this
end
end Go.Eng
namespace Go.Eng
open Go Go.ChangeShapes Go.WideShapes Go.ChangeAt Go.RowKit
inductive Sh where
 |num (k:IntKind)
 |bool
 |list (ag:Bool) (parts:List Sh)
mutual
def zZQ:Sh->PV->Prop
 |.num k,p=>∃ n,p = .int k n/\k.min<=n/\n<=k.max|.bool,p=>∃ b,p = .bool b|.list ag ss,p=>∃ xs,p = .sl xs/\xs.length<=maxLen/\∀ x∈xs,zCT ss x.cells/\x.isAgg=ag
def zCT:List Sh->List PV->Prop
 |[],ps=>ps=[]|s::ss,ps=>∃ p qs,ps=p::qs/\zZQ s p/\zCT ss qs
end
def zYy(P:Program)(t:TypeId):Bool :=
 match P.underlying t with
 |some (.struct _)=>true|some (.array ..)=>true|_=>false
def zZO(P:Program)(t:TypeId):Bool :=
 match P.underlying t with
 |some (.struct _)=>true|_=>false
def zHX(P:Program)(sh:TypeId->Option (List Sh))(n:Nat):List Field->Nat->Option (List Sh)
 |[],off=>if off=n then some [] else none
 |f::fs,off=>if f.offset=off then match sh f.type with
  |some a=>if a.length=P.cellsOf f.type then(zHX P sh n fs (off+P.cellsOf f.type)).map (a++·) else none
  |none=>none else none
def zDn(P:Program):Nat->TypeId->Option (List Sh)
 |0,_=>none
 | n + 1,t=>match P.underlying t with
  |some (.int k)=>some [.num k]|some .bool=>some [.bool]|some (.slice e)=>match zDn P n e with
   |some ss=>if ss.length=P.cellsOf e/\0<ss.length/\(zYy P e=true\/ss.length=1) then some [.list (zYy P e) ss] else none
   |none=>none
  |some (.struct fs)=>zHX P (zDn P n) (P.cellsOf t) fs.toList 0|some (.array m e)=>match zDn P n e with
   |some es=>if P.cellsOf t=m*P.cellsOf e then some (replicate m es).flatten else none
   |none=>none
  |_=>none
section
variable {H:Type} {enc:TypeId×Value->H} {P:Program} {w:World} {spare:Nat->Bool} {uY:Bool} {Φ:Nat->Prop} {base:Nat}
theorem zCT.app:∀ {a b:List Sh} {p q:List PV},zCT a p->zCT b q->zCT (a++b) (p++q)
 |[],b,p,q,h1,h2=>by simp only[zCT] at h1;subst h1;exact h2|s::a,b,p,q,h1,h2=>by
  obtain⟨x,xs,rfl,h3,h4⟩:=h1;exact⟨x,xs++q,rfl,h3,zCT.app h4 h2⟩
theorem zCT.length:∀ {a:List Sh} {p:List PV},zCT a p->p.length=a.length
 |[],p,h=>by simp only[zCT] at h;subst h;rfl|s::a,p,h=>by
  obtain⟨x,xs,rfl,_,h4⟩:=h;simp[zCT.length h4]
theorem zNP{sh:TypeId->Option (List Sh)}{N n:Nat}{cs:List Value}(ja:cs.length=N)(ih:∀ t (vs:List Value) x ss,sh t=some ss->DataW.trod enc P w 0 spare uY n t vs=some x->∃ ps,zCT ss ps/\zA5 w Φ zCm ps vs []) :
  ∀ (fs:List Field) (off:Nat) (ss:List Sh),zHX P sh N fs off=some ss->(∀ f∈fs,∃ y,DataW.trod enc P w 0 spare uY n f.type ((cs.drop f.offset).take (P.cellsOf f.type))=some y)->off<=N->∃ ps,zCT ss ps/\zA5 w Φ zCm ps (cs.drop off) []
 |[],off,ss,h,_,yR=>by
  simp only[zHX] at h;split at h
  ·rename_i he;cases h;exact⟨[],rfl,by rw[dt (by omega)];exact⟨rfl,rfl⟩⟩
  ·cases h
 | f :: fs,off,ss,h,hf,yR=>by
  simp only[zHX] at h;split at h
  ·rename_i ho
   cases hs:sh f.type with
   |none=>rw[hs] at h;cases h
   | some a =>
    rw[hs] at h;simp only at h;split at h
    ·rename_i kS;obtain⟨b,hb,rfl⟩:=bl.1 h;obtain⟨y,hy⟩:=hf f (by simp);rw[ho] at hy;obtain⟨ps,h1,h2⟩:=ih _ _ _ _ hs hy;have hl:=h2.length;have ud:=h1.length;simp only[bZ,dI] at hl;have gv:off+P.cellsOf f.type<=N:=by omega
     obtain⟨qs,h3,h4⟩:=zNP ja ih fs _ b hb (fun g hg=>hf g (by simp[hg])) gv;refine⟨ps++qs,h1.app h3,?_⟩;have:=h2.append h4;rw[<- dJ,cF] at this;exact this
    ·cases h
  ·cases h
theorem zTE{s:Nat}{ag:Bool}{ss:List Sh}(hs:0<s)(jp:ag=true\/s=1):∀ (len:Nat) (c:List Value),c.length=len*s->(∀ i,i<len->∃ ps,zCT ss ps/\ps.length=s/\zA5 w Φ zCm ps ((c.drop (i*s)).take s) []) ->
  ∃ (xs:List PV) (us:List Value),xs.length=len/\(∀ x∈xs,zCT ss x.cells/\x.isAgg=ag/\x.cells.length=s)/\(∀ u∈us,u.cells.size=s)/\us.map zCr=xs.map PV.isAgg/\c=flat us/\zA5 w Φ zCm xs us []
 |0,c,hc,_=>⟨[],[],rfl,by simp,by simp,rfl,by rw[fl] at hc;rw[br hc];rfl,rfl,rfl⟩
 | len + 1,c,hc,h=>by
  obtain⟨ps,h1,h2,h3⟩:=h 0 (by omega);simp only[fl,fc] at h3;have yO:(c.take s).length=s:=by simp;rw[hc,cQ];omega
  obtain⟨xs,us,g1,g2,g3,g4,g5,g6⟩:=zTE hs jp len (c.drop s) (by simp[hc,cQ]) (fun i hi=>by
   obtain⟨ps,h1,h2,h3⟩:=h (i+1) (by omega);refine⟨ps,h1,h2,?_⟩;rw[dJ,show s+i*s=(i+1)*s by rw[cQ];omega];exact h3)
  have jL:c=c.take s++c.drop s:=(cF s c).symm
  cases ag with
  | true =>
   refine⟨.agg ps::xs,.agg (c.take s).toArray::us,by simp[g1],fun x hx=>?_,fun u hu=>?_,by simp[zCr,PV.isAgg,g4],?_,⟨_,us,[],[],rfl,rfl,⟨_,rfl,by simpa using h3⟩,g6⟩⟩
   ·rcases bD.1 hx with rfl|hx
    ·exact⟨h1,rfl,h2⟩
    ·exact g2 x hx
   ·rcases bD.1 hu with rfl|hu
    ·simpa[Value.cells] using yO
    ·exact g3 u hu
   ·conv=>lhs;rw[jL]
    rw[g5];rfl
  | false =>
   have u8:s=1:=by
    rcases jp with h|h
    ·cases h
    ·exact h
   subst u8;obtain⟨p,rfl⟩:=iR.1 h2;obtain⟨u,hu⟩:=iR.1 yO;rw[hu] at h3 jL;obtain⟨u',us',L1,L2,he,hL,h4,h5⟩:=h3;cases he;obtain⟨rfl,rfl⟩:=dF.1 hL.symm;have yT:p.isAgg=false/\p.cells=[p]/\u.cells=#[u]/\zCr u=false:=by
    obtain⟨p',qs,hp,hfp,_⟩:∃ p' qs,[p]=p'::qs/\(∃ s,zZQ s p')/\True:=by
     cases ss with
     |nil=>simp only[zCT] at h1;cases h1|cons s ss=>obtain⟨x,xs,h6,h7,_⟩:=h1;exact⟨x,xs,h6,⟨s,h7⟩,trivial⟩
    cases hp;obtain⟨s,hfp⟩:=hfp
    cases s with
    |num k=>obtain⟨n,rfl,_⟩:=hfp;obtain⟨rfl,_⟩:=h4;exact⟨rfl,rfl,rfl,rfl⟩
    |bool=>obtain⟨n,rfl⟩:=hfp;obtain⟨rfl,_⟩:=h4;exact⟨rfl,rfl,rfl,rfl⟩
    |list ag' ss'=>
     obtain⟨ys,rfl,_⟩:=hfp;obtain⟨_,⟨_,a,n,rfl,_⟩|⟨a,n,c',us',sz,rfl,_⟩⟩:=h4<;>exact⟨rfl,rfl,rfl,rfl⟩
   refine⟨p::xs,u::us,by simp[g1],fun x hx=>?_,fun v hv=>?_,by simp[yT.1,yT.2.2.2,g4],?_,⟨u,us,[],[],rfl,rfl,h4,g6⟩⟩
   ·rcases bD.1 hx with rfl|hx
    ·rw[yT.2.1];exact⟨h1,yT.1,rfl⟩
    ·exact g2 x hx
   ·rcases bD.1 hv with rfl|hv
    ·rw[yT.2.2.1];rfl
    ·exact g3 v hv
   ·conv=>lhs;rw[jL]
    rw[g5];simp only[flat,d8,yT.2.2.1]
theorem zV2{n:Nat}{e t:TypeId}{fuel:Nat}{cs:List Value}{x:DataW H×List MemPlace}(ht:P.underlying t=some (.array n e))(h:DataW.trod enc P w base spare uY fuel t cs=some x) :
  ∃ (xs:List (DataW H×List MemPlace)) (m:Nat),cs.length=P.cellsOf t/\xs.length=n/\∀ (i:Nat),i<n->DataW.trod enc P w base spare uY m e ((cs.drop (i*P.cellsOf e)).take (P.cellsOf e))=xs[i]?:=by
 cases fuel with
 |zero=>simp[DataW.trod] at h|succ m=>
  unfold DataW.trod at h;rw[ht] at h;split at h<;>simp_all;obtain⟨hl,xs,hp,hd⟩:=h;exact⟨xs,by simpa using mapM_some_length hp,m,fun i hi=>mapM_some_get hp i i (by simp[hi])⟩
theorem zWL{s:Nat}{es:List Sh}:∀ (n:Nat) (c:List Value),c.length=n*s->(∀ i,i<n->∃ ps,zCT es ps/\zA5 w Φ zCm ps ((c.drop (i*s)).take s) [])->∃ ps,zCT (replicate n es).flatten ps/\zA5 w Φ zCm ps c []
 |0,c,hc,_=>⟨[],rfl,by rw[fl] at hc;rw[br hc];exact⟨rfl,rfl⟩⟩
 | n + 1,c,hc,h=>by
  obtain⟨ps,h1,h2⟩:=h 0 (by omega);simp only[fl,fc] at h2;obtain⟨qs,h3,h4⟩:=zWL (s:=s) n (c.drop s) (by simp[hc,cQ]) fun i hi=>by
   obtain⟨ps,h1,h2⟩:=h (i+1) (by omega);refine⟨ps,h1,?_⟩;rw[dJ,show s+i*s=(i+1)*s by rw[cQ];omega];exact h2
  refine⟨ps++qs,?_,?_⟩
  ·rw[fG,List.flatten_cons];exact h1.app h3
  ·have:=h2.append h4;rw[cF] at this;exact this
theorem zL7 : ∀ (n m:Nat) (t:TypeId) (vs:List Value) (x:DataW H×List MemPlace) (ss:List Sh),zDn P n t=some ss->DataW.trod enc P w 0 spare uY m t vs=some x->∃ ps,zCT ss ps/\zA5 w (fun b=>b<w.heap.size) zCm ps vs []
 |0,m,t,vs,x,ss,h,_=>by cases h
 | n + 1, m, t,vs,x,ss,h,hx=>by
  simp only[zDn] at h;split at h
  ·rename_i k ht;cases h;obtain⟨i,rfl,_,hw⟩:=DataW.trod_int ht hx;simp only[Lit.wf,bb,decide_eq_true_eq] at hw;exact⟨[.int k i],⟨_,[],rfl,⟨i,rfl,hw.1,hw.2⟩,rfl⟩,_,_,[],[],rfl,rfl,⟨rfl,rfl⟩,rfl,rfl⟩
  ·rename_i ht;cases h;obtain⟨b,rfl,_⟩:=DataW.trod_bool ht hx;exact⟨[.bool b],⟨_,[],rfl,⟨b,rfl⟩,rfl⟩,_,_,[],[],rfl,rfl,⟨rfl,rfl⟩,rfl,rfl⟩
  ·rename_i e ht
   cases jq:zDn P n e with
   |none=>rw[jq] at h;cases h
   | some es =>
    rw[jq] at h;simp only at h;split at h
    ·rename_i hc;cases h;obtain⟨jM,jL,uq⟩:=hc;rcases DataW.trod_slice ht hx with⟨rfl,_⟩|⟨a,len,cap,zZ2,rest,k,_,rfl,_,_,LA,qD,jH,jP,_⟩
     ·exact⟨[.sl []],⟨_,[],rfl,⟨[],rfl,bG _,by simp⟩,rfl⟩,_,_,[],[],rfl,rfl,⟨rfl,.inl ⟨rfl,_,_,rfl,fun _=>rfl⟩⟩,rfl,rfl⟩
     ·by_cases h0:len=0
      ·subst h0;exact⟨[.sl []],⟨_,[],rfl,⟨[],rfl,bG _,by simp⟩,rfl⟩,_,_,[],[],rfl,rfl,⟨rfl,.inl ⟨rfl,_,_,rfl,fun h=>by cases h⟩⟩,rfl,rfl⟩
      have zBh:∀ i,i<len->∃ (cs:List Value) (y:DataW H×List MemPlace),cs.length=P.cellsOf e/\(∀ j,j<P.cellsOf e->w.cell? ((a.add (i*P.cellsOf e)).add j)=cs[j]?)/\DataW.trod enc P w 0 spare uY k e cs=some y:=by
       intro i hi;have:=jP i hi;rw[bm (by omega)] at this;obtain⟨cs,h1,h2⟩:=iK.1 this;obtain⟨_,h3,h4⟩:=World.cells?_some h1;exact⟨cs,_,h3,h4,h2⟩
      obtain⟨cs0,_,h00,h01,_⟩:=zBh 0 (by omega);have yW:=h01 0 (by omega);rw[bm (by omega)] at yW;have ye:a.spot=none/\∃ row el fr,w.heap[a.block]? = some (.cells row el fr):=by
       simp only[fl,Addr.add,if_true,World.cell?] at yW
       cases hb:w.heap[a.block]? with
       |none=>rw[hb] at yW;cases yW|some o=>
        cases o<;>rw[hb] at yW<;>simp only at yW<;>try (cases yW;done)
        rename_i row el fr
        cases hs:a.spot with
        |some s=>rw[hs] at yW;cases yW|none=>exact⟨rfl,row,el,fr,rfl⟩
      obtain⟨yi,row,el,fr,yG⟩:=ye;have jx:∀ i j,i<len->j<P.cellsOf e->w.cell? ((a.add (i*P.cellsOf e)).add j)=row[a.off+(i*P.cellsOf e+j)]?:=by
       intro i j hi hj;have key:∀ m:Nat,(a.add m).block=a.block/\(a.add m).off=a.off+m/\(a.add m).spot=none:=by
        intro m;unfold Addr.add;split
        ·rename_i h;subst h;exact⟨rfl,rfl,yi⟩
        ·exact⟨rfl,rfl,by simp⟩
       have key2:∀ m j:Nat,w.cell? ((a.add m).add j)=row[a.off+(m+j)]?:=by
        intro m j;obtain⟨k1,k2,k3⟩:=key m;by_cases h:j=0
        ·subst h;simp only[Addr.add,if_true,World.cell?] at *;rw[k1,yG];simp only;rw[k3,k2];simp
        ·have:(a.add m).add j=⟨a.block,a.off+m+j,none⟩:=by
          generalize a.add m=a1 at k1 k2 k3;unfold Addr.add;rw[if_neg h,k1,k2]
         rw[this];simp only[World.cell?,yG];rw[cg];rfl
       exact key2 _ _
      have jE:=zTE (w:=w) (Φ:=fun b=>b<w.heap.size) (ss:=es) jL (by rw[jM] at uq ⊢;exact uq) len (seg row a.off (len*P.cellsOf e)) ?_ ?_
      ·obtain⟨xs,us,g1,g2,g3,g4,g5,g6⟩:=jE;refine⟨[.sl xs],⟨_,[],rfl,⟨xs,rfl,by omega,fun x hx=>⟨(g2 x hx).1,(g2 x hx).2.1⟩⟩,rfl⟩,_,_,[],[],rfl,rfl,⟨rfl,.inr ⟨a,cap,row,us,P.cellsOf e,by rw[g1],yi,by omega,(b6.1 yG).1,⟨el,fr,yG⟩,?_,⟨?_,g4⟩,by rw[g1];exact g5,g6⟩⟩,rfl,rfl⟩
       ·intro x hx;rw[<- jM];exact(g2 x hx).2.2
       ·intro u hu;rw[<- jM];exact g3 u hu
      ·
       have:=zBh (len-1) (by omega);obtain⟨cs,_,h1,h2,_⟩:=this;have h3:=h2 (P.cellsOf e-1) (by omega);rw[jx _ _ (by omega) (by omega),bm (by omega)] at h3;have h4:=(b6.1 h3).1;have h5:(len-1)*P.cellsOf e+P.cellsOf e=len*P.cellsOf e:=by
        obtain⟨l,rfl⟩:∃ l,len=l+1:=⟨len-1,by omega⟩;rw[d4,cQ];omega
       simp only[seg,bZ,dI,fH,jM];omega
      ·intro i hi;obtain⟨cs,y,h1,h2,h3⟩:=zBh i hi;obtain⟨ps,h4,h5⟩:=zL7 n k e cs y es jq h3;refine⟨ps,h4,by rw[h4.length],?_⟩;have:((seg row a.off (len*P.cellsOf e)).drop (i*es.length)).take es.length=cs:=by
        rw[jM];apply cW;intro j;have qY:i*P.cellsOf e+P.cellsOf e<=len*P.cellsOf e:=by
         have:(i+1)*P.cellsOf e<=len*P.cellsOf e:=cZ _ (by omega);rw[cQ] at this;omega
        simp only[seg,cw,ck];split
        ·rename_i hj;rw[if_pos (by omega),bU,<- jx i j hi hj,h2 j hj]
        ·rw[cV (by omega)]
       rw[this];exact h5
    ·cases h
  ·rename_i fs ht;obtain⟨xs,k,_,_,hl,vi,hf⟩:=DataW.trod_struct ht hx;obtain⟨ps,h1,h2⟩:=zNP (Φ:=fun b=>b<w.heap.size) hl (fun t vs x ss h1 h2=>zL7 n k t vs x ss h1 h2) fs.toList 0 ss h (fun f yw=>by
    obtain⟨i,hi⟩:=cq yw;have gr:fs[i]? = some f:=by rw[<- bU];exact hi
    have yI:=(b6.1 gr).1;exact ⟨xs[i]'(by omega), by rw [hf i f gr, bm (by omega)]⟩) (bG _)
   exact⟨ps,h1,by simpa using h2⟩
  ·rename_i m' e ht
   cases jq:zDn P n e with
   |none=>rw[jq] at h;cases h|some es=>
    rw[jq] at h;simp only at h;split at h
    ·rename_i hc;cases h;obtain⟨xs,k,hl,vi,hf⟩:=zV2 ht hx;exact zWL m' vs (by rw[hl,hc]) fun i hi=>zL7 n k e _ _ es jq (by rw[hf i hi,bm (by omega)])
    ·cases h
  ·cases h
def zRJ(x:Bool×List Sh)(p:PV):Prop:=if x.1 then ∃ cs,p = .agg cs/\zCT x.2 cs else zCT x.2 [p]
def zLZ:List (Bool×List Sh)->List PV->Prop
 |[],ps=>ps=[]|s::ss,ps=>∃ p qs,ps=p::qs/\zRJ s p/\zLZ ss qs
def zFt(P:Program):List TypeId->Option (List (Bool×List Sh))
 |[]=>some []|t::ts=>match zDn P 20 t,zFt P ts with
  |some ss,some rest=>if zZO P t=true\/zYy P t=false/\ss.length=1 then some ((zZO P t,ss)::rest) else none
  |_,_=>none
theorem zLZ.length:∀ {ss:List (Bool×List Sh)} {ps:List PV},zLZ ss ps->ps.length=ss.length
 |[],ps,h=>by simp only[zLZ] at h;subst h;rfl|s::ss,ps,h=>by
  obtain⟨p,qs,rfl,_,h2⟩:=h;simp[zLZ.length h2]
theorem zRY{n:Nat}{t:TypeId}{ss:List Sh}(h:zDn P n t=some ss)(ha:zYy P t=false):(∃ k,P.underlying t=some (.int k))\/P.underlying t=some .bool\/∃ e,P.underlying t=some (.slice e):=by
 cases n with
 |zero=>cases h|succ n=>
  simp only[zDn] at h;split at h
  ·exact .inl ⟨_,by assumption⟩
  ·exact .inr (.inl (by assumption))
  ·exact .inr (.inr ⟨_,by assumption⟩)
  ·rename_i fs ht;simp only[zYy,ht] at ha;cases ha
  ·rename_i ht;simp only[zYy,ht] at ha;cases ha
  ·cases h
theorem zTM : ∀ (ts:List TypeId) (vs:List Value) (ds:List (DataW H)) (ps:List MemPlace) (ss:List (Bool×List Sh)),zFt P ts=some ss->DataW.TrodAll enc P w 0 spare uY ts vs ds ps->(∀ (j:Nat) t v,ts[j]? = some t->vs[j]? = some v->Value.okWide P w .any base t v) ->
  ∃ qs,zLZ ss qs/\zA5 w (fun b=>b<w.heap.size) zCm qs vs []
 |[],vs,ds,ps,ss,hs,h,_=>by
  obtain⟨rfl,_,_⟩:=trodAll_nil h;cases hs;exact⟨[],rfl,rfl,rfl⟩
 | t :: ts,vs,ds,ps,ss,hs,h,hv=>by
  obtain⟨v,vs',d,ds',p,q,rfl,rfl,rfl,⟨fuel,h1⟩,h2⟩:=trodAll_cons h;simp only[zFt] at hs
  cases yD:zDn P 20 t with
  |none=>rw[yD] at hs;cases hs
  | some s =>
   cases yr:zFt P ts with
   |none=>rw[yD,yr] at hs;cases hs
   | some rest =>
    rw[yD,yr] at hs;simp only at hs;split at hs
    ·rename_i hc;cases hs;obtain⟨qs,g1,g2⟩:=zTM ts vs' ds' q rest yr h2 (fun j t v ht yL=>hv (j+1) t v (by simpa using ht) (by simpa using yL));obtain⟨cs,g3,g4⟩:=zL7 20 fuel t v.cells.toList _ s yD h1;have yE:=hv 0 t v rfl rfl
     cases ha:zZO P t with
     | true =>
      have qq:∃ fs,P.underlying t=some (.struct fs):=by
       simp only[zZO] at ha;split at ha
       ·exact⟨_,by assumption⟩
       ·cases ha
      obtain⟨fs,ht⟩:=qq;obtain⟨row,rfl,_⟩:=okWide_struct ht yE;exact⟨.agg cs::qs,⟨_,_,rfl,by simp only[zRJ,if_true];exact⟨cs,rfl,g3⟩,g1⟩,_,_,[],[],rfl,rfl,⟨row,rfl,g4⟩,g2⟩
     | false =>
      have yT:v.cells.toList=[v]:=by
       rcases zRY yD (hc.elim (fun h=>by rw[h] at ha;cases ha) fun h=>h.1) with⟨k,ht⟩|ht|⟨e,ht⟩
       ·obtain⟨n,rfl⟩:=okWide_int ht yE;rfl
       ·obtain⟨n,rfl⟩:=okWide_bool ht yE;rfl
       ·obtain⟨a,n,c,rfl⟩:=okWide_slice ht yE;rfl
      rw[yT] at g4;obtain⟨u,us,L1,L2,he,hL,g5,g6⟩:∃ u us L1 L2,cs=u::us/\([]:LN)=L1++L2/\Rep w (fun b=>b<w.heap.size) zCm u v L1/\zA5 w (fun b=>b<w.heap.size) zCm us [] L2:=by
       cases cs with
       |nil=>have:=g4.length;simp at this|cons u us=>
        obtain⟨v',vs'',L1,L2,he,hL,g5,g6⟩:=g4;cases he;exact⟨u,us,L1,L2,rfl,hL,g5,g6⟩
      obtain⟨rfl,rfl⟩:=dF.1 hL.symm;have w8:us=[]:=br (by have:=g6.length;simp at this;omega);subst w8;subst he;exact⟨u::qs,⟨_,_,rfl,by simp only[zRJ,bq,if_false];exact g3,g1⟩,_,_,[],[],rfl,rfl,g5,g2⟩
    ·cases hs
theorem zMB{α:Type}{R:α->Prop}{enc:α->PV}:∀ {xs:List PV},(∀ x∈xs,∃ a,x=enc a/\R a)->∃ l:List α,xs=l.map enc/\∀ a∈l,R a
 |[],_=>⟨[],rfl,by simp⟩
 | x :: xs,h=>by
  obtain⟨a,rfl,ha⟩:=h x (by simp);obtain⟨l,rfl,hl⟩:=zMB (xs:=xs) fun y hy=>h y (by simp[hy]);exact⟨a::l,rfl,fun b hb=>by
   rcases bD.1 hb with rfl|hb
   ·exact ha
   ·exact hl b hb⟩
theorem zQm{k:IntKind}{p:PV}(h:zZQ (.list false [.num k]) p):∃ l:LI,p = .sl (l.map (.int k))/\l.length<=maxLen/\∀ n∈l,k.min<=n/\n<=k.max:=by
 obtain⟨xs,rfl,hl,hx⟩:=h;obtain⟨l,rfl,hb⟩:=zMB (α:=Int) (R:=fun n=>k.min<=n/\n<=k.max) (enc := .int k) (xs:=xs) fun x kP=>by
  obtain⟨⟨q,qs,hc,⟨n,rfl,hn⟩,vk⟩,ha⟩:=hx x kP;simp only[zCT] at vk;subst vk;refine⟨n,?_,hn⟩;cases x<;>simp[PV.cells] at hc<;>first|exact hc|simp_all[PV.isAgg]
 exact⟨l,rfl,by simpa using hl,hb⟩
theorem zJ9:∀ {ts:List TypeId} {vs:List Value} {ds:List (DataW H)} {ps:List MemPlace},DataW.TrodAll enc P w 0 spare uY ts vs ds ps->ds.length=ts.length
 |[],vs,ds,ps,h=>by obtain⟨_,rfl,_⟩:=trodAll_nil h;rfl
 |t::ts,vs,ds,ps,h=>by
  obtain⟨_,_,_,_,_,_,rfl,rfl,_,_,h2⟩:=trodAll_cons h;simp[zJ9 h2]
theorem zXr{Hh:zBd}{f:FuncId}{fn:Func}{s:ChangeSpec}{apart fresh j9 again:Bool}{W:World}{args:Array Value}{ds:List (DataW H)}{before:List MemPlace}{tb:TypeId}{ss:List (Bool×List Sh)}(zFI:P.follows .mixedOrders=true)(hnm:zE0 P)(zN4:Fit P Hh)(hin:zEZ P Hh)
  (hl:laidOutB P=true) (kG:s.vars=[]) (htb:P.underlying tb=some .bool) (qN:fn.resultTypes=#[tb]) (vP:fn.params.toList.all (fun t=>P.readableRec t&&blt t P.types.size)=true) (kE:∀ ds,ds.length=fn.params.size->s.fn H ds={results:=[.lit (.bool true)],args:=ds}) (uu:zFt P fn.params.toList=some ss) (hZ:ss.length<=1000)
  (hg:∀ qs,zLZ ss qs->@zCC (yo1 P Hh) P Hh f qs [] (.bool true) [])
  (hval:∀ (j:Nat) t v,fn.params[j]? = some t->args[j]? = some v->Value.okWide P W .any base t v) (hW:DataW.Whole enc P fn.params.toList s.vars apart W args.toList ds [] before) :
  Calls P f args W fun e W'=>∃ v,e = .returned v/\s.post enc P fn apart fresh j9 again W args v W':=by
 obtain⟨pa,pv,hA,_,_,_,_⟩:=id hW;obtain⟨qs,u6,vd⟩:=zTM fn.params.toList args.toList ds pa ss uu hA (fun j t v ht hv=>hval j t v (by rw[<- bU];exact ht) (by rw[<- bU];exact hv));have kH:=u6.length;refine(zSQ (Φ:=fun b=>b<W.heap.size) zFI hnm zN4 hin (hg qs u6) (fun b hb=>hb) vd (by rw[kH];exact bN hZ (by decide))).mono fun e W' ⟨he,g1,g2,g3,g4,g5⟩=>?_;subst he;refine⟨_,rfl,zVM hl kG htb qN (fun t ht=>?_) (kE ds (by have:=zJ9 hA;simpa using this)) hW g1 g2 g3 g4 g5⟩;have:=bj.1 vP t ht;rw[bb] at this;exact⟨this.1,zCb this.2⟩
end
end Go.Eng
namespace Go.Eng
open Go
section
variable {P:Program} {H:zBd}
def zE8(f:FuncId):zBd:=fun g=>bif beq g f then{} else{intr:=9}
theorem zQ3(zFI:P.follows .mixedOrders=true)(hnm:zE0 P){f:FuncId}{fn:Func}(hf:P.funcs[f]? = some fn)(yE:zXO P fn=true)(n:Nat):zGG P (@zCN P (zE8 f) yo0 n):=by
 refine @zFk P (zE8 f) yo0 zFI hnm (fun g gn hg hi=>?_) (fun g gn args hid v hX hg hi hr=>?_) (fun g first i caps k plan h=>by cases h) n
 ·cases hb:beq g f with
  |true=>
   rw[bd hb,hf] at hg;cases hg;exact yE
  |false=>simp[zE8,hb] at hi
 ·cases hb:beq g f with
  |true=>exact absurd (by simp[zE8,hb]) hi|false=>
   have e:(zE8 f g).intr=9:=by simp[zE8,hb]
   rw[e] at hr;simp[intrin] at hr
theorem zPG{α:Type}{f:Nat->α}{s:Nat}{v:α}(h:f s=v):upd f s v=f:=by
 funext t;by_cases ht:t=s
 ·subst ht;rw[zAj,h]
 ·rw[zAg ht]
theorem zL4{f:FuncId}{p q v:PV}(hp:p.heavy=false){w:World}{Φ:Nat->Prop}{rv:Nat->Value}{E:Nat->PV}{L:Nat->LN}{vs:Array Value}(hE:∀ s,s<zAa->E s=(zBe [q] []).get s)(uB:∀ s,zAa<=s->E s = .bad)
  (C:Conf w (fun b=>∃ s,b∈L s) Φ w Φ rv E L) (yJ:vs.size=1) (yq:∀ i,i<1->vs[i]? = some (rv i)) (jf:∀ s,1<=s->s<zAm->rv s=undef) (hL0:L 0=[]) (hr:Rep w Φ (zA9 w rv E) p (rv 0) []) (h:Means P f [p] [] v []) :
  Calls P f vs w fun e w'=>∃ u Φ' rv' E' L',e = .returned u/\Conf w (fun b=>∃ s,b∈L s) Φ w' Φ' rv' E' L'/\([]:List PV).length=([]:List PV).length /\
   (∀ j,j<([]:List PV).length->E' (zAm+j)=([]:List PV).getD j .bad/\rv' (zAm+j)=rv (zAm+j))/\Gave v u rv' E':=by
 have C1:=C.put (s:=0) hp hr;rw[zPG hL0,zPG rfl] at C1;have h1:(1:Nat)<=zAm:=by decide
 have hg:(0:Nat)<zAa:=by decide
 refine h w Φ rv (upd E 0 p) L vs (fun s hs=>?_) (fun s hs=>?_) C1 yJ yq jf
 ·by_cases h:s=0
  ·subst h;rw[zAj];rfl
  ·rw[zAg h,hE s hs,zDj (args:=[q]) h1,zDj (args:=[p]) h1];simp[h,show ¬ s<1 by omega]
 ·rw[zAg (by omega)];exact uB s hs
theorem zUu{f:FuncId}{v:PV}(h1:Means P f [.nils 0] [] v [])(h2:Means P f [.nn] [] v []):Means P f [.sl []] [] v []:=by
 intro w Φ rv E L vs hE uB C yJ yq jf;have h0:E 0 = .sl []:=by rw[hE 0 (by decide)];rfl
 have hr:=C.rep 0;rw[h0] at hr;obtain⟨hL0,hc⟩:=hr;have hc:∃ a n,rv 0 = .slice a 0 n/\(a=none->n=0):=by
  rcases hc with⟨_,a,n,hv,ha⟩|⟨a,n,c,us,sz,hv,_⟩
  ·exact⟨a,n,hv,ha⟩
  ·exact⟨some a,n,hv,fun h=>by cases h⟩
 obtain⟨a,n,hv,ha⟩:=hc
 cases a with
 |none=>
  rw[ha rfl] at hv;exact zL4 (p := .nils 0) rfl hE uB C yJ yq jf hL0 ⟨hv,rfl⟩ h1
 |some a=>exact zL4 (p := .nn) rfl hE uB C yJ yq jf hL0 ⟨rfl,a,n,hv⟩ h2
theorem zRF{f:FuncId}{v:PV}{k:Nat}(h1:Means P f [.nils 0] [] v []):Means P f [.nils k] [] v []:=by
 intro w Φ rv E L vs hE uB C yJ yq jf;have h0:E 0 = .nils k:=by rw[hE 0 (by decide)];rfl
 have hr:=C.rep 0;rw[h0] at hr;exact zL4 (p := .nils 0) rfl hE uB C yJ yq jf hr.2 ⟨hr.1,rfl⟩ h1
theorem zL1(zFI:P.follows .mixedOrders=true)(hnm:zE0 P){f:FuncId}{fn:Func}(hf:P.funcs[f]? = some fn)(hb:fn.body.isSome=true)(yE:zXO P fn=true){sz:Nat}(yJ:(fn.resultTypes[0]?).bind (fun t=>(zB1 P t).bind (szT P))=some sz)
  (r1:∃ n,@zCN P (zE8 f) yo0 n f [.nils 0] []=some (.own sz [],[])) (r2:∃ n,@zCN P (zE8 f) yo0 n f [.nn] []=some (.own sz [],[]))
  (r3:∀ x xs,(∀ y∈x::xs,y.plain=true/\y.cells.length=sz)->(x::xs).length<=zAJ->∃ n,@zCN P (zE8 f) yo0 n f [.sl (x::xs)] []=some (.own sz (x::xs),[])) :
  ∀ args hid v hX,intrin P fn 1 args hid=some (v,hX)->Callable P f/\Means P f args hid v hX:=by
 have so:=zQ3 zFI hnm hf yE
 have hc:Callable P f:=⟨fn,hf,by cases hx:fn.body with
  |none=>rw[hx] at hb;cases hb|some _=>rfl⟩
 obtain⟨n1,r1⟩:=r1;obtain⟨n2,r2⟩:=r2;have m1:Means P f [.nils 0] [] (.own sz []) []:=(so n1 _ _ _ _ _ r1).2;have m2:=(so n2 _ _ _ _ _ r2).2;intro args hid v hX h;refine⟨hc,?_⟩;rcases args with _|⟨p,_|⟨p2,ps⟩⟩
 ·simp[intrin] at h
 ·rcases hid with _|⟨q,qs⟩
  ·cases p<;>first|(simp[intrin] at h;done)|skip
   ·rename_i k;simp only[intrin,yJ,ba,bB] at h;obtain⟨rfl,rfl⟩:=h;exact zRF m1
   ·rename_i xs;simp only[intrin,yJ] at h;split at h
    ·rename_i hx;simp only[ba,bB] at h;obtain⟨rfl,rfl⟩:=h;simp only[bb,decide_eq_true_eq,bj] at hx
     cases xs with
     |nil=>exact zUu m1 m2|cons x xs=>
      obtain⟨n3,r3⟩:=r3 x xs (fun y hy=>by simpa using hx.1 y hy) hx.2;exact(so n3 _ _ _ _ _ r3).2
    ·cases h
  ·simp[intrin] at h
 ·simp[intrin] at h
theorem zHe[Yo]{f:FuncId}{fn:Func}{sz:Nat}{α:Type}(g:α->PV)(l:List α)(hl:l.length<=4294967296)(hg:∀ x,((g x).plain&&beq (g x).cells.length sz)=true:=by intro x;kernel_rfl)(hf:P.funcs[f]? = some fn:=by kernel_rfl)(hi:(H f).intr=1:=by kernel_rfl)
  (yJ:(fn.resultTypes[0]?).bind (fun t=>(zB1 P t).bind (szT P))=some sz:=by kernel_rfl):zCC P H f [.sl (l.map g)] [] (.own sz (l.map g)) []:=by
 refine⟨1,fun n hn=>?_⟩;obtain⟨k,rfl⟩:∃ k,n=k+1:=⟨n-1,by omega⟩;show zG2 P H (zCN P H k) Yo.yo zCc (k+1) f _ _=_
 have kT:((l.map g).all (fun x=>x.plain&&decide (x.cells.length=sz))&&decide ((l.map g).length<=zAJ))=true:=by
  simp only[List.all_map,bb,bj,bf,decide_eq_true_eq,Function.comp];refine⟨fun x _=>?_,hl⟩;have:=hg x;simp only[bb] at this;exact⟨this.1,bd this.2⟩
 simp only[bb,decide_eq_true_eq] at kT;simp only[zG2,hf,hi,intrin,yJ];rw[if_pos (by decide),if_pos (by simpa using kT)]
theorem zHS{f:FuncId}{args:List PV}{v:PV}(h:@zCC yo0 P (zE8 f) f args [] v []):∃ n,@zCN P (zE8 f) yo0 n f args []=some (v,[]):=by
 obtain⟨n,h⟩:=h;exact⟨n,h n (bi _)⟩
end
end Go.Eng
set_option maxRecDepth 100000
namespace Go.Eng
open Go Go.Proofs
def idV(p:PV):PV:=p
theorem zIL(xs:List PV):xs.map idV=xs:=by
 induction xs with
 |nil=>rfl|cons x xs ih=>rw[bO,ih];rfl
theorem zFx:∀ {l:List PV},(∀ y∈l,y.plain=true)->zBq l=[]
 |[],_=>rfl|p::ps,h=>by
  rw[zBq,(zMi (h p (by simp))).2,zFx fun y hy=>h y (by simp[hy])];rfl
theorem zSE{xs:List PV}{sz n:Nat}(h:∀ y∈xs,y.plain=true/\y.cells.length=sz)(hn:beq sz n=true):((xs.map idV).all fun y=>y.cells.length.beq n&&y.cells.all fun q=>q.oneCell)=true:=by
 rw[zIL,bj];intro y hy;rw[bb];exact⟨by rw[(h y hy).2];exact hn,bj.2 fun q hq=>zJQ (h y hy).1 q hq⟩
theorem zYn{xs:List PV}{sz:Nat}(h:∀ y∈xs,y.plain=true/\y.cells.length=sz):((xs.map idV).all fun x=>x.plain)=true:=by
 rw[zIL,bj];exact fun y hy=>(h y hy).1
section
variable [Yo]
theorem zZR:zCC Tryz.prog (zE8 61) 61 [.nils 0] [] (.own 2 []) []:=zCC.closed 50
theorem zZ9:zCC Tryz.prog (zE8 61) 61 [.nn] [] (.own 2 []) []:=zCC.closed 50
theorem zZX(xs:List PV)(h:∀ y∈xs,y.plain=true/\y.cells.length=2)(hI:0<xs.length)(hl:xs.length<=4294967296):zCC Tryz.prog (zE8 61) 61 [.sl (xs.map idV)] [] (.own 2 (xs.map idV)) []:=by
 refine zAe Tryz.f61 ?_;refine zAh 1<|zAc<|zAl 1<|S_a [(0,.v (bool false))] (ap (zOC (by omega):zHJ Tryz.prog BinOp.eql 27 (sl (map idV xs)) (zER (Value.slice none 0 0))=some (bool false)) an)<|zAR<|zAD<|zAf<|zAl 2<|S_a [(0,.ob),(0,.ob),(0,.ob),(3,.ob)] (ap (zYn h:((map idV xs).all fun x=>x.plain)=true)<|ap (zSE h (by kernel_rfl):((map idV xs).all fun y=>y.cells.length.beq ((fun x=>x.size) Tryz.prog.types[37])&&y.cells.all fun q=>q.oneCell)=true)<|ap (?_:(zBq (map idV xs)).isEmpty=true)<|ap ((by exact zAQ (by simp only[bf,zzLn,zAJ]<;>omega)):(0+(map idV xs).length).ble zAJ=true) an)<|S_g 1<|zAk<|E_a [(1,.yes),(1,.v (own 2 (map idV (take ([]++map idV xs).length xs))))] (ap (blz ([]++map idV xs))<|ap ((by simp[zBN]):own 2 (take ([]++map idV xs).length (drop 0 ([]++map idV xs)))=own 2 (map idV (take ([]++map idV xs).length xs))) an) (own 2 (map idV (take ([]++map idV xs).length xs))) [] (by simp[*]) rfl
 rw[zIL,zFx fun y hy=>(h y hy).1];rfl
theorem zZ7:zCC Tryz.prog (zE8 65) 65 [.nils 0] [] (.own 1 []) []:=zCC.closed 50
theorem zZW:zCC Tryz.prog (zE8 65) 65 [.nn] [] (.own 1 []) []:=zCC.closed 50
theorem zZV(xs:List PV)(h:∀ y∈xs,y.plain=true/\y.cells.length=1)(hI:0<xs.length)(hl:xs.length<=4294967296):zCC Tryz.prog (zE8 65) 65 [.sl (xs.map idV)] [] (.own 1 (xs.map idV)) []:=by
 refine zAe Tryz.f65 ?_;refine zAh 1<|zAc<|zAl 1<|S_a [(0,.v (bool false))] (ap (zOC (by omega):zHJ Tryz.prog BinOp.eql 51 (sl (map idV xs)) (zER (Value.slice none 0 0))=some (bool false)) an)<|zAR<|zAD<|zAf<|zAl 2<|S_a [(0,.ob),(0,.ob),(0,.ob),(3,.ob)] (ap (zYn h:((map idV xs).all fun x=>x.plain)=true)<|ap (zSE h (by kernel_rfl):((map idV xs).all fun y=>y.cells.length.beq ((fun x=>x.size) Tryz.prog.types[3])&&y.cells.all fun q=>q.oneCell)=true)<|ap (?_:(zBq (map idV xs)).isEmpty=true)<|ap ((by exact zAQ (by simp only[bf,zzLn,zAJ]<;>omega)):(0+(map idV xs).length).ble zAJ=true) an)<|S_g 1<|zAk<|E_a [(1,.yes),(1,.v (own 1 (map idV (take ([]++map idV xs).length xs))))] (ap (blz ([]++map idV xs))<|ap ((by simp[zBN]):own 1 (take ([]++map idV xs).length (drop 0 ([]++map idV xs)))=own 1 (map idV (take ([]++map idV xs).length xs))) an) (own 1 (map idV (take ([]++map idV xs).length xs))) [] (by simp[*]) rfl
 rw[zIL,zFx fun y hy=>(h y hy).1];rfl
theorem zY4:zCC Tryz.prog (zE8 123) 123 [.nils 0] [] (.own 2 []) []:=zCC.closed 50
theorem zZz:zCC Tryz.prog (zE8 123) 123 [.nn] [] (.own 2 []) []:=zCC.closed 50
theorem zZq(xs:List PV)(h:∀ y∈xs,y.plain=true/\y.cells.length=2)(hI:0<xs.length)(hl:xs.length<=4294967296):zCC Tryz.prog (zE8 123) 123 [.sl (xs.map idV)] [] (.own 2 (xs.map idV)) []:=by
 refine zAe Tryz.f123 ?_;refine zAh 1<|zAc<|zAl 1<|S_a [(0,.v (bool false))] (ap (zOC (by omega):zHJ Tryz.prog BinOp.eql 40 (sl (map idV xs)) (zER (Value.slice none 0 0))=some (bool false)) an)<|zAR<|zAD<|zAf<|zAl 2<|S_a [(0,.ob),(0,.ob),(0,.ob),(3,.ob)] (ap (zYn h:((map idV xs).all fun x=>x.plain)=true)<|ap (zSE h (by kernel_rfl):((map idV xs).all fun y=>y.cells.length.beq ((fun x=>x.size) Tryz.prog.types[108])&&y.cells.all fun q=>q.oneCell)=true)<|ap (?_:(zBq (map idV xs)).isEmpty=true)<|ap ((by exact zAQ (by simp only[bf,zzLn,zAJ]<;>omega)):(0+(map idV xs).length).ble zAJ=true) an)<|S_g 1<|zAk<|E_a [(1,.yes),(1,.v (own 2 (map idV (take ([]++map idV xs).length xs))))] (ap (blz ([]++map idV xs))<|ap ((by simp[zBN]):own 2 (take ([]++map idV xs).length (drop 0 ([]++map idV xs)))=own 2 (map idV (take ([]++map idV xs).length xs))) an) (own 2 (map idV (take ([]++map idV xs).length xs))) [] (by simp[*]) rfl
 rw[zIL,zFx fun y hy=>(h y hy).1];rfl
end
theorem zXl:∀ args hid v hX,intrin Tryz.prog Tryz.f61 1 args hid=some (v,hX)->Callable Tryz.prog 61/\Means Tryz.prog 61 args hid v hX :=
 zL1 (f:=61) (fn:=Tryz.f61) (sz:=2) (by kernel_rfl) (zI0 (by kernel_rfl)) (by kernel_rfl) (by kernel_rfl) (by kernel_rfl) (by kernel_rfl) (zHS (@zZR yo0)) (zHS (@zZ9 yo0)) fun x xs h hl=>by
  have:=zHS (@zZX yo0 (x::xs) h (by simp) hl);rw[zIL] at this;exact this
theorem zXp:∀ args hid v hX,intrin Tryz.prog Tryz.f65 1 args hid=some (v,hX)->Callable Tryz.prog 65/\Means Tryz.prog 65 args hid v hX :=
 zL1 (f:=65) (fn:=Tryz.f65) (sz:=1) (by kernel_rfl) (zI0 (by kernel_rfl)) (by kernel_rfl) (by kernel_rfl) (by kernel_rfl) (by kernel_rfl) (zHS (@zZ7 yo0)) (zHS (@zZW yo0)) fun x xs h hl=>by
  have:=zHS (@zZV yo0 (x::xs) h (by simp) hl);rw[zIL] at this;exact this
theorem zVa:∀ args hid v hX,intrin Tryz.prog Tryz.f123 1 args hid=some (v,hX)->Callable Tryz.prog 123/\Means Tryz.prog 123 args hid v hX :=
 zL1 (f:=123) (fn:=Tryz.f123) (sz:=2) (by kernel_rfl) (zI0 (by kernel_rfl)) (by kernel_rfl) (by kernel_rfl) (by kernel_rfl) (by kernel_rfl) (zHS (@zY4 yo0)) (zHS (@zZz yo0)) fun x xs h hl=>by
  have:=zHS (@zZq yo0 (x::xs) h (by simp) hl);rw[zIL] at this;exact this
theorem zZD:∀ f∈[61,65,123],∀ fn,Tryz.prog.funcs[f]? = some fn->∀ args hid v hX,intrin Tryz.prog fn 1 args hid=some (v,hX)->Callable Tryz.prog f/\Means Tryz.prog f args hid v hX:=by
 intro f hf fn kE;simp only[bD,List.not_mem_nil,or_false] at hf;rcases hf with rfl|rfl|rfl
 ·have e:Tryz.prog.funcs[61]? = some Tryz.f61:=by kernel_rfl
  rw[e] at kE;cases kE;exact zXl
 ·have e:Tryz.prog.funcs[65]? = some Tryz.f65:=by kernel_rfl
  rw[e] at kE;cases kE;exact zXp
 ·have e:Tryz.prog.funcs[123]? = some Tryz.f123:=by kernel_rfl
  rw[e] at kE;cases kE;exact zVa
end Go.Eng
namespace Go.Eng
open Go
section
variable {P:Program} {H:zBd}
theorem zIK[Yo]{f:FuncId}{fn:Func}{sz:Nat}(hf:P.funcs[f]? = some fn:=by kernel_rfl)(hi:(H f).intr=1:=by kernel_rfl)(yJ:(fn.resultTypes[0]?).bind (fun t=>(zB1 P t).bind (szT P))=some sz:=by kernel_rfl):zCC P H f [.nils 0] [] (.own sz []) []:=by
 refine⟨1,fun n hn=>?_⟩;obtain⟨k,rfl⟩:∃ k,n=k+1:=⟨n-1,by omega⟩;show zG2 P H (zCN P H k) Yo.yo zCc (k+1) f _ _=_
 simp only[zG2,hf,hi,intrin,yJ];rw[if_pos (by decide)]
theorem zPl:∀ l:LP,(l.map fun p=>agg [.int .i64 p.1,.int .i64 p.2]).mapM zYA=some l
 |[]=>rfl|x::l=>by
  have ih:=zPl l;simp only[bO,io,ih,zYA];rfl
theorem zOM[Yo]{f:FuncId}{g:Nat}{fn:Func}(l:LP)(hl:l.length<=4294967296)(hb:l.all zXR=true)(hf:P.funcs[f]? = some fn:=by kernel_rfl)(hn:(H f).intr=g+100:=by kernel_rfl):zCC P H f [.bor zAm [] 2 0 l.length,.func g [] []] [.own 2 (l.map fun p=>.agg [.int .i64 p.1,.int .i64 p.2])] (.tup []) [.own 2 ((l.mergeSort zLv).map fun p=>.agg [.int .i64 p.1,.int .i64 p.2])]:=by
 refine⟨1,fun n wI=>?_⟩;obtain⟨k,rfl⟩:∃ k,n=k+1:=⟨n-1,by omega⟩;show zG2 P H (zCN P H k) Yo.yo zCc (k+1) f _ _=_
 have e:zSK g [.bor zAm [] 2 0 l.length,.func g [] []] [.own 2 (l.map fun p=>.agg [.int .i64 p.1,.int .i64 p.2])]=some (.tup [],[.own 2 ((l.mergeSort zLv).map fun p=>.agg [.int .i64 p.1,.int .i64 p.2])]):=by
  show(match(l.map fun p=>agg [.int .i64 p.1,.int .i64 p.2]).mapM zYA with|some ps=>_|none=>none)=_
  rw[zPl];exact if_pos ⟨rfl,rfl,hl,rfl,hb⟩
 simp only[zG2,hf,hn];rw[if_pos (by omega)];have e2:intrin P fn (g+100) [.bor zAm [] 2 0 l.length,.func g [] []] [.own 2 (l.map fun p=>.agg [.int .i64 p.1,.int .i64 p.2])]=zSK g [.bor zAm [] 2 0 l.length,.func g [] []] [.own 2 (l.map fun p=>.agg [.int .i64 p.1,.int .i64 p.2])]:=by
  unfold intrin;split<;>first|(exfalso;omega)|skip
  rw[if_pos (by omega),d4]
 rw[e2];exact e
theorem zVG(cl so:List FuncId)(sf:List (FuncId×FuncId))(h:((range P.funcs.size).all fun f=>beq (H f).intr 0||beq (H f).intr 9||(beq (H f).intr 1&&cl.any (beq f))||(beq (H f).intr 2&&so.any (beq f))||sf.any fun q=>beq f q.1&&beq (H f).intr (q.2+100))=true)
  (hc:∀ f∈cl,∀ fn,P.funcs[f]? = some fn->∀ args hid v hX,intrin P fn 1 args hid=some (v,hX)->Callable P f/\Means P f args hid v hX)
  (hs:∀ f∈so,∀ fn,P.funcs[f]? = some fn->∀ args hid v hX,intrin P fn 2 args hid=some (v,hX)->Callable P f/\Means P f args hid v hX)
  (jo:∀ q∈sf,∀ fn,P.funcs[q.1]? = some fn->∀ args hid v hX,intrin P fn (q.2+100) args hid=some (v,hX)->Callable P q.1/\Means P q.1 args hid v hX):zEZ P H:=fun f fn args hid v hX hf hi hr=>by
 have yI:=(b6.1 hf).1;have:=bj.1 h f (bx.2 yI);rw[bS,bS,bS,bS,bb,bb] at this;rcases this with(((h1|h1)|⟨h1,h2⟩)|⟨h1,h2⟩)|h1
 ·exact absurd (bd h1) hi
 ·rw[bd h1] at hr;simp[intrin] at hr
 ·rw[bd h1] at hr;obtain⟨g,hg,hb⟩:=bP.1 h2;rw[bd hb] at hf ⊢;exact hc g hg fn hf args hid v hX hr
 ·rw[bd h1] at hr;obtain⟨g,hg,hb⟩:=bP.1 h2;rw[bd hb] at hf ⊢;exact hs g hg fn hf args hid v hX hr
 ·obtain⟨q,hq,hb⟩:=bP.1 h1;rw[bb] at hb;rw[bd hb.2] at hr;rw[bd hb.1] at hf ⊢;exact jo q hq fn hf args hid v hX hr
end
end Go.Eng
namespace Go.Eng
open Go
abbrev FP:=Fin 1000000×Fin 1000000
def fpI(x:FP):Int×Int:=((x.1.val:Int),(x.2.val:Int))
def encF(x:FP):List Value:=[.int .i64 (x.1.val:Int),.int .i64 (x.2.val:Int)]
def cfF(x y:FP):Int:=if x.1.val=y.1.val then(x.2.val:Int)-y.2.val else(x.1.val:Int)-y.1.val
def zYD(p:Int×Int):Value := .agg #[.int .i64 p.1,.int .i64 p.2]
def prP(p:Int×Int):PV := .agg [.int .i64 p.1,.int .i64 p.2]
theorem ltF(x y:FP):Go.Proofs.ltOf cfF x y=decide (cfF x y<0):=rfl
theorem swoF:Go.Sort.SWO (Go.Proofs.ltOf cfF) where
 irrefl x:=by rw[ltF];simp[cfF]
 trans x y z h1 h2:=by
  have h1:=of_decide_eq_true (h1:decide (cfF x y<0)=true);have h2:=of_decide_eq_true (h2:decide (cfF y z<0)=true);refine decide_eq_true (?_:cfF x z<0);unfold cfF at *;split at h1<;>split at h2<;>split<;>omega
 ntrans x y z h1 h2:=by
  have h1:=of_decide_eq_false (h1:decide (cfF x y<0)=false);have h2:=of_decide_eq_false (h2:decide (cfF y z<0)=false);refine decide_eq_false (?_:¬ cfF x z<0);unfold cfF at *;split at h1<;>split at h2<;>split<;>omega
theorem totF(x y:FP)(h1:Go.Proofs.ltOf cfF x y=false)(h2:Go.Proofs.ltOf cfF y x=false):x=y:=by
 have h1:=of_decide_eq_false (h1:decide (cfF x y<0)=false);have h2:=of_decide_eq_false (h2:decide (cfF y x<0)=false);unfold cfF at *;have h:x.1.val=y.1.val/\x.2.val=y.2.val:=by split at h1<;>split at h2<;>omega
 exact fu (Fin.ext h.1) (Fin.ext h.2)
theorem zPT:∀ l:LP,l.all zXR=true->∃ d:List FP,l=d.map fpI
 |[],_=>⟨[],rfl⟩|x::l,h=>by
  rw[cO,bb] at h;obtain⟨d,hd⟩:=zPT l h.2;have h1:=h.1;simp only[zXR,bb,decide_eq_true_eq] at h1;refine⟨(⟨x.1.toNat,by omega⟩,⟨x.2.toNat,by omega⟩)::d,?_⟩;rw[bO,<- hd];congr 1;exact fu (by simp only[fpI];omega) (by simp only[fpI];omega)
theorem zXM(d:List FP):(d.mergeSort fun x y=>!(Go.Proofs.ltOf cfF) y x).map fpI=(d.map fpI).mergeSort zLv:=by
 refine List.map_mergeSort fun a _ b _=>?_;rw[ltF];unfold cfF zLv fpI;rw[cA];simp only[bF,decide_eq_false_iff_not,bS,bb,decide_eq_true_eq];split<;>omega
def zFz(l:LP):List Value:=l.flatMap fun p=>[.int .i64 p.1,.int .i64 p.2]
theorem zHV:∀ l:LP,(zFz l).length=l.length*2
 |[]=>rfl|x::l=>by
  have:=zHV l;simp only[zFz,d8,bt,bE,b8] at this ⊢;omega
theorem zKD:∀ (d:List FP) (t:Nat),t<d.length*2->(zFz (d.map fpI))[t]? = some ((encF (d.toArray[t / 2]!))[t % 2]!)
 |[],t,h=>absurd h (by simp)|x::d,0,_=>by simp[zFz,fpI,encF]|x::d,1,_=>by simp[zFz,fpI,encF]|x::d,t+2,h=>by
  have ih:=zKD d t (by rw[bE] at h;omega);have e1:(t+2) / 2=t / 2+1:=by omega
  have e2:(t+2) % 2=t % 2:=by omega
  rw[e1,e2];have e3:(x::d).toArray[t / 2+1]! = d.toArray[t / 2]!:=by simp
  rw[e3,<- ih];simp[zFz]
theorem zXw(d:List FP):(Go.Sort.flatK encF 2 d.toArray).toList=zFz (d.map fpI):=by
 apply cW;intro t;by_cases h:t<d.length*2
 ·rw[zKD d t h,bU,cP (by rw[Go.Sort.size_flatK];simpa using h)];have:=Go.Sort.get_flatK encF 2 d.toArray t (by simpa using h);rw[getElem!_pos _ t (by rw[Go.Sort.size_flatK];simpa using h)] at this;rw[this]
 ·rw[cV (by rw[fH,Go.Sort.size_flatK];simpa using h),cV (by rw[zHV,bf];omega)]
section
variable {P:Program} {H:zBd}
theorem zSD:∀ {xs:List PV} {l:LP},xs.mapM zYA=some l->xs=l.map prP
 |[],l,h=>by
  simp at h;subst h;rfl
 |x :: xs,l,h=>by
  simp only[io,bind,iK,pure,ba] at h;obtain⟨n,hn,l',gi,rfl⟩:=h;unfold zYA at hn;split at hn
  ·simp only[ba] at hn;subst hn;rw[bO,zSD (xs:=xs) gi];rfl
  ·cases hn
theorem zPs{w:World}{Φ:Nat->Prop}{A:Al}:∀ {l:LP} {us:List Value} {L:LN},zA5 w Φ A (l.map prP) us L->us=l.map zYD/\L=[]
 |[],us,L,h=>h|x::l,us,L,h=>by
  obtain⟨v,vs,L1,L2,rfl,rfl,⟨ws,rfl,v1,vs1,M1,M2,h1,rfl,⟨rfl,rfl⟩,v2,vs2,M3,M4,rfl,rfl,⟨rfl,rfl⟩,rfl,rfl⟩,h2⟩:=h;obtain⟨rfl,rfl⟩:=zPs h2;refine⟨?_,rfl⟩;rw[bO];congr 1;unfold zYD;congr 1;exact ia h1
theorem zPH{w:World}{Φ:Nat->Prop}{A:Al}:∀ l:LP,zA5 w Φ A (l.map prP) (l.map zYD) []
 |[]=>⟨rfl,rfl⟩|x::l=>⟨_,_,[],[],rfl,rfl,⟨_,rfl,_,_,[],[],rfl,rfl,⟨rfl,rfl⟩,_,_,[],[],rfl,rfl,⟨rfl,rfl⟩,rfl,rfl⟩,zPH l⟩
theorem zMq:∀ l:LP,flat (l.map zYD)=zFz l
 |[]=>rfl|x::l=>by
  rw[bO,zCy,zMq l];rfl
theorem zLY(F:List Value)(o:Nat)(c:Array Value)(h:o+F.length<=c.size)(k:Nat)(u:Value)(hk:F[k]? = some u) :
  (Go.Sort.putCells id o F.toArray c)[o+k]? = some u:=by
 obtain⟨yI,hk⟩:=bg.1 hk;rw[Go.Sort.putCells,Array.getElem?_mapIdx,cP (by omega),bz,if_pos (by simpa using yI)];rw[show o+k-o=k by omega,getElem!_pos _ k (by simpa using yI)];simp only[List.getElem_toArray,id];rw[hk]
theorem zOJ{f:FuncId}{g:Nat}(h0:∀ p cap w,Calls P f #[.slice p 0 cap,.func (.func g) #[] #[]] w fun e w'=>e = .returned (.tuple #[])/\w'=w)
  (h1:∀ (blk off cap:Nat) (d:List FP) (w:World),Go.Sort.HoldsK encF 2 w blk off d.toArray->blk<w.heap.size->d.length<4611686018427387904 ->
   Calls P f #[.slice (some ⟨blk,off,none⟩) d.length cap,.func (.func g) #[] #[]] w fun e w'=>e = .returned (.tuple #[])/\∃ n os,w'=Go.Proofs.sortWorldK encF 2 w blk off n (d.mergeSort fun x y=>!(Go.Proofs.ltOf cfF) y x).toArray os)
  (d:List FP) (hl:d.length<4611686018427387904):Means P f [.bor zAm [] 2 0 d.length,.func g [] []] [.own 2 ((d.map fpI).map prP)] (.tup []) [.own 2 (((d.map fpI).mergeSort zLv).map prP)]:=by
 intro w Φ rv E L vs hE uB C yJ yq jf;have e0:E 0 = .bor zAm [] 2 0 d.length:=by rw[hE 0 (by decide)];rfl
 have e1:E 1 = .func g [] []:=by rw[hE 1 (by decide)];rfl
 have eH:E zAm = .own 2 ((d.map fpI).map prP):=by rw[hE zAm (by decide)];rfl
 have uc:=yq 0 (by simp);have kh:=yq 1 (by simp);have r1:=C.rep 1;rw[e1] at r1;obtain⟨_,fs,qs,qp,⟨vh,_⟩,⟨vk,_⟩⟩:=r1;have vh:fs=#[]:=ia vh;have vk:qs=#[]:=ia vk;rw[vh,vk] at qp;have hvs0:vs=#[rv 0,rv 1]:=by
  apply iq;intro i
  match i with
  |0=>exact uc|1=>exact kh|i+2=>
   have:vs.size=2:=yJ;rw[fQ (by omega)];rfl
 have r0:=C.rep 0;rw[e0] at r0;obtain⟨hL0,hg,⟨a,cap,vR,yZ,y9,ye⟩,uL⟩:=r0;have rH:=C.rep zAm;rw[eH] at rH;have jE:zBZ (rv 0) (rv zAm) 2 0 d.length:=by
  obtain⟨sz,xs,h3,h4,h5⟩:=uL (rv zAm) (.own 2 ((d.map fpI).map prP)) (by rw[eH];rfl) rfl;subst h4;exact h5
 have gave:∀ (rv':Nat->Value) (E':Nat->PV),Gave (.tup []) (.tuple #[]) rv' E':=fun rv' E'=>⟨fun h=>absurd rfl (h []),fun ps yj=>⟨#[],rfl,by cases yj;rfl,fun j p h=>by cases yj;simp at h⟩⟩
 cases LA:d with
 |nil=>
  subst LA;rw[hvs0,vR,qp];refine(h0 a cap w).mono ?_;rintro e w' ⟨rfl,rfl⟩;refine⟨_,Φ,rv,E,L,rfl,C,rfl,fun j hj=>?_,gave _ _⟩;have:j=0:=by simpa using hj
  subst this;exact⟨by rw[bR,eH];simp,rfl⟩
 | cons x0 l0 =>
  rw[<- LA];have hI:d≠[]:=by rw[LA];simp
  rcases rH with⟨hx,_⟩|⟨a0,n,c,us,L',hL,hv,hsp0,gz,yG,yH,yO,⟨w8,_⟩,jO,j3⟩
  ·exact absurd (List.map_eq_nil_iff.1 (List.map_eq_nil_iff.1 hx)) hI
  obtain⟨rfl,rfl⟩:=zPs j3;rw[zMq] at jO;rw[hv] at jE;simp only[zBZ,fl,dE] at jE;obtain⟨hv0',_⟩:=jE;have hZ:((d.map fpI).map prP).length=d.length:=by simp
  rw[hZ] at gz jO hv;have jx:∀ k u,(zFz (d.map fpI))[k]? = some u->c[a0.off+k]? = some u:=by
   intro k u hk;rw[<- jO] at hk;exact zDq hk
  have hrow':=yG;obtain⟨et,het⟩:=hrow';have uG:a0.block<w.heap.size:=(b6.1 het).1;have hFl:(zFz (d.map fpI)).length=d.length*2:=by rw[zHV,bf]
  have hH:Go.Sort.HoldsK encF 2 w a0.block (a0.off+0) d.toArray:=by
   intro j hj;have hj':j<d.length*2:=by simpa using hj
   refine⟨?_,by simp[World.frozen?,het]⟩;rw[zCW yG.any,bR];refine jx j _ ?_;rw[zKD d j hj'];have:=Go.Sort.get_flatK encF 2 d.toArray j (by simpa using hj');rw[this];rfl
  rw[hvs0,hv0',qp];refine(h1 a0.block (a0.off+0) n d w hH uG hl).mono ?_;rintro e w' ⟨rfl,k,os,rfl⟩;rw[bR];have hS:=zXM d;have gZ:((d.map fpI).mergeSort zLv).length=d.length:=by rw[List.length_mergeSort,bf]
  generalize hm:d.mergeSort (fun x y=>!(Go.Proofs.ltOf cfF) y x)=m at *;have hFm:=zXw m;rw[hS] at hFm;generalize (d.map fpI).mergeSort zLv=S at *;have hSF:(zFz S).length=d.length*2:=by rw[zHV,gZ]
  have hpr:Go.Proofs.sortWorldK encF 2 w a0.block a0.off k m.toArray os=Go.Sort.grow (Go.Sort.putRow id (Go.Sort.ahead w k) a0.block a0.off (zFz S).toArray) os:=by
   unfold Go.Proofs.sortWorldK Go.Sort.putRowK;rw[<- hFm,Array.toArray_toList]
  rw[hpr];have heap1:∀ b,(Go.Sort.putRow id (Go.Sort.ahead w k) a0.block a0.off (zFz S).toArray).heap[b]? = if a0.block=b then(w.heap[b]?).map (Go.Sort.onCells (Go.Sort.putCells id a0.off (zFz S).toArray)) else w.heap[b]?:=by
   intro b;simp only[Go.Sort.putRow,Go.Sort.mapBlock,Go.Sort.ahead,d7]
  have hbs1:∀ b,b<w.heap.size->(Go.Sort.grow (Go.Sort.putRow id (Go.Sort.ahead w k) a0.block a0.off (zFz S).toArray) os).heap[b]? = if a0.block=b then(w.heap[b]?).map (Go.Sort.onCells (Go.Sort.putCells id a0.off (zFz S).toArray)) else w.heap[b]?:=by
   intro b hb;rw[Go.Sort.heap_grow_old _ _ (by simpa using hb),heap1]
  have j8:zEY (Go.Sort.grow (Go.Sort.putRow id (Go.Sort.ahead w k) a0.block a0.off (zFz S).toArray) os) a0.block (Go.Sort.putCells id a0.off (zFz S).toArray c):=by
   refine⟨et,?_⟩;rw[hbs1 _ uG,if_pos rfl,het];rfl
  have C1:=C.take (s:=zAm) (g:=zAa) (by decide) (bi _);have hgh:zAm≠zAa:=by decide
  have C2:=C1.make (w':=Go.Sort.grow (Go.Sort.putRow id (Go.Sort.ahead w k) a0.block a0.off (zFz S).toArray) os) (fun s=>beq s zAa) (fun s hs=>by rw[bd hs];exact bi _) (g:=zAa) (bi _) (p := .own 2 (S.map prP)) (v:=rv zAm) (Lp:=[a0.block])
   (fun A hA=>.inr ⟨a0,n,_,S.map zYD,[],rfl,by rw[hv];simp[gZ],hsp0,by simpa[gZ] using gz,j8,by simpa[Go.Sort.putCells] using yH,fun x hx=>by
     obtain⟨y,_,rfl⟩:=bQ.1 hx;rfl,⟨fun u hu=>by
     obtain⟨y,_,rfl⟩:=bQ.1 hu;rfl,by
     rw[f8,f8];exact de fun _ _=>rfl⟩,by
     rw[zMq,bf,gZ];refine zG4 hSF fun j u hj=>?_;exact zLY _ _ _ (by rw[hSF];omega) _ _ hj,zPH _⟩)
   (by simp) (fun b hb=>.inl ⟨zAa,by rw[zAj,hL];exact bD.2 (.inl (by simpa using hb)),by decide⟩) (by simp) (fun b hb hc=>by
    rw[hbs1 b hb,if_neg];intro hab;have:=hc zAa (by rw[zAj,hL,<- hab];simp);exact absurd this (by decide)) ⟨rfl,rfl,rfl⟩
  have C3:=C2.lay (d:=zAm) (g:=zAa) (by decide) (bi _);refine⟨_,_,_,_,_,rfl,C3,rfl,fun j hj=>?_,gave _ _⟩;have:j=0:=by simpa using hj
  subst this;rw[bR];refine⟨?_,?_⟩
  ·rw[zAg hgh,zAj,zAj];rfl
  ·rw[zAj,zAj]
theorem sortF_ok{f:FuncId}{g:Nat}{fn:Func}(hf:P.funcs[f]? = some fn)(hb:fn.body.isSome=true)(h0:∀ p cap w,Calls P f #[.slice p 0 cap,.func (.func g) #[] #[]] w fun e w'=>e = .returned (.tuple #[])/\w'=w)
  (h1:∀ (blk off cap:Nat) (d:List FP) (w:World),Go.Sort.HoldsK encF 2 w blk off d.toArray->blk<w.heap.size->d.length<4611686018427387904 ->
   Calls P f #[.slice (some ⟨blk,off,none⟩) d.length cap,.func (.func g) #[] #[]] w fun e w'=>e = .returned (.tuple #[])/\∃ n os,w'=Go.Proofs.sortWorldK encF 2 w blk off n (d.mergeSort fun x y=>!(Go.Proofs.ltOf cfF) y x).toArray os) :
  ∀ args hid v hX,intrin P fn (g+100) args hid=some (v,hX)->Callable P f/\Means P f args hid v hX:=by
 have hc:Callable P f:=⟨fn,hf,by cases hx:fn.body with
  |none=>rw[hx] at hb;cases hb|some _=>rfl⟩
 intro args hid v hX h;refine⟨hc,?_⟩;have h2:zSK g args hid=some (v,hX):=by
  unfold intrin at h;split at h<;>first|(exfalso;omega)|skip
  rw[if_pos (by omega),d4] at h;exact h
 unfold zSK at h2;split at h2
 ·split at h2
  ·rename_i ps qH;split at h2
   ·rename_i vY;obtain⟨rfl,rfl,kC,rfl,kT⟩:=vY;simp only[ba,bB] at h2;obtain⟨rfl,rfl⟩:=h2;rw[zSD qH];obtain⟨d,rfl⟩:=zPT ps kT;rw[bf];exact zOJ h0 h1 d (Nat.lt_of_le_of_lt (by simpa using kC) (by decide))
   ·cases h2
  ·cases h2
 ·cases h2
end
end Go.Eng
set_option maxHeartbeats 1000000
namespace Go.Proofs
open Go.Shelf
def Tryz.sortGap_ren:Go.Shelf.Ren:=⟨fun|6=>146|15=>133|14=>194|28=>185|29=>186|20=>213|21=>214|22=>215|23=>216|24=>217|25=>218|26=>219|27=>220|46=>225|47=>206|48=>207|49=>226|50=>227|57=>228|n=>n,fun|22=>40|24=>108|25=>197|3=>3|39=>180|0=>0|53=>174|55=>225|4=>4|46=>217|45=>216|50=>221|5=>5|9=>9|66=>235|70=>116|76=>247|77=>248|n=>n,fun|n=>n⟩
theorem Tryz.sortGap:Go.Proofs.SlLaysF0.n6 Tryz.prog Tryz.sortGap_ren:={
 mixed:=by kernel_rfl
 f6:=⟨Tryz.f146.name,by decide,Tryz.func146.trans (congrArg some (by kernel_rfl))⟩
 f14:=⟨Tryz.f194.name,by decide,Tryz.func194.trans (congrArg some (by kernel_rfl))⟩
 f15:=Tryz.func133.trans (congrArg some (by kernel_rfl))
 f20:=⟨Tryz.f213.name,by decide,Tryz.func213.trans (congrArg some (by kernel_rfl))⟩
 f21:=⟨Tryz.f214.name,by decide,Tryz.func214.trans (congrArg some (by kernel_rfl))⟩
 f22:=⟨Tryz.f215.name,by decide,Tryz.func215.trans (congrArg some (by kernel_rfl))⟩
 f23:=⟨Tryz.f216.name,by decide,Tryz.func216.trans (congrArg some (by kernel_rfl))⟩
 f24:=⟨Tryz.f217.name,by decide,Tryz.func217.trans (congrArg some (by kernel_rfl))⟩
 f25:=⟨Tryz.f218.name,by decide,Tryz.func218.trans (congrArg some (by kernel_rfl))⟩
 f26:=⟨Tryz.f219.name,by decide,Tryz.func219.trans (congrArg some (by kernel_rfl))⟩
 f27:=⟨Tryz.f220.name,by decide,Tryz.func220.trans (congrArg some (by kernel_rfl))⟩
 f28:=Tryz.func185.trans (congrArg some (by kernel_rfl))
 f29:=Tryz.func186.trans (congrArg some (by kernel_rfl))
 f46:=⟨Tryz.f225.name,by decide,Tryz.func225.trans (congrArg some (by kernel_rfl))⟩
 f47:=Tryz.func206.trans (congrArg some (by kernel_rfl))
 f48:=Tryz.func207.trans (congrArg some (by kernel_rfl))
 f49:=⟨Tryz.f226.name,by decide,Tryz.func226.trans (congrArg some (by kernel_rfl))⟩
 f50:=⟨Tryz.f227.name,by decide,Tryz.func227.trans (congrArg some (by kernel_rfl))⟩
 f57:=⟨Tryz.f228.name,by decide,Tryz.func228.trans (congrArg some (by kernel_rfl))⟩
 t0:=Tryz.underlying0
 a0:=Tryz.isAgg0
 z0:=Tryz.sizeOf0
 v0:=Tryz.zeroValue0
 t3:=Tryz.underlying3
 a3:=Tryz.isAgg3
 z3:=Tryz.sizeOf3
 v3:=Tryz.zeroValue3
 t4:=Tryz.underlying4
 a4:=Tryz.isAgg4
 z4:=Tryz.sizeOf4
 v4:=Tryz.zeroValue4
 t5:=Tryz.underlying5
 a5:=Tryz.isAgg5
 z5:=Tryz.sizeOf5
 v5:=Tryz.zeroValue5
 t9:=Tryz.underlying9
 a9:=Tryz.isAgg9
 z9:=Tryz.sizeOf9
 v9:=Tryz.zeroValue9
 t22:=Tryz.underlying40
 a22:=Tryz.isAgg40
 z22:=Tryz.sizeOf40
 v22:=Tryz.zeroValue40
 t25:=Tryz.underlying197
 a25:=Tryz.isAgg197
 z25:=Tryz.sizeOf197
 v25:=Tryz.zeroValue197
 t39:=Tryz.underlying180
 a39:=Tryz.isAgg180
 z39:=Tryz.sizeOf180
 v39:=Tryz.zeroValue180
 t45:=Tryz.underlying216
 a45:=Tryz.isAgg216
 z45:=Tryz.sizeOf216
 v45:=Tryz.zeroValue216
 t46:=Tryz.underlying217
 a46:=Tryz.isAgg217
 z46:=Tryz.sizeOf217
 v46:=Tryz.zeroValue217
 t50:=Tryz.underlying221
 a50:=Tryz.isAgg221
 z50:=Tryz.sizeOf221
 v50:=Tryz.zeroValue221
 t53:=Tryz.underlying174
 a53:=Tryz.isAgg174
 z53:=Tryz.sizeOf174
 v53:=Tryz.zeroValue174
 t55:=Tryz.underlying225
 a55:=Tryz.isAgg225
 z55:=Tryz.sizeOf225
 v55:=Tryz.zeroValue225
 t66:=Tryz.underlying235
 a66:=Tryz.isAgg235
 z66:=Tryz.sizeOf235
 v66:=Tryz.zeroValue235
 t70:=Tryz.underlying116
 a70:=Tryz.isAgg116
 z70:=Tryz.sizeOf116
 v70:=Tryz.zeroValue116
 t76:=Tryz.underlying247
 a76:=Tryz.isAgg247
 z76:=Tryz.sizeOf247
 v76:=Tryz.zeroValue247
 t77:=Tryz.underlying248
 a77:=Tryz.isAgg248
 z77:=Tryz.sizeOf248
 v77:=Tryz.zeroValue248}
theorem Tryz.cmp147(x y:Go.Eng.FP)(W:World):Calls Tryz.prog 147 #[.agg #[.int .i64 (x.1.val:Int),.int .i64 (x.2.val:Int)],.agg #[.int .i64 (y.1.val:Int),.int .i64 (y.2.val:Int)]] W fun e w'=>e = .returned (.int .i64 (Go.Eng.cfF x y))/\∃ q os',w'=Go.Sort.grow (W.drewN q) os':=by
 go_enter Tryz.func147,Tryz.ntmps147
 go_wp2
 ·rename_i h;have h2:¬ (x.1.val:Int)=y.1.val:=by simpa using h
  have e1:Go.Eng.cfF x y=(x.1.val:Int)-y.1.val:=by
   unfold Go.Eng.cfF;rw[if_neg (by omega)]
  go_ret
  exact⟨by rw[e1];rfl,0,_,by rw[Go.Sort.alloc_eq_grow,Go.Sort.alloc_eq_grow,Go.Sort.grow_grow];rfl⟩
 ·rename_i h;have h2:(x.1.val:Int)=y.1.val:=by simpa using h
  have e1:Go.Eng.cfF x y=(x.2.val:Int)-y.2.val:=by
   unfold Go.Eng.cfF;rw[if_pos (by omega)]
  go_ret
  exact⟨by rw[e1];rfl,0,_,by rw[Go.Sort.alloc_eq_grow,Go.Sort.alloc_eq_grow,Go.Sort.grow_grow];rfl⟩
theorem Tryz.sortFs:∀ q∈[((146:FuncId),(147:FuncId))],∀ fn,Tryz.prog.funcs[q.1]? = some fn->∀ args hid v hX,Go.Eng.intrin Tryz.prog fn (q.2+100) args hid=some (v,hX)->Go.Eng.Callable Tryz.prog q.1/\Go.Eng.Means Tryz.prog q.1 args hid v hX:=fun q hq fn kE=>by
 rw[bw] at hq;subst hq;have e:Tryz.prog.funcs[146]? = some Tryz.f146:=Tryz.func146;rw[e] at kE;cases kE;have eg:∀ args w,(callFunc 147 args).run Tryz.prog w = .ok (.enter 147 args) w:=enters_of Tryz.func147 (by kernel_rfl) rfl;refine Go.Eng.sortF_ok e rfl (fun p cap w=>AnyF.slices_SortFunc_none (Tryz.sortGap) p cap (.func (.func 147) #[] #[]) w) fun blk off cap d w h1 h2 h3=>?_;exact AnyQ.slices_SortFunc_total Tryz.sortGap 2 Tryz.isAgg108 Tryz.sizeOf108 Go.Eng.encF (fun _=>rfl) (fun x v hv=>by simp[Go.Eng.encF] at hv;rcases hv with rfl|rfl<;>rfl) Go.Eng.cfF Go.Eng.swoF 147 #[] blk off cap d.toArray w eg (fun _ _ _ _ x y=>Tryz.cmp147 x y _) h1 h2 h3 Go.Eng.totF
end Go.Proofs
namespace Go.Proofs.YtppbomajegnkeaaGreat
open Go.ChangeShapes Go.WideShapes Go.ChangeAt Go.RowKit Go.Eng
theorem Tryz.own:ownKnob Tryz.prog.godebug=none:=by kernel_rfl
theorem Tryz.laidOut:laidOutB Tryz.prog=true:=by kernel_rfl
theorem zFI:Tryz.prog.follows .mixedOrders=true:=by kernel_rfl
theorem hnm:zE0 Tryz.prog:=zI0 (by kernel_rfl)
theorem zN4:Fit Tryz.prog zHk:=zYB (by kernel_rfl)
theorem hin:zEZ Tryz.prog zHk:=zVG [61,65,123] [] [(146,147)] (by kernel_rfl) zZD (fun _ h=>by cases h) Tryz.sortFs
end Go.Proofs.YtppbomajegnkeaaGreat
namespace Go.Eng
open Go
theorem zYL{k:IntKind}{p:PV}(h:zRJ (false,[.num k]) p):∃ n,p = .int k n/\k.min<=n/\n<=k.max:=by
 simp only[zRJ,bq,if_false] at h;obtain⟨q,qs,hc,⟨n,rfl,hn⟩,vk⟩:=h;cases hc;exact⟨n,rfl,hn⟩
theorem zYj{k:IntKind}{p:PV}(h:zRJ (false,[.list false [.num k]]) p):∃ l:LI,p = .sl (l.map (.int k))/\l.length<=maxLen/\∀ n∈l,k.min<=n/\n<=k.max:=by
 simp only[zRJ,bq,if_false] at h;obtain⟨q,qs,hc,h,vk⟩:=h;cases hc;exact zQm h
theorem zXd{ss:List Sh}{ag:Bool}{α:Type}{R:α->Prop}{enc:α->PV}{p:PV}(hr:∀ x,zCT ss x.cells->x.isAgg=ag->∃ a,x=enc a/\R a)(h:zRJ (false,[.list ag ss]) p):∃ l:List α,p = .sl (l.map enc)/\l.length<=maxLen/\∀ a∈l,R a:=by
 simp only[zRJ,bq,if_false] at h;obtain⟨q,qs,hc,⟨xs,rfl,hl,hx⟩,vk⟩:=h;cases hc;obtain⟨l,rfl,hb⟩:=zMB (α:=α) (R:=R) (enc:=enc) (xs:=xs) fun x kP=>hr x (hx x kP).1 (hx x kP).2;exact⟨l,rfl,by simpa using hl,hb⟩
theorem zPf{ss:List Sh}{ag:Bool}{α:Type}{R:α->Prop}{enc:α->PV}{p:PV}(hr:∀ x,zCT ss x.cells->x.isAgg=ag->∃ a,x=enc a/\R a)(h:zZQ (.list ag ss) p):∃ l:List α,p = .sl (l.map enc)/\l.length<=maxLen/\∀ a∈l,R a:=by
 obtain⟨xs,rfl,hl,hx⟩:=h;obtain⟨l,rfl,hb⟩:=zMB (α:=α) (R:=R) (enc:=enc) (xs:=xs) fun x kP=>hr x (hx x kP).1 (hx x kP).2;exact⟨l,rfl,by simpa using hl,hb⟩
theorem zWx{x:PV}(h:x.isAgg=true):x = .agg x.cells:=by cases x<;>simp[PV.isAgg] at h;rfl
theorem zYO{x y:PV}(h:x.isAgg=false)(hc:x.cells=[y]):x=y:=by
 cases x<;>simp[PV.isAgg] at h<;>simpa[PV.cells] using hc
end Go.Eng
set_option maxRecDepth 10000
set_option maxHeartbeats 4000000
namespace Go.Eng
open Go Go.Proofs
theorem zAp{α:Type}{l:List α}{i:Nat}{d:α}(h:i<l.length):l.getD i d=l[i]:=by simp[List.getD,bm h]
theorem zDM{α β:Type}{f:β->α->β}{b:β}{l:List α}{i:Nat}{d:α}(h:i<l.length):(l.take (i+1)).foldl f b=f ((l.take i).foldl f b) (l.getD i d):=by
 rw[zAp h];exact zQ1 h
theorem zEw{α:Type}{l m:List α}{i:Nat}{d:α}(h:i<l.length)(h':i<m.length)(ha:l.take i=m.take i)(he:l.getD i d=m.getD i d):l.take (i+1)=m.take (i+1):=by
 rw[zAp h,zAp h'] at he;rw[fk,fk,ha,bm h,bm h',he]
theorem zBs{α:Type}{l:List α}{i:Nat}{d:α}(h:i<l.length):l.take (i+1)=l.take i++[l.getD i d]:=by
 rw[fk,bm h,zAp h];rfl
theorem zBt{α:Type}{l:List α}{d:α}{p:α->Prop}(h:∀ x∈l,p x)(i:Nat)(hi:i<l.length):p (l.getD i d):=by
 rw[zAp hi];exact h _ (cu hi)
theorem zCY{l:LI}{i j:Nat}{v:Int}:(l.set i v).getD j 0=if i=j/\j<l.length then v else l.getD j 0:=by
 simp only[cE,d9];by_cases h:i=j
 ·subst h;by_cases h2:i<l.length
  ·simp[h2]
  ·simp[h2]
 ·simp[h]
def zEi{α:Type}(φ:α->Bool)(l:List α):Int:=if l.findIdx φ<l.length then(l.findIdx φ:Int) else -1
theorem zBK {α : Type} {φ : α -> Bool} {l : List α} {i : Nat} (h : i < l.length) (h0 : ∀ j (hj : j < i), φ (l[j]'(by omega)) = false) (hi : φ l[i] = true) : zEi φ l = i := by
 have:l.findIdx φ=i:=by
  rw[List.findIdx_eq h];exact⟨hi,fun j hj=>by simpa using h0 j hj⟩
 simp[zEi,this,h]
theorem zB6 {α : Type} {φ : α -> Bool} {l : List α} (h0 : ∀ j (hj : j < l.length), φ (l[j]'hj) = false) : zEi φ l = -1 := by
 have:¬ l.findIdx φ<l.length:=by
  intro h;have:=fb (w:=h);rw[h0 _ h] at this;cases this
 simp[zEi,this]
theorem zDI{α:Type}(φ:α->Bool)(l:List α):decide (zEi φ l>=0)=l.any φ:=by
 unfold zEi;split
 ·rename_i h;have:=fb (w:=h);have h2:l.any φ=true:=bP.2 ⟨_,cu h,this⟩;rw[h2];simp
 ·rename_i h;have h2:l.any φ=false:=by
   rw[cD];intro x hx hp;exact h (List.findIdx_lt_length_of_exists ⟨x,hx,hp⟩)
  rw[h2];simp
structure Nw where
 h:Int
 l:LP
 n:List (Int×Bool)
 s:List LI
abbrev prV(x:Int×Int):PV := .agg [I x.1,I x.2]
abbrev ntV(x:Int×Bool):PV := .agg [I x.1,.bool x.2]
abbrev prs(l:LP):PV := .sl (l.map prV)
abbrev zDl(l:LI):PV := .own 1 (l.map I)
abbrev nwV(n:Nw):PV := .agg [I n.h,.sl (n.l.map prV),.sl (n.n.map ntV),.sl (n.s.map zA1)]
abbrev nwO(n:Nw):PV := .agg [I n.h,.own 2 (n.l.map prV),.own 2 (n.n.map ntV),.own 1 (n.s.map zDl)]
instance:FrzOf zDl zA1:=⟨fun x=>by simp only[zAY,zGd]⟩
def inB(n lo hi:Int):Bool:=decide (lo<=n)&&decide (n<=hi)
def pr2(x:Int×Int):Int×Int:=(if x.2<x.1 then x.2 else x.1,if x.2>x.1 then x.2 else x.1)
abbrev FG[Yo](f:FuncId)(args:List PV)(v:PV):Prop:=zCC Tryz.prog zHk f args [] v []
section
variable [Yo]
theorem f107(n lo hi:Int):FG 107 [I n,I lo,I hi] (.bool (inB n lo hi)):=by
 refine zAe Tryz.f107 ?_;refine zAh 1<|zAl 4<|zDh 10 (n>=lo) (fun k0=>(S_g 5<|zAk<|E_a [] an (bool (decide (n<=hi))) [] ?_ rfl)) (fun k0=>(S_g 5<|zAk<|E_a [] an (bool false) [] ?_ rfl))
 ·simp only[inB,decide_eq_true k0,ci]
 ·simp only[inB,decide_eq_false k0,di]
theorem f111(n lo hi:Int):FG 111 [I n,I lo,I hi] (.bool (!inB n lo hi)):=by
 have e:(!inB n lo hi)=(decide (n<lo)||decide (hi<n)):=by
  unfold inB;by_cases h1:lo<=n<;>by_cases h2:n<=hi<;>simp[h1,h2]<;>omega
 rw[e];refine zAe Tryz.f111 ?_;refine zAh 1<|zAl 4<|zDh 10 (n<lo) (fun k0=>(S_g 5<|zAk<|E_a [] an (bool true) [] (by simp[*]) rfl)) (fun k0=>(S_g 5<|zAk<|E_a [] an (bool (decide (n>hi))) [] (by simp[*]) rfl))
theorem f165(n k:Int):FG 165 [I n,.sl [I k]] (I (max n k)):=by
 refine zAe Tryz.f165 ?_;refine zAh 1<|zAc<|zAl 1<|zAn 1<|S_g 1<|zAd 0 ?_
 refine zAo (fun(i,v)=>i=0/\v=n\/i=1/\v=if k>n then k else n) (fun(i,v)=>[(0,I v),(9,I (i:Nat))]) (fun(i,_)=>1-i) ((0:Nat),n) (.inl ⟨rfl,rfl⟩) fun(i,v) hi=>?_;rcases hi with⟨rfl,rfl⟩|⟨rfl,rfl⟩
 ·refine zAh 1<|zAc<|zBD<|zAf<|zAc<|zAd 1<|zAh 3<|zAb<|S_g 4<|zAb<|S_g 2 ?_
  exact rnd (1,if k>v then k else v) (.inr ⟨rfl,rfl⟩) (by simp only;omega)
 ·refine zAh 1<|zAc<|zAD<|zAq 0<|zAh 2<|zAk<|E_a [] an (I (if k>n then k else n)) [] ?_ rfl
  rw[Int.max_def];by_cases h:k>n
  ·rw[if_pos h,if_pos (by omega)]
  ·rw[if_neg h];split
   ·have:n=k:=by omega
    rw[this]
   ·rfl
theorem f110(x:Int×Int):FG 110 [prV x] (prV (pr2 x)):=by
 refine zAe Tryz.f110 ?_;refine zAh 2<|zAl 1<|zAn 1<|zAn 1<|zAn 2<|zAn 1<|zAn 1<|zAn 1<|S_g 4<|zAk E_0
theorem f109(n:Nw)(x:Int)(hb:1<=n.h/\n.h<=10):FG 109 [nwV n,I x] (.bool (inB x 0 (n.h-1))):=by
 refine zAe Tryz.f109 ?_;refine zAh 2<|zAl 3<|S_a [(1,.v (I (n.h-1)))] (ap ((zBY rfl (by omega)):I (IntKind.i64.wrap (n.h-1))=I (n.h-1)) an)<|S_a [(10,.ret (bool (inB x 0 (n.h-1))) [])] (ap (f107 x (0) (n.h-1)) an)<|S_g 1<|zAk E_0
theorem f106(n:Nw)(x:Int)(hb:n.n.length<=8):FG 106 [nwV n,I x] (.bool (inB x 0 (n.n.length-1))):=by
 refine zAe Tryz.f106 ?_;refine zAh 2<|zAl 3<|S_a [(0,.n n.n.length)] (ap (lnS ntV n.n) an)<|S_a [(1,.v (I ((n.n.length:Int)-1)))] (ap ((zBY rfl (by omega)):I (IntKind.i64.wrap ((n.n.length:Int)-1))=I ((n.n.length:Int)-1)) an)<|S_a [(10,.ret (bool (inB x 0 ((n.n.length:Int)-1))) [])] (ap (f107 x (0) ((n.n.length:Int)-1)) an)<|S_g 1<|zAk E_0
end
end Go.Eng
namespace Go.Eng
open Go
abbrev zae:Sh := .list true [.num .i64,.num .i64]
abbrev zal:Sh := .list true [.num .i64,.bool]
abbrev zZS:Sh := .list false [.list false [.num .i64]]
theorem zWn(x:PV)(h:zCT [.num .i64,.num .i64] x.cells)(ha:x.isAgg=true):∃ r:Int×Int,x=prV r/\True:=by
 obtain⟨p1,q1,hc,⟨w,rfl,_⟩,p2,q2,rfl,⟨s,rfl,_⟩,h3⟩:=h;simp only[zCT] at h3;subst h3;exact⟨(w,s),by rw[zWx ha,hc],trivial⟩
theorem zZr(x:PV)(h:zCT [.num .i64,.bool] x.cells)(ha:x.isAgg=true):∃ r:Int×Bool,x=ntV r/\True:=by
 obtain⟨p1,q1,hc,⟨w,rfl,_⟩,p2,q2,rfl,⟨s,rfl⟩,h3⟩:=h;simp only[zCT] at h3;subst h3;exact⟨(w,s),by rw[zWx ha,hc],trivial⟩
theorem zW1(x:PV)(h:zCT [.list false [.num .i64]] x.cells)(ha:x.isAgg=false):∃ r:LI,x=zA1 r/\True:=by
 obtain⟨p1,q1,hc,h1,h2⟩:=h;simp only[zCT] at h2;subst h2;obtain⟨l,rfl,_⟩:=zQm h1;exact⟨l,zYO ha hc,trivial⟩
theorem zX5{p:PV}(h:zRJ (true,[.num .i64,zae,zal,zZS]) p):∃ n:Nw,p=nwV n:=by
 simp only[zRJ,if_true] at h;obtain⟨cs,rfl,p1,q1,rfl,⟨c,rfl,_⟩,p2,q2,rfl,h2,p3,q3,rfl,h3,p4,q4,rfl,h4,h5⟩:=h;simp only[zCT] at h5;subst h5;obtain⟨l,rfl,_⟩:=zPf zWn h2;obtain⟨n,rfl,_⟩:=zPf zZr h3;obtain⟨s,rfl,_⟩:=zPf zW1 h4;exact⟨⟨c,l,n,s⟩,rfl⟩
theorem zVt{p:PV}(h:zRJ (false,[zae]) p):∃ l:LP,p=prs l:=by
 obtain⟨l,rfl,_⟩:=zXd zWn h;exact⟨l,rfl⟩
end Go.Eng
set_option maxRecDepth 10000
set_option maxHeartbeats 4000000
namespace Go.Eng
open Go Go.Proofs
def has{α:Type}[DecidableEq α](l:List α)(x:α):Bool:=l.any fun y=>decide (x=y)
theorem zKL{α:Type}[DecidableEq α]{l:List α}{x:α}:has l x=decide (x∈l):=by
 rw[cA];simp[has]
theorem zNj{x y:Int×Int}:(decide (x.1=y.1)&&decide (x.2=y.2))=decide (x=y):=by
 rw[cA];simp[Prod.ext_iff]
theorem zYm{α:Type}{l:List α}{z x:α}{i:Nat}(h:i<l.length):(l.take i++replicate (l.length-i) z).set i x=l.take i++[x]++replicate (l.length-(i+1)) z:=by
 obtain⟨k,hk⟩:∃ k,l.length-i=k+1:=⟨l.length-i-1,by omega⟩;rw[hk,show l.length-(i+1)=k by omega,fG,f7 _ _ (by rw[bZ];omega),bZ,f9 (by omega),iX,cN,cK];rfl
section
variable [Yo]
theorem f98(l m:List (Int))(hl:l.length<4294967296):FG 98 [.sl (l.map I),.sl (m.map I)] (.bool (decide (l=m))):=by
 refine zAe Tryz.f98 ?_;refine zAh 1<|zAc<|zAl 1<|S_a [(0,.n l.length)] (ap (lnS I l) an)<|zAn 1<|S_a [(0,.n m.length)] (ap (lnS I m) an)<|S_g 1<|zDk ((l.length:Int)=(m.length:Int)) (fun k0=>(zAh 1<|zAk<|E_a [] an (bool false) [] ?_ rfl)) (fun k0=>(zAf<|zAc<|zAl 1<|S_a [(0,.n l.length)] (ap (lnS I l) an)<|S_g 1<|zAd 0 ?_))
 ·simp;intro h;subst h;simp at *
 refine zAo (fun i=>i<=l.length/\l.take i=m.take i) (fun i=>[(13,I (i:Nat))]) (fun i=>l.length-i) (0:Nat) (by simp) fun i ⟨hi,ha⟩=>?_;refine zAh 1<|zAc<|zB2 ((i:Int)<(l.length:Int)) (fun k1=>(zAf<|zAc<|zAd 1<|zAh 2<|zAl 2<|S_a [(2,.v (I (l.getD i 0)))] (ap (zBi (0) (by omega):(map I l)[i]? = some (I (l.getD i 0))) an)<|zAn 3<|S_a [(2,.v (I (m.getD i 0)))] (ap (zBi (0) (by omega):(map I m)[i]? = some (I (m.getD i 0))) an)<|S_g 2<|zDk (l.getD i 0=m.getD i 0) (fun k2=>(zAh 1<|zAk<|E_a [] an (bool false) [] ?_ rfl)) (fun k2=>(zAf<|zAb<|S_i i<|S_g 1 ?_)))) (fun k1=>(zAq 0<|zAh 1<|zAk<|E_a [] an (bool true) [] ?_ rfl))
 ·simp;intro h;subst h;omega
 ·refine⟨i+1,⟨by omega,?_⟩,by omega,by kernel_rfl,by kernel_rfl⟩;exact zEw (d:=0) (by omega) (by omega) ha (by assumption)
 ·rw[bp (by omega),bp (by omega)] at ha;simp[ha]
theorem f28(l m:List (Int))(hl:l.length<4294967296):FG 28 [.sl (l.map I),.sl (m.map I)] (.bool (decide (l=m))):=by
 refine zAe Tryz.f28 ?_;refine zAh 1<|zAl 2<|S_a [(8,.ret (bool (decide (l=m))) [])] (ap (f98 l m (by omega)) an)<|S_g 1<|zAk E_0
theorem f166(l m:LP)(hl:l.length<4294967296):FG 166 [.sl (l.map prV),.sl (m.map prV)] (.bool (decide (l=m))):=by
 refine zAe Tryz.f166 ?_;refine zAh 1<|zAc<|zAl 1<|S_a [(0,.n l.length)] (ap (lnS prV l) an)<|zAn 1<|S_a [(0,.n m.length)] (ap (lnS prV m) an)<|S_g 1<|zDk ((l.length:Int)=(m.length:Int)) (fun k0=>(zAh 1<|zAk<|E_a [] an (bool false) [] ?_ rfl)) (fun k0=>(zAf<|zAc<|zAl 1<|S_a [(0,.n l.length)] (ap (lnS prV l) an)<|S_g 1<|zAd 0 ?_))
 ·simp;intro h;subst h;simp at *
 refine zAo (fun i=>i<=l.length/\l.take i=m.take i) (fun i=>[(13,I (i:Nat))]) (fun i=>l.length-i) (0:Nat) (by simp) fun i ⟨hi,ha⟩=>?_;refine zAh 1<|zAc<|zB2 ((i:Int)<(l.length:Int)) (fun k1=>(zAf<|zAc<|zAd 1<|zAh 2<|zAl 2<|S_a [(2,.v (prV (l.getD i d0)))] (ap (zBi d0 (by omega):(map prV l)[i]? = some (prV (l.getD i d0))) an)<|zAn 3<|S_a [(2,.v (prV (m.getD i d0)))] (ap (zBi d0 (by omega):(map prV m)[i]? = some (prV (m.getD i d0))) an)<|zAn 1<|S_a [(0,.v (bool !(decide ((l.getD i d0).fst=(m.getD i d0).fst)&&decide ((l.getD i d0).snd=(m.getD i d0).snd))))] (ap (zW9:zHJ Tryz.prog BinOp.neq 87 (prV (l.getD i d0)) (prV (m.getD i d0))=some (bool !(decide ((l.getD i d0).fst=(m.getD i d0).fst)&&decide ((l.getD i d0).snd=(m.getD i d0).snd)))) an)<|zAR<|zDw (!(decide ((l.getD i d0).fst=(m.getD i d0).fst)&&decide ((l.getD i d0).snd=(m.getD i d0).snd))) (fun k2=>(zAh 1<|zAk<|E_a [] an (bool false) [] ?_ rfl)) (fun k2=>(zAf<|zAb<|S_i i<|S_g 1 ?_)))) (fun k1=>(zAq 0<|zAh 1<|zAk<|E_a [] an (bool true) [] ?_ rfl))
 ·simp;intro h;subst h;simp at *
 ·refine⟨i+1,⟨by omega,?_⟩,by omega,by kernel_rfl,by kernel_rfl⟩;exact zEw (d:=d0) (by omega) (by omega) ha (by first|assumption|(simp only[ce,bI,bb,decide_eq_true_eq] at k2;exact fu k2.1 k2.2))
 ·rw[bp (by omega),bp (by omega)] at ha;simp[ha]
theorem f103(l m:LP)(hl:l.length<4294967296):FG 103 [.sl (l.map prV),.sl (m.map prV)] (.bool (decide (l=m))):=by
 refine zAe Tryz.f103 ?_;refine zAh 1<|zAl 2<|S_a [(8,.ret (bool (decide (l=m))) [])] (ap (f166 l m (by omega)) an)<|S_g 1<|zAk E_0
theorem f167(l m:List (Int×Bool))(hl:l.length<4294967296):FG 167 [.sl (l.map ntV),.sl (m.map ntV)] (.bool (decide (l=m))):=by
 refine zAe Tryz.f167 ?_;refine zAh 1<|zAc<|zAl 1<|S_a [(0,.n l.length)] (ap (lnS ntV l) an)<|zAn 1<|S_a [(0,.n m.length)] (ap (lnS ntV m) an)<|S_g 1<|zDk ((l.length:Int)=(m.length:Int)) (fun k0=>(zAh 1<|zAk<|E_a [] an (bool false) [] ?_ rfl)) (fun k0=>(zAf<|zAc<|zAl 1<|S_a [(0,.n l.length)] (ap (lnS ntV l) an)<|S_g 1<|zAd 0 ?_))
 ·simp;intro h;subst h;simp at *
 refine zAo (fun i=>i<=l.length/\l.take i=m.take i) (fun i=>[(13,I (i:Nat))]) (fun i=>l.length-i) (0:Nat) (by simp) fun i ⟨hi,ha⟩=>?_;refine zAh 1<|zAc<|zB2 ((i:Int)<(l.length:Int)) (fun k1=>(zAf<|zAc<|zAd 1<|zAh 2<|zAl 2<|S_a [(2,.v (agg [I (l.getD i d0).fst,bool (l.getD i d0).snd]))] (ap (zBi d0 (by omega):(map ntV l)[i]? = some (agg [I (l.getD i d0).fst,bool (l.getD i d0).snd])) an)<|zAn 3<|S_a [(2,.v (agg [I (m.getD i d0).fst,bool (m.getD i d0).snd]))] (ap (zBi d0 (by omega):(map ntV m)[i]? = some (agg [I (m.getD i d0).fst,bool (m.getD i d0).snd])) an)<|zAn 1<|S_a [(0,.v (bool !(decide ((l.getD i d0).fst=(m.getD i d0).fst)&&decide ((l.getD i d0).snd=(m.getD i d0).snd))))] (ap (zUZ:zHJ Tryz.prog BinOp.neq 99 (agg [I (l.getD i d0).fst,bool (l.getD i d0).snd]) (agg [I (m.getD i d0).fst,bool (m.getD i d0).snd])=some (bool !(decide ((l.getD i d0).fst=(m.getD i d0).fst)&&decide ((l.getD i d0).snd=(m.getD i d0).snd)))) an)<|zAR<|zDw (!(decide ((l.getD i d0).fst=(m.getD i d0).fst)&&decide ((l.getD i d0).snd=(m.getD i d0).snd))) (fun k2=>(zAh 1<|zAk<|E_a [] an (bool false) [] ?_ rfl)) (fun k2=>(zAf<|zAb<|S_i i<|S_g 1 ?_)))) (fun k1=>(zAq 0<|zAh 1<|zAk<|E_a [] an (bool true) [] ?_ rfl))
 ·simp;intro h;subst h;simp at *
 ·refine⟨i+1,⟨by omega,?_⟩,by omega,by kernel_rfl,by kernel_rfl⟩;exact zEw (d:=d0) (by omega) (by omega) ha (by first|assumption|(simp only[ce,bI,bb,decide_eq_true_eq] at k2;exact fu k2.1 k2.2))
 ·rw[bp (by omega),bp (by omega)] at ha;simp[ha]
theorem f104(l m:List (Int×Bool))(hl:l.length<4294967296):FG 104 [.sl (l.map ntV),.sl (m.map ntV)] (.bool (decide (l=m))):=by
 refine zAe Tryz.f104 ?_;refine zAh 1<|zAl 2<|S_a [(8,.ret (bool (decide (l=m))) [])] (ap (f167 l m (by omega)) an)<|S_g 1<|zAk E_0
theorem f158(l m:LP)(hl:l.length<4294967296):FG 158 [.sl (l.map prV),.sl (m.map prV)] (.bool (decide (l=m))):=by
 refine zAe Tryz.f158 ?_;refine zAh 1<|zAc<|zAl 1<|S_a [(0,.n l.length)] (ap (lnS prV l) an)<|zAn 1<|S_a [(0,.n m.length)] (ap (lnS prV m) an)<|S_g 1<|zDk ((l.length:Int)=(m.length:Int)) (fun k0=>(zAh 1<|zAk<|E_a [] an (bool false) [] ?_ rfl)) (fun k0=>(zAf<|zAc<|zAl 1<|S_a [(0,.n l.length)] (ap (lnS prV l) an)<|S_g 1<|zAd 0 ?_))
 ·simp;intro h;subst h;simp at *
 refine zAo (fun i=>i<=l.length/\l.take i=m.take i) (fun i=>[(13,I (i:Nat))]) (fun i=>l.length-i) (0:Nat) (by simp) fun i ⟨hi,ha⟩=>?_;refine zAh 1<|zAc<|zB2 ((i:Int)<(l.length:Int)) (fun k1=>(zAf<|zAc<|zAd 1<|zAh 2<|zAl 2<|S_a [(2,.v (prV (l.getD i d0)))] (ap (zBi d0 (by omega):(map prV l)[i]? = some (prV (l.getD i d0))) an)<|zAn 3<|S_a [(2,.v (prV (m.getD i d0)))] (ap (zBi d0 (by omega):(map prV m)[i]? = some (prV (m.getD i d0))) an)<|zAn 1<|S_a [(0,.v (bool !(decide ((l.getD i d0).fst=(m.getD i d0).fst)&&decide ((l.getD i d0).snd=(m.getD i d0).snd))))] (ap (zJG:zHJ Tryz.prog BinOp.neq 108 (prV (l.getD i d0)) (prV (m.getD i d0))=some (bool !(decide ((l.getD i d0).fst=(m.getD i d0).fst)&&decide ((l.getD i d0).snd=(m.getD i d0).snd)))) an)<|zAR<|zDw (!(decide ((l.getD i d0).fst=(m.getD i d0).fst)&&decide ((l.getD i d0).snd=(m.getD i d0).snd))) (fun k2=>(zAh 1<|zAk<|E_a [] an (bool false) [] ?_ rfl)) (fun k2=>(zAf<|zAb<|S_i i<|S_g 1 ?_)))) (fun k1=>(zAq 0<|zAh 1<|zAk<|E_a [] an (bool true) [] ?_ rfl))
 ·simp;intro h;subst h;simp at *
 ·refine⟨i+1,⟨by omega,?_⟩,by omega,by kernel_rfl,by kernel_rfl⟩;exact zEw (d:=d0) (by omega) (by omega) ha (by first|assumption|(simp only[ce,bI,bb,decide_eq_true_eq] at k2;exact fu k2.1 k2.2))
 ·rw[bp (by omega),bp (by omega)] at ha;simp[ha]
theorem f78(l m:LP)(hl:l.length<4294967296):FG 78 [.sl (l.map prV),.sl (m.map prV)] (.bool (decide (l=m))):=by
 refine zAe Tryz.f78 ?_;refine zAh 1<|zAl 2<|S_a [(8,.ret (bool (decide (l=m))) [])] (ap (f158 l m (by omega)) an)<|S_g 1<|zAk E_0
theorem f105(l m:LP)(hl:l.length<4294967296):FG 105 [.sl (l.map prV),.sl (m.map prV)] (.bool (decide (l=m))):=by
 refine zAe Tryz.f105 ?_;refine zAh 1<|zAc<|zAl 1<|S_a [(0,.n l.length)] (ap (lnS prV l) an)<|zAn 1<|S_a [(0,.n m.length)] (ap (lnS prV m) an)<|S_g 1<|zDk ((l.length:Int)=(m.length:Int)) (fun k0=>(zAh 1<|zAk<|E_a [] an (bool false) [] ?_ rfl)) (fun k0=>(zAf<|zAc<|zAl 1<|S_a [(0,.n l.length)] (ap (lnS prV l) an)<|S_g 1<|zAd 0 ?_))
 ·simp;intro h;subst h;simp at *
 refine zAo (fun i=>i<=l.length/\l.take i=m.take i) (fun i=>[(13,I (i:Nat))]) (fun i=>l.length-i) (0:Nat) (by simp) fun i ⟨hi,ha⟩=>?_;refine zAh 1<|zAc<|zB2 ((i:Int)<(l.length:Int)) (fun k1=>(zAf<|zAc<|zAd 1<|zAh 2<|zAl 2<|S_a [(2,.v (prV (l.getD i d0)))] (ap (zBi d0 (by omega):(map prV l)[i]? = some (prV (l.getD i d0))) an)<|zAn 3<|S_a [(2,.v (prV (m.getD i d0)))] (ap (zBi d0 (by omega):(map prV m)[i]? = some (prV (m.getD i d0))) an)<|zAn 1<|S_a [(0,.v (bool !(decide ((l.getD i d0).fst=(m.getD i d0).fst)&&decide ((l.getD i d0).snd=(m.getD i d0).snd))))] (ap (zJG:zHJ Tryz.prog BinOp.neq 37 (prV (l.getD i d0)) (prV (m.getD i d0))=some (bool !(decide ((l.getD i d0).fst=(m.getD i d0).fst)&&decide ((l.getD i d0).snd=(m.getD i d0).snd)))) an)<|zAR<|zDw (!(decide ((l.getD i d0).fst=(m.getD i d0).fst)&&decide ((l.getD i d0).snd=(m.getD i d0).snd))) (fun k2=>(zAh 1<|zAk<|E_a [] an (bool false) [] ?_ rfl)) (fun k2=>(zAf<|zAb<|S_i i<|S_g 1 ?_)))) (fun k1=>(zAq 0<|zAh 1<|zAk<|E_a [] an (bool true) [] ?_ rfl))
 ·simp;intro h;subst h;simp at *
 ·refine⟨i+1,⟨by omega,?_⟩,by omega,by kernel_rfl,by kernel_rfl⟩;exact zEw (d:=d0) (by omega) (by omega) ha (by first|assumption|(simp only[ce,bI,bb,decide_eq_true_eq] at k2;exact fu k2.1 k2.2))
 ·rw[bp (by omega),bp (by omega)] at ha;simp[ha]
theorem f34(l m:LP)(hl:l.length<4294967296):FG 34 [.sl (l.map prV),.sl (m.map prV)] (.bool (decide (l=m))):=by
 refine zAe Tryz.f34 ?_;refine zAh 1<|zAl 2<|S_a [(8,.ret (bool (decide (l=m))) [])] (ap (f105 l m (by omega)) an)<|S_g 1<|zAk E_0
theorem f96(l m:LP)(hl:l.length<4294967296):FG 96 [.sl (l.map prV),.sl (m.map prV)] (.bool (decide (l=m))):=by
 refine zAe Tryz.f96 ?_;refine zAh 1<|zAc<|zAl 1<|S_a [(0,.n l.length)] (ap (lnS prV l) an)<|zAn 1<|S_a [(0,.n m.length)] (ap (lnS prV m) an)<|S_g 1<|zDk ((l.length:Int)=(m.length:Int)) (fun k0=>(zAh 1<|zAk<|E_a [] an (bool false) [] ?_ rfl)) (fun k0=>(zAf<|zAc<|zAl 1<|S_a [(0,.n l.length)] (ap (lnS prV l) an)<|S_g 1<|zAd 0 ?_))
 ·simp;intro h;subst h;simp at *
 refine zAo (fun i=>i<=l.length/\l.take i=m.take i) (fun i=>[(13,I (i:Nat))]) (fun i=>l.length-i) (0:Nat) (by simp) fun i ⟨hi,ha⟩=>?_;refine zAh 1<|zAc<|zB2 ((i:Int)<(l.length:Int)) (fun k1=>(zAf<|zAc<|zAd 1<|zAh 2<|zAl 2<|S_a [(2,.v (prV (l.getD i d0)))] (ap (zBi d0 (by omega):(map prV l)[i]? = some (prV (l.getD i d0))) an)<|zAn 3<|S_a [(2,.v (prV (m.getD i d0)))] (ap (zBi d0 (by omega):(map prV m)[i]? = some (prV (m.getD i d0))) an)<|zAn 1<|S_a [(0,.v (bool !(decide ((l.getD i d0).fst=(m.getD i d0).fst)&&decide ((l.getD i d0).snd=(m.getD i d0).snd))))] (ap (zJG:zHJ Tryz.prog BinOp.neq 49 (prV (l.getD i d0)) (prV (m.getD i d0))=some (bool !(decide ((l.getD i d0).fst=(m.getD i d0).fst)&&decide ((l.getD i d0).snd=(m.getD i d0).snd)))) an)<|zAR<|zDw (!(decide ((l.getD i d0).fst=(m.getD i d0).fst)&&decide ((l.getD i d0).snd=(m.getD i d0).snd))) (fun k2=>(zAh 1<|zAk<|E_a [] an (bool false) [] ?_ rfl)) (fun k2=>(zAf<|zAb<|S_i i<|S_g 1 ?_)))) (fun k1=>(zAq 0<|zAh 1<|zAk<|E_a [] an (bool true) [] ?_ rfl))
 ·simp;intro h;subst h;simp at *
 ·refine⟨i+1,⟨by omega,?_⟩,by omega,by kernel_rfl,by kernel_rfl⟩;exact zEw (d:=d0) (by omega) (by omega) ha (by first|assumption|(simp only[ce,bI,bb,decide_eq_true_eq] at k2;exact fu k2.1 k2.2))
 ·rw[bp (by omega),bp (by omega)] at ha;simp[ha]
theorem f24(l m:LP)(hl:l.length<4294967296):FG 24 [.sl (l.map prV),.sl (m.map prV)] (.bool (decide (l=m))):=by
 refine zAe Tryz.f24 ?_;refine zAh 1<|zAl 2<|S_a [(8,.ret (bool (decide (l=m))) [])] (ap (f96 l m (by omega)) an)<|S_g 1<|zAk E_0
theorem f87(l:LP)(hl:l.length<1000000):FG 87 [.sl (l.map prV)] (.own 2 (l.map prV)):=by
 refine zAe Tryz.f87 ?_;refine zAh 1<|zAl 1<|S_a [(0,.n l.length)] (ap (lnS prV l) an)<|S_a [(4,.ob),(0,.ob),(1,.v (own 2 (map (fun x=>agg [I 0,I 0]) (replicate l.length ()))))] (ap ((by exact zAt (by omega)):decide (l.length<=l.length)=true)<|ap ((by exact zAt (by simp[zAJ]<;>omega)):decide (l.length<=zAJ)=true)<|ap ((by simp):own 2 (replicate l.length (agg [I 0,I 0]))=own 2 (map (fun x=>agg [I 0,I 0]) (replicate l.length ()))) an)<|S_g 1<|zAl 2<|zLJ (fun q=>q) 3 2 (map (fun x=>agg [I 0,I 0]) (replicate l.length ())) (map prV l) (map prV l) (zJb fun _ _=>(by first|exact zFK|exact⟨rfl,rfl,rfl,rfl,bi _,rfl⟩)) (by simp<;>omega) (zL5 (by simp<;>omega)) zOd.nil (zAR<|zAl 1<|S_a [(2,.yes)] (ap ((by exact zA7 (by simp<;>omega)):(beq 0 0&&(map prV l).length.beq (map prV l).length)=true) an)<|zAR<|zAk<|E_z [(1,.yes),(1,.v (own 2 (map prV l)))] (ap (blz (map prV l))<|ap ((zAK zAL):own 2 (take (map prV l).length (drop 0 (map prV l)))=own 2 (map prV l)) an))
theorem f20(l:LP)(hl:l.length<1000000):FG 20 [.sl (l.map prV)] (.own 2 (l.map prV)):=by
 refine zAe Tryz.f20 ?_;refine zAh 1<|zAl 1<|S_a [(0,.n l.length)] (ap (lnS prV l) an)<|S_a [(4,.ob),(0,.ob),(1,.v (own 2 (map (fun x=>agg [I 0,I 0]) (replicate l.length ()))))] (ap ((by exact zAt (by omega)):decide (l.length<=l.length)=true)<|ap ((by exact zAt (by simp[zAJ]<;>omega)):decide (l.length<=zAJ)=true)<|ap ((by simp):own 2 (replicate l.length (agg [I 0,I 0]))=own 2 (map (fun x=>agg [I 0,I 0]) (replicate l.length ()))) an)<|S_g 1<|zAl 2<|zLJ (fun q=>q) 3 2 (map (fun x=>agg [I 0,I 0]) (replicate l.length ())) (map prV l) (map prV l) (zJb fun _ _=>(by first|exact zFK|exact⟨rfl,rfl,rfl,rfl,bi _,rfl⟩)) (by simp<;>omega) (zL5 (by simp<;>omega)) zOd.nil (zAR<|zAl 1<|S_a [(2,.yes)] (ap ((by exact zA7 (by simp<;>omega)):(beq 0 0&&(map prV l).length.beq (map prV l).length)=true) an)<|zAR<|zAk<|E_z [(1,.yes),(1,.v (own 2 (map prV l)))] (ap (blz (map prV l))<|ap ((zAK zAL):own 2 (take (map prV l).length (drop 0 (map prV l)))=own 2 (map prV l)) an))
theorem f88(l:List (Int×Bool))(hl:l.length<1000000):FG 88 [.sl (l.map ntV)] (.own 2 (l.map ntV)):=by
 refine zAe Tryz.f88 ?_;refine zAh 1<|zAl 1<|S_a [(0,.n l.length)] (ap (lnS ntV l) an)<|S_a [(4,.ob),(0,.ob),(1,.v (own 2 (map (fun x=>agg [I 0,bool false]) (replicate l.length ()))))] (ap ((by exact zAt (by omega)):decide (l.length<=l.length)=true)<|ap ((by exact zAt (by simp[zAJ]<;>omega)):decide (l.length<=zAJ)=true)<|ap ((by simp):own 2 (replicate l.length (agg [I 0,bool false]))=own 2 (map (fun x=>agg [I 0,bool false]) (replicate l.length ()))) an)<|S_g 1<|zAl 2<|zLJ (fun q=>q) 3 2 (map (fun x=>agg [I 0,bool false]) (replicate l.length ())) (map ntV l) (map ntV l) (zJb fun _ _=>(by first|exact zFK|exact⟨rfl,rfl,rfl,rfl,bi _,rfl⟩)) (by simp<;>omega) (zL5 (by simp<;>omega)) zOd.nil (zAR<|zAl 1<|S_a [(2,.yes)] (ap ((by exact zA7 (by simp<;>omega)):(beq 0 0&&(map ntV l).length.beq (map ntV l).length)=true) an)<|zAR<|zAk<|E_z [(1,.yes),(1,.v (own 2 (map ntV l)))] (ap (blz (map ntV l))<|ap ((zAK zAL):own 2 (take (map ntV l).length (drop 0 (map ntV l)))=own 2 (map ntV l)) an))
theorem f35(l:List (Int))(hl:l.length<1000000):FG 35 [.sl (l.map I)] (.own 1 (l.map I)):=by
 refine zAe Tryz.f35 ?_;refine zAh 1<|zAl 1<|S_a [(0,.n l.length)] (ap (lnS I l) an)<|S_a [(4,.ob),(0,.ob),(1,.v (own 1 (map I (replicate l.length 0))))] (ap ((by exact zAt (by omega)):decide (l.length<=l.length)=true)<|ap ((by exact zAt (by simp[zAJ]<;>omega)):decide (l.length<=zAJ)=true)<|ap ((by simp):own 1 (replicate l.length (I 0))=own 1 (map I (replicate l.length 0))) an)<|S_g 1<|zAl 2<|zLJ (fun q=>q) 3 1 (map I (replicate l.length 0)) (map I l) (map I l) (zJb fun _ _=>(by first|exact zFK|exact⟨rfl,rfl,rfl,rfl,bi _,rfl⟩)) (by simp<;>omega) (zL5 (by simp<;>omega)) zOd.nil (zAR<|zAl 1<|S_a [(2,.yes)] (ap ((by exact zA7 (by simp<;>omega)):(beq 0 0&&(map I l).length.beq (map I l).length)=true) an)<|zAR<|zAk<|E_z [(1,.yes),(1,.v (own 1 (map I l)))] (ap (blz (map I l))<|ap ((zAK zAL):own 1 (take (map I l).length (drop 0 (map I l)))=own 1 (map I l)) an))
theorem f89(l:List LI)(hl:l.length<1000000)(hr:∀ r∈l,r.length<1000000):FG 89 [.sl (l.map zA1)] (.own 1 (l.map zDl)):=by
 refine zAe Tryz.f89 ?_;refine zAh 1<|zAl 1<|S_a [(0,.n l.length)] (ap (lnS zA1 l) an)<|S_a [(4,.ob),(0,.ob),(1,.v (own 1 (map (fun l=>own 1 (map I l)) (replicate l.length []))))] (ap ((by exact zAt (by omega)):decide (l.length<=l.length)=true)<|ap ((by exact zAt (by simp[zAJ]<;>omega)):decide (l.length<=zAJ)=true)<|ap ((by simp):own 1 (replicate l.length (own 1 []))=own 1 (map (fun l=>own 1 (map I l)) (replicate l.length []))) an)<|S_g 1<|zAc<|zAl 1<|S_a [(0,.n l.length)] (ap (lnS zA1 l) an)<|S_g 1<|zAd 0 ?_
 refine zAo (fun(i,q)=>i<=l.length/\q=l.take i++replicate (l.length-i) []) (fun(i,q)=>[(3,.own 1 (q.map zDl)),(11,I (i:Nat))]) (fun(i,_)=>l.length-i) ((0:Nat),replicate l.length []) ⟨bG _,by simp⟩ fun(i,q) ⟨hi,hq⟩=>?_;have kH:q.length=l.length:=by rw[hq];simp;omega
 by_cases yB:i<l.length
 ·have qr:=zBt (d:=[]) hr i yB;refine zAh 1<|zAc<|zAs ((i:Int)<(l.length:Int)) (by omega)<|zAf<|zAc<|zAd 1<|zAl 1<|S_a [(2,.v (zA1 (l.getD i [])))] (ap (zBi [] (by omega):(map zA1 l)[i]? = some (zA1 (l.getD i []))) an)<|S_g 3<|zAb<|zAn 3<|S_a [(6,.ret (own 1 (map I (l.getD i []))) [])] (ap (f35 (l.getD i []) (by omega)) an)<|S_a [(2,.ob),(1,.n i)] (ap ((by exact zAt (by simp only[bf,zzLn]<;>omega)):decide (i<(map zDl q).length)=true)<|ap ((by simp):some (0+i)=some i) an)<|S_a [(8,.root (own 1 (map zDl (q.set i (l.getD i [])))) true)] (ap (zOD (zBi [] (by omega)) zFo:zBG (own 1 (map zDl q)) [] i 0 (own 1 (map I (l.getD i []))).cells=some (own 1 (map zDl (q.set i (l.getD i []))))/\zAP (own 1 (map zDl q)) (own 1 (map zDl (q.set i (l.getD i [])))) []=true) an)<|zAR<|zAb<|S_i i<|S_g 1 ?_
  refine⟨(i+1,q.set i (l.getD i [])),⟨by omega,?_⟩,by simp only;omega,by kernel_rfl,by kernel_rfl⟩;rw[hq,zBs (d:=[]) yB,zYm yB]
 ·refine zAh 1<|zAc<|zAu ((i:Int)<(l.length:Int)) (by omega)<|zAq 0<|zAl 1<|S_a [(2,.yes)] (ap ((by exact zA7 (by simp<;>omega)):(beq 0 0&&(map zDl q).length.beq (map zDl q).length)=true) an)<|zAR<|zAk<|E_a [(1,.yes),(1,.v (own 1 (map zDl q)))] (ap (blz (map zDl q))<|ap ((zAK zAL):own 1 (take (map zDl q).length (drop 0 (map zDl q)))=own 1 (map zDl q)) an) (own 1 (map zDl q)) [] ?_ rfl
  rw[hq,show l.length-i=0 by omega,bp (by omega)];simp
theorem f136(l:List (Int))(x:Int)(hl:l.length<4294967296):FG 136 [.sl (l.map I),I x] (I (zEi (fun y=>decide (x=y)) l)):=by
 refine zAe Tryz.f136 ?_;refine zAh 1<|zAc<|zAl 1<|S_a [(0,.n l.length)] (ap (lnS I l) an)<|S_g 1<|zAd 0 ?_
 refine zAo (fun i=>i<=l.length/\∀ j,j<i->decide (x=l.getD j 0)=false) (fun i=>[(8,I (i:Nat))]) (fun i=>l.length-i) (0:Nat) (by simp) fun i ⟨hi,ha⟩=>?_;refine zAh 1<|zAc<|zB2 ((i:Int)<(l.length:Int)) (fun k0=>(zAf<|zAc<|zAd 1<|zAh 2<|zAl 3<|S_a [(2,.v (I (l.getD i 0)))] (ap (zBi (0) (by omega):(map I l)[i]? = some (I (l.getD i 0))) an)<|S_g 2<|zB2 (x=l.getD i 0) (fun k1=>(zAh 2<|zAk<|E_a [] an (I (i:Int)) [] ?_ rfl)) (fun k1=>(zAf<|zAb<|S_i i<|S_g 1 ?_)))) (fun k0=>(zAq 0<|zAh 1<|zAk<|E_a [] an (I (-1)) [] ?_ rfl))
 ·rw[zBK (i:=i) (by omega) (fun j hj=>by rw[<- zAp (d:=0)];exact ha j hj) (by rw[<- zAp (d:=0)];simp only[decide_eq_true_eq,decide_eq_false_iff_not] at *;omega)]
 ·refine⟨i+1,⟨by omega,fun j hj=>?_⟩,by omega,by kernel_rfl,by kernel_rfl⟩;rcases bC.1 hj with h|rfl
  ·exact ha j h
  ·simp only[decide_eq_true_eq,decide_eq_false_iff_not] at *;omega
 ·rw[zB6 fun j hj=>by rw[<- zAp (d:=0)];exact ha j (by omega)]
theorem f58(l:List (Int))(x:Int)(hl:l.length<4294967296):FG 58 [.sl (l.map I),I x] (.bool (has l x)):=by
 refine zAe Tryz.f58 ?_;refine zAh 1<|zAl 2<|S_a [(8,.ret (I (zEi (fun y=>decide (x=y)) l)) [])] (ap (f136 l x (by omega)) an)<|S_g 2<|zAk<|E_a [] an (bool (decide (zEi (fun y=>decide (x=y)) l>=0))) [] ?_ rfl
 rw[zDI];rfl
theorem f161(l:LP)(x:Int×Int)(hl:l.length<4294967296):FG 161 [.sl (l.map prV),prV x] (I (zEi (fun y=>decide (x=y)) l)):=by
 refine zAe Tryz.f161 ?_;refine zAh 2<|zAc<|zAl 1<|S_a [(0,.n l.length)] (ap (lnS prV l) an)<|S_g 1<|zAd 0 ?_
 refine zAo (fun i=>i<=l.length/\∀ j,j<i->decide (x=l.getD j d0)=false) (fun i=>[(8,I (i:Nat))]) (fun i=>l.length-i) (0:Nat) (by simp) fun i ⟨hi,ha⟩=>?_;refine zAh 1<|zAc<|zB2 ((i:Int)<(l.length:Int)) (fun k0=>(zAf<|zAc<|zAd 1<|zAh 2<|zAl 3<|S_a [(2,.v (prV (l.getD i d0)))] (ap (zBi d0 (by omega):(map prV l)[i]? = some (prV (l.getD i d0))) an)<|zAn 1<|S_a [(0,.v (bool (decide (x.fst=(l.getD i d0).fst)&&decide (x.snd=(l.getD i d0).snd))))] (ap (zSN:zHJ Tryz.prog BinOp.eql 108 (prV x) (prV (l.getD i d0))=some (bool (decide (x.fst=(l.getD i d0).fst)&&decide (x.snd=(l.getD i d0).snd)))) an)<|zAR<|zDw (decide (x.fst=(l.getD i d0).fst)&&decide (x.snd=(l.getD i d0).snd)) (fun k1=>(zAh 2<|zAk<|E_a [] an (I (i:Int)) [] ?_ rfl)) (fun k1=>(zAf<|zAb<|S_i i<|S_g 1 ?_)))) (fun k0=>(zAq 0<|zAh 1<|zAk<|E_a [] an (I (-1)) [] ?_ rfl))
 ·rw[zBK (i:=i) (by omega) (fun j hj=>by rw[<- zAp (d:=d0)];exact ha j hj) (by rw[<- zAp (d:=d0)];rw[<- zNj];assumption)]
 ·refine⟨i+1,⟨by omega,fun j hj=>?_⟩,by omega,by kernel_rfl,by kernel_rfl⟩;rcases bC.1 hj with h|rfl
  ·exact ha j h
  ·rw[<- zNj];assumption
 ·rw[zB6 fun j hj=>by rw[<- zAp (d:=d0)];exact ha j (by omega)]
theorem f81(l:LP)(x:Int×Int)(hl:l.length<4294967296):FG 81 [.sl (l.map prV),prV x] (.bool (has l x)):=by
 refine zAe Tryz.f81 ?_;refine zAh 2<|zAl 2<|S_a [(8,.ret (I (zEi (fun y=>decide (x=y)) l)) [])] (ap (f161 l x (by omega)) an)<|S_g 2<|zAk<|E_a [] an (bool (decide (zEi (fun y=>decide (x=y)) l>=0))) [] ?_ rfl
 rw[zDI];rfl
theorem f65(l:List (Int))(hl:l.length<4294967296):FG 65 [.sl (l.map I)] (.own 1 (l.map I)):=zHe (fn:=Tryz.f65) I l (by omega)
theorem f123(l:LP)(hl:l.length<4294967296):FG 123 [.sl (l.map prV)] (.own 2 (l.map prV)):=zHe (fn:=Tryz.f123) prV l (by omega)
theorem f61(l:LP)(hl:l.length<4294967296):FG 61 [.sl (l.map prV)] (.own 2 (l.map prV)):=zHe (fn:=Tryz.f61) prV l (by omega)
theorem f210(x:Int):FG 210 [I x] (.bool false):=by
 refine zAe Tryz.f210 ?_;refine zAh 1<|zAh 4<|zAk<|E_a [] an (bool (x != x)) [] (by simp[*]) rfl
theorem f182(x y:Int):FG 182 [I x,I y] (.bool (decide (x<y))):=by
 refine zAe Tryz.f182 ?_;refine zAh 1<|zAl 1<|S_a [(6,.ret (bool false) [])] (ap (f210 x) an)<|S_g 11<|zAk E_0
end
end Go.Eng
