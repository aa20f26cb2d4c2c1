/- Just those ye are left with an earlier notice alone that are told; who jN a notice has it by a path; and with the further cries that are told nobody is left, or gaps are told that no cry mends; for every list of numbers, evening and stands. -/
import Derived.Test.YtppbomajegnkeaaGreatPd
import Derived.ProofKit
import Derived.ChangeArms
import Derived.Test.YtppbomajegnkeaaGreatProg
import Derived.Shelf.Sort.Plain
import Derived.Shelf.Slices.In.SortNone
import Derived.Test.YtppbomajegnkeaaGreatPa
import Derived.Test.YtppbomajegnkeaaGreatRows
set_option linter.unusedVariables false
set_option linter.unusedSimpArgs false
set_option linter.unusedSectionVars false
open Nat (beq ble blt)
open List (map replicate take drop range length filter)
open Go.Eng.PV (own agg addr func sl bor tup omap bad bool int)
namespace Go.Eng
open Go Go.ChangeShapes Go.WideShapes Go.ChangeAt Go.RowKit
section
variable {H:Type} {enc:TypeId×Value->H} {P:Program}
theorem zN6{f:Func}{s:ChangeSpec}{apart fresh j4 again:Bool}{W W':World}{args:Array Value}{v:Value}{ds gs:List (DataW H)}{before pa pv:List MemPlace}
  (hW:DataW.Whole enc P f.params.toList s.vars apart W args.toList ds gs before)
  (yi:∀ (b:Nat) (sp:Nat->Bool) (hd:Bool),DataW.TrodAll enc P W' b sp hd f.resultTypes.toList (v.resultList f.resultTypes.size) (s.fn H (ds++gs)).results [])
  (yP:∀ sp:Nat->Bool,(∀ p∈before,sp p.block=true)->DataW.TrodAll enc P W' 0 sp true f.params.toList args.toList (s.fn H (ds++gs)).args pa)
  (jy:∀ sp:Nat->Bool,(∀ p∈before,sp p.block=true)->DataW.TrodVars enc P W' sp s.vars (s.fn H (ds++gs)).vars pv)
  (y6:before=pa++pv) (hold':∀ b,b<W.heap.size->W'.heap[b]? = W.heap[b]?) (hk:W.keptBut W' (· ∈ before))
  (yE:∀ (j:Nat) (t:TypeId) (r:Value),f.resultTypes[j]? = some t->(v.resultList f.resultTypes.size)[j]? = some r->Value.okWide P W' .any 0 t r) :
  s.post enc P f apart fresh j4 again W args v W':=by
 have yL:=hW.lt;have hold:∀ p∈before,(fun b=>decide (b<W.heap.size)) p.block=true:=fun p hp=>by simpa using yL p hp
 refine⟨ds,gs,before,[],pa,pv,hW,yi _ _ _,yP _ hold,jy _ hold,World.keptBut_mono (fun p hp=>⟨hp,?_⟩) hk,fun _=>?_⟩
 ·rw[y6,bg] at hp;exact Or.inr hp
 ·obtain⟨_,_,_,_,_,hz,hn⟩:=hW;refine⟨yE,_,_,([]++pa)++pv,⟨[]++pa,pv,trodAll_append (yP _ (fun _ _=>rfl)) (yi _ _ _),jy _ (fun _ _=>rfl),rfl,?_,?_⟩,?_⟩
  ·intro b off hp;have jq:MemPlace.cell b off∈before:=by rw[y6];simpa using hp
   have h1:=hz b off jq;have h2:=yL _ jq;unfold World.frozen? at h1 ⊢;rw[hold' b h2];exact h1
  ·intro ha;have:=hn ha;rw[y6] at this;simpa using this
  ·intro p hp _;rw[y6];simpa using hp
theorem zHp{W W':World}{sp':Nat->Bool}(hl:laidOutB P=true)(hb:Below W.heap.size W W'):∀ {ts:List TypeId} {vs:List Value} {ds:List (DataW H)} {ps:List MemPlace},(∀ t∈ts,P.readableRec t=true/\t<P.types.size)->DataW.TrodAll enc P W 0 (fun _=>true) true ts vs ds ps->(∀ x∈ps,x.block<W.heap.size)->(∀ x∈ps,sp' x.block=true) ->
  DataW.TrodAll enc P W' 0 sp' true ts vs ds ps
 |[],vs,ds,ps,_,h,_,_=>by
  obtain⟨rfl,rfl,rfl⟩:=trodAll_nil h;exact trodAll_mk0
 |t::ts,vs,ds,ps,ht,h,yL,hs=>by
  obtain⟨v,vs',d,ds',p,q,rfl,rfl,rfl,h1,h2⟩:=trodAll_cons h;exact⟨p,q,WideElems.Trod_stays hl (ht t (by simp)).1 (ht t (by simp)).2 h1 (fun x hx=>hb.same (yL x (by simp[hx]))) (fun x hx=>hs x (by simp[hx])),zHp hl hb (fun t h=>ht t (by simp[h])) h2 (fun x hx=>yL x (by simp[hx])) (fun x hx=>hs x (by simp[hx])),rfl⟩
theorem zUy{f:Func}{s:ChangeSpec}{apart fresh j4 again:Bool}{W W':World}{args:Array Value}{ds:List (DataW H)}{before:List MemPlace}{tb:TypeId}(hl:laidOutB P=true)(jy:s.vars=[])(htb:P.underlying tb=some .bool)(qQ:f.resultTypes=#[tb])(vT:∀ t∈f.params.toList,P.readableRec t=true/\t<P.types.size)
  (kq:s.fn H ds={results:=[.lit (.bool true)],args:=ds}) (hW:DataW.Whole enc P f.params.toList s.vars apart W args.toList ds [] before)
  (h1:W.heap.size<=W'.heap.size) (h2:∀ b,b<W.heap.size->W'.heap[b]? = W.heap[b]?) (h3:W'.os=W.os) (h4:W'.tape=W.tape) (h5:W'.output=W.output):s.post enc P f apart fresh j4 again W args (.bool true) W':=by
 have yL:=hW.lt;have hb:Below W.heap.size W W':=⟨h3,h4,h5,h1,h2⟩;obtain⟨pa,pv,hA,hV,y6,hz,hn⟩:=id hW;have hpv:pv=[]:=by
  rw[jy] at hV;exact(trodVars_none hV).2
 subst hpv;have wA:(Value.bool true).resultList f.resultTypes.size=[.bool true]:=by rw[qQ];rfl
 have hfn':s.fn H (ds++[])={results:=[.lit (.bool true)],args:=ds}:=by rw[dn];exact kq
 have qa:∀ x∈pa,x.block<W.heap.size:=fun x hx=>yL x (by rw[y6];simp[hx]);refine zN6 (pa:=pa) (pv:=[]) hW (fun b sp hd=>?_) (fun sp y9=>?_) (fun sp y9=>?_) y6 h2 ?_ ?_
 ·rw[wA,qQ,hfn'];exact trodAll_mk1 (shut_bool htb true)
 ·rw[hfn'];exact zHp hl hb vT hA qa (fun x hx=>y9 x (by rw[y6];simp[hx]))
 ·rw[jy,hfn'];rfl
 ·refine⟨h3,h5,fun i hi=>?_⟩;rw[h2 i hi]
  cases W.heap[i]? with
  |none=>rfl|some o=>cases o<;>first|exact⟨rfl,rfl,rfl,fun _ _=>rfl⟩|exact .inr ⟨rfl,rfl⟩|rfl
 ·exact ok_one qQ rfl (okWide_bool_mk htb true)
end
end Go.Eng
namespace Go.Eng
open Go
section
variable {w:World} {Φ:Nat->Prop} {A:Al}
end
end Go.Eng
namespace Go.Eng
open Go
section
variable {P:Program} {H:zBh}
theorem zRv{f:FuncId}{fn:Func}(h:P.funcs[f]? = some fn):fn∈P.funcs.toList:=by
 rw[<- bO] at h;exact bG h
theorem zJb (h : (P.funcs.toList.all fun fn => !(fn.name == "runtime.NumGoroutine")) = true) : zE3 P := fun f fn hf => by
  have:=bj.1 h fn (zRv hf);simpa using this
theorem zYf (h:((range P.funcs.size).all fun f=>bif beq (H f).intr 0 then(match P.funcs[f]? with
  |some fn=>zXm P fn|none=>true) else true)=true):Fit P H:=fun f fn hf hi=>by
 have yL:=(bS.1 hf).1;have:=bj.1 h f (bC.2 yL);rw[hi,hf] at this;exact this
end
end Go.Eng
namespace Go.Eng
open Go Go.ChangeShapes Go.WideShapes Go.ChangeAt Go.RowKit
inductive Sh where
 |num (k:IntKind)
 |bool
 |list (ag:Bool) (parts:List Sh)
mutual
def zZi:Sh->PV->Prop
 |.num k,p=>∃ n,p = .int k n/\k.min<=n/\n<=k.max|.bool,p=>∃ b,p = .bool b|.list ag ss,p=>∃ xs,p = .sl xs/\xs.length<=maxLen/\∀ x∈xs,zEo ss x.cells/\x.isAgg=ag
def zEo:List Sh->List PV->Prop
 |[],ps=>ps=[]|s::ss,ps=>∃ p qs,ps=p::qs/\zZi s p/\zEo ss qs
end
def zXO(P:Program)(t:TypeId):Bool :=
 match P.underlying t with
 |some (.struct _)=>true|some (.array ..)=>true|_=>false
def zY6(P:Program)(t:TypeId):Bool :=
 match P.underlying t with
 |some (.struct _)=>true|_=>false
def zHC(P:Program)(sh:TypeId->Option (List Sh))(n:Nat):List Field->Nat->Option (List Sh)
 |[],off=>if off=n then some [] else none
 |f::fs,off=>if f.offset=off then match sh f.type with
  |some a=>if a.length=P.cellsOf f.type then(zHC P sh n fs (off+P.cellsOf f.type)).map (a++·) else none
  |none=>none else none
def zDv(P:Program):Nat->TypeId->Option (List Sh)
 |0,_=>none
 | n + 1,t=>match P.underlying t with
  |some (.int k)=>some [.num k]|some .bool=>some [.bool]|some (.slice e)=>match zDv P n e with
   |some ss=>if ss.length=P.cellsOf e/\0<ss.length/\(zXO P e=true\/ss.length=1) then some [.list (zXO P e) ss] else none
   |none=>none
  |some (.struct fs)=>zHC P (zDv P n) (P.cellsOf t) fs.toList 0|some (.array m e)=>match zDv P n e with
   |some es=>if P.cellsOf t=m*P.cellsOf e then some (replicate m es).flatten else none
   |none=>none
  |_=>none
section
variable {H:Type} {enc:TypeId×Value->H} {P:Program} {w:World} {spare:Nat->Bool} {u4:Bool} {Φ:Nat->Prop} {base:Nat}
theorem zEo.app:∀ {a b:List Sh} {p q:List PV},zEo a p->zEo b q->zEo (a++b) (p++q)
 |[],b,p,q,h1,h2=>by simp only[zEo] at h1;subst h1;exact h2|s::a,b,p,q,h1,h2=>by
  obtain⟨x,xs,rfl,h3,h4⟩:=h1;exact⟨x,xs++q,rfl,h3,zEo.app h4 h2⟩
theorem zEo.length:∀ {a:List Sh} {p:List PV},zEo a p->p.length=a.length
 |[],p,h=>by simp only[zEo] at h;subst h;rfl|s::a,p,h=>by
  obtain⟨x,xs,rfl,_,h4⟩:=h;simp[zEo.length h4]
theorem zNj{sh:TypeId->Option (List Sh)}{N n:Nat}{cs:List Value}(j5:cs.length=N)(ih:∀ t (vs:List Value) x ss,sh t=some ss->DataW.trod enc P w 0 spare u4 n t vs=some x->∃ ps,zEo ss ps/\zBa w Φ zCp ps vs []) :
  ∀ (fs:List Field) (off:Nat) (ss:List Sh),zHC P sh N fs off=some ss->(∀ f∈fs,∃ y,DataW.trod enc P w 0 spare u4 n f.type ((cs.drop f.offset).take (P.cellsOf f.type))=some y)->off<=N->∃ ps,zEo ss ps/\zBa w Φ zCp ps (cs.drop off) []
 |[],off,ss,h,_,yR=>by
  simp only[zHC] at h;split at h
  ·rename_i he;cases h;exact⟨[],rfl,by rw[dx (by omega)];exact⟨rfl,rfl⟩⟩
  ·cases h
 | f :: fs,off,ss,h,hf,yR=>by
  simp only[zHC] at h;split at h
  ·rename_i ho
   cases hs:sh f.type with
   |none=>rw[hs] at h;cases h
   | some a =>
    rw[hs] at h;simp only at h;split at h
    ·rename_i kH;obtain⟨b,hb,rfl⟩:=bm.1 h;obtain⟨y,hy⟩:=hf f (by simp);rw[ho] at hy;obtain⟨ps,h1,h2⟩:=ih _ _ _ _ hs hy;have hl:=h2.length;have vV:=h1.length;simp only[bY,d7] at hl;have uP:off+P.cellsOf f.type<=N:=by omega
     obtain⟨qs,h3,h4⟩:=zNj j5 ih fs _ b hb (fun g hg=>hf g (by simp[hg])) uP;refine⟨ps++qs,h1.app h3,?_⟩;have:=h2.append h4;rw[<- dB,cm] at this;exact this
    ·cases h
  ·cases h
theorem zS3{s:Nat}{ag:Bool}{ss:List Sh}(hs:0<s)(jl:ag=true\/s=1):∀ (len:Nat) (c:List Value),c.length=len*s->(∀ i,i<len->∃ ps,zEo ss ps/\ps.length=s/\zBa w Φ zCp ps ((c.drop (i*s)).take s) []) ->
  ∃ (xs:List PV) (us:List Value),xs.length=len/\(∀ x∈xs,zEo ss x.cells/\x.isAgg=ag/\x.cells.length=s)/\(∀ u∈us,u.cells.size=s)/\us.map zCu=xs.map PV.isAgg/\c=flat us/\zBa w Φ zCp xs us []
 |0,c,hc,_=>⟨[],[],rfl,by simp,by simp,rfl,by rw[dZ] at hc;rw[bq hc];rfl,rfl,rfl⟩
 | len + 1,c,hc,h=>by
  obtain⟨ps,h1,h2,h3⟩:=h 0 (by omega);simp only[dZ,dY] at h3;have yO:(c.take s).length=s:=by simp;rw[hc,cK];omega
  obtain⟨xs,us,g1,g2,g3,g4,g5,g6⟩:=zS3 hs jl len (c.drop s) (by simp[hc,cK]) (fun i hi=>by
   obtain⟨ps,h1,h2,h3⟩:=h (i+1) (by omega);refine⟨ps,h1,h2,?_⟩;rw[dB,show s+i*s=(i+1)*s by rw[cK];omega];exact h3)
  have jJ:c=c.take s++c.drop s:=(cm s c).symm
  cases ag with
  | true =>
   refine⟨.agg ps::xs,.agg (c.take s).toArray::us,by simp[g1],fun x hx=>?_,fun u hu=>?_,by simp[zCu,PV.isAgg,g4],?_,⟨_,us,[],[],rfl,rfl,⟨_,rfl,by simpa using h3⟩,g6⟩⟩
   ·rcases bv.1 hx with rfl|hx
    ·exact⟨h1,rfl,h2⟩
    ·exact g2 x hx
   ·rcases bv.1 hu with rfl|hu
    ·simpa[Value.cells] using yO
    ·exact g3 u hu
   ·conv=>lhs;rw[jJ]
    rw[g5];rfl
  | false =>
   have vJ:s=1:=by
    rcases jl with h|h
    ·cases h
    ·exact h
   subst vJ;obtain⟨p,rfl⟩:=iH.1 h2;obtain⟨u,hu⟩:=iH.1 yO;rw[hu] at h3 jJ;obtain⟨u',us',L1,L2,he,hL,h4,h5⟩:=h3;cases he;obtain⟨rfl,rfl⟩:=dw.1 hL.symm;have yN:p.isAgg=false/\p.cells=[p]/\u.cells=#[u]/\zCu u=false:=by
    obtain⟨p',qs,hp,hfp,_⟩:∃ p' qs,[p]=p'::qs/\(∃ s,zZi s p')/\True:=by
     cases ss with
     |nil=>simp only[zEo] at h1;cases h1|cons s ss=>obtain⟨x,xs,h6,h7,_⟩:=h1;exact⟨x,xs,h6,⟨s,h7⟩,trivial⟩
    cases hp;obtain⟨s,hfp⟩:=hfp
    cases s with
    |num k=>obtain⟨n,rfl,_⟩:=hfp;obtain⟨rfl,_⟩:=h4;exact⟨rfl,rfl,rfl,rfl⟩
    |bool=>obtain⟨n,rfl⟩:=hfp;obtain⟨rfl,_⟩:=h4;exact⟨rfl,rfl,rfl,rfl⟩
    |list ag' ss'=>
     obtain⟨ys,rfl,_⟩:=hfp;obtain⟨_,⟨_,a,n,rfl,_⟩|⟨a,n,c',us',sz,rfl,_⟩⟩:=h4<;>exact⟨rfl,rfl,rfl,rfl⟩
   refine⟨p::xs,u::us,by simp[g1],fun x hx=>?_,fun v hv=>?_,by simp[yN.1,yN.2.2.2,g4],?_,⟨u,us,[],[],rfl,rfl,h4,g6⟩⟩
   ·rcases bv.1 hx with rfl|hx
    ·rw[yN.2.1];exact⟨h1,yN.1,rfl⟩
    ·exact g2 x hx
   ·rcases bv.1 hv with rfl|hv
    ·rw[yN.2.2.1];rfl
    ·exact g3 v hv
   ·conv=>lhs;rw[jJ]
    rw[g5];simp only[flat,fj,yN.2.2.1]
theorem zU7{n:Nat}{e t:TypeId}{fuel:Nat}{cs:List Value}{x:DataW H×List MemPlace}(ht:P.underlying t=some (.array n e))(h:DataW.trod enc P w base spare u4 fuel t cs=some x) :
  ∃ (xs:List (DataW H×List MemPlace)) (m:Nat),cs.length=P.cellsOf t/\xs.length=n/\∀ (i:Nat),i<n->DataW.trod enc P w base spare u4 m e ((cs.drop (i*P.cellsOf e)).take (P.cellsOf e))=xs[i]?:=by
 cases fuel with
 |zero=>simp[DataW.trod] at h|succ m=>
  unfold DataW.trod at h;rw[ht] at h;split at h<;>simp_all;obtain⟨hl,xs,hp,hd⟩:=h;exact⟨xs,by simpa using mapM_some_length hp,m,fun i hi=>mapM_some_get hp i i (by simp[hi])⟩
theorem zWe{s:Nat}{es:List Sh}:∀ (n:Nat) (c:List Value),c.length=n*s->(∀ i,i<n->∃ ps,zEo es ps/\zBa w Φ zCp ps ((c.drop (i*s)).take s) [])->∃ ps,zEo (replicate n es).flatten ps/\zBa w Φ zCp ps c []
 |0,c,hc,_=>⟨[],rfl,by rw[dZ] at hc;rw[bq hc];exact⟨rfl,rfl⟩⟩
 | n + 1,c,hc,h=>by
  obtain⟨ps,h1,h2⟩:=h 0 (by omega);simp only[dZ,dY] at h2;obtain⟨qs,h3,h4⟩:=zWe (s:=s) n (c.drop s) (by simp[hc,cK]) fun i hi=>by
   obtain⟨ps,h1,h2⟩:=h (i+1) (by omega);refine⟨ps,h1,?_⟩;rw[dB,show s+i*s=(i+1)*s by rw[cK];omega];exact h2
  refine⟨ps++qs,?_,?_⟩
  ·rw[fZ,List.flatten_cons];exact h1.app h3
  ·have:=h2.append h4;rw[cm] at this;exact this
theorem zLJ : ∀ (n m:Nat) (t:TypeId) (vs:List Value) (x:DataW H×List MemPlace) (ss:List Sh),zDv P n t=some ss->DataW.trod enc P w 0 spare u4 m t vs=some x->∃ ps,zEo ss ps/\zBa w (fun b=>b<w.heap.size) zCp ps vs []
 |0,m,t,vs,x,ss,h,_=>by cases h
 | n + 1, m, t,vs,x,ss,h,hx=>by
  simp only[zDv] at h;split at h
  ·rename_i k ht;cases h;obtain⟨i,rfl,_,hw⟩:=DataW.trod_int ht hx;simp only[Lit.wf,bb,decide_eq_true_eq] at hw;exact⟨[.int k i],⟨_,[],rfl,⟨i,rfl,hw.1,hw.2⟩,rfl⟩,_,_,[],[],rfl,rfl,⟨rfl,rfl⟩,rfl,rfl⟩
  ·rename_i ht;cases h;obtain⟨b,rfl,_⟩:=DataW.trod_bool ht hx;exact⟨[.bool b],⟨_,[],rfl,⟨b,rfl⟩,rfl⟩,_,_,[],[],rfl,rfl,⟨rfl,rfl⟩,rfl,rfl⟩
  ·rename_i e ht
   cases jm:zDv P n e with
   |none=>rw[jm] at h;cases h
   | some es =>
    rw[jm] at h;simp only at h;split at h
    ·rename_i hc;cases h;obtain⟨jK,jJ,uo⟩:=hc;rcases DataW.trod_slice ht hx with⟨rfl,_⟩|⟨a,len,cap,zZe,rest,k,_,rfl,_,_,w5,qG,yp,jQ,_⟩
     ·exact⟨[.sl []],⟨_,[],rfl,⟨[],rfl,bR _,by simp⟩,rfl⟩,_,_,[],[],rfl,rfl,⟨rfl,.inl ⟨rfl,_,_,rfl,fun _=>rfl⟩⟩,rfl,rfl⟩
     ·by_cases h0:len=0
      ·subst h0;exact⟨[.sl []],⟨_,[],rfl,⟨[],rfl,bR _,by simp⟩,rfl⟩,_,_,[],[],rfl,rfl,⟨rfl,.inl ⟨rfl,_,_,rfl,fun h=>by cases h⟩⟩,rfl,rfl⟩
      have zBm:∀ i,i<len->∃ (cs:List Value) (y:DataW H×List MemPlace),cs.length=P.cellsOf e/\(∀ j,j<P.cellsOf e->w.cell? ((a.add (i*P.cellsOf e)).add j)=cs[j]?)/\DataW.trod enc P w 0 spare u4 k e cs=some y:=by
       intro i hi;have:=jQ i hi;rw[bk (by omega)] at this;obtain⟨cs,h1,h2⟩:=iB.1 this;obtain⟨_,h3,h4⟩:=World.cells?_some h1;exact⟨cs,_,h3,h4,h2⟩
      obtain⟨cs0,_,h00,h01,_⟩:=zBm 0 (by omega);have yS:=h01 0 (by omega);rw[bk (by omega)] at yS;have y9:a.spot=none/\∃ row el fr,w.heap[a.block]? = some (.cells row el fr):=by
       simp only[dZ,Addr.add,if_true,World.cell?] at yS
       cases hb:w.heap[a.block]? with
       |none=>rw[hb] at yS;cases yS|some o=>
        cases o<;>rw[hb] at yS<;>simp only at yS<;>try (cases yS;done)
        rename_i row el fr
        cases hs:a.spot with
        |some s=>rw[hs] at yS;cases yS|none=>exact⟨rfl,row,el,fr,rfl⟩
      obtain⟨yd,row,el,fr,yB⟩:=y9;have j0:∀ i j,i<len->j<P.cellsOf e->w.cell? ((a.add (i*P.cellsOf e)).add j)=row[a.off+(i*P.cellsOf e+j)]?:=by
       intro i j hi hj;have key:∀ m:Nat,(a.add m).block=a.block/\(a.add m).off=a.off+m/\(a.add m).spot=none:=by
        intro m;unfold Addr.add;split
        ·rename_i h;subst h;exact⟨rfl,rfl,yd⟩
        ·exact⟨rfl,rfl,by simp⟩
       have key2:∀ m j:Nat,w.cell? ((a.add m).add j)=row[a.off+(m+j)]?:=by
        intro m j;obtain⟨k1,k2,k3⟩:=key m;by_cases h:j=0
        ·subst h;simp only[Addr.add,if_true,World.cell?] at *;rw[k1,yB];simp only;rw[k3,k2];simp
        ·have:(a.add m).add j=⟨a.block,a.off+m+j,none⟩:=by
          generalize a.add m=a1 at k1 k2 k3;unfold Addr.add;rw[if_neg h,k1,k2]
         rw[this];simp only[World.cell?,yB];rw[b7];rfl
       exact key2 _ _
      have yy:=zS3 (w:=w) (Φ:=fun b=>b<w.heap.size) (ss:=es) jJ (by rw[jK] at uo ⊢;exact uo) len (seg row a.off (len*P.cellsOf e)) ?_ ?_
      ·obtain⟨xs,us,g1,g2,g3,g4,g5,g6⟩:=yy;refine⟨[.sl xs],⟨_,[],rfl,⟨xs,rfl,by omega,fun x hx=>⟨(g2 x hx).1,(g2 x hx).2.1⟩⟩,rfl⟩,_,_,[],[],rfl,rfl,⟨rfl,.inr ⟨a,cap,row,us,P.cellsOf e,by rw[g1],yd,by omega,(bS.1 yB).1,⟨el,fr,yB⟩,?_,⟨?_,g4⟩,by rw[g1];exact g5,g6⟩⟩,rfl,rfl⟩
       ·intro x hx;rw[<- jK];exact(g2 x hx).2.2
       ·intro u hu;rw[<- jK];exact g3 u hu
      ·
       have:=zBm (len-1) (by omega);obtain⟨cs,_,h1,h2,_⟩:=this;have h3:=h2 (P.cellsOf e-1) (by omega);rw[j0 _ _ (by omega) (by omega),bk (by omega)] at h3;have h4:=(bS.1 h3).1;have h5:(len-1)*P.cellsOf e+P.cellsOf e=len*P.cellsOf e:=by
        obtain⟨l,rfl⟩:∃ l,len=l+1:=⟨len-1,by omega⟩;rw[fD,cK];omega
       simp only[seg,bY,d7,f0,jK];omega
      ·intro i hi;obtain⟨cs,y,h1,h2,h3⟩:=zBm i hi;obtain⟨ps,h4,h5⟩:=zLJ n k e cs y es jm h3;refine⟨ps,h4,by rw[h4.length],?_⟩;have:((seg row a.off (len*P.cellsOf e)).drop (i*es.length)).take es.length=cs:=by
        rw[jK];apply dk;intro j;have qc:i*P.cellsOf e+P.cellsOf e<=len*P.cellsOf e:=by
         have:(i+1)*P.cellsOf e<=len*P.cellsOf e:=cS _ (by omega);rw[cK] at this;omega
        simp only[seg,ck,cf];split
        ·rename_i hj;rw[if_pos (by omega),bO,<- j0 i j hi hj,h2 j hj]
        ·rw[dp (by omega)]
       rw[this];exact h5
    ·cases h
  ·rename_i fs ht;obtain⟨xs,k,_,_,hl,vh,hf⟩:=DataW.trod_struct ht hx;obtain⟨ps,h1,h2⟩:=zNj (Φ:=fun b=>b<w.heap.size) hl (fun t vs x ss h1 h2=>zLJ n k t vs x ss h1 h2) fs.toList 0 ss h (fun f yw=>by
    obtain⟨i,hi⟩:=cj yw;have LA:fs[i]? = some f:=by rw[<- bO];exact hi
    have yL:=(bS.1 LA).1;exact ⟨xs[i]'(by omega), by rw [hf i f LA, bk (by omega)]⟩) (bR _)
   exact⟨ps,h1,by simpa using h2⟩
  ·rename_i m' e ht
   cases jm:zDv P n e with
   |none=>rw[jm] at h;cases h|some es=>
    rw[jm] at h;simp only at h;split at h
    ·rename_i hc;cases h;obtain⟨xs,k,hl,vh,hf⟩:=zU7 ht hx;exact zWe m' vs (by rw[hl,hc]) fun i hi=>zLJ n k e _ _ es jm (by rw[hf i hi,bk (by omega)])
    ·cases h
  ·cases h
def zWE(x:Bool×List Sh)(p:PV):Prop:=if x.1 then ∃ cs,p = .agg cs/\zEo x.2 cs else zEo x.2 [p]
def zMg:List (Bool×List Sh)->List PV->Prop
 |[],ps=>ps=[]|s::ss,ps=>∃ p qs,ps=p::qs/\zWE s p/\zMg ss qs
def zFa(P:Program):List TypeId->Option (List (Bool×List Sh))
 |[]=>some []|t::ts=>match zDv P 20 t,zFa P ts with
  |some ss,some rest=>if zY6 P t=true\/zXO P t=false/\ss.length=1 then some ((zY6 P t,ss)::rest) else none
  |_,_=>none
theorem zMg.length:∀ {ss:List (Bool×List Sh)} {ps:List PV},zMg ss ps->ps.length=ss.length
 |[],ps,h=>by simp only[zMg] at h;subst h;rfl|s::ss,ps,h=>by
  obtain⟨p,qs,rfl,_,h2⟩:=h;simp[zMg.length h2]
theorem zRH{n:Nat}{t:TypeId}{ss:List Sh}(h:zDv P n t=some ss)(ha:zXO P t=false):(∃ k,P.underlying t=some (.int k))\/P.underlying t=some .bool\/∃ e,P.underlying t=some (.slice e):=by
 cases n with
 |zero=>cases h|succ n=>
  simp only[zDv] at h;split at h
  ·exact .inl ⟨_,by assumption⟩
  ·exact .inr (.inl (by assumption))
  ·exact .inr (.inr ⟨_,by assumption⟩)
  ·rename_i fs ht;simp only[zXO,ht] at ha;cases ha
  ·rename_i ht;simp only[zXO,ht] at ha;cases ha
  ·cases h
theorem zTh : ∀ (ts:List TypeId) (vs:List Value) (ds:List (DataW H)) (ps:List MemPlace) (ss:List (Bool×List Sh)),zFa P ts=some ss->DataW.TrodAll enc P w 0 spare u4 ts vs ds ps->(∀ (j:Nat) t v,ts[j]? = some t->vs[j]? = some v->Value.okWide P w .any base t v) ->
  ∃ qs,zMg ss qs/\zBa w (fun b=>b<w.heap.size) zCp qs vs []
 |[],vs,ds,ps,ss,hs,h,_=>by
  obtain⟨rfl,_,_⟩:=trodAll_nil h;cases hs;exact⟨[],rfl,rfl,rfl⟩
 | t :: ts,vs,ds,ps,ss,hs,h,hv=>by
  obtain⟨v,vs',d,ds',p,q,rfl,rfl,rfl,⟨fuel,h1⟩,h2⟩:=trodAll_cons h;simp only[zFa] at hs
  cases yC:zDv P 20 t with
  |none=>rw[yC] at hs;cases hs
  | some s =>
   cases yr:zFa P ts with
   |none=>rw[yC,yr] at hs;cases hs
   | some rest =>
    rw[yC,yr] at hs;simp only at hs;split at hs
    ·rename_i hc;cases hs;obtain⟨qs,g1,g2⟩:=zTh ts vs' ds' q rest yr h2 (fun j t v ht yI=>hv (j+1) t v (by simpa using ht) (by simpa using yI));obtain⟨cs,g3,g4⟩:=zLJ 20 fuel t v.cells.toList _ s yC h1;have yE:=hv 0 t v rfl rfl
     cases ha:zY6 P t with
     | true =>
      have qx:∃ fs,P.underlying t=some (.struct fs):=by
       simp only[zY6] at ha;split at ha
       ·exact⟨_,by assumption⟩
       ·cases ha
      obtain⟨fs,ht⟩:=qx;obtain⟨row,rfl,_⟩:=okWide_struct ht yE;exact⟨.agg cs::qs,⟨_,_,rfl,by simp only[zWE,if_true];exact⟨cs,rfl,g3⟩,g1⟩,_,_,[],[],rfl,rfl,⟨row,rfl,g4⟩,g2⟩
     | false =>
      have yN:v.cells.toList=[v]:=by
       rcases zRH yC (hc.elim (fun h=>by rw[h] at ha;cases ha) fun h=>h.1) with⟨k,ht⟩|ht|⟨e,ht⟩
       ·obtain⟨n,rfl⟩:=okWide_int ht yE;rfl
       ·obtain⟨n,rfl⟩:=okWide_bool ht yE;rfl
       ·obtain⟨a,n,c,rfl⟩:=okWide_slice ht yE;rfl
      rw[yN] at g4;obtain⟨u,us,L1,L2,he,hL,g5,g6⟩:∃ u us L1 L2,cs=u::us/\([]:LN)=L1++L2/\Rep w (fun b=>b<w.heap.size) zCp u v L1/\zBa w (fun b=>b<w.heap.size) zCp us [] L2:=by
       cases cs with
       |nil=>have:=g4.length;simp at this|cons u us=>
        obtain⟨v',vs'',L1,L2,he,hL,g5,g6⟩:=g4;cases he;exact⟨u,us,L1,L2,rfl,hL,g5,g6⟩
      obtain⟨rfl,rfl⟩:=dw.1 hL.symm;have wH:us=[]:=bq (by have:=g6.length;simp at this;omega);subst wH;subst he;exact⟨u::qs,⟨_,_,rfl,by simp only[zWE,bp,if_false];exact g3,g1⟩,_,_,[],[],rfl,rfl,g5,g2⟩
    ·cases hs
theorem zRV{α:Type}{R:α->Prop}{enc:α->PV}:∀ {xs:List PV},(∀ x∈xs,∃ a,x=enc a/\R a)->∃ l:List α,xs=l.map enc/\∀ a∈l,R a
 |[],_=>⟨[],rfl,by simp⟩
 | x :: xs,h=>by
  obtain⟨a,rfl,ha⟩:=h x (by simp);obtain⟨l,rfl,hl⟩:=zRV (xs:=xs) fun y hy=>h y (by simp[hy]);exact⟨a::l,rfl,fun b hb=>by
   rcases bv.1 hb with rfl|hb
   ·exact ha
   ·exact hl b hb⟩
theorem zU5{k:IntKind}{p:PV}(h:zZi (.list false [.num k]) p):∃ l:LI,p = .sl (l.map (.int k))/\l.length<=maxLen/\∀ n∈l,k.min<=n/\n<=k.max:=by
 obtain⟨xs,rfl,hl,hx⟩:=h;obtain⟨l,rfl,hb⟩:=zRV (α:=Int) (R:=fun n=>k.min<=n/\n<=k.max) (enc := .int k) (xs:=xs) fun x ue=>by
  obtain⟨⟨q,qs,hc,⟨n,rfl,hn⟩,gG⟩,ha⟩:=hx x ue;simp only[zEo] at gG;subst gG;refine⟨n,?_,hn⟩;cases x<;>simp[PV.cells] at hc<;>first|exact hc|simp_all[PV.isAgg]
 exact⟨l,rfl,by simpa using hl,hb⟩
theorem zKf:∀ {ts:List TypeId} {vs:List Value} {ds:List (DataW H)} {ps:List MemPlace},DataW.TrodAll enc P w 0 spare u4 ts vs ds ps->ds.length=ts.length
 |[],vs,ds,ps,h=>by obtain⟨_,rfl,_⟩:=trodAll_nil h;rfl
 |t::ts,vs,ds,ps,h=>by
  obtain⟨_,_,_,_,_,_,rfl,rfl,_,_,h2⟩:=trodAll_cons h;simp[zKf h2]
theorem zWF{Hh:zBh}{f:FuncId}{fn:Func}{s:ChangeSpec}{apart fresh j4 again:Bool}{W:World}{args:Array Value}{ds:List (DataW H)}{before:List MemPlace}{tb:TypeId}{ss:List (Bool×List Sh)}(zFr:P.follows .mixedOrders=true)(hnm:zE3 P)(zM7:Fit P Hh)(hin:zEY P Hh)
  (hl:laidOutB P=true) (jy:s.vars=[]) (htb:P.underlying tb=some .bool) (qQ:fn.resultTypes=#[tb]) (vT:fn.params.toList.all (fun t=>P.readableRec t&&blt t P.types.size)=true) (kq:∀ ds,ds.length=fn.params.size->s.fn H ds={results:=[.lit (.bool true)],args:=ds}) (uv:zFa P fn.params.toList=some ss) (hZ:ss.length<=1000)
  (hg:∀ qs,zMg ss qs->@zBM (yo1 P Hh) P Hh f qs [] (.bool true) [])
  (hval:∀ (j:Nat) t v,fn.params[j]? = some t->args[j]? = some v->Value.okWide P W .any base t v) (hW:DataW.Whole enc P fn.params.toList s.vars apart W args.toList ds [] before) :
  Calls P f args W fun e W'=>∃ v,e = .returned v/\s.post enc P fn apart fresh j4 again W args v W':=by
 obtain⟨pa,pv,hA,_,_,_,_⟩:=id hW;obtain⟨qs,ka,jk⟩:=zTh fn.params.toList args.toList ds pa ss uv hA (fun j t v ht hv=>hval j t v (by rw[<- bO];exact ht) (by rw[<- bO];exact hv));have wB:=ka.length;refine(zSM (Φ:=fun b=>b<W.heap.size) zFr hnm zM7 hin (hg qs ka) (fun b hb=>hb) jk (by rw[wB];exact bF hZ (by decide))).mono fun e W' ⟨he,g1,g2,g3,g4,g5⟩=>?_;subst he;refine⟨_,rfl,zUy hl jy htb qQ (fun t ht=>?_) (kq ds (by have:=zKf hA;simpa using this)) hW g1 g2 g3 g4 g5⟩;have:=bj.1 vT t ht;rw[bb] at this;exact⟨this.1,zCh this.2⟩
end
end Go.Eng
namespace Go.Eng
open Go
section
variable {P:Program} {H:zBh}
def zET(f:FuncId):zBh:=fun g=>bif beq g f then{} else{intr:=9}
theorem zQ2(zFr:P.follows .mixedOrders=true)(hnm:zE3 P){f:FuncId}{fn:Func}(hf:P.funcs[f]? = some fn)(yE:zXm P fn=true)(n:Nat):zGH P (@zCL P (zET f) yo0 n):=by
 refine @zE9 P (zET f) yo0 zFr hnm (fun g gn hg hi=>?_) (fun g gn args hid v hO hg hi hr=>?_) (fun g first i caps k plan h=>by cases h) n
 ·cases hb:beq g f with
  |true=>
   rw[bc hb,hf] at hg;cases hg;exact yE
  |false=>simp[zET,hb] at hi
 ·cases hb:beq g f with
  |true=>exact absurd (by simp[zET,hb]) hi|false=>
   have e:(zET f g).intr=9:=by simp[zET,hb]
   rw[e] at hr;simp[intrin] at hr
theorem zPu{α:Type}{f:Nat->α}{s:Nat}{v:α}(h:f s=v):upd f s v=f:=by
 funext t;by_cases ht:t=s
 ·subst ht;rw[zAi,h]
 ·rw[zAf ht]
theorem zLz{f:FuncId}{p q v:PV}(hp:p.heavy=false){w:World}{Φ:Nat->Prop}{rv:Nat->Value}{E:Nat->PV}{L:Nat->LN}{vs:Array Value}(hE:∀ s,s<zAa->E s=(zBg [q] []).get s)(kR:∀ s,zAa<=s->E s = .bad)
  (C:Conf w (fun b=>∃ s,b∈L s) Φ w Φ rv E L) (yG:vs.size=1) (yj:∀ i,i<1->vs[i]? = some (rv i)) (j3:∀ s,1<=s->s<zAk->rv s=undef) (hL0:L 0=[]) (hr:Rep w Φ (zBb w rv E) p (rv 0) []) (h:Means P f [p] [] v []) :
  Calls P f vs w fun e w'=>∃ u Φ' rv' E' L',e = .returned u/\Conf w (fun b=>∃ s,b∈L s) Φ w' Φ' rv' E' L'/\([]:List PV).length=([]:List PV).length /\
   (∀ j,j<([]:List PV).length->E' (zAk+j)=([]:List PV).getD j .bad/\rv' (zAk+j)=rv (zAk+j))/\Gave v u rv' E':=by
 have C1:=C.put (s:=0) hp hr;rw[zPu hL0,zPu rfl] at C1;have h1:(1:Nat)<=zAk:=by decide
 have hg:(0:Nat)<zAa:=by decide
 refine h w Φ rv (upd E 0 p) L vs (fun s hs=>?_) (fun s hs=>?_) C1 yG yj j3
 ·by_cases h:s=0
  ·subst h;rw[zAi];rfl
  ·rw[zAf h,hE s hs,zDs (args:=[q]) h1,zDs (args:=[p]) h1];simp[h,show ¬ s<1 by omega]
 ·rw[zAf (by omega)];exact kR s hs
theorem zST{f:FuncId}{v:PV}(h1:Means P f [.nils 0] [] v [])(h2:Means P f [.nn] [] v []):Means P f [.sl []] [] v []:=by
 intro w Φ rv E L vs hE kR C yG yj j3;have h0:E 0 = .sl []:=by rw[hE 0 (by decide)];rfl
 have hr:=C.rep 0;rw[h0] at hr;obtain⟨hL0,hc⟩:=hr;have hc:∃ a n,rv 0 = .slice a 0 n/\(a=none->n=0):=by
  rcases hc with⟨_,a,n,hv,ha⟩|⟨a,n,c,us,sz,hv,_⟩
  ·exact⟨a,n,hv,ha⟩
  ·exact⟨some a,n,hv,fun h=>by cases h⟩
 obtain⟨a,n,hv,ha⟩:=hc
 cases a with
 |none=>
  rw[ha rfl] at hv;exact zLz (p := .nils 0) rfl hE kR C yG yj j3 hL0 ⟨hv,rfl⟩ h1
 |some a=>exact zLz (p := .nn) rfl hE kR C yG yj j3 hL0 ⟨rfl,a,n,hv⟩ h2
theorem zRf{f:FuncId}{v:PV}{k:Nat}(h1:Means P f [.nils 0] [] v []):Means P f [.nils k] [] v []:=by
 intro w Φ rv E L vs hE kR C yG yj j3;have h0:E 0 = .nils k:=by rw[hE 0 (by decide)];rfl
 have hr:=C.rep 0;rw[h0] at hr;exact zLz (p := .nils 0) rfl hE kR C yG yj j3 hr.2 ⟨hr.1,rfl⟩ h1
theorem zLV(zFr:P.follows .mixedOrders=true)(hnm:zE3 P){f:FuncId}{fn:Func}(hf:P.funcs[f]? = some fn)(hb:fn.body.isSome=true)(yE:zXm P fn=true){sz:Nat}(yG:(fn.resultTypes[0]?).bind (fun t=>(zB5 P t).bind (szT P))=some sz)
  (r1:∃ n,@zCL P (zET f) yo0 n f [.nils 0] []=some (.own sz [],[])) (r2:∃ n,@zCL P (zET f) yo0 n f [.nn] []=some (.own sz [],[]))
  (r3:∀ x xs,(∀ y∈x::xs,y.plain=true/\y.cells.length=sz)->(x::xs).length<=zAJ->∃ n,@zCL P (zET f) yo0 n f [.sl (x::xs)] []=some (.own sz (x::xs),[])) :
  ∀ args hid v hO,intrin P fn 1 args hid=some (v,hO)->Callable P f/\Means P f args hid v hO:=by
 have so:=zQ2 zFr hnm hf yE
 have hc:Callable P f:=⟨fn,hf,by cases hx:fn.body with
  |none=>rw[hx] at hb;cases hb|some _=>rfl⟩
 obtain⟨n1,r1⟩:=r1;obtain⟨n2,r2⟩:=r2;have m1:Means P f [.nils 0] [] (.own sz []) []:=(so n1 _ _ _ _ _ r1).2;have m2:=(so n2 _ _ _ _ _ r2).2;intro args hid v hO h;refine⟨hc,?_⟩;rcases args with _|⟨p,_|⟨p2,ps⟩⟩
 ·simp[intrin] at h
 ·rcases hid with _|⟨q,qs⟩
  ·cases p<;>first|(simp[intrin] at h;done)|skip
   ·rename_i k;simp only[intrin,yG,ba,bw] at h;obtain⟨rfl,rfl⟩:=h;exact zRf m1
   ·rename_i xs;simp only[intrin,yG] at h;split at h
    ·rename_i hx;simp only[ba,bw] at h;obtain⟨rfl,rfl⟩:=h;simp only[bb,decide_eq_true_eq,bj] at hx
     cases xs with
     |nil=>exact zST m1 m2|cons x xs=>
      obtain⟨n3,r3⟩:=r3 x xs (fun y hy=>by simpa using hx.1 y hy) hx.2;exact(so n3 _ _ _ _ _ r3).2
    ·cases h
  ·simp[intrin] at h
 ·simp[intrin] at h
theorem zG0[Yo]{f:FuncId}{fn:Func}{sz:Nat}{α:Type}(g:α->PV)(l:List α)(hl:l.length<=4294967296)(hg:∀ x,((g x).plain&&beq (g x).cells.length sz)=true:=by intro x;kernel_rfl)(hf:P.funcs[f]? = some fn:=by kernel_rfl)(hi:(H f).intr=1:=by kernel_rfl)
  (yG:(fn.resultTypes[0]?).bind (fun t=>(zB5 P t).bind (szT P))=some sz:=by kernel_rfl):zBM P H f [.sl (l.map g)] [] (.own sz (l.map g)) []:=by
 refine⟨1,fun n hn=>?_⟩;obtain⟨k,rfl⟩:∃ k,n=k+1:=⟨n-1,by omega⟩;show zGe P H (zCL P H k) Yo.yo zCe (k+1) f _ _=_
 have uL:((l.map g).all (fun x=>x.plain&&decide (x.cells.length=sz))&&decide ((l.map g).length<=zAJ))=true:=by
  simp only[List.all_map,bb,bj,be,decide_eq_true_eq,Function.comp];refine⟨fun x _=>?_,hl⟩;have:=hg x;simp only[bb] at this;exact⟨this.1,bc this.2⟩
 simp only[bb,decide_eq_true_eq] at uL;simp only[zGe,hf,hi,intrin,yG];rw[if_pos (by decide),if_pos (by simpa using uL)]
theorem zHv{f:FuncId}{args:List PV}{v:PV}(h:@zBM yo0 P (zET f) f args [] v []):∃ n,@zCL P (zET f) yo0 n f args []=some (v,[]):=by
 obtain⟨n,h⟩:=h;exact⟨n,h n (bi _)⟩
end
end Go.Eng
set_option maxRecDepth 100000
namespace Go.Eng
open Go Go.Proofs
def idV(p:PV):PV:=p
theorem zIH(xs:List PV):xs.map idV=xs:=by
 induction xs with
 |nil=>rfl|cons x xs ih=>rw[bM,ih];rfl
theorem zFB:∀ {l:List PV},(∀ y∈l,y.plain=true)->zBE l=[]
 |[],_=>rfl|p::ps,h=>by
  rw[zBE,(zLC (h p (by simp))).2,zFB fun y hy=>h y (by simp[hy])];rfl
theorem zR2{xs:List PV}{sz n:Nat}(h:∀ y∈xs,y.plain=true/\y.cells.length=sz)(hn:beq sz n=true):((xs.map idV).all fun y=>y.cells.length.beq n&&y.cells.all fun q=>q.oneCell)=true:=by
 rw[zIH,bj];intro y hy;rw[bb];exact⟨by rw[(h y hy).2];exact hn,bj.2 fun q hq=>zKw (h y hy).1 q hq⟩
theorem zWU{xs:List PV}{sz:Nat}(h:∀ y∈xs,y.plain=true/\y.cells.length=sz):((xs.map idV).all fun x=>x.plain)=true:=by
 rw[zIH,bj];exact fun y hy=>(h y hy).1
section
variable [Yo]
theorem zY9:zBM Tryz.prog (zET 61) 61 [.nils 0] [] (.own 2 []) []:=zBM.closed 50
theorem zZm:zBM Tryz.prog (zET 61) 61 [.nn] [] (.own 2 []) []:=zBM.closed 50
theorem zZc(xs:List PV)(h:∀ y∈xs,y.plain=true/\y.cells.length=2)(hI:0<xs.length)(hl:xs.length<=4294967296):zBM Tryz.prog (zET 61) 61 [.sl (xs.map idV)] [] (.own 2 (xs.map idV)) []:=by
 refine zAe Tryz.f61 ?_;refine zAj 1<|zAc<|zAn 1<|S_a [(0,.v (bool false))] (ap (zN3 (by omega):zHT Tryz.prog BinOp.eql 27 (sl (map idV xs)) (zEQ (Value.slice none 0 0))=some (bool false)) an)<|zA6<|zAB<|zAh<|zAn 2<|S_a [(0,.ob),(0,.ob),(0,.ob),(3,.ob)] (ap (zWU h:((map idV xs).all fun x=>x.plain)=true)<|ap (zR2 h (by kernel_rfl):((map idV xs).all fun y=>y.cells.length.beq ((fun x=>x.size) Tryz.prog.types[37])&&y.cells.all fun q=>q.oneCell)=true)<|ap (?_:(zBE (map idV xs)).isEmpty=true)<|ap ((by exact zAP (by simp only[be,zzLn,zAJ]<;>omega)):(0+(map idV xs).length).ble zAJ=true) an)<|S_g 1<|zAm<|E_a [(1,.yes),(1,.v (own 2 (map idV (take ([]++map idV xs).length xs))))] (ap (blz ([]++map idV xs))<|ap ((by simp[zBd]):own 2 (take ([]++map idV xs).length (drop 0 ([]++map idV xs)))=own 2 (map idV (take ([]++map idV xs).length xs))) an) (own 2 (map idV (take ([]++map idV xs).length xs))) [] (by simp[*]) rfl
 rw[zIH,zFB fun y hy=>(h y hy).1];rfl
theorem zZo:zBM Tryz.prog (zET 65) 65 [.nils 0] [] (.own 1 []) []:=zBM.closed 50
theorem zZg:zBM Tryz.prog (zET 65) 65 [.nn] [] (.own 1 []) []:=zBM.closed 50
theorem zZf(xs:List PV)(h:∀ y∈xs,y.plain=true/\y.cells.length=1)(hI:0<xs.length)(hl:xs.length<=4294967296):zBM Tryz.prog (zET 65) 65 [.sl (xs.map idV)] [] (.own 1 (xs.map idV)) []:=by
 refine zAe Tryz.f65 ?_;refine zAj 1<|zAc<|zAn 1<|S_a [(0,.v (bool false))] (ap (zN3 (by omega):zHT Tryz.prog BinOp.eql 51 (sl (map idV xs)) (zEQ (Value.slice none 0 0))=some (bool false)) an)<|zA6<|zAB<|zAh<|zAn 2<|S_a [(0,.ob),(0,.ob),(0,.ob),(3,.ob)] (ap (zWU h:((map idV xs).all fun x=>x.plain)=true)<|ap (zR2 h (by kernel_rfl):((map idV xs).all fun y=>y.cells.length.beq ((fun x=>x.size) Tryz.prog.types[3])&&y.cells.all fun q=>q.oneCell)=true)<|ap (?_:(zBE (map idV xs)).isEmpty=true)<|ap ((by exact zAP (by simp only[be,zzLn,zAJ]<;>omega)):(0+(map idV xs).length).ble zAJ=true) an)<|S_g 1<|zAm<|E_a [(1,.yes),(1,.v (own 1 (map idV (take ([]++map idV xs).length xs))))] (ap (blz ([]++map idV xs))<|ap ((by simp[zBd]):own 1 (take ([]++map idV xs).length (drop 0 ([]++map idV xs)))=own 1 (map idV (take ([]++map idV xs).length xs))) an) (own 1 (map idV (take ([]++map idV xs).length xs))) [] (by simp[*]) rfl
 rw[zIH,zFB fun y hy=>(h y hy).1];rfl
theorem zX0:zBM Tryz.prog (zET 123) 123 [.nils 0] [] (.own 2 []) []:=zBM.closed 50
theorem zX3:zBM Tryz.prog (zET 123) 123 [.nn] [] (.own 2 []) []:=zBM.closed 50
theorem zYg(xs:List PV)(h:∀ y∈xs,y.plain=true/\y.cells.length=2)(hI:0<xs.length)(hl:xs.length<=4294967296):zBM Tryz.prog (zET 123) 123 [.sl (xs.map idV)] [] (.own 2 (xs.map idV)) []:=by
 refine zAe Tryz.f123 ?_;refine zAj 1<|zAc<|zAn 1<|S_a [(0,.v (bool false))] (ap (zN3 (by omega):zHT Tryz.prog BinOp.eql 40 (sl (map idV xs)) (zEQ (Value.slice none 0 0))=some (bool false)) an)<|zA6<|zAB<|zAh<|zAn 2<|S_a [(0,.ob),(0,.ob),(0,.ob),(3,.ob)] (ap (zWU h:((map idV xs).all fun x=>x.plain)=true)<|ap (zR2 h (by kernel_rfl):((map idV xs).all fun y=>y.cells.length.beq ((fun x=>x.size) Tryz.prog.types[108])&&y.cells.all fun q=>q.oneCell)=true)<|ap (?_:(zBE (map idV xs)).isEmpty=true)<|ap ((by exact zAP (by simp only[be,zzLn,zAJ]<;>omega)):(0+(map idV xs).length).ble zAJ=true) an)<|S_g 1<|zAm<|E_a [(1,.yes),(1,.v (own 2 (map idV (take ([]++map idV xs).length xs))))] (ap (blz ([]++map idV xs))<|ap ((by simp[zBd]):own 2 (take ([]++map idV xs).length (drop 0 ([]++map idV xs)))=own 2 (map idV (take ([]++map idV xs).length xs))) an) (own 2 (map idV (take ([]++map idV xs).length xs))) [] (by simp[*]) rfl
 rw[zIH,zFB fun y hy=>(h y hy).1];rfl
end
theorem zWI:∀ args hid v hO,intrin Tryz.prog Tryz.f61 1 args hid=some (v,hO)->Callable Tryz.prog 61/\Means Tryz.prog 61 args hid v hO :=
 zLV (f:=61) (fn:=Tryz.f61) (sz:=2) (by kernel_rfl) (zJb (by kernel_rfl)) (by kernel_rfl) (by kernel_rfl) (by kernel_rfl) (by kernel_rfl) (zHv (@zY9 yo0)) (zHv (@zZm yo0)) fun x xs h hl=>by
  have:=zHv (@zZc yo0 (x::xs) h (by simp) hl);rw[zIH] at this;exact this
theorem zXb:∀ args hid v hO,intrin Tryz.prog Tryz.f65 1 args hid=some (v,hO)->Callable Tryz.prog 65/\Means Tryz.prog 65 args hid v hO :=
 zLV (f:=65) (fn:=Tryz.f65) (sz:=1) (by kernel_rfl) (zJb (by kernel_rfl)) (by kernel_rfl) (by kernel_rfl) (by kernel_rfl) (by kernel_rfl) (zHv (@zZo yo0)) (zHv (@zZg yo0)) fun x xs h hl=>by
  have:=zHv (@zZf yo0 (x::xs) h (by simp) hl);rw[zIH] at this;exact this
theorem zVh:∀ args hid v hO,intrin Tryz.prog Tryz.f123 1 args hid=some (v,hO)->Callable Tryz.prog 123/\Means Tryz.prog 123 args hid v hO :=
 zLV (f:=123) (fn:=Tryz.f123) (sz:=2) (by kernel_rfl) (zJb (by kernel_rfl)) (by kernel_rfl) (by kernel_rfl) (by kernel_rfl) (by kernel_rfl) (zHv (@zX0 yo0)) (zHv (@zX3 yo0)) fun x xs h hl=>by
  have:=zHv (@zYg yo0 (x::xs) h (by simp) hl);rw[zIH] at this;exact this
theorem zYw:∀ f∈[61,65,123],∀ fn,Tryz.prog.funcs[f]? = some fn->∀ args hid v hO,intrin Tryz.prog fn 1 args hid=some (v,hO)->Callable Tryz.prog f/\Means Tryz.prog f args hid v hO:=by
 intro f hf fn kq;simp only[bv,du,or_false] at hf;rcases hf with rfl|rfl|rfl
 ·have e:Tryz.prog.funcs[61]? = some Tryz.f61:=by kernel_rfl
  rw[e] at kq;cases kq;exact zWI
 ·have e:Tryz.prog.funcs[65]? = some Tryz.f65:=by kernel_rfl
  rw[e] at kq;cases kq;exact zXb
 ·have e:Tryz.prog.funcs[123]? = some Tryz.f123:=by kernel_rfl
  rw[e] at kq;cases kq;exact zVh
end Go.Eng
namespace Go.Eng
open Go
section
variable {P:Program} {H:zBh}
theorem zUd{l:LI}{c c' k K m:Nat}(hl:l.length=m)(hc:c'=c)(h:c+K<=m)(hk:beq k K=true):sub (.agg (zAY l m)) c' (some k)=some (.agg (zAY ((l.drop c).take K) K)):=by
 subst hc;rw[bc hk,zEG hl,zEG (F:=(l.drop c').take K) (by rw[bY,d7];omega)];simp only[sub];rw[if_pos (by simpa[hl] using h),<- fe,<- fd]
theorem zPA{α:Type}{g:α->PV}{l:List α}{i c:Nat}{b:PV}{qs:List PV}{u:α}(h:zAF b c qs=g u:=by kernel_rfl):((l.map g).set i b).set i (zAF b c qs)=(l.set i u).map g:=by
 rw[h,List.set_set,zFm]
def zCM(l:LI):LI:=l.mergeSort fun x y=>decide (x<=y)
theorem zQP[Yo]{f:FuncId}{fn:Func}(l:LI)(hl:l.length<=4294967296)(hf:P.funcs[f]? = some fn:=by kernel_rfl)(hi:(H f).intr=2:=by kernel_rfl):zBM P H f [.bor zAk [] 1 0 l.length] [.own 1 (l.map I)] (.tup []) [.own 1 ((zCM l).map I)]:=by
 refine⟨1,fun n hn=>?_⟩;obtain⟨k,rfl⟩:∃ k,n=k+1:=⟨n-1,by omega⟩;show zGe P H (zCL P H k) Yo.yo zCe (k+1) f _ _=_
 have hin:zEX (l.map I)=some l:=by
  clear hl
  induction l with
  |nil=>rfl|cons x l ih=>
   simp only[zEX] at ih;simp[zEX,ih,bind,I]
 have e:intrin P fn 2 [.bor zAk [] 1 0 l.length] [.own 1 (l.map I)]=some (.tup [],[.own 1 ((zCM l).map I)]):=by
  show(match zEX (l.map I) with|some is=>_|none=>_)=_
  rw[hin];exact if_pos ⟨rfl,rfl,hl⟩
 simp only[zGe,hf,hi];rw[if_pos (by decide)];exact e
theorem zNc[Yo]{f:FuncId}{fn:Func}{sz:Nat}(hf:P.funcs[f]? = some fn:=by kernel_rfl)(hi:(H f).intr=1:=by kernel_rfl)(yG:(fn.resultTypes[0]?).bind (fun t=>(zB5 P t).bind (szT P))=some sz:=by kernel_rfl):zBM P H f [.nils 0] [] (.own sz []) []:=by
 refine⟨1,fun n hn=>?_⟩;obtain⟨k,rfl⟩:∃ k,n=k+1:=⟨n-1,by omega⟩;show zGe P H (zCL P H k) Yo.yo zCe (k+1) f _ _=_
 simp only[zGe,hf,hi,intrin,yG];rw[if_pos (by decide)]
theorem zLf:∀ l:LI,zEX (l.map I)=some l
 |[]=>rfl|x::l=>by
  have ih:=zLf l;simp only[zEX] at ih;simp[zEX,ih,bind,I]
theorem zNY[Yo]{f:FuncId}{fn:Func}(l:List LI)(i:Nat)(hi:i<l.length)(hl:(l.getD i []).length<=4294967296)(hf:P.funcs[f]? = some fn:=by kernel_rfl)(hn:(H f).intr=2:=by kernel_rfl):zBM P H f [.bor zAk [(i,0)] 1 0 (l.getD i []).length] [.own 1 (l.map fun r=>.own 1 (r.map I))] (.tup []) [.own 1 ((l.set i (zCM (l.getD i []))).map fun r=>.own 1 (r.map I))]:=by
 refine⟨1,fun n wG=>?_⟩;obtain⟨k,rfl⟩:∃ k,n=k+1:=⟨n-1,by omega⟩;show zGe P H (zCL P H k) Yo.yo zCe (k+1) f _ _=_
 have e1:(l.map fun r=>own 1 (r.map I))[i]? = some (.own 1 ((l.getD i []).map I)):=by
  rw[ce,bk hi,bu,bK,bk hi];rfl
 have e:intrin P fn 2 [.bor zAk [(i,0)] 1 0 (l.getD i []).length] [.own 1 (l.map fun r=>.own 1 (r.map I))]=some (.tup [],[.own 1 ((l.set i (zCM (l.getD i []))).map fun r=>.own 1 (r.map I))]):=by
  show(match(l.map fun r=>own 1 (r.map I))[i]? with|some (.own 1 xs)=>_|_=>none)=_
  rw[e1];show(match zEX ((l.getD i []).map I) with|some is=>_|none=>none)=_
  rw[zLf,iw];exact if_pos ⟨rfl,rfl,hl⟩
 simp only[zGe,hf,hn];rw[if_pos (by decide)];exact e
theorem zU8(cl so:List FuncId)(sf:List (FuncId×FuncId))(h:((range P.funcs.size).all fun f=>beq (H f).intr 0||beq (H f).intr 9||(beq (H f).intr 1&&cl.any (beq f))||(beq (H f).intr 2&&so.any (beq f))||sf.any fun q=>beq f q.1&&beq (H f).intr (q.2+100))=true)
  (hc:∀ f∈cl,∀ fn,P.funcs[f]? = some fn->∀ args hid v hO,intrin P fn 1 args hid=some (v,hO)->Callable P f/\Means P f args hid v hO)
  (hs:∀ f∈so,∀ fn,P.funcs[f]? = some fn->∀ args hid v hO,intrin P fn 2 args hid=some (v,hO)->Callable P f/\Means P f args hid v hO)
  (uH:∀ q∈sf,∀ fn,P.funcs[q.1]? = some fn->∀ args hid v hO,intrin P fn (q.2+100) args hid=some (v,hO)->Callable P q.1/\Means P q.1 args hid v hO):zEY P H:=fun f fn args hid v hO hf hi hr=>by
 have yL:=(bS.1 hf).1;have:=bj.1 h f (bC.2 yL);rw[bV,bV,bV,bV,bb,bb] at this;rcases this with(((h1|h1)|⟨h1,h2⟩)|⟨h1,h2⟩)|h1
 ·exact absurd (bc h1) hi
 ·rw[bc h1] at hr;simp[intrin] at hr
 ·rw[bc h1] at hr;obtain⟨g,hg,hb⟩:=bN.1 h2;rw[bc hb] at hf ⊢;exact hc g hg fn hf args hid v hO hr
 ·rw[bc h1] at hr;obtain⟨g,hg,hb⟩:=bN.1 h2;rw[bc hb] at hf ⊢;exact hs g hg fn hf args hid v hO hr
 ·obtain⟨q,hq,hb⟩:=bN.1 h1;rw[bb] at hb;rw[bc hb.2] at hr;rw[bc hb.1] at hf ⊢;exact uH q hq fn hf args hid v hO hr
end
end Go.Eng
namespace Go.Eng
open Go
section
variable {P:Program} {H:zBh}
theorem zKu:∀ {xs:List PV} {l:LI},zEX xs=some l->xs=l.map fun n=>.int .i64 n
 |[],l,h=>by
  simp[zEX] at h;subst h;rfl
 |x :: xs,l,h=>by
  simp only[zEX,iL,bind,iB,pure,ba] at h;obtain⟨n,hn,l',gq,rfl⟩:=h;split at hn
  ·simp only[ba] at hn;subst hn;rw[bM,zKu (xs:=xs) gq]
  ·cases hn
theorem zJR{w:World}{Φ:Nat->Prop}{A:Al}:∀ {l:LI} {us:List Value} {L:LN},zBa w Φ A (l.map fun n=>.int .i64 n) us L->us=l.map (fun n=>.int .i64 n)/\L=[]
 |[],us,L,h=>h|x::l,us,L,h=>by
  obtain⟨v,vs,L1,L2,rfl,rfl,⟨rfl,rfl⟩,h2⟩:=h;obtain⟨rfl,rfl⟩:=zJR h2;exact⟨rfl,rfl⟩
theorem zFM:∀ l:LI,flat (l.map fun n=>Value.int .i64 n)=l.map fun n=>.int .i64 n
 |[]=>rfl|x::l=>by
  rw[bM,zCD,zFM l];rfl
theorem zJM{w:World}{Φ:Nat->Prop}{A:Al}:∀ l:LI,zBa w Φ A (l.map fun n=>.int .i64 n) (l.map fun n=>.int .i64 n) []
 |[]=>⟨rfl,rfl⟩|_::l=>⟨_,_,[],[],rfl,rfl,⟨rfl,rfl⟩,zJM l⟩
theorem zIl(l:LI)(o:Nat)(c:Array Value)(h:o+l.length<=c.size)(k:Nat)(u:Value)(hk:(l.map fun n=>Value.int .i64 n)[k]? = some u) :
  (Go.Sort.putCells (Value.int .i64) o l.toArray c)[o+k]? = some u:=by
 rw[ce] at hk;obtain⟨x,hx,rfl⟩:=bm.1 hk;have yL:k<l.length:=(bf.1 hx).1;rw[Go.Sort.putCells,Array.getElem?_mapIdx,cU (by omega),bu,if_pos (by simpa using yL)];rw[show o+k-o=k by omega,getElem!_pos _ k (by simpa using yL)];simp only[List.getElem_toArray];rw[(bf.1 hx).2]
theorem zQw{f:FuncId}(h0:∀ p cap w,Calls P f #[.slice p 0 cap] w fun e w'=>e = .returned (.tuple #[])/\w'=w)
  (h1:∀ (blk off cap:Nat) (zs:LI) (w:World),Go.Sort.Holds (Value.int .i64) w blk off zs.toArray->blk<w.heap.size->zs.length<4611686018427387904 ->
   Calls P f #[.slice (some ⟨blk,off,none⟩) zs.length cap] w fun e w'=>e = .returned (.tuple #[])/\∃ n os,w'=Go.Sort.grow (Go.Sort.putRow (Value.int .i64) (Go.Sort.ahead w n) blk off (zs.mergeSort fun x y=>decide (x<=y)).toArray) os)
  (l:LI) (hl:l.length<4611686018427387904):Means P f [.bor zAk [] 1 0 l.length] [.own 1 (l.map fun n=>.int .i64 n)] (.tup []) [.own 1 ((zCM l).map fun n=>.int .i64 n)]:=by
 intro w Φ rv E L vs hE kR C yG yj j3;have e0:E 0 = .bor zAk [] 1 0 l.length:=by rw[hE 0 (by decide)];rfl
 have eH:E zAk = .own 1 (l.map fun n=>.int .i64 n):=by rw[hE zAk (by decide)];rfl
 have uC:=yj 0 (by simp);have wp:vs=#[rv 0]:=by
  apply fE;intro i
  cases i with
  |zero=>exact uC|succ i=>
   have:vs.size=1:=yG;rw[fh (by omega)];rfl
 have r0:=C.rep 0;rw[e0] at r0;obtain⟨hL0,hg,⟨a,cap,ub,yT,yX,y9⟩,kK⟩:=r0;have rH:=C.rep zAk;rw[eH] at rH;have yy:zBU (rv 0) (rv zAk) 1 0 l.length:=by
  obtain⟨sz,xs,h3,h4,h5⟩:=kK (rv zAk) (.own 1 (l.map fun n=>.int .i64 n)) (by rw[eH];rfl) rfl;subst h4;exact h5
 have gave:∀ (rv':Nat->Value) (E':Nat->PV),Gave (.tup []) (.tuple #[]) rv' E':=fun rv' E'=>⟨fun h=>absurd rfl (h []),fun ps y6=>⟨#[],rfl,by cases y6;rfl,fun j p h=>by cases y6;simp at h⟩⟩
 cases w5:l with
 |nil=>
  subst w5;rw[wp,ub];refine(h0 a cap w).mono ?_;rintro e w' ⟨rfl,rfl⟩;refine⟨_,Φ,rv,E,L,rfl,C,rfl,fun j hj=>?_,gave _ _⟩;have:j=0:=by simpa using hj
  subst this;exact⟨by rw[bL,eH];simp[zCM],rfl⟩
 | cons x0 l0 =>
  rw[<- w5];have hI:l≠[]:=by rw[w5];simp
  rcases rH with⟨hx,_⟩|⟨a0,n,c,us,L',hL,hv,hsp0,qL,yB,yD,yO,⟨wH,_⟩,ya,jP⟩
  ·exact absurd (List.map_eq_nil_iff.1 hx) hI
  obtain⟨rfl,rfl⟩:=zJR jP;rw[zFM] at ya;rw[hv] at yy;simp only[zBU,dZ,dt] at yy;obtain⟨hv0',_⟩:=yy;have hZ:(l.map fun n=>int .i64 n).length=l.length:=by simp
  rw[hZ] at qL ya hv;rw[fi] at ya yD;have j0:∀ k u,(l.map fun n=>Value.int .i64 n)[k]? = some u->c[a0.off+k]? = some u:=by
   intro k u hk;rw[<- ya] at hk;exact zCY hk
  have wq:=yB;obtain⟨et,het⟩:=wq;have kN:a0.block<w.heap.size:=(bS.1 het).1;have hH:Go.Sort.Holds (Value.int .i64) w a0.block (a0.off+0) l.toArray:=by
   intro j hj;have hj':j<l.length:=by simpa using hj
   refine⟨?_,by simp[World.frozen?,het]⟩;rw[zCy yB.any,bL];refine j0 j _ ?_;rw[ce,bk hj',bu,getElem!_pos _ j hj];rfl
  rw[wp,hv0'];refine(h1 a0.block (a0.off+0) n l w hH kN hl).mono ?_;rintro e w' ⟨rfl,k,os,rfl⟩;have hS:(l.mergeSort fun x y=>decide (x<=y))=zCM l:=rfl;rw[hS,bL];have v8:(zCM l).length=l.length:=List.length_mergeSort ..;have ws:∀ b,(Go.Sort.putRow (Value.int .i64) (Go.Sort.ahead w k) a0.block a0.off (zCM l).toArray).heap[b]? = if a0.block=b then(w.heap[b]?).map (Go.Sort.onCells (Go.Sort.putCells (Value.int .i64) a0.off (zCM l).toArray)) else w.heap[b]?:=by
   intro b;simp only[Go.Sort.putRow,Go.Sort.mapBlock,Go.Sort.ahead,dC]
  have wt:∀ b,b<w.heap.size->(Go.Sort.grow (Go.Sort.putRow (Value.int .i64) (Go.Sort.ahead w k) a0.block a0.off (zCM l).toArray) os).heap[b]? = if a0.block=b then(w.heap[b]?).map (Go.Sort.onCells (Go.Sort.putCells (Value.int .i64) a0.off (zCM l).toArray)) else w.heap[b]?:=by
   intro b hb;rw[Go.Sort.heap_grow_old _ _ (by simpa using hb),ws]
  have jM:zEw (Go.Sort.grow (Go.Sort.putRow (Value.int .i64) (Go.Sort.ahead w k) a0.block a0.off (zCM l).toArray) os) a0.block (Go.Sort.putCells (Value.int .i64) a0.off (zCM l).toArray c):=by
   refine⟨et,?_⟩;rw[wt _ kN,if_pos rfl,het];rfl
  have C1:=C.take (s:=zAk) (g:=zAa) (by decide) (bi _);have hgh:zAk≠zAa:=by decide
  have C2:=C1.make (w':=Go.Sort.grow (Go.Sort.putRow (Value.int .i64) (Go.Sort.ahead w k) a0.block a0.off (zCM l).toArray) os) (fun s=>beq s zAa) (fun s hs=>by rw[bc hs];exact bi _) (g:=zAa) (bi _) (p := .own 1 ((zCM l).map fun n=>.int .i64 n)) (v:=rv zAk) (Lp:=[a0.block])
   (fun A hA=>.inr ⟨a0,n,_,(zCM l).map (fun n=>.int .i64 n),[],rfl,by rw[hv];simp[v8],hsp0,by simpa[v8] using qL,jM,by simpa[Go.Sort.putCells] using yD,fun x hx=>by
     obtain⟨y,_,rfl⟩:=bT.1 hx;rfl,⟨fun u hu=>by
     obtain⟨y,_,rfl⟩:=bT.1 hu;rfl,by simp[fT,Function.comp_def,zCu,PV.isAgg]⟩,by
     rw[zFM];refine zFL (by simp) fun j u hj=>?_;exact zIl _ _ _ (by rw[v8];omega) _ _ hj,zJM _⟩)
   (by simp) (fun b hb=>.inl ⟨zAa,by rw[zAi,hL];exact bv.2 (.inl (by simpa using hb)),by decide⟩) (by simp) (fun b hb hc=>by
    rw[wt b hb,if_neg];intro hab;have:=hc zAa (by rw[zAi,hL,<- hab];simp);exact absurd this (by decide)) ⟨rfl,rfl,rfl⟩
  have C3:=C2.lay (d:=zAk) (g:=zAa) (by decide) (bi _);refine⟨_,_,_,_,_,rfl,C3,rfl,fun j hj=>?_,gave _ _⟩;have:j=0:=by simpa using hj
  subst this;rw[bL];refine⟨?_,?_⟩
  ·rw[zAf hgh,zAi,zAi];rfl
  ·rw[zAi,zAi]
theorem zOB{f:FuncId}(h0:∀ p cap w,Calls P f #[.slice p 0 cap] w fun e w'=>e = .returned (.tuple #[])/\w'=w)
  (h1:∀ (blk off cap:Nat) (zs:LI) (w:World),Go.Sort.Holds (Value.int .i64) w blk off zs.toArray->blk<w.heap.size->zs.length<4611686018427387904 ->
   Calls P f #[.slice (some ⟨blk,off,none⟩) zs.length cap] w fun e w'=>e = .returned (.tuple #[])/\∃ n os,w'=Go.Sort.grow (Go.Sort.putRow (Value.int .i64) (Go.Sort.ahead w n) blk off (zs.mergeSort fun x y=>decide (x<=y)).toArray) os)
  (rows:List PV) (i:Nat) (l:LI) (hi:rows[i]? = some (.own 1 (l.map fun n=>.int .i64 n))) (hl:l.length<4611686018427387904) :
  Means P f [.bor zAk [(i,0)] 1 0 l.length] [.own 1 rows] (.tup []) [.own 1 (rows.set i (.own 1 ((zCM l).map fun n=>.int .i64 n)))]:=by
 intro w Φ rv E L vs hE kR C yG yj j3;have e0:E 0 = .bor zAk [(i,0)] 1 0 l.length:=by rw[hE 0 (by decide)];rfl
 have eH:E zAk = .own 1 rows:=by rw[hE zAk (by decide)];rfl
 have uC:=yj 0 (by simp);have wp:vs=#[rv 0]:=by
  apply fE;intro i
  cases i with
  |zero=>exact uC|succ i=>
   have:vs.size=1:=yG;rw[fh (by omega)];rfl
 have r0:=C.rep 0;rw[e0] at r0;obtain⟨hL0,hg,⟨a,cap,ub,yT,yX,y9⟩,kK⟩:=r0;have rH:=C.rep zAk;rw[eH] at rH;rcases rH with⟨hx,_⟩|⟨a0,n0,c0,us0,L0,hL,hv,hsp0,hln0,gg,hroom0,hcl0,⟨hus0,husA0⟩,gh,hrs0⟩
 ·subst hx;simp at hi
 obtain⟨u,La,Li,Lb,hu,qy,hr,yf,_⟩:=hrs0.split hi;have hucell:u.cells.toList[0]? = some u:=by
  rcases hr with⟨_,_,hv⟩|⟨_,_,_,_,_,_,hv,_⟩<;>rw[hv]<;>rfl
 have jj:kid w (rv zAk) (.own 1 rows) i 0=some u:=by
  rw[hv];show w.cell? (zAx a0 (i*1+0))=some u
  have hf:=zDT hus0 hu hucell;rw[<- gh] at hf;have:=zCY hf;simp only[zAx];rw[zCy gg.any];exact this
 have ug:zA3 w (rv zAk) (E zAk).unlock [(i,0)]=some (u,.own 1 (l.map fun n=>.int .i64 n)):=by
  rw[eH];show zA3 w (rv zAk) (.own 1 rows) [(i,0)]=_
  rw[zHU];have:child (.own 1 rows) i 0=some (.own 1 (l.map fun n=>.int .i64 n)):=by
   simp[child,zA9,hi,PV.cells]
  rw[this,jj];rfl
 have yy:zBU (rv 0) u 1 0 l.length:=by
  obtain⟨sz,xs,h3,h4,h5⟩:=kK _ _ ug rfl;subst h4;exact h5
 have gave:∀ (rv':Nat->Value) (E':Nat->PV),Gave (.tup []) (.tuple #[]) rv' E':=fun rv' E'=>⟨fun h=>absurd rfl (h []),fun ps y6=>⟨#[],rfl,by cases y6;rfl,fun j p h=>by cases y6;simp at h⟩⟩;obtain⟨yH,hix⟩:=bf.1 hi
 cases w5:l with
 | nil =>
  subst w5;rw[wp,ub];refine(h0 a cap w).mono ?_;rintro e w' ⟨rfl,rfl⟩;refine⟨_,Φ,rv,E,L,rfl,C,rfl,fun j hj=>?_,gave _ _⟩;have:j=0:=by simpa using hj
  subst this;refine⟨?_,rfl⟩;rw[bL,eH];have:rows.set i (.own 1 ((zCM []).map fun n=>.int .i64 n))=rows:=by
   have e1:own 1 ((zCM []).map fun n=>int .i64 n)=rows[i]:=by rw[hix];simp[zCM]
   rw[e1];exact List.set_getElem_self yH
  rw[this];rfl
 | cons x0 l0 =>
  rw[<- w5];have hI:l≠[]:=by rw[w5];simp
  rcases hr with⟨hx,_⟩|⟨ai,n,c,us,Lx,uJ,hvi,hspi,qL,yB,yD,yO,⟨wH,_⟩,ya,jP⟩
  ·exact absurd (List.map_eq_nil_iff.1 hx) hI
  obtain⟨rfl,rfl⟩:=zJR jP;subst uJ;rw[zFM] at ya;rw[hvi] at yy;simp only[zBU,dZ,dt] at yy;obtain⟨hv0',_⟩:=yy;have hZ:(l.map fun n=>int .i64 n).length=l.length:=by simp
  rw[hZ] at qL ya hvi;rw[fi] at ya yD;have j0:∀ k u,(l.map fun n=>Value.int .i64 n)[k]? = some u->c[ai.off+k]? = some u:=by
   intro k u hk;rw[<- ya] at hk;exact zCY hk
  have wq:=yB;obtain⟨et,het⟩:=wq;have kN:ai.block<w.heap.size:=(bS.1 het).1;have yV:=C.nodup zAk;rw[hL,qy,cv] at yV;have hai:ai.block∈L zAk:=by rw[hL,qy];simp
  have hnΦ:¬ Φ ai.block:=(C.own _ _ hai).2.1;have vM:ai.block≠a0.block:=fun h=>yV.1 (by rw[<- h];simp);have j9:∀ b∈La++Lb,b≠ai.block:=by
   intro b hb he;subst he;have h2:=yV.2;rw[bI] at h2;obtain⟨h2,_,h3⟩:=h2;rw[bI] at h2;rcases bg.1 hb with h4|h4
   ·exact h2.2.2 _ h4 _ (by simp) rfl
   ·exact h3 _ (by simp) _ h4 rfl
  have hH:Go.Sort.Holds (Value.int .i64) w ai.block (ai.off+0) l.toArray:=by
   intro j hj;have hj':j<l.length:=by simpa using hj
   refine⟨?_,by simp[World.frozen?,het]⟩;rw[zCy yB.any,bL];refine j0 j _ ?_;rw[ce,bk hj',bu,getElem!_pos _ j hj];rfl
  rw[wp,hv0'];refine(h1 ai.block (ai.off+0) n l w hH kN hl).mono ?_;rintro e w' ⟨rfl,k,os,rfl⟩;have hS:(l.mergeSort fun x y=>decide (x<=y))=zCM l:=rfl;rw[hS,bL];have v8:(zCM l).length=l.length:=List.length_mergeSort ..;have ws:∀ b,(Go.Sort.putRow (Value.int .i64) (Go.Sort.ahead w k) ai.block ai.off (zCM l).toArray).heap[b]? = if ai.block=b then(w.heap[b]?).map (Go.Sort.onCells (Go.Sort.putCells (Value.int .i64) ai.off (zCM l).toArray)) else w.heap[b]?:=by
   intro b;simp only[Go.Sort.putRow,Go.Sort.mapBlock,Go.Sort.ahead,dC]
  have wt:∀ b,b<w.heap.size->(Go.Sort.grow (Go.Sort.putRow (Value.int .i64) (Go.Sort.ahead w k) ai.block ai.off (zCM l).toArray) os).heap[b]? = if ai.block=b then(w.heap[b]?).map (Go.Sort.onCells (Go.Sort.putCells (Value.int .i64) ai.off (zCM l).toArray)) else w.heap[b]?:=by
   intro b hb;rw[Go.Sort.heap_grow_old _ _ (by simpa using hb),ws]
  have jM:zEw (Go.Sort.grow (Go.Sort.putRow (Value.int .i64) (Go.Sort.ahead w k) ai.block ai.off (zCM l).toArray) os) ai.block (Go.Sort.putCells (Value.int .i64) ai.off (zCM l).toArray c):=by
   refine⟨et,?_⟩;rw[wt _ kN,if_pos rfl,het];rfl
  have hold:∀ b,b<w.heap.size->b≠ai.block->(Go.Sort.grow (Go.Sort.putRow (Value.int .i64) (Go.Sort.ahead w k) ai.block ai.off (zCM l).toArray) os).heap[b]? = w.heap[b]?:=fun b hb hI=>by
   rw[wt b hb,if_neg (dA hI)]
  have hin:∀ b∈L zAk,b<w.heap.size:=fun b hb=>(C.own _ _ hb).1;have yk:zDq w (Go.Sort.grow (Go.Sort.putRow (Value.int .i64) (Go.Sort.ahead w k) ai.block ai.off (zCM l).toArray) os) Φ Φ:=fun b hb=>⟨hb,hold b (C.frz b hb).1 (fun h=>hnΦ (h▸hb))⟩;have hrow0':zEw (Go.Sort.grow (Go.Sort.putRow (Value.int .i64) (Go.Sort.ahead w k) ai.block ai.off (zCM l).toArray) os) a0.block c0:=by
   obtain⟨e0t,h0t⟩:=gg;exact⟨e0t,by rw[hold _ (hin _ (by rw[hL];simp)) (dA vM)];exact h0t⟩
  have qz:Rep (Go.Sort.grow (Go.Sort.putRow (Value.int .i64) (Go.Sort.ahead w k) ai.block ai.off (zCM l).toArray) os) Φ zCp (.own 1 ((zCM l).map fun n=>.int .i64 n)) u [ai.block] :=
   .inr ⟨ai,n,_,(zCM l).map (fun n=>.int .i64 n),[],rfl,by rw[hvi];simp[v8],hspi,by simpa[v8] using qL,jM,by simpa[Go.Sort.putCells] using yD,fun x hx=>by
     obtain⟨y,_,rfl⟩:=bT.1 hx;rfl,⟨fun u hu=>by
     obtain⟨y,_,rfl⟩:=bT.1 hu;rfl,by simp[fT,Function.comp_def,zCu,PV.isAgg]⟩,by
     rw[zFM];refine zFL (by simp) fun j u hj=>?_;exact zIl _ _ _ (by rw[v8];omega) _ _ hj,zJM _⟩
  have hrs1:=yf _ Φ zCp _ [ai.block] (fun _ _ _ h=>h) yk (fun b hb=>hold b (hin b (by rw[hL,qy];rcases bg.1 hb with h|h<;>simp[h])) (j9 b hb)) qz;have hsl2:(rows.set i (.own 1 ((zCM l).map fun n=>.int .i64 n))).length=rows.length:=by simp
  have C1:=C.take (s:=zAk) (g:=zAa) (by decide) (bi _);have hgh:zAk≠zAa:=by decide
  have C2 := C1.make (w':=Go.Sort.grow (Go.Sort.putRow (Value.int .i64) (Go.Sort.ahead w k) ai.block ai.off (zCM l).toArray) os) (fun s=>beq s zAa) (fun s hs=>by rw[bc hs];exact bi _) (g:=zAa) (bi _) (p := .own 1 (rows.set i (.own 1 ((zCM l).map fun n=>.int .i64 n)))) (v:=rv zAk) (Lp:=L zAk)
   (fun A hA=>.inr ⟨a0,n0,c0,us0,La++[ai.block]++Lb,by rw[hL,qy],by rw[hv,hsl2],hsp0,by rw[hsl2];exact hln0,hrow0',hroom0,fun x hx=>by
     rcases dm hx with h|h
     ·exact hcl0 x h
     ·rw[h];rfl,⟨hus0,by
     rw [husA0,iw];have e1 : (own 1 ((zCM l).map fun n => int .i64 n)).isAgg = (rows.map PV.isAgg)[i]'(by simpa using yH) := by
      rw[dz,hix];rfl
     rw[e1,List.set_getElem_self]⟩,by rw[hsl2];exact gh,hrs1⟩)
   (C.nodup zAk) (fun b hb=>.inl ⟨zAa,by rw[zAi];exact hb,by decide⟩) (by simp) (fun b hb hc=>by
    refine hold b hb fun h=>?_;have:=hc zAa (by rw[zAi,h];exact hai);exact absurd this (by decide)) ⟨rfl,rfl,rfl⟩
  have C3:=C2.lay (d:=zAk) (g:=zAa) (by decide) (bi _);refine⟨_,_,_,_,_,rfl,C3,rfl,fun j hj=>?_,gave _ _⟩;have:j=0:=by simpa using hj
  subst this;rw[bL];refine⟨?_,?_⟩
  ·rw[zAf hgh,zAi,zAi];rfl
  ·rw[zAi,zAi]
theorem sort_ok{f:FuncId}{fn:Func}(hf:P.funcs[f]? = some fn)(hb:fn.body.isSome=true)(h0:∀ p cap w,Calls P f #[.slice p 0 cap] w fun e w'=>e = .returned (.tuple #[])/\w'=w)
  (h1:∀ (blk off cap:Nat) (zs:LI) (w:World),Go.Sort.Holds (Value.int .i64) w blk off zs.toArray->blk<w.heap.size->zs.length<4611686018427387904 ->
   Calls P f #[.slice (some ⟨blk,off,none⟩) zs.length cap] w fun e w'=>e = .returned (.tuple #[])/\∃ n os,w'=Go.Sort.grow (Go.Sort.putRow (Value.int .i64) (Go.Sort.ahead w n) blk off (zs.mergeSort fun x y=>decide (x<=y)).toArray) os) :
  ∀ args hid v hO,intrin P fn 2 args hid=some (v,hO)->Callable P f/\Means P f args hid v hO:=by
 have hc:Callable P f:=⟨fn,hf,by cases hx:fn.body with
  |none=>rw[hx] at hb;cases hb|some _=>rfl⟩
 intro args hid v hO h;refine⟨hc,?_⟩;unfold intrin at h;split at h<;>first|(rename_i hw;cases hw;done)|skip
 all_goals first|(cases h;done)|(simp at h;done)|skip
 ·rename_i r n xs;split at h
  ·rename_i is wI;split at h
   ·rename_i kW;obtain⟨rfl,rfl,jb⟩:=kW;simp only[ba,bw] at h;obtain⟨rfl,rfl⟩:=h;rw[zKu wI];exact zQw h0 h1 is (Nat.lt_of_le_of_lt jb (by decide))
   ·cases h
  ·cases h
 ·rename_i r i n rows vw;split at h
  ·rename_i xs hi;split at h
   ·rename_i is wI;split at h
    ·rename_i kW;obtain⟨rfl,rfl,jb⟩:=kW;simp only[ba,bw] at h;obtain⟨rfl,rfl⟩:=h;rw[zKu wI] at hi;exact zOB h0 h1 rows i is hi (Nat.lt_of_le_of_lt jb (by decide))
    ·cases h
   ·cases h
  ·cases h
end
end Go.Eng
namespace Go.Proofs
open Go.Shelf
def Tryz.lays189_ren:Go.Shelf.Ren:=⟨fun|189=>56|125=>133|257=>132|128=>185|129=>186|294=>176|295=>177|296=>178|297=>179|298=>180|299=>181|216=>182|300=>183|301=>184|328=>205|329=>206|330=>207|331=>208|332=>209|215=>210|343=>224|n=>n,fun|28=>51|3=>3|46=>180|0=>0|51=>174|53=>225|4=>4|183=>217|182=>216|131=>221|5=>5|9=>9|218=>235|222=>116|228=>247|229=>248|n=>n,fun|n=>n⟩
theorem Tryz.lays189:Go.Proofs.Lays.n189 Tryz.prog Tryz.lays189_ren:={
 mixed:=by kernel_rfl
 f125:=Tryz.func133.trans (congrArg some (by kernel_rfl))
 f128:=Tryz.func185.trans (congrArg some (by kernel_rfl))
 f129:=Tryz.func186.trans (congrArg some (by kernel_rfl))
 f189:=Tryz.func56.trans (congrArg some (by kernel_rfl))
 f215:=Tryz.func210.trans (congrArg some (by kernel_rfl))
 f216:=Tryz.func182.trans (congrArg some (by kernel_rfl))
 f257:=Tryz.func132.trans (congrArg some (by kernel_rfl))
 f294:=Tryz.func176.trans (congrArg some (by kernel_rfl))
 f295:=Tryz.func177.trans (congrArg some (by kernel_rfl))
 f296:=Tryz.func178.trans (congrArg some (by kernel_rfl))
 f297:=Tryz.func179.trans (congrArg some (by kernel_rfl))
 f298:=Tryz.func180.trans (congrArg some (by kernel_rfl))
 f299:=Tryz.func181.trans (congrArg some (by kernel_rfl))
 f300:=Tryz.func183.trans (congrArg some (by kernel_rfl))
 f301:=Tryz.func184.trans (congrArg some (by kernel_rfl))
 f328:=Tryz.func205.trans (congrArg some (by kernel_rfl))
 f329:=Tryz.func206.trans (congrArg some (by kernel_rfl))
 f330:=Tryz.func207.trans (congrArg some (by kernel_rfl))
 f331:=Tryz.func208.trans (congrArg some (by kernel_rfl))
 f332:=Tryz.func209.trans (congrArg some (by kernel_rfl))
 f343:=Tryz.func224.trans (congrArg some (by kernel_rfl))
 t0:=Tryz.underlying0
 a0:=Tryz.isAgg0
 z0:=Tryz.sizeOf0
 v0:=Tryz.zeroValue0
 t3:=Tryz.underlying3
 a3:=Tryz.isAgg3
 z3:=Tryz.sizeOf3
 v3:=Tryz.zeroValue3
 t4:=Tryz.underlying4
 a4:=Tryz.isAgg4
 z4:=Tryz.sizeOf4
 v4:=Tryz.zeroValue4
 t5:=Tryz.underlying5
 a5:=Tryz.isAgg5
 z5:=Tryz.sizeOf5
 v5:=Tryz.zeroValue5
 t9:=Tryz.underlying9
 a9:=Tryz.isAgg9
 z9:=Tryz.sizeOf9
 v9:=Tryz.zeroValue9
 t28:=Tryz.underlying51
 a28:=Tryz.isAgg51
 z28:=Tryz.sizeOf51
 v28:=Tryz.zeroValue51
 t46:=Tryz.underlying180
 a46:=Tryz.isAgg180
 z46:=Tryz.sizeOf180
 v46:=Tryz.zeroValue180
 t51:=Tryz.underlying174
 a51:=Tryz.isAgg174
 z51:=Tryz.sizeOf174
 v51:=Tryz.zeroValue174
 t53:=Tryz.underlying225
 a53:=Tryz.isAgg225
 z53:=Tryz.sizeOf225
 v53:=Tryz.zeroValue225
 t131:=Tryz.underlying221
 a131:=Tryz.isAgg221
 z131:=Tryz.sizeOf221
 v131:=Tryz.zeroValue221
 t182:=Tryz.underlying216
 a182:=Tryz.isAgg216
 z182:=Tryz.sizeOf216
 v182:=Tryz.zeroValue216
 t183:=Tryz.underlying217
 a183:=Tryz.isAgg217
 z183:=Tryz.sizeOf217
 v183:=Tryz.zeroValue217
 t218:=Tryz.underlying235
 a218:=Tryz.isAgg235
 z218:=Tryz.sizeOf235
 v218:=Tryz.zeroValue235
 t222:=Tryz.underlying116
 a222:=Tryz.isAgg116
 z222:=Tryz.sizeOf116
 v222:=Tryz.zeroValue116
 t228:=Tryz.underlying247
 a228:=Tryz.isAgg247
 z228:=Tryz.sizeOf247
 v228:=Tryz.zeroValue247
 t229:=Tryz.underlying248
 a229:=Tryz.isAgg248
 z229:=Tryz.sizeOf248
 v229:=Tryz.zeroValue248}
theorem Tryz.sorts:∀ f∈[56],∀ fn,Tryz.prog.funcs[f]? = some fn->∀ args hid v hO,Go.Eng.intrin Tryz.prog fn 2 args hid=some (v,hO)->Go.Eng.Callable Tryz.prog f/\Go.Eng.Means Tryz.prog f args hid v hO:=fun f hf fn kq=>by
 rw[bl] at hf;subst hf;have e:Tryz.prog.funcs[56]? = some Tryz.f56:=Tryz.func56;rw[e] at kq;cases kq;exact Go.Eng.sort_ok e rfl (fun p cap w=>Any.slices_Sort_int_none Tryz.lays189 p cap w) (fun blk off cap zs w h1 h2 h3=>Any.slices_Sort_int Tryz.lays189 blk off cap zs w h1 h2 h3)
end Go.Proofs
namespace Go.Proofs.YtppbomajegnkeaaGreat
open Go.ChangeShapes Go.WideShapes Go.ChangeAt Go.RowKit Go.Eng
theorem Tryz.own:ownKnob Tryz.prog.godebug=none:=by kernel_rfl
theorem Tryz.laidOut:laidOutB Tryz.prog=true:=by kernel_rfl
theorem zFr:Tryz.prog.follows .mixedOrders=true:=by kernel_rfl
theorem hnm:zE3 Tryz.prog:=zJb (by kernel_rfl)
theorem zM7:Fit Tryz.prog zCG:=zYf (by kernel_rfl)
theorem hin:zEY Tryz.prog zCG:=zU8 [61,65,123] [56] [] (by kernel_rfl) zYw Tryz.sorts (fun _ h=>by cases h)
end Go.Proofs.YtppbomajegnkeaaGreat
namespace Go.Eng
open Go
theorem zV0{k:IntKind}{p:PV}(h:zWE (false,[.num k]) p):∃ n,p = .int k n/\k.min<=n/\n<=k.max:=by
 simp only[zWE,bp,if_false] at h;obtain⟨q,qs,hc,⟨n,rfl,hn⟩,gG⟩:=h;cases hc;exact⟨n,rfl,hn⟩
theorem zTU{k:IntKind}{p:PV}(h:zWE (false,[.list false [.num k]]) p):∃ l:LI,p = .sl (l.map (.int k))/\l.length<=maxLen/\∀ n∈l,k.min<=n/\n<=k.max:=by
 simp only[zWE,bp,if_false] at h;obtain⟨q,qs,hc,h,gG⟩:=h;cases hc;exact zU5 h
end Go.Eng
set_option maxRecDepth 10000
set_option maxHeartbeats 4000000
namespace Go.Eng
open Go Go.Proofs
theorem zAr{α:Type}{l:List α}{i:Nat}{d:α}(h:i<l.length):l.getD i d=l[i]:=by simp[List.getD,bk h]
theorem zFy{α β:Type}{f:β->α->β}{b:β}{l:List α}{i:Nat}{d:α}(h:i<l.length):(l.take (i+1)).foldl f b=f ((l.take i).foldl f b) (l.getD i d):=by
 rw[zAr h];exact zQ8 h
theorem zJg{α:Type}{l m:List α}{i:Nat}{d:α}(h:i<l.length)(h':i<m.length)(ha:l.take i=m.take i)(he:l.getD i d=m.getD i d):l.take (i+1)=m.take (i+1):=by
 rw[zAr h,zAr h'] at he;rw[fo,fo,ha,bk h,bk h',he]
theorem zBI{α:Type}{l:List α}{i:Nat}{d:α}(h:i<l.length):l.take (i+1)=l.take i++[l.getD i d]:=by
 rw[fo,bk h,zAr h];rfl
theorem zBP{α:Type}{l:List α}{d:α}{p:α->Prop}(h:∀ x∈l,p x)(i:Nat)(hi:i<l.length):p (l.getD i d):=by
 rw[zAr hi];exact h _ (cC hi)
theorem zC6{l:LI}{i j:Nat}{v:Int}:(l.set i v).getD j 0=if i=j/\j<l.length then v else l.getD j 0:=by
 simp only[bK,dV];by_cases h:i=j
 ·subst h;by_cases h2:i<l.length
  ·simp[h2]
  ·simp[h2]
 ·simp[h]
def zDI{α:Type}(φ:α->Bool)(l:List α):Int:=if l.findIdx φ<l.length then(l.findIdx φ:Int) else -1
theorem zBK {α : Type} {φ : α -> Bool} {l : List α} {i : Nat} (h : i < l.length) (h0 : ∀ j (hj : j < i), φ (l[j]'(by omega)) = false) (hi : φ l[i] = true) : zDI φ l = i := by
 have:l.findIdx φ=i:=by
  rw[List.findIdx_eq h];exact⟨hi,fun j hj=>by simpa using h0 j hj⟩
 simp[zDI,this,h]
theorem zBV {α : Type} {φ : α -> Bool} {l : List α} (h0 : ∀ j (hj : j < l.length), φ (l[j]'hj) = false) : zDI φ l = -1 := by
 have:¬ l.findIdx φ<l.length:=by
  intro h;have:=fw (w:=h);rw[h0 _ h] at this;cases this
 simp[zDI,this]
theorem zDA{α:Type}(φ:α->Bool)(l:List α):decide (zDI φ l>=0)=l.any φ:=by
 unfold zDI;split
 ·rename_i h;have:=fw (w:=h);have h2:l.any φ=true:=bN.2 ⟨_,cC h,this⟩;rw[h2];simp
 ·rename_i h;have h2:l.any φ=false:=by
   rw[cV];intro x hx hp;exact h (List.findIdx_lt_length_of_exists ⟨x,hx,hp⟩)
  rw[h2];simp
structure Nw where
 h:Int
 l:LP
 n:List (Int×Bool)
 s:List LI
abbrev prV(x:Int×Int):PV := .agg [I x.1,I x.2]
abbrev ntV(x:Int×Bool):PV := .agg [I x.1,.bool x.2]
abbrev prs(l:LP):PV := .sl (l.map prV)
abbrev zA7(l:LI):PV := .own 1 (l.map I)
abbrev nwV(n:Nw):PV := .agg [I n.h,.sl (n.l.map prV),.sl (n.n.map ntV),.sl (n.s.map zBi)]
abbrev nwO(n:Nw):PV := .agg [I n.h,.own 2 (n.l.map prV),.own 2 (n.n.map ntV),.own 1 (n.s.map zA7)]
instance:FrzOf zA7 zBi:=⟨fun x=>by simp only[zA2,zGj]⟩
def inB(n lo hi:Int):Bool:=decide (lo<=n)&&decide (n<=hi)
def pr2(x:Int×Int):Int×Int:=(if x.2<x.1 then x.2 else x.1,if x.2>x.1 then x.2 else x.1)
abbrev FG[Yo](f:FuncId)(args:List PV)(v:PV):Prop:=zBM Tryz.prog zCG f args [] v []
section
variable [Yo]
theorem f107(n lo hi:Int):FG 107 [I n,I lo,I hi] (.bool (inB n lo hi)):=by
 refine zAe Tryz.f107 ?_;refine zAj 1<|zAn 4<|zJ5 10 (n>=lo) (fun k0=>(S_g 5<|zAm<|E_a [] an (bool (decide (n<=hi))) [] ?_ rfl)) (fun k0=>(S_g 5<|zAm<|E_a [] an (bool false) [] ?_ rfl))
 ·simp only[inB,decide_eq_true k0,cR]
 ·simp only[inB,decide_eq_false k0,cX]
theorem f165(n k:Int):FG 165 [I n,.sl [I k]] (I (max n k)):=by
 refine zAe Tryz.f165 ?_;refine zAj 1<|zAc<|zAn 1<|zAp 1<|S_g 1<|zAg 0 ?_
 refine zAu (fun(i,v)=>i=0/\v=n\/i=1/\v=if k>n then k else n) (fun(i,v)=>[(0,I v),(9,I (i:Nat))]) (fun(i,_)=>1-i) ((0:Nat),n) (.inl ⟨rfl,rfl⟩) fun(i,v) hi=>?_;rcases hi with⟨rfl,rfl⟩|⟨rfl,rfl⟩
 ·refine zAj 1<|zAc<|zB9<|zAh<|zAc<|zAg 1<|zAj 3<|zAb<|S_g 4<|zAb<|S_g 2 ?_
  exact rnd (1,if k>v then k else v) (.inr ⟨rfl,rfl⟩) (by simp only;omega)
 ·refine zAj 1<|zAc<|zAB<|zAG 0<|zAj 2<|zAm<|E_a [] an (I (if k>n then k else n)) [] ?_ rfl
  rw[Int.max_def];by_cases h:k>n
  ·rw[if_pos h,if_pos (by omega)]
  ·rw[if_neg h];split
   ·have:n=k:=by omega
    rw[this]
   ·rfl
theorem f110(x:Int×Int):FG 110 [prV x] (prV (pr2 x)):=by
 refine zAe Tryz.f110 ?_;refine zAj 2<|zAn 1<|zAp 1<|zAp 1<|zAp 2<|zAp 1<|zAp 1<|zAp 1<|S_g 4<|zAm E_0
theorem f109(n:Nw)(x:Int)(hb:1<=n.h/\n.h<=10):FG 109 [nwV n,I x] (.bool (inB x 0 (n.h-1))):=by
 refine zAe Tryz.f109 ?_;refine zAj 2<|zAn 3<|S_a [(1,.v (I (n.h-1)))] (ap ((zCj rfl (by omega)):I (IntKind.i64.wrap (n.h-1))=I (n.h-1)) an)<|S_a [(10,.ret (bool (inB x 0 (n.h-1))) [])] (ap (f107 x (0) (n.h-1)) an)<|S_g 1<|zAm E_0
theorem f106(n:Nw)(x:Int)(hb:n.n.length<=8):FG 106 [nwV n,I x] (.bool (inB x 0 (n.n.length-1))):=by
 refine zAe Tryz.f106 ?_;refine zAj 2<|zAn 3<|S_a [(0,.n n.n.length)] (ap (lnS ntV n.n) an)<|S_a [(1,.v (I ((n.n.length:Int)-1)))] (ap ((zCj rfl (by omega)):I (IntKind.i64.wrap ((n.n.length:Int)-1))=I ((n.n.length:Int)-1)) an)<|S_a [(10,.ret (bool (inB x 0 ((n.n.length:Int)-1))) [])] (ap (f107 x (0) ((n.n.length:Int)-1)) an)<|S_g 1<|zAm E_0
end
end Go.Eng
namespace Go.Eng
open Go
end Go.Eng
set_option maxRecDepth 10000
set_option maxHeartbeats 4000000
namespace Go.Eng
open Go Go.Proofs
def has{α:Type}[DecidableEq α](l:List α)(x:α):Bool:=l.any fun y=>decide (x=y)
theorem zSW{α:Type}[DecidableEq α]{l:List α}{x:α}:has l x=decide (x∈l):=by
 rw[cZ];simp[has]
theorem zTy{x y:Int×Int}:(decide (x.1=y.1)&&decide (x.2=y.2))=decide (x=y):=by
 rw[cZ];simp[Prod.ext_iff]
theorem zW7{α:Type}{l:List α}{z x:α}{i:Nat}(h:i<l.length):(l.take i++replicate (l.length-i) z).set i x=l.take i++[x]++replicate (l.length-(i+1)) z:=by
 obtain⟨k,hk⟩:∃ k,l.length-i=k+1:=⟨l.length-i-1,by omega⟩;rw[hk,show l.length-(i+1)=k by omega,fZ,fR _ _ (by rw[bY];omega),bY,fU (by omega),fX,cy,cx];rfl
section
variable [Yo]
theorem f98(l m:List (Int))(hl:l.length<4294967296):FG 98 [.sl (l.map I),.sl (m.map I)] (.bool (decide (l=m))):=by
 refine zAe Tryz.f98 ?_;refine zAj 1<|zAc<|zAn 1<|S_a [(0,.n l.length)] (ap (lnS I l) an)<|zAp 1<|S_a [(0,.n m.length)] (ap (lnS I m) an)<|S_g 1<|zDZ ((l.length:Int)=(m.length:Int)) (fun k0=>(zAj 1<|zAm<|E_a [] an (bool false) [] ?_ rfl)) (fun k0=>(zAh<|zAc<|zAn 1<|S_a [(0,.n l.length)] (ap (lnS I l) an)<|S_g 1<|zAg 0 ?_))
 ·simp;intro h;subst h;simp at *
 refine zAu (fun i=>i<=l.length/\l.take i=m.take i) (fun i=>[(13,I (i:Nat))]) (fun i=>l.length-i) (0:Nat) (by simp) fun i ⟨hi,ha⟩=>?_;refine zAj 1<|zAc<|zC4 ((i:Int)<(l.length:Int)) (fun k1=>(zAh<|zAc<|zAg 1<|zAj 2<|zAn 2<|S_a [(2,.v (I (l.getD i 0)))] (ap (zBN (0) (by omega):(map I l)[i]? = some (I (l.getD i 0))) an)<|zAp 3<|S_a [(2,.v (I (m.getD i 0)))] (ap (zBN (0) (by omega):(map I m)[i]? = some (I (m.getD i 0))) an)<|S_g 2<|zDZ (l.getD i 0=m.getD i 0) (fun k2=>(zAj 1<|zAm<|E_a [] an (bool false) [] ?_ rfl)) (fun k2=>(zAh<|zAb<|S_i i<|S_g 1 ?_)))) (fun k1=>(zAG 0<|zAj 1<|zAm<|E_a [] an (bool true) [] ?_ rfl))
 ·simp;intro h;subst h;omega
 ·refine⟨i+1,⟨by omega,?_⟩,by omega,by kernel_rfl,by kernel_rfl⟩;exact zJg (d:=0) (by omega) (by omega) ha (by assumption)
 ·rw[bz (by omega),bz (by omega)] at ha;simp[ha]
theorem f28(l m:List (Int))(hl:l.length<4294967296):FG 28 [.sl (l.map I),.sl (m.map I)] (.bool (decide (l=m))):=by
 refine zAe Tryz.f28 ?_;refine zAj 1<|zAn 2<|S_a [(8,.ret (bool (decide (l=m))) [])] (ap (f98 l m (by omega)) an)<|S_g 1<|zAm E_0
theorem f158(l m:LP)(hl:l.length<4294967296):FG 158 [.sl (l.map prV),.sl (m.map prV)] (.bool (decide (l=m))):=by
 refine zAe Tryz.f158 ?_;refine zAj 1<|zAc<|zAn 1<|S_a [(0,.n l.length)] (ap (lnS prV l) an)<|zAp 1<|S_a [(0,.n m.length)] (ap (lnS prV m) an)<|S_g 1<|zDZ ((l.length:Int)=(m.length:Int)) (fun k0=>(zAj 1<|zAm<|E_a [] an (bool false) [] ?_ rfl)) (fun k0=>(zAh<|zAc<|zAn 1<|S_a [(0,.n l.length)] (ap (lnS prV l) an)<|S_g 1<|zAg 0 ?_))
 ·simp;intro h;subst h;simp at *
 refine zAu (fun i=>i<=l.length/\l.take i=m.take i) (fun i=>[(13,I (i:Nat))]) (fun i=>l.length-i) (0:Nat) (by simp) fun i ⟨hi,ha⟩=>?_;refine zAj 1<|zAc<|zC4 ((i:Int)<(l.length:Int)) (fun k1=>(zAh<|zAc<|zAg 1<|zAj 2<|zAn 2<|S_a [(2,.v (prV (l.getD i d0)))] (ap (zBN d0 (by omega):(map prV l)[i]? = some (prV (l.getD i d0))) an)<|zAp 3<|S_a [(2,.v (prV (m.getD i d0)))] (ap (zBN d0 (by omega):(map prV m)[i]? = some (prV (m.getD i d0))) an)<|zAp 1<|S_a [(0,.v (bool !(decide ((l.getD i d0).fst=(m.getD i d0).fst)&&decide ((l.getD i d0).snd=(m.getD i d0).snd))))] (ap (zTp:zHT Tryz.prog BinOp.neq 108 (prV (l.getD i d0)) (prV (m.getD i d0))=some (bool !(decide ((l.getD i d0).fst=(m.getD i d0).fst)&&decide ((l.getD i d0).snd=(m.getD i d0).snd)))) an)<|zA6<|zEE (!(decide ((l.getD i d0).fst=(m.getD i d0).fst)&&decide ((l.getD i d0).snd=(m.getD i d0).snd))) (fun k2=>(zAj 1<|zAm<|E_a [] an (bool false) [] ?_ rfl)) (fun k2=>(zAh<|zAb<|S_i i<|S_g 1 ?_)))) (fun k1=>(zAG 0<|zAj 1<|zAm<|E_a [] an (bool true) [] ?_ rfl))
 ·simp;intro h;subst h;simp at *
 ·refine⟨i+1,⟨by omega,?_⟩,by omega,by kernel_rfl,by kernel_rfl⟩;exact zJg (d:=d0) (by omega) (by omega) ha (by first|assumption|(simp only[cu,bB,bb,decide_eq_true_eq] at k2;exact Prod.ext k2.1 k2.2))
 ·rw[bz (by omega),bz (by omega)] at ha;simp[ha]
theorem f78(l m:LP)(hl:l.length<4294967296):FG 78 [.sl (l.map prV),.sl (m.map prV)] (.bool (decide (l=m))):=by
 refine zAe Tryz.f78 ?_;refine zAj 1<|zAn 2<|S_a [(8,.ret (bool (decide (l=m))) [])] (ap (f158 l m (by omega)) an)<|S_g 1<|zAm E_0
theorem f105(l m:LP)(hl:l.length<4294967296):FG 105 [.sl (l.map prV),.sl (m.map prV)] (.bool (decide (l=m))):=by
 refine zAe Tryz.f105 ?_;refine zAj 1<|zAc<|zAn 1<|S_a [(0,.n l.length)] (ap (lnS prV l) an)<|zAp 1<|S_a [(0,.n m.length)] (ap (lnS prV m) an)<|S_g 1<|zDZ ((l.length:Int)=(m.length:Int)) (fun k0=>(zAj 1<|zAm<|E_a [] an (bool false) [] ?_ rfl)) (fun k0=>(zAh<|zAc<|zAn 1<|S_a [(0,.n l.length)] (ap (lnS prV l) an)<|S_g 1<|zAg 0 ?_))
 ·simp;intro h;subst h;simp at *
 refine zAu (fun i=>i<=l.length/\l.take i=m.take i) (fun i=>[(13,I (i:Nat))]) (fun i=>l.length-i) (0:Nat) (by simp) fun i ⟨hi,ha⟩=>?_;refine zAj 1<|zAc<|zC4 ((i:Int)<(l.length:Int)) (fun k1=>(zAh<|zAc<|zAg 1<|zAj 2<|zAn 2<|S_a [(2,.v (prV (l.getD i d0)))] (ap (zBN d0 (by omega):(map prV l)[i]? = some (prV (l.getD i d0))) an)<|zAp 3<|S_a [(2,.v (prV (m.getD i d0)))] (ap (zBN d0 (by omega):(map prV m)[i]? = some (prV (m.getD i d0))) an)<|zAp 1<|S_a [(0,.v (bool !(decide ((l.getD i d0).fst=(m.getD i d0).fst)&&decide ((l.getD i d0).snd=(m.getD i d0).snd))))] (ap (zTp:zHT Tryz.prog BinOp.neq 37 (prV (l.getD i d0)) (prV (m.getD i d0))=some (bool !(decide ((l.getD i d0).fst=(m.getD i d0).fst)&&decide ((l.getD i d0).snd=(m.getD i d0).snd)))) an)<|zA6<|zEE (!(decide ((l.getD i d0).fst=(m.getD i d0).fst)&&decide ((l.getD i d0).snd=(m.getD i d0).snd))) (fun k2=>(zAj 1<|zAm<|E_a [] an (bool false) [] ?_ rfl)) (fun k2=>(zAh<|zAb<|S_i i<|S_g 1 ?_)))) (fun k1=>(zAG 0<|zAj 1<|zAm<|E_a [] an (bool true) [] ?_ rfl))
 ·simp;intro h;subst h;simp at *
 ·refine⟨i+1,⟨by omega,?_⟩,by omega,by kernel_rfl,by kernel_rfl⟩;exact zJg (d:=d0) (by omega) (by omega) ha (by first|assumption|(simp only[cu,bB,bb,decide_eq_true_eq] at k2;exact Prod.ext k2.1 k2.2))
 ·rw[bz (by omega),bz (by omega)] at ha;simp[ha]
theorem f34(l m:LP)(hl:l.length<4294967296):FG 34 [.sl (l.map prV),.sl (m.map prV)] (.bool (decide (l=m))):=by
 refine zAe Tryz.f34 ?_;refine zAj 1<|zAn 2<|S_a [(8,.ret (bool (decide (l=m))) [])] (ap (f105 l m (by omega)) an)<|S_g 1<|zAm E_0
theorem f20(l:LP)(hl:l.length<1000000):FG 20 [.sl (l.map prV)] (.own 2 (l.map prV)):=by
 refine zAe Tryz.f20 ?_;refine zAj 1<|zAn 1<|S_a [(0,.n l.length)] (ap (lnS prV l) an)<|S_a [(4,.ob),(0,.ob),(1,.v (own 2 (map (fun x=>agg [I 0,I 0]) (replicate l.length ()))))] (ap ((by exact zAl (by omega)):decide (l.length<=l.length)=true)<|ap ((by exact zAl (by simp[zAJ]<;>omega)):decide (l.length<=zAJ)=true)<|ap ((by simp):own 2 (replicate l.length (agg [I 0,I 0]))=own 2 (map (fun x=>agg [I 0,I 0]) (replicate l.length ()))) an)<|S_g 1<|zAn 2<|zTV (fun q=>q) 3 2 (map (fun x=>agg [I 0,I 0]) (replicate l.length ())) (map prV l) (map prV l) (zO8 fun _ _=>(by first|exact zGD|exact⟨rfl,rfl,rfl,rfl,bi _,rfl⟩)) (by simp<;>omega) (zRt (by simp<;>omega)) zOo.nil (zA6<|zAn 1<|S_a [(2,.yes)] (ap ((by exact zBj (by simp<;>omega)):(beq 0 0&&(map prV l).length.beq (map prV l).length)=true) an)<|zA6<|zAm<|E_z [(1,.yes),(1,.v (own 2 (map prV l)))] (ap (blz (map prV l))<|ap ((zAQ zAW):own 2 (take (map prV l).length (drop 0 (map prV l)))=own 2 (map prV l)) an))
theorem f35(l:List (Int))(hl:l.length<1000000):FG 35 [.sl (l.map I)] (.own 1 (l.map I)):=by
 refine zAe Tryz.f35 ?_;refine zAj 1<|zAn 1<|S_a [(0,.n l.length)] (ap (lnS I l) an)<|S_a [(4,.ob),(0,.ob),(1,.v (own 1 (map I (replicate l.length 0))))] (ap ((by exact zAl (by omega)):decide (l.length<=l.length)=true)<|ap ((by exact zAl (by simp[zAJ]<;>omega)):decide (l.length<=zAJ)=true)<|ap ((by simp):own 1 (replicate l.length (I 0))=own 1 (map I (replicate l.length 0))) an)<|S_g 1<|zAn 2<|zTV (fun q=>q) 3 1 (map I (replicate l.length 0)) (map I l) (map I l) (zO8 fun _ _=>(by first|exact zGD|exact⟨rfl,rfl,rfl,rfl,bi _,rfl⟩)) (by simp<;>omega) (zRt (by simp<;>omega)) zOo.nil (zA6<|zAn 1<|S_a [(2,.yes)] (ap ((by exact zBj (by simp<;>omega)):(beq 0 0&&(map I l).length.beq (map I l).length)=true) an)<|zA6<|zAm<|E_z [(1,.yes),(1,.v (own 1 (map I l)))] (ap (blz (map I l))<|ap ((zAQ zAW):own 1 (take (map I l).length (drop 0 (map I l)))=own 1 (map I l)) an))
theorem f89(l:List LI)(hl:l.length<1000000)(hr:∀ r∈l,r.length<1000000):FG 89 [.sl (l.map zBi)] (.own 1 (l.map zA7)):=by
 refine zAe Tryz.f89 ?_;refine zAj 1<|zAn 1<|S_a [(0,.n l.length)] (ap (lnS zBi l) an)<|S_a [(4,.ob),(0,.ob),(1,.v (own 1 (map (fun l=>own 1 (map I l)) (replicate l.length []))))] (ap ((by exact zAl (by omega)):decide (l.length<=l.length)=true)<|ap ((by exact zAl (by simp[zAJ]<;>omega)):decide (l.length<=zAJ)=true)<|ap ((by simp):own 1 (replicate l.length (own 1 []))=own 1 (map (fun l=>own 1 (map I l)) (replicate l.length []))) an)<|S_g 1<|zAc<|zAn 1<|S_a [(0,.n l.length)] (ap (lnS zBi l) an)<|S_g 1<|zAg 0 ?_
 refine zAu (fun(i,q)=>i<=l.length/\q=l.take i++replicate (l.length-i) []) (fun(i,q)=>[(3,.own 1 (q.map zA7)),(11,I (i:Nat))]) (fun(i,_)=>l.length-i) ((0:Nat),replicate l.length []) ⟨bR _,by simp⟩ fun(i,q) ⟨hi,hq⟩=>?_;have wB:q.length=l.length:=by rw[hq];simp;omega
 by_cases yH:i<l.length
 ·have ud:=zBP (d:=[]) hr i yH;refine zAj 1<|zAc<|zAL ((i:Int)<(l.length:Int)) (by omega)<|zAh<|zAc<|zAg 1<|zAn 1<|S_a [(2,.v (zBi (l.getD i [])))] (ap (zBN [] (by omega):(map zBi l)[i]? = some (zBi (l.getD i []))) an)<|S_g 3<|zAb<|zAp 3<|S_a [(6,.ret (own 1 (map I (l.getD i []))) [])] (ap (f35 (l.getD i []) (by omega)) an)<|S_a [(2,.ob),(1,.n i)] (ap ((by exact zAl (by simp only[be,zzLn]<;>omega)):decide (i<(map zA7 q).length)=true)<|ap ((by simp):some (0+i)=some i) an)<|S_a [(8,.root (own 1 (map zA7 (q.set i (l.getD i [])))) true)] (ap (zNy (zBN [] (by omega)) zFm:zBO (own 1 (map zA7 q)) [] i 0 (own 1 (map I (l.getD i []))).cells=some (own 1 (map zA7 (q.set i (l.getD i []))))/\zAH (own 1 (map zA7 q)) (own 1 (map zA7 (q.set i (l.getD i [])))) []=true) an)<|zA6<|zAb<|S_i i<|S_g 1 ?_
  refine⟨(i+1,q.set i (l.getD i [])),⟨by omega,?_⟩,by simp only;omega,by kernel_rfl,by kernel_rfl⟩;rw[hq,zBI (d:=[]) yH,zW7 yH]
 ·refine zAj 1<|zAc<|zAS ((i:Int)<(l.length:Int)) (by omega)<|zAG 0<|zAn 1<|S_a [(2,.yes)] (ap ((by exact zBj (by simp<;>omega)):(beq 0 0&&(map zA7 q).length.beq (map zA7 q).length)=true) an)<|zA6<|zAm<|E_a [(1,.yes),(1,.v (own 1 (map zA7 q)))] (ap (blz (map zA7 q))<|ap ((zAQ zAW):own 1 (take (map zA7 q).length (drop 0 (map zA7 q)))=own 1 (map zA7 q)) an) (own 1 (map zA7 q)) [] ?_ rfl
  rw[hq,show l.length-i=0 by omega,bz (by omega)];simp
theorem f136(l:List (Int))(x:Int)(hl:l.length<4294967296):FG 136 [.sl (l.map I),I x] (I (zDI (fun y=>decide (x=y)) l)):=by
 refine zAe Tryz.f136 ?_;refine zAj 1<|zAc<|zAn 1<|S_a [(0,.n l.length)] (ap (lnS I l) an)<|S_g 1<|zAg 0 ?_
 refine zAu (fun i=>i<=l.length/\∀ j,j<i->decide (x=l.getD j 0)=false) (fun i=>[(8,I (i:Nat))]) (fun i=>l.length-i) (0:Nat) (by simp) fun i ⟨hi,ha⟩=>?_;refine zAj 1<|zAc<|zC4 ((i:Int)<(l.length:Int)) (fun k0=>(zAh<|zAc<|zAg 1<|zAj 2<|zAn 3<|S_a [(2,.v (I (l.getD i 0)))] (ap (zBN (0) (by omega):(map I l)[i]? = some (I (l.getD i 0))) an)<|S_g 2<|zC4 (x=l.getD i 0) (fun k1=>(zAj 2<|zAm<|E_a [] an (I (i:Int)) [] ?_ rfl)) (fun k1=>(zAh<|zAb<|S_i i<|S_g 1 ?_)))) (fun k0=>(zAG 0<|zAj 1<|zAm<|E_a [] an (I (-1)) [] ?_ rfl))
 ·rw[zBK (i:=i) (by omega) (fun j hj=>by rw[<- zAr (d:=0)];exact ha j hj) (by rw[<- zAr (d:=0)];simp only[decide_eq_true_eq,decide_eq_false_iff_not] at *;omega)]
 ·refine⟨i+1,⟨by omega,fun j hj=>?_⟩,by omega,by kernel_rfl,by kernel_rfl⟩;rcases bE.1 hj with h|rfl
  ·exact ha j h
  ·simp only[decide_eq_true_eq,decide_eq_false_iff_not] at *;omega
 ·rw[zBV fun j hj=>by rw[<- zAr (d:=0)];exact ha j (by omega)]
theorem f58(l:List (Int))(x:Int)(hl:l.length<4294967296):FG 58 [.sl (l.map I),I x] (.bool (has l x)):=by
 refine zAe Tryz.f58 ?_;refine zAj 1<|zAn 2<|S_a [(8,.ret (I (zDI (fun y=>decide (x=y)) l)) [])] (ap (f136 l x (by omega)) an)<|S_g 2<|zAm<|E_a [] an (bool (decide (zDI (fun y=>decide (x=y)) l>=0))) [] ?_ rfl
 rw[zDA];rfl
theorem f161(l:LP)(x:Int×Int)(hl:l.length<4294967296):FG 161 [.sl (l.map prV),prV x] (I (zDI (fun y=>decide (x=y)) l)):=by
 refine zAe Tryz.f161 ?_;refine zAj 2<|zAc<|zAn 1<|S_a [(0,.n l.length)] (ap (lnS prV l) an)<|S_g 1<|zAg 0 ?_
 refine zAu (fun i=>i<=l.length/\∀ j,j<i->decide (x=l.getD j d0)=false) (fun i=>[(8,I (i:Nat))]) (fun i=>l.length-i) (0:Nat) (by simp) fun i ⟨hi,ha⟩=>?_;refine zAj 1<|zAc<|zC4 ((i:Int)<(l.length:Int)) (fun k0=>(zAh<|zAc<|zAg 1<|zAj 2<|zAn 3<|S_a [(2,.v (prV (l.getD i d0)))] (ap (zBN d0 (by omega):(map prV l)[i]? = some (prV (l.getD i d0))) an)<|zAp 1<|S_a [(0,.v (bool (decide (x.fst=(l.getD i d0).fst)&&decide (x.snd=(l.getD i d0).snd))))] (ap (zXF:zHT Tryz.prog BinOp.eql 108 (prV x) (prV (l.getD i d0))=some (bool (decide (x.fst=(l.getD i d0).fst)&&decide (x.snd=(l.getD i d0).snd)))) an)<|zA6<|zEE (decide (x.fst=(l.getD i d0).fst)&&decide (x.snd=(l.getD i d0).snd)) (fun k1=>(zAj 2<|zAm<|E_a [] an (I (i:Int)) [] ?_ rfl)) (fun k1=>(zAh<|zAb<|S_i i<|S_g 1 ?_)))) (fun k0=>(zAG 0<|zAj 1<|zAm<|E_a [] an (I (-1)) [] ?_ rfl))
 ·rw[zBK (i:=i) (by omega) (fun j hj=>by rw[<- zAr (d:=d0)];exact ha j hj) (by rw[<- zAr (d:=d0)];rw[<- zTy];assumption)]
 ·refine⟨i+1,⟨by omega,fun j hj=>?_⟩,by omega,by kernel_rfl,by kernel_rfl⟩;rcases bE.1 hj with h|rfl
  ·exact ha j h
  ·rw[<- zTy];assumption
 ·rw[zBV fun j hj=>by rw[<- zAr (d:=d0)];exact ha j (by omega)]
theorem f81(l:LP)(x:Int×Int)(hl:l.length<4294967296):FG 81 [.sl (l.map prV),prV x] (.bool (has l x)):=by
 refine zAe Tryz.f81 ?_;refine zAj 2<|zAn 2<|S_a [(8,.ret (I (zDI (fun y=>decide (x=y)) l)) [])] (ap (f161 l x (by omega)) an)<|S_g 2<|zAm<|E_a [] an (bool (decide (zDI (fun y=>decide (x=y)) l>=0))) [] ?_ rfl
 rw[zDA];rfl
theorem f65(l:List (Int))(hl:l.length<4294967296):FG 65 [.sl (l.map I)] (.own 1 (l.map I)):=zG0 (fn:=Tryz.f65) I l (by omega)
theorem f123(l:LP)(hl:l.length<4294967296):FG 123 [.sl (l.map prV)] (.own 2 (l.map prV)):=zG0 (fn:=Tryz.f123) prV l (by omega)
theorem f61(l:LP)(hl:l.length<4294967296):FG 61 [.sl (l.map prV)] (.own 2 (l.map prV)):=zG0 (fn:=Tryz.f61) prV l (by omega)
theorem f210(x:Int):FG 210 [I x] (.bool false):=by
 refine zAe Tryz.f210 ?_;refine zAj 1<|zAj 4<|zAm<|E_a [] an (bool (x != x)) [] (by simp[*]) rfl
theorem f182(x y:Int):FG 182 [I x,I y] (.bool (decide (x<y))):=by
 refine zAe Tryz.f182 ?_;refine zAj 1<|zAn 1<|S_a [(6,.ret (bool false) [])] (ap (f210 x) an)<|S_g 11<|zAm E_0
end
end Go.Eng
set_option maxRecDepth 10000
set_option maxHeartbeats 4000000
namespace Go.Eng
open Go Go.Proofs
def zXu(o:LI)(x:Int):LI:=if o.getLast? = some x then o else o++[x]
def zHn(l:LI):LI:=l.foldl zXu []
theorem zSH(o:LI)(x:Int):(zXu o x).getLast? = some x:=by
 unfold zXu;split
 ·assumption
 ·simp
theorem zHj{l:LI}{i:Nat}(h:i<l.length):zHn (l.take (i+1))=zXu (zHn (l.take i)) (l.getD i 0):=zFy h
theorem zSl{l:LI}{i:Nat}(h:i<l.length):(zHn (l.take (i+1))).getLast? = some (l.getD i 0):=by
 rw[zHj h];exact zSH _ _
theorem zHH{l:LI}{i:Nat}(h0:0<i)(h:i<l.length):zHn (l.take (i+1))=if l.getD i 0=l.getD (i-1) 0 then zHn (l.take i) else zHn (l.take i)++[l.getD i 0]:=by
 obtain⟨j,rfl⟩:∃ j,i=j+1:=⟨i-1,by omega⟩;rw[zHj h,zXu,zSl (by omega)];simp only[fD,ba,eq_comm]
theorem zMj{S:LI}{p:Nat}{x:Int}(h:p<S.length):(S.set p x).take (p+1)=S.take p++[x]:=by
 rw[zBI (d:=0) (by simpa using h),List.take_set_of_le (bi p),zC6,if_pos ⟨rfl,h⟩]
theorem zHw{l:LI}:∀ k,k<=l.length->(∀ j,1<=j->j<k->l.getD j 0≠l.getD (j-1) 0)->zHn (l.take k)=l.take k
 |0,_,_=>rfl|k+1,hk,h=>by
  have ih:=zHw k (by omega) fun j h1 h2=>h j h1 (by omega)
  cases k with
  |zero=>rw[zHj (by omega)];simp[zHn,zXu,zBI (d:=0) (show 0<l.length by omega)]|succ k=>rw[zHH (by omega) (by omega),if_neg (h (k+1) (by omega) (by omega)),ih,<- zBI (by omega)]
def zTj(l:LI):Bool:=(range (l.length-1)).all fun j=>decide (l.getD j 0<l.getD (j+1) 0)
def zF6(l:LI):Bool:=(range (l.length-1)).all fun j=>decide (l.getD j 0<=l.getD (j+1) 0)
section
variable [Yo]
theorem f155(l:LI)(hl:l.length<4294967296):FG 155 [zBi l] (.bool (zF6 l)):=by
 refine zAe Tryz.f155 ?_;refine zAj 1<|zAc<|zAn 1<|S_a [(0,.n l.length)] (ap (lnS I l) an)<|S_a [(1,.v (I ((l.length:Int)-1)))] (ap ((zCj rfl (by omega)):I (IntKind.i64.wrap ((l.length:Int)-1))=I ((l.length:Int)-1)) an)<|S_g 1<|zAg 0 ?_
 refine zAu (fun(x:Int)=>x<l.length/\∀ j:Nat,x<j->j<l.length->0<j->l.getD (j-1) 0<=l.getD j 0) (fun x=>[(3,I x)]) (fun x=>x.toNat) ((l.length:Int)-1) ⟨by omega,fun j h1 h2=>by omega⟩ fun x ⟨hi,ha⟩=>?_;have e2:(x-1).toNat=x.toNat-1:=by omega
 by_cases h1:0<x
 ·refine zAc<|zAj 2<|zAL (x>0) (by omega)<|zAh<|zAc<|zAg 1<|zAn 2<|S_a [(0,.ob),(1,.v (I (l.getD x.toNat 0)))] (ap ((by exact zAl (by omega)):decide (0<=x)=true)<|ap (zBN (0) (by omega):(map I l)[x.toNat]? = some (I (l.getD x.toNat 0))) an)<|zAp 3<|S_a [(1,.v (I (x-1)))] (ap ((zCj rfl (by omega)):I (IntKind.i64.wrap (x-1))=I (x-1)) an)<|S_a [(0,.ob),(1,.v (I (l.getD (x-1).toNat 0)))] (ap ((by exact zAl (by omega)):decide (0<=x-1)=true)<|ap (zBN (0) (by omega):(map I l)[(x-1).toNat]? = some (I (l.getD (x-1).toNat 0))) an)<|zAp 1<|S_a [(8,.ret (bool (decide (l.getD x.toNat 0<l.getD (x-1).toNat 0))) [])] (ap (f182 (l.getD x.toNat 0) (l.getD (x-1).toNat 0)) an)<|zA6<|zC4 (l.getD x.toNat 0<l.getD (x-1).toNat 0) (fun k0=>(zAj 1<|zAm<|E_a [] an (bool false) [] ?_ rfl)) (fun k0=>(zAh<|zAb<|zAp 1<|S_a [(1,.v (I (x-1)))] (ap ((zCj rfl (by omega)):I (IntKind.i64.wrap (x-1))=I (x-1)) an)<|S_g 1 ?_))
  ·rw[e2] at k0;have:zF6 l=false:=by
    simp only[zF6,fH];exact⟨x.toNat-1,bC.2 (by omega),by rw[show x.toNat-1+1=x.toNat by omega];simp only[decide_eq_true_eq];omega⟩
   rw[this]
  ·rw[e2] at k0;refine⟨x-1,⟨by omega,fun j h3 h4 h5=>?_⟩,by omega,by kernel_rfl,by kernel_rfl⟩;by_cases hj:j=x.toNat
   ·subst hj;omega
   ·exact ha j (by omega) h4 h5
 ·refine zAc<|zAj 2<|zAS (x>0) (by omega)<|zAG 0<|zAj 1<|zAm<|E_a [] an (bool true) [] ?_ rfl
  have:zF6 l=true:=by
   simp only[zF6,bj,bC,decide_eq_true_eq];exact fun j hj=>by have:=ha (j+1) (by omega) (by omega) (by omega);simpa using this
  rw[this]
theorem f97(l:LI)(hl:l.length<4294967296):FG 97 [.own 1 (l.map I)] (.own 1 ((zHn l).map I)):=by
 refine zAe Tryz.f97 ?_;refine zAj 1<|zAc<|zAn 1<|S_a [(0,.n l.length)] (ap (lnS I l) an)<|S_g 1<|zC4 ((l.length:Int)<2) (fun k0=>(zAn 1<|S_a [(2,.yes)] (ap ((by exact zBj (by simp<;>omega)):(beq 0 0&&(map I l).length.beq (map I l).length)=true) an)<|zA6<|zAm<|E_a [(1,.yes),(1,.v (own 1 (map I l)))] (ap (blz (map I l))<|ap ((zAQ zAW):own 1 (take (map I l).length (drop 0 (map I l)))=own 1 (map I l)) an) (own 1 (map I l)) [] ?_ rfl)) (fun k0=>(zAh<|zAc<|zAj 1<|zAg 0 ?_))
 ·have:=zHw (l:=l) l.length (bi _) fun j h1 h2=>by omega
  rw[cF] at this;rw[this]
 ·refine zAu (fun k=>1<=k/\k<=l.length/\∀ j,1<=j->j<k->l.getD j 0≠l.getD (j-1) 0) (fun k=>[(3,I (k:Nat))]) (fun k=>l.length-k) (1:Nat) ⟨by omega,by omega,fun j h1 h2=>absurd h1 (by omega)⟩ fun k ⟨jX,hk,ha⟩=>?_;have kB:=zHw k hk ha;refine zAc<|zAn 2<|S_a [(0,.n l.length)] (ap (lnS I l) an)<|S_g 1<|zC4 ((k:Int)<(l.length:Int)) (fun k2=>(zAh<|zAc<|zAg 1<|zAn 2<|S_a [(2,.ob),(1,.n k)] (ap ((by exact zAl (by simp only[be,zzLn]<;>omega)):decide (k<(map I l).length)=true)<|ap ((by simp):some (0+k)=some k) an)<|S_a [(0,.cs false ([I (l.getD k 0)]))] (ap (zB2 (q:=own 1 (map I l)) (xs:=map I l) (x:=I (l.getD k 0)) rfl (zBN (0) (by omega)):zAo 0 (own 1 (map I l)) [] k 0 1=some (false,[I (l.getD k 0)])) an)<|zAp 2<|S_a [(1,.v (I (↑(k-1):Int)))] (ap ((zCj (by omega) (by omega)):I (IntKind.i64.wrap ((k:Int)-1))=I (↑(k-1):Int)) an)<|S_a [(2,.ob),(1,.n (k-1))] (ap ((by exact zAl (by simp only[be,zzLn]<;>omega)):decide (k-1<(map I l).length)=true)<|ap ((by simp):some (0+(k-1))=some (k-1)) an)<|S_a [(0,.cs false ([I (l.getD (k-1) 0)]))] (ap (zB2 (q:=own 1 (map I l)) (xs:=map I l) (x:=I (l.getD (k-1) 0)) rfl (zBN (0) (by omega)):zAo 0 (own 1 (map I l)) [] (k-1) 0 1=some (false,[I (l.getD (k-1) 0)])) an)<|S_g 1<|zC4 (l.getD k 0=l.getD (k-1) 0) (fun k3=>(zAn 2<|S_a [(3,.ob),(0,.yes),(0,.yes),(0,.v (bor 0 [] 1 k (l.length-k)))] (ap ((by exact zAP (by simp only[be,zzLn,zAJ]<;>omega)):k.ble (map I l).length=true)<|ap ((by exact zAP (by simp only[be,zzLn,zAJ]<;>omega)):(map I l).length.ble (map I l).length=true)<|ap ((by simp<;>omega):(k.beq 0||k.blt (map I l).length)=true)<|ap ((by simp):bor 0 [] 1 (0+k) ((map I l).length-k)=bor 0 [] 1 k (l.length-k)) an)<|S_g 1<|zAc<|zAj 1<|zAg 2 ?_)) (fun k3=>(zAh<|zAb<|zAp 1<|S_i k<|S_g 1 ?_)))) (fun k2=>(zAG 0<|zAn 1<|S_a [(2,.yes)] (ap ((by exact zBj (by simp<;>omega)):(beq 0 0&&(map I l).length.beq (map I l).length)=true) an)<|zA6<|zAm<|E_a [(1,.yes),(1,.v (own 1 (map I l)))] (ap (blz (map I l))<|ap ((zAQ zAW):own 1 (take (map I l).length (drop 0 (map I l)))=own 1 (map I l)) an) (own 1 (map I l)) [] ?_ rfl))
  ·have e0:zHn (l.take (k+1))=l.take k:=by rw[zHH (by omega) (by omega),if_pos k3,kB]
   clear ha kB;refine zAu (fun(p,q,S)=>1<=q/\k+q<=l.length/\p<k+q/\S.length=l.length/\S.take p=zHn (l.take (k+q))/\∀ j,k+q<=j+1->S.getD j 0=l.getD j 0) (fun(p,q,S)=>[(0,.own 1 (S.map I)),(3,I (p:Nat)),(5,I (q:Nat))]) (fun(p,q,S)=>l.length-(k+q)) (k,(1:Nat),l) ⟨by omega,by omega,by omega,rfl,e0.symm,fun _ _=>rfl⟩ fun(p,q,S) ⟨hq,hkq,hp,hS,hc,hd⟩=>?_;have vV:(zHn (l.take (k+q))).length=p:=by rw[<- hc,bY];omega
   by_cases w6:k+q<l.length
   ·have hx:=hd (k+q) (by omega);have hy:=hd (k+q-1) (by omega);have yC:=zHH (l:=l) (i:=k+q) (by omega) w6;have vp:=hd;clear hd;refine zAc<|zAj 4<|zAL ((q:Int)<(↑(l.length-k):Int)) (by omega)<|zAh<|zAc<|zAg 3<|zAn 2<|S_a [(2,.ob)] (ap ((by exact zAl (by omega)):decide (q<l.length-k)=true) an)<|S_a [(0,.cs false ([I (S.getD (k+q) 0)]))] (ap (zB2 (q:=own 1 (map I S)) (xs:=map I S) (x:=I (S.getD (k+q) 0)) rfl (zBN (0) (by omega)):zAo 0 (own 1 (map I S)) [] (k+(q:Int).toNat) 0 1=some (false,[I (S.getD (k+q) 0)])) an)<|zAp 2<|S_a [(1,.v (I (↑(q-1):Int)))] (ap ((zCj (by omega) (by omega)):I (IntKind.i64.wrap ((q:Int)-1))=I (↑(q-1):Int)) an)<|S_a [(2,.ob)] (ap ((by exact zAl (by omega)):decide (q-1<l.length-k)=true) an)<|S_a [(0,.cs false ([I (S.getD (k+(q-1)) 0)]))] (ap (zB2 (q:=own 1 (map I S)) (xs:=map I S) (x:=I (S.getD (k+(q-1)) 0)) rfl (zBN (0) (by omega)):zAo 0 (own 1 (map I S)) [] (k+(↑(q-1):Int).toNat) 0 1=some (false,[I (S.getD (k+(q-1)) 0)])) an)<|S_g 1<|zDZ (S.getD (k+q) 0=S.getD (k+(q-1)) 0) (fun k4=>(zAn 4<|S_a [(2,.ob)] (ap ((by exact zAl (by omega)):decide (q<l.length-k)=true) an)<|S_a [(0,.cs false ([I (S.getD (k+q) 0)]))] (ap (zB2 (q:=own 1 (map I S)) (xs:=map I S) (x:=I (S.getD (k+q) 0)) rfl (zBN (0) (by omega)):zAo 0 (own 1 (map I S)) [] (k+(q:Int).toNat) 0 1=some (false,[I (S.getD (k+q) 0)])) an)<|S_a [(2,.ob),(1,.n p)] (ap ((by exact zAl (by simp only[be,zzLn]<;>omega)):decide (p<(map I S).length)=true)<|ap ((by simp):some (0+p)=some p) an)<|S_a [(8,.root (own 1 (map I (S.set p (S.getD (k+q) 0)))) true)] (ap (zNy (zBN (0) (by omega)) zFm:zBO (own 1 (map I S)) [] p 0 (I (S.getD (k+q) 0)).cells=some (own 1 (map I (S.set p (S.getD (k+q) 0))))/\zAH (own 1 (map I S)) (own 1 (map I (S.set p (S.getD (k+q) 0)))) []=true) an)<|zA6<|zAb<|zAp 1<|S_i p<|S_g 1<|zAb<|zAp 1<|S_i q<|S_g 1 ?_)) (fun k4=>(zAh<|zAb<|zAp 1<|S_i q<|S_g 1 ?_))
    ·rw[show k+(q-1)=k+q-1 by omega,hx,hy] at k4;rw[if_neg k4] at yC;refine⟨(p+1,q+1,S.set p (S.getD (k+q) 0)),⟨by omega,by omega,by omega,by simpa using hS,?_,fun j hj=>?_⟩,by simp only;omega,by kernel_rfl,by kernel_rfl⟩
     ·rw[<- b7,yC,<- hc,hx,zMj (by omega)]
     ·rw[zC6,if_neg (by omega)];exact vp j (by omega)
    ·rw[show k+(q-1)=k+q-1 by omega,hx,hy] at k4;rw[if_pos k4] at yC;exact rnd (p,q+1,S) ⟨by omega,by omega,by omega,hS,by rw[<- b7,yC,hc],fun j hj=>vp j (by omega)⟩ (by simp only;omega)
   ·refine zAc<|zAj 4<|zAS ((q:Int)<(↑(l.length-k):Int)) (by omega)<|zAG 2<|zAn 2<|S_a [(3,.ob),(0,.yes),(0,.yes),(0,.v (bor 0 [] 1 p (S.length-p)))] (ap ((by exact zAP (by simp only[be,zzLn,zAJ]<;>omega)):p.ble (map I S).length=true)<|ap ((by exact zAP (by simp only[be,zzLn,zAJ]<;>omega)):(map I S).length.ble (map I S).length=true)<|ap ((by simp<;>omega):(p.beq 0||p.blt (map I S).length)=true)<|ap ((by simp):bor 0 [] 1 (0+p) ((map I S).length-p)=bor 0 [] 1 p (S.length-p)) an)<|zMi (g:=I) (fun q=>q) 0 1 p (S.length-p) S (0) (by first|omega|(simp<;>omega)) ⟨rfl,rfl⟩ (fun _=>(by first|exact zGD|exact⟨rfl,rfl,rfl,rfl,bi _,rfl⟩)) zOo.nil (zA6<|zAn 2<|S_a [(4,.yes)] (ap ((by exact zAP (by simp<;>omega)):p.ble (map I (take p S++replicate (S.length-p) 0++drop (p+(S.length-p)) S)).length=true) an)<|S_g 1<|zAm<|E_a [(1,.yes),(1,.v (own 1 (map I (take p (take p S++replicate (S.length-p) 0++drop (p+(S.length-p)) S)))))] (ap ((by exact zAP (by simp<;>omega)):(0+((p:Int).toNat-0)).ble (map I (take p S++replicate (S.length-p) 0++drop (p+(S.length-p)) S)).length=true)<|ap ((by simp):own 1 (take p (drop 0 (map I (take p S++replicate (S.length-p) 0++drop (p+(S.length-p)) S))))=own 1 (map I (take p (take p S++replicate (S.length-p) 0++drop (p+(S.length-p)) S)))) an) (own 1 (map I (take p (take p S++replicate (S.length-p) 0++drop (p+(S.length-p)) S)))) [] ?_ rfl)
    rw[show k+q=l.length by omega,cF] at hc;rw[<- hc,cx,cI (by rw[bY];omega),fF,iy]
  ·refine⟨k+1,⟨by omega,by omega,fun j h1 h2=>?_⟩,by omega,by kernel_rfl,by kernel_rfl⟩;by_cases hj:j=k
   ·subst hj;assumption
   ·exact ha j h1 (by omega)
  ·rw[show k=l.length by omega,cF] at kB;rw[kB]
end
end Go.Eng
