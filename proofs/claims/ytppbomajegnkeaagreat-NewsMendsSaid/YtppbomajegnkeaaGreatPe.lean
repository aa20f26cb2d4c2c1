/- For whatever news, cries, evenings, cry and stands, the law NewsMends returns true and changes no argument: the gaps that a further cry mends, and those that none does, are as the reference tells them. -/
import Derived.Test.YtppbomajegnkeaaGreatPd
import Derived.ProofKit
import Derived.ChangeArms
import Derived.Test.YtppbomajegnkeaaGreatProg
import Derived.Test.YtppbomajegnkeaaGreatPa
import Derived.Test.YtppbomajegnkeaaGreatRows
set_option linter.unusedVariables false
set_option linter.unusedSimpArgs false
set_option linter.unusedSectionVars false
namespace Go.Eng
open Go Go.ChangeShapes Go.WideShapes Go.ChangeAt Go.RowKit
section
variable {H:Type} {enc:TypeId×Value→H} {P:Program}
theorem zNk {f:Func} {s:ChangeSpec} {apart fresh jU again:Bool} {W W':World} {args:Array Value} {v:Value} {ds gs:List (DataW H)} {before pa pv:List MemPlace}
  (hW:DataW.Whole enc P f.params.toList s.vars apart W args.toList ds gs before)
  (y8:∀ (b:Nat) (sp:Nat→Bool) (hd:Bool),DataW.TrodAll enc P W' b sp hd f.resultTypes.toList (v.resultList f.resultTypes.size) (s.fn H (ds++gs)).results [])
  (yL:∀ sp:Nat→Bool,(∀ p∈before,sp p.block=true)→DataW.TrodAll enc P W' 0 sp true f.params.toList args.toList (s.fn H (ds++gs)).args pa)
  (jr:∀ sp:Nat→Bool,(∀ p∈before,sp p.block=true)→DataW.TrodVars enc P W' sp s.vars (s.fn H (ds++gs)).vars pv)
  (yc:before=pa++pv) (hold':∀ b,b<W.heap.size→W'.heap[b]? = W.heap[b]?) (hk:W.keptBut W' (· ∈ before))
  (yK:∀ (j:Nat) (t:TypeId) (r:Value),f.resultTypes[j]? = some t→(v.resultList f.resultTypes.size)[j]? = some r→Value.okWide P W' .any 0 t r) :
  s.post enc P f apart fresh jU again W args v W':=by
 have yJ:=hW.lt
 have hold:∀ p∈before,(fun b=>decide (b<W.heap.size)) p.block=true:=fun p hp=>by simpa using yJ p hp
 refine ⟨ds,gs,before,[],pa,pv,hW,y8 _ _ _,yL _ hold,jr _ hold,World.keptBut_mono (fun p hp=>⟨hp,?_⟩) hk,fun _=>?_⟩
 ·rw [yc,List.mem_append] at hp
  exact Or.inr hp
 ·obtain ⟨_,_,_,_,_,hz,hn⟩:=hW
  refine ⟨yK,_,_,([]++pa)++pv,⟨[]++pa,pv,trodAll_append (yL _ (fun _ _=>rfl)) (y8 _ _ _),jr _ (fun _ _=>rfl),rfl,?_,?_⟩,?_⟩
  ·intro b off hp
   have jj:MemPlace.cell b off∈before:=by rw [yc];simpa using hp
   have h1:=hz b off jj
   have h2:=yJ _ jj
   unfold World.frozen? at h1 ⊢
   rw [hold' b h2];exact h1
  ·intro ha
   have:=hn ha
   rw [yc] at this
   simpa using this
  ·intro p hp _
   rw [yc]
   simpa using hp
theorem zHq {W W':World} {sp':Nat→Bool} (hl:laidOutB P=true) (hb:Below W.heap.size W W'):∀ {ts:List TypeId} {vs:List Value} {ds:List (DataW H)} {ps:List MemPlace},(∀ t∈ts,P.readableRec t=true∧t<P.types.size)→DataW.TrodAll enc P W 0 (fun _=>true) true ts vs ds ps→(∀ x∈ps,x.block<W.heap.size)→(∀ x∈ps,sp' x.block=true) →
  DataW.TrodAll enc P W' 0 sp' true ts vs ds ps
 | [],vs,ds,ps,_,h,_,_=>by
  obtain ⟨rfl,rfl,rfl⟩:=trodAll_nil h
  exact trodAll_mk0
 | t::ts,vs,ds,ps,ht,h,yJ,hs=>by
  obtain ⟨v,vs',d,ds',p,q,rfl,rfl,rfl,h1,h2⟩:=trodAll_cons h
  exact ⟨p,q,WideElems.Trod_stays hl (ht t (by simp)).1 (ht t (by simp)).2 h1 (fun x hx=>hb.same (yJ x (by simp [hx]))) (fun x hx=>hs x (by simp [hx])),zHq hl hb (fun t h=>ht t (by simp [h])) h2 (fun x hx=>yJ x (by simp [hx])) (fun x hx=>hs x (by simp [hx])),rfl⟩
theorem zTW {f:Func} {s:ChangeSpec} {apart fresh jU again:Bool} {W W':World} {args:Array Value} {ds:List (DataW H)} {before:List MemPlace} {tb:TypeId} (hl:laidOutB P=true) (jr:s.vars=[]) (htb:P.underlying tb=some .bool) (wZ:f.resultTypes=#[tb]) (uw:∀ t∈f.params.toList,P.readableRec t=true∧t<P.types.size)
  (kM:s.fn H ds={results:=[.lit (.bool true)],args:=ds}) (hW:DataW.Whole enc P f.params.toList s.vars apart W args.toList ds [] before)
  (h1:W.heap.size≤W'.heap.size) (h2:∀ b,b<W.heap.size→W'.heap[b]? = W.heap[b]?) (h3:W'.os=W.os) (h4:W'.tape=W.tape) (h5:W'.output=W.output):s.post enc P f apart fresh jU again W args (.bool true) W':=by
 have yJ:=hW.lt
 have hb:Below W.heap.size W W':=⟨h3,h4,h5,h1,h2⟩
 obtain ⟨pa,pv,hA,hV,yc,hz,hn⟩:=id hW
 have hpv:pv=[]:=by
  rw [jr] at hV
  exact (trodVars_none hV).2
 subst hpv
 have ug:(Value.bool true).resultList f.resultTypes.size=[.bool true]:=by rw [wZ];rfl
 have gX:s.fn H (ds++[])={results:=[.lit (.bool true)],args:=ds}:=by rw [List.append_nil];exact kM
 have wh:∀ x∈pa,x.block<W.heap.size:=fun x hx=>yJ x (by rw [yc];simp [hx])
 refine zNk (pa:=pa) (pv:=[]) hW (fun b sp hd=>?_) (fun sp y4=>?_) (fun sp y4=>?_) yc h2 ?_ ?_
 ·rw [ug,wZ,gX];exact trodAll_mk1 (shut_bool htb true)
 ·rw [gX];exact zHq hl hb uw hA wh (fun x hx=>y4 x (by rw [yc];simp [hx]))
 ·rw [jr,gX];rfl
 ·refine ⟨h3,h5,fun i hi=>?_⟩
  rw [h2 i hi]
  cases W.heap[i]? with
  | none=>rfl
  | some o=>cases o<;>first | exact ⟨rfl,rfl,rfl,fun _ _=>rfl⟩ | exact .inr ⟨rfl,rfl⟩ | rfl
 ·exact ok_one wZ rfl (okWide_bool_mk htb true)
end
end Go.Eng
namespace Go.Eng
open Go
section
variable {w:World} {Φ:Nat→Prop} {A:Al}
end
end Go.Eng
namespace Go.Eng
open Go
section
variable {P:Program} {H:zBl}
theorem zSC {f:FuncId} {fn:Func} (h:P.funcs[f]? = some fn):fn∈P.funcs.toList:=by
 rw [← Array.getElem?_toList] at h
 exact List.mem_of_getElem? h
theorem zIs (h : (P.funcs.toList.all fun fn => !(fn.name == "runtime.NumGoroutine")) = true) : zEI P := fun f fn hf => by
  have:=List.all_eq_true.1 h fn (zSC hf)
  simpa using this
theorem zWG (h:((List.range P.funcs.size).all fun f=>bif Nat.beq (H f).intr 0 then (match P.funcs[f]? with
  | some fn=>zUV P fn
  | none=>true) else true)=true):Fit P H:=fun f fn hf hi=>by
 have yJ:=(Array.getElem?_eq_some_iff.1 hf).1
 have:=List.all_eq_true.1 h f (List.mem_range.2 yJ)
 rw [hi,hf] at this
 exact this
end
end Go.Eng
namespace Go.Eng
open Go Go.ChangeShapes Go.WideShapes Go.ChangeAt Go.RowKit
inductive Sh where
 | num (k:IntKind)
 | bool
 | list (ag:Bool) (parts:List Sh)
mutual
def zXD:Sh→PV→Prop
 | .num k,p=>∃ n,p = .int k n∧k.min≤n∧n≤k.max
 | .bool,p=>∃ b,p = .bool b
 | .list ag ss,p=>∃ xs,p = .sl xs∧xs.length≤maxLen∧∀ x∈xs,zCJ ss x.cells∧x.isAgg=ag
def zCJ:List Sh→List PV→Prop
 | [],ps=>ps=[]
 | s::ss,ps=>∃ p qs,ps=p::qs∧zXD s p∧zCJ ss qs
end
def zWa (P:Program) (t:TypeId):Bool :=
 match P.underlying t with
 | some (.struct _)=>true
 | some (.array ..)=>true
 | _=>false
def zXA (P:Program) (t:TypeId):Bool :=
 match P.underlying t with
 | some (.struct _)=>true
 | _=>false
def zG1 (P:Program) (sh:TypeId→Option (List Sh)) (n:Nat):List Field→Nat→Option (List Sh)
 | [],off=>if off=n then some [] else none
 | f::fs,off=>if f.offset=off then match sh f.type with
  | some a=>if a.length=P.cellsOf f.type then (zG1 P sh n fs (off+P.cellsOf f.type)).map (a++·) else none
  | none=>none else none
def zDg (P:Program):Nat→TypeId→Option (List Sh)
 | 0,_=>none
 | n + 1,t=>match P.underlying t with
  | some (.int k)=>some [.num k]
  | some .bool=>some [.bool]
  | some (.slice e)=>match zDg P n e with
   | some ss=>if ss.length=P.cellsOf e∧0<ss.length∧(zWa P e=true∨ss.length=1) then some [.list (zWa P e) ss] else none
   | none=>none
  | some (.struct fs)=>zG1 P (zDg P n) (P.cellsOf t) fs.toList 0
  | some (.array m e)=>match zDg P n e with
   | some es=>if P.cellsOf t=m*P.cellsOf e then some (List.replicate m es).flatten else none
   | none=>none
  | _=>none
section
variable {H:Type} {enc:TypeId×Value→H} {P:Program} {w:World} {spare:Nat→Bool} {uK:Bool} {Φ:Nat→Prop} {base:Nat}
theorem zCJ.app:∀ {a b:List Sh} {p q:List PV},zCJ a p→zCJ b q→zCJ (a++b) (p++q)
 | [],b,p,q,h1,h2=>by simp only [zCJ] at h1;subst h1;exact h2
 | s::a,b,p,q,h1,h2=>by
  obtain ⟨x,xs,rfl,h3,h4⟩:=h1
  exact ⟨x,xs++q,rfl,h3,zCJ.app h4 h2⟩
theorem zCJ.length:∀ {a:List Sh} {p:List PV},zCJ a p→p.length=a.length
 | [],p,h=>by simp only [zCJ] at h;subst h;rfl
 | s::a,p,h=>by
  obtain ⟨x,xs,rfl,_,h4⟩:=h
  simp [zCJ.length h4]
theorem zM4 {sh:TypeId→Option (List Sh)} {N n:Nat} {cs:List Value} (j2:cs.length=N) (ih:∀ t (vs:List Value) x ss,sh t=some ss→DataW.trod enc P w 0 spare uK n t vs=some x→∃ ps,zCJ ss ps∧zA6 w Φ zCc ps vs []) :
  ∀ (fs:List Field) (off:Nat) (ss:List Sh),zG1 P sh N fs off=some ss→(∀ f∈fs,∃ y,DataW.trod enc P w 0 spare uK n f.type ((cs.drop f.offset).take (P.cellsOf f.type))=some y)→off≤N→∃ ps,zCJ ss ps∧zA6 w Φ zCc ps (cs.drop off) []
 | [],off,ss,h,_,yP=>by
  simp only [zG1] at h
  split at h
  ·rename_i he
   cases h
   exact ⟨[],rfl,by rw [List.drop_eq_nil_of_le (by omega)];exact ⟨rfl,rfl⟩⟩
  ·cases h
 | f :: fs,off,ss,h,hf,yP=>by
  simp only [zG1] at h
  split at h
  ·rename_i ho
   cases hs:sh f.type with
   | none=>rw [hs] at h;cases h
   | some a =>
    rw [hs] at h;simp only at h
    split at h
    ·rename_i u3
     obtain ⟨b,hb,rfl⟩:=Option.map_eq_some_iff.1 h
     obtain ⟨y,hy⟩:=hf f (by simp)
     rw [ho] at hy
     obtain ⟨ps,h1,h2⟩:=ih _ _ _ _ hs hy
     have hl:=h2.length
     have uy:=h1.length
     simp only [List.length_take,List.length_drop] at hl
     have gC:off+P.cellsOf f.type≤N:=by omega
     obtain ⟨qs,h3,h4⟩:=zM4 j2 ih fs _ b hb (fun g hg=>hf g (by simp [hg])) gC
     refine ⟨ps++qs,h1.app h3,?_⟩
     have:=h2.append h4
     rw [← List.drop_drop,List.take_append_drop] at this
     exact this
    ·cases h
  ·cases h
theorem zSj {s:Nat} {ag:Bool} {ss:List Sh} (hs:0<s) (j8:ag=true∨s=1):∀ (len:Nat) (c:List Value),c.length=len*s→(∀ i,i<len→∃ ps,zCJ ss ps∧ps.length=s∧zA6 w Φ zCc ps ((c.drop (i*s)).take s) []) →
  ∃ (xs:List PV) (us:List Value),xs.length=len∧(∀ x∈xs,zCJ ss x.cells∧x.isAgg=ag∧x.cells.length=s)∧(∀ u∈us,u.cells.size=s)∧us.map zCp=xs.map PV.isAgg∧c=flat us∧zA6 w Φ zCc xs us []
 | 0,c,hc,_=>⟨[],[],rfl,by simp,by simp,rfl,by rw [Nat.zero_mul] at hc;rw [List.eq_nil_of_length_eq_zero hc];rfl,rfl,rfl⟩
 | len + 1,c,hc,h=>by
  obtain ⟨ps,h1,h2,h3⟩:=h 0 (by omega)
  simp only [Nat.zero_mul,List.drop_zero] at h3
  have yN:(c.take s).length=s:=by simp;rw [hc,Nat.add_mul];omega
  obtain ⟨xs,us,g1,g2,g3,g4,g5,g6⟩:=zSj hs j8 len (c.drop s) (by simp [hc,Nat.add_mul]) (fun i hi=>by
   obtain ⟨ps,h1,h2,h3⟩:=h (i+1) (by omega)
   refine ⟨ps,h1,h2,?_⟩
   rw [List.drop_drop,show s+i*s=(i+1)*s by rw [Nat.add_mul];omega];exact h3)
  have jH:c=c.take s++c.drop s:=(List.take_append_drop s c).symm
  cases ag with
  | true =>
   refine ⟨.agg ps::xs,.agg (c.take s).toArray::us,by simp [g1],fun x hx=>?_,fun u hu=>?_,by simp [zCp,PV.isAgg,g4],?_,⟨_,us,[],[],rfl,rfl,⟨_,rfl,by simpa using h3⟩,g6⟩⟩
   ·rcases List.mem_cons.1 hx with rfl | hx
    ·exact ⟨h1,rfl,h2⟩
    ·exact g2 x hx
   ·rcases List.mem_cons.1 hu with rfl | hu
    ·simpa [Value.cells] using yN
    ·exact g3 u hu
   ·conv=>lhs;rw [jH]
    rw [g5];rfl
  | false =>
   have uo:s=1:=by
    rcases j8 with h | h
    ·cases h
    ·exact h
   subst uo
   obtain ⟨p,rfl⟩:=List.length_eq_one_iff.1 h2
   obtain ⟨u,hu⟩:=List.length_eq_one_iff.1 yN
   rw [hu] at h3 jH
   obtain ⟨u',us',L1,L2,he,hL,h4,h5⟩:=h3
   cases he
   obtain ⟨rfl,rfl⟩:=List.append_eq_nil_iff.1 hL.symm
   have yO:p.isAgg=false∧p.cells=[p]∧u.cells=#[u]∧zCp u=false:=by
    obtain ⟨p',qs,hp,hfp,_⟩:∃ p' qs,[p]=p'::qs∧(∃ s,zXD s p')∧True:=by
     cases ss with
     | nil=>simp only [zCJ] at h1;cases h1
     | cons s ss=>obtain ⟨x,xs,h6,h7,_⟩:=h1;exact ⟨x,xs,h6,⟨s,h7⟩,trivial⟩
    cases hp
    obtain ⟨s,hfp⟩:=hfp
    cases s with
    | num k=>obtain ⟨n,rfl,_⟩:=hfp;obtain ⟨rfl,_⟩:=h4;exact ⟨rfl,rfl,rfl,rfl⟩
    | bool=>obtain ⟨n,rfl⟩:=hfp;obtain ⟨rfl,_⟩:=h4;exact ⟨rfl,rfl,rfl,rfl⟩
    | list ag' ss' =>
     obtain ⟨ys,rfl,_⟩:=hfp
     obtain ⟨_,⟨_,a,n,rfl,_⟩ | ⟨a,n,c',us',sz,rfl,_⟩⟩:=h4<;>exact ⟨rfl,rfl,rfl,rfl⟩
   refine ⟨p::xs,u::us,by simp [g1],fun x hx=>?_,fun v hv=>?_,by simp [yO.1,yO.2.2.2,g4],?_,⟨u,us,[],[],rfl,rfl,h4,g6⟩⟩
   ·rcases List.mem_cons.1 hx with rfl | hx
    ·rw [yO.2.1];exact ⟨h1,yO.1,rfl⟩
    ·exact g2 x hx
   ·rcases List.mem_cons.1 hv with rfl | hv
    ·rw [yO.2.2.1];rfl
    ·exact g3 v hv
   ·conv=>lhs;rw [jH]
    rw [g5];simp only [flat,List.flatMap_cons,yO.2.2.1]
theorem zTi {n:Nat} {e t:TypeId} {fuel:Nat} {cs:List Value} {x:DataW H×List MemPlace} (ht:P.underlying t=some (.array n e)) (h:DataW.trod enc P w base spare uK fuel t cs=some x) :
  ∃ (xs:List (DataW H×List MemPlace)) (m:Nat),cs.length=P.cellsOf t∧xs.length=n∧∀ (i:Nat),i<n→DataW.trod enc P w base spare uK m e ((cs.drop (i*P.cellsOf e)).take (P.cellsOf e))=xs[i]?:=by
 cases fuel with
 | zero=>simp [DataW.trod] at h
 | succ m =>
  unfold DataW.trod at h
  rw [ht] at h
  split at h<;>simp_all
  obtain ⟨hl,xs,hp,hd⟩:=h
  exact ⟨xs,by simpa using mapM_some_length hp,m,fun i hi=>mapM_some_get hp i i (by simp [hi])⟩
theorem zUg {s:Nat} {es:List Sh}:∀ (n:Nat) (c:List Value),c.length=n*s→(∀ i,i<n→∃ ps,zCJ es ps∧zA6 w Φ zCc ps ((c.drop (i*s)).take s) [])→∃ ps,zCJ (List.replicate n es).flatten ps∧zA6 w Φ zCc ps c []
 | 0,c,hc,_=>⟨[],rfl,by rw [Nat.zero_mul] at hc;rw [List.eq_nil_of_length_eq_zero hc];exact ⟨rfl,rfl⟩⟩
 | n + 1,c,hc,h=>by
  obtain ⟨ps,h1,h2⟩:=h 0 (by omega)
  simp only [Nat.zero_mul,List.drop_zero] at h2
  obtain ⟨qs,h3,h4⟩:=zUg (s:=s) n (c.drop s) (by simp [hc,Nat.add_mul]) fun i hi=>by
   obtain ⟨ps,h1,h2⟩:=h (i+1) (by omega)
   refine ⟨ps,h1,?_⟩
   rw [List.drop_drop,show s+i*s=(i+1)*s by rw [Nat.add_mul];omega];exact h2
  refine ⟨ps++qs,?_,?_⟩
  ·rw [List.replicate_succ,List.flatten_cons];exact h1.app h3
  ·have:=h2.append h4
   rw [List.take_append_drop] at this
   exact this
theorem zLE : ∀ (n m:Nat) (t:TypeId) (vs:List Value) (x:DataW H×List MemPlace) (ss:List Sh),zDg P n t=some ss→DataW.trod enc P w 0 spare uK m t vs=some x→∃ ps,zCJ ss ps∧zA6 w (fun b=>b<w.heap.size) zCc ps vs []
 | 0,m,t,vs,x,ss,h,_=>by cases h
 | n + 1, m, t,vs,x,ss,h,hx=>by
  simp only [zDg] at h
  split at h
  ·rename_i k ht
   cases h
   obtain ⟨i,rfl,_,hw⟩:=DataW.trod_int ht hx
   simp only [Lit.wf,Bool.and_eq_true,decide_eq_true_eq] at hw
   exact ⟨[.int k i],⟨_,[],rfl,⟨i,rfl,hw.1,hw.2⟩,rfl⟩,_,_,[],[],rfl,rfl,⟨rfl,rfl⟩,rfl,rfl⟩
  ·rename_i ht
   cases h
   obtain ⟨b,rfl,_⟩:=DataW.trod_bool ht hx
   exact ⟨[.bool b],⟨_,[],rfl,⟨b,rfl⟩,rfl⟩,_,_,[],[],rfl,rfl,⟨rfl,rfl⟩,rfl,rfl⟩
  ·rename_i e ht
   cases j9:zDg P n e with
   | none=>rw [j9] at h;cases h
   | some es =>
    rw [j9] at h;simp only at h
    split at h
    ·rename_i hc
     cases h
     obtain ⟨jX,jH,u5⟩:=hc
     rcases DataW.trod_slice ht hx with ⟨rfl,_⟩ | ⟨a,len,cap,zY5,rest,k,_,rfl,_,_,hlc,hcm,jC,jp,_⟩
     ·exact ⟨[.sl []],⟨_,[],rfl,⟨[],rfl,Nat.zero_le _,by simp⟩,rfl⟩,_,_,[],[],rfl,rfl,⟨rfl,.inl ⟨rfl,_,_,rfl,fun _=>rfl⟩⟩,rfl,rfl⟩
     ·by_cases h0:len=0
      ·subst h0
       exact ⟨[.sl []],⟨_,[],rfl,⟨[],rfl,Nat.zero_le _,by simp⟩,rfl⟩,_,_,[],[],rfl,rfl,⟨rfl,.inl ⟨rfl,_,_,rfl,fun h=>by cases h⟩⟩,rfl,rfl⟩
      have zBd:∀ i,i<len→∃ (cs:List Value) (y:DataW H×List MemPlace),cs.length=P.cellsOf e∧(∀ j,j<P.cellsOf e→w.cell? ((a.add (i*P.cellsOf e)).add j)=cs[j]?)∧DataW.trod enc P w 0 spare uK k e cs=some y:=by
       intro i hi
       have:=jp i hi
       rw [List.getElem?_eq_getElem (by omega)] at this
       obtain ⟨cs,h1,h2⟩:=Option.bind_eq_some_iff.1 this
       obtain ⟨_,h3,h4⟩:=World.cells?_some h1
       exact ⟨cs,_,h3,h4,h2⟩
      obtain ⟨cs0,_,h00,h01,_⟩:=zBd 0 (by omega)
      have yR:=h01 0 (by omega)
      rw [List.getElem?_eq_getElem (by omega)] at yR
      have y4:a.spot=none∧∃ row el fr,w.heap[a.block]? = some (.cells row el fr):=by
       simp only [Nat.zero_mul,Addr.add,if_true,World.cell?] at yR
       cases hb:w.heap[a.block]? with
       | none=>rw [hb] at yR;cases yR
       | some o =>
        cases o<;>rw [hb] at yR<;>simp only at yR<;>try (cases yR;done)
        rename_i row el fr
        cases hs:a.spot with
        | some s=>rw [hs] at yR;cases yR
        | none=>exact ⟨rfl,row,el,fr,rfl⟩
      obtain ⟨y5,row,el,fr,yD⟩:=y4
      have kq:∀ i j,i<len→j<P.cellsOf e→w.cell? ((a.add (i*P.cellsOf e)).add j)=row[a.off+(i*P.cellsOf e+j)]?:=by
       intro i j hi hj
       have key:∀ m:Nat,(a.add m).block=a.block∧(a.add m).off=a.off+m∧(a.add m).spot=none:=by
        intro m
        unfold Addr.add
        split
        ·rename_i h;subst h;exact ⟨rfl,rfl,y5⟩
        ·exact ⟨rfl,rfl,by simp⟩
       have key2:∀ m j:Nat,w.cell? ((a.add m).add j)=row[a.off+(m+j)]?:=by
        intro m j
        obtain ⟨k1,k2,k3⟩:=key m
        by_cases h:j=0
        ·subst h
         simp only [Addr.add,if_true,World.cell?] at *
         rw [k1,yD];simp only;rw [k3,k2];simp
        ·have:(a.add m).add j=⟨a.block,a.off+m+j,none⟩:=by
          generalize a.add m=a1 at k1 k2 k3
          unfold Addr.add
          rw [if_neg h,k1,k2]
         rw [this]
         simp only [World.cell?,yD]
         rw [Nat.add_assoc];rfl
       exact key2 _ _
      have ji:=zSj (w:=w) (Φ:=fun b=>b<w.heap.size) (ss:=es) jH (by rw [jX] at u5 ⊢;exact u5) len (seg row a.off (len*P.cellsOf e)) ?_ ?_
      ·obtain ⟨xs,us,g1,g2,g3,g4,g5,g6⟩:=ji
       refine ⟨[.sl xs],⟨_,[],rfl,⟨xs,rfl,by omega,fun x hx=>⟨(g2 x hx).1,(g2 x hx).2.1⟩⟩,rfl⟩,_,_,[],[],rfl,rfl,⟨rfl,.inr ⟨a,cap,row,us,P.cellsOf e,by rw [g1],y5,by omega,(Array.getElem?_eq_some_iff.1 yD).1,⟨el,fr,yD⟩,?_,⟨?_,g4⟩,by rw [g1];exact g5,g6⟩⟩,rfl,rfl⟩
       ·intro x hx;rw [← jX];exact (g2 x hx).2.2
       ·intro u hu;rw [← jX];exact g3 u hu
      ·
       have:=zBd (len-1) (by omega)
       obtain ⟨cs,_,h1,h2,_⟩:=this
       have h3:=h2 (P.cellsOf e-1) (by omega)
       rw [kq _ _ (by omega) (by omega),List.getElem?_eq_getElem (by omega)] at h3
       have h4:=(Array.getElem?_eq_some_iff.1 h3).1
       have h5:(len-1)*P.cellsOf e+P.cellsOf e=len*P.cellsOf e:=by
        obtain ⟨l,rfl⟩:∃ l,len=l+1:=⟨len-1,by omega⟩
        rw [Nat.add_sub_cancel,Nat.add_mul];omega
       simp only [seg,List.length_take,List.length_drop,Array.length_toList,jX]
       omega
      ·intro i hi
       obtain ⟨cs,y,h1,h2,h3⟩:=zBd i hi
       obtain ⟨ps,h4,h5⟩:=zLE n k e cs y es j9 h3
       refine ⟨ps,h4,by rw [h4.length],?_⟩
       have:((seg row a.off (len*P.cellsOf e)).drop (i*es.length)).take es.length=cs:=by
        rw [jX]
        apply List.ext_getElem?
        intro j
        have wj:i*P.cellsOf e+P.cellsOf e≤len*P.cellsOf e:=by
         have:(i+1)*P.cellsOf e≤len*P.cellsOf e:=Nat.mul_le_mul_right _ (by omega)
         rw [Nat.add_mul] at this;omega
        simp only [seg,List.getElem?_take,List.getElem?_drop]
        split
        ·rename_i hj
         rw [if_pos (by omega),Array.getElem?_toList,← kq i j hi hj,h2 j hj]
        ·rw [List.getElem?_eq_none (by omega)]
       rw [this];exact h5
    ·cases h
  ·rename_i fs ht
   obtain ⟨xs,k,_,_,hl,v0,hf⟩:=DataW.trod_struct ht hx
   obtain ⟨ps,h1,h2⟩:=zM4 (Φ:=fun b=>b<w.heap.size) hl (fun t vs x ss h1 h2=>zLE n k t vs x ss h1 h2) fs.toList 0 ss h (fun f yk=>by
    obtain ⟨i,hi⟩:=List.getElem?_of_mem yk
    have gA:fs[i]? = some f:=by rw [← Array.getElem?_toList];exact hi
    have yJ:=(Array.getElem?_eq_some_iff.1 gA).1
    exact ⟨xs[i]'(by omega), by rw [hf i f gA, List.getElem?_eq_getElem (by omega)]⟩) (Nat.zero_le _)
   exact ⟨ps,h1,by simpa using h2⟩
  ·rename_i m' e ht
   cases j9:zDg P n e with
   | none=>rw [j9] at h;cases h
   | some es =>
    rw [j9] at h;simp only at h
    split at h
    ·rename_i hc
     cases h
     obtain ⟨xs,k,hl,v0,hf⟩:=zTi ht hx
     exact zUg m' vs (by rw [hl,hc]) fun i hi=>zLE n k e _ _ es j9 (by rw [hf i hi,List.getElem?_eq_getElem (by omega)])
    ·cases h
  ·cases h
def zOu (x:Bool×List Sh) (p:PV):Prop:=if x.1 then ∃ cs,p = .agg cs∧zCJ x.2 cs else zCJ x.2 [p]
def zLA:List (Bool×List Sh)→List PV→Prop
 | [],ps=>ps=[]
 | s::ss,ps=>∃ p qs,ps=p::qs∧zOu s p∧zLA ss qs
def zE3 (P:Program):List TypeId→Option (List (Bool×List Sh))
 | []=>some []
 | t::ts=>match zDg P 20 t,zE3 P ts with
  | some ss,some rest=>if zXA P t=true∨zWa P t=false∧ss.length=1 then some ((zXA P t,ss)::rest) else none
  | _,_=>none
theorem zLA.length:∀ {ss:List (Bool×List Sh)} {ps:List PV},zLA ss ps→ps.length=ss.length
 | [],ps,h=>by simp only [zLA] at h;subst h;rfl
 | s::ss,ps,h=>by
  obtain ⟨p,qs,rfl,_,h2⟩:=h
  simp [zLA.length h2]
theorem zQJ {n:Nat} {t:TypeId} {ss:List Sh} (h:zDg P n t=some ss) (ha:zWa P t=false):(∃ k,P.underlying t=some (.int k))∨P.underlying t=some .bool∨∃ e,P.underlying t=some (.slice e):=by
 cases n with
 | zero=>cases h
 | succ n =>
  simp only [zDg] at h
  split at h
  ·exact .inl ⟨_,by assumption⟩
  ·exact .inr (.inl (by assumption))
  ·exact .inr (.inr ⟨_,by assumption⟩)
  ·rename_i fs ht
   simp only [zWa,ht] at ha;cases ha
  ·rename_i ht
   simp only [zWa,ht] at ha;cases ha
  ·cases h
theorem zRU : ∀ (ts:List TypeId) (vs:List Value) (ds:List (DataW H)) (ps:List MemPlace) (ss:List (Bool×List Sh)),zE3 P ts=some ss→DataW.TrodAll enc P w 0 spare uK ts vs ds ps→(∀ (j:Nat) t v,ts[j]? = some t→vs[j]? = some v→Value.okWide P w .any base t v) →
  ∃ qs,zLA ss qs∧zA6 w (fun b=>b<w.heap.size) zCc qs vs []
 | [],vs,ds,ps,ss,hs,h,_=>by
  obtain ⟨rfl,_,_⟩:=trodAll_nil h
  cases hs
  exact ⟨[],rfl,rfl,rfl⟩
 | t :: ts,vs,ds,ps,ss,hs,h,hv=>by
  obtain ⟨v,vs',d,ds',p,q,rfl,rfl,rfl,⟨fuel,h1⟩,h2⟩:=trodAll_cons h
  simp only [zE3] at hs
  cases yC:zDg P 20 t with
  | none=>rw [yC] at hs;cases hs
  | some s =>
   cases yd:zE3 P ts with
   | none=>rw [yC,yd] at hs;cases hs
   | some rest =>
    rw [yC,yd] at hs
    simp only at hs
    split at hs
    ·rename_i hc
     cases hs
     obtain ⟨qs,g1,g2⟩:=zRU ts vs' ds' q rest yd h2 (fun j t v ht yG=>hv (j+1) t v (by simpa using ht) (by simpa using yG))
     obtain ⟨cs,g3,g4⟩:=zLE 20 fuel t v.cells.toList _ s yC h1
     have yK:=hv 0 t v rfl rfl
     cases ha:zXA P t with
     | true =>
      have qE:∃ fs,P.underlying t=some (.struct fs):=by
       simp only [zXA] at ha
       split at ha
       ·exact ⟨_,by assumption⟩
       ·cases ha
      obtain ⟨fs,ht⟩:=qE
      obtain ⟨row,rfl,_⟩:=okWide_struct ht yK
      exact ⟨.agg cs::qs,⟨_,_,rfl,by simp only [zOu,if_true];exact ⟨cs,rfl,g3⟩,g1⟩,_,_,[],[],rfl,rfl,⟨row,rfl,g4⟩,g2⟩
     | false =>
      have yO:v.cells.toList=[v]:=by
       rcases zQJ yC (hc.elim (fun h=>by rw [h] at ha;cases ha) fun h=>h.1) with ⟨k,ht⟩ | ht | ⟨e,ht⟩
       ·obtain ⟨n,rfl⟩:=okWide_int ht yK;rfl
       ·obtain ⟨n,rfl⟩:=okWide_bool ht yK;rfl
       ·obtain ⟨a,n,c,rfl⟩:=okWide_slice ht yK;rfl
      rw [yO] at g4
      obtain ⟨u,us,L1,L2,he,hL,g5,g6⟩:∃ u us L1 L2,cs=u::us∧([]:List Nat)=L1++L2∧Rep w (fun b=>b<w.heap.size) zCc u v L1∧zA6 w (fun b=>b<w.heap.size) zCc us [] L2:=by
       cases cs with
       | nil=>have:=g4.length;simp at this
       | cons u us =>
        obtain ⟨v',vs'',L1,L2,he,hL,g5,g6⟩:=g4
        cases he
        exact ⟨u,us,L1,L2,rfl,hL,g5,g6⟩
      obtain ⟨rfl,rfl⟩:=List.append_eq_nil_iff.1 hL.symm
      have wR:us=[]:=List.eq_nil_of_length_eq_zero (by have:=g6.length;simp at this;omega)
      subst wR;subst he
      exact ⟨u::qs,⟨_,_,rfl,by simp only [zOu,Bool.false_eq_true,if_false];exact g3,g1⟩,_,_,[],[],rfl,rfl,g5,g2⟩
    ·cases hs
theorem zLv {α:Type} {R:α→Prop} {enc:α→PV}:∀ {xs:List PV},(∀ x∈xs,∃ a,x=enc a∧R a)→∃ l:List α,xs=l.map enc∧∀ a∈l,R a
 | [],_=>⟨[],rfl,by simp⟩
 | x :: xs,h=>by
  obtain ⟨a,rfl,ha⟩:=h x (by simp)
  obtain ⟨l,rfl,hl⟩:=zLv (xs:=xs) fun y hy=>h y (by simp [hy])
  exact ⟨a::l,rfl,fun b hb=>by
   rcases List.mem_cons.1 hb with rfl | hb
   ·exact ha
   ·exact hl b hb⟩
theorem zPp {k:IntKind} {p:PV} (h:zXD (.list false [.num k]) p):∃ l:List Int,p = .sl (l.map (.int k))∧l.length≤maxLen∧∀ n∈l,k.min≤n∧n≤k.max:=by
 obtain ⟨xs,rfl,hl,hx⟩:=h
 obtain ⟨l,rfl,hb⟩:=zLv (α:=Int) (R:=fun n=>k.min≤n∧n≤k.max) (enc := .int k) (xs:=xs) fun x jx=>by
  obtain ⟨⟨q,qs,hc,⟨n,rfl,hn⟩,wk⟩,ha⟩:=hx x jx
  simp only [zCJ] at wk;subst wk
  refine ⟨n,?_,hn⟩
  cases x<;>simp [PV.cells] at hc<;>first | exact hc | simp_all [PV.isAgg]
 exact ⟨l,rfl,by simpa using hl,hb⟩
theorem zJu:∀ {ts:List TypeId} {vs:List Value} {ds:List (DataW H)} {ps:List MemPlace},DataW.TrodAll enc P w 0 spare uK ts vs ds ps→ds.length=ts.length
 | [],vs,ds,ps,h=>by obtain ⟨_,rfl,_⟩:=trodAll_nil h;rfl
 | t::ts,vs,ds,ps,h=>by
  obtain ⟨_,_,_,_,_,_,rfl,rfl,_,_,h2⟩:=trodAll_cons h
  simp [zJu h2]
theorem zVD {Hh:zBl} {f:FuncId} {fn:Func} {s:ChangeSpec} {apart fresh jU again:Bool} {W:World} {args:Array Value} {ds:List (DataW H)} {before:List MemPlace} {tb:TypeId} {ss:List (Bool×List Sh)} (zEX:P.follows .mixedOrders=true) (hnm:zEI P) (zMo:Fit P Hh) (hin:zEL P Hh)
  (hl:laidOutB P=true) (jr:s.vars=[]) (htb:P.underlying tb=some .bool) (wZ:fn.resultTypes=#[tb]) (uw:fn.params.toList.all (fun t=>P.readableRec t&&Nat.blt t P.types.size)=true) (kM:∀ ds,ds.length=fn.params.size→s.fn H ds={results:=[.lit (.bool true)],args:=ds}) (wT:zE3 P fn.params.toList=some ss) (hX:ss.length≤1000)
  (hg:∀ qs,zLA ss qs→@zDs (yo1 P Hh) P Hh f qs [] (.bool true) [])
  (gV:∀ (j:Nat) t v,fn.params[j]? = some t→args[j]? = some v→Value.okWide P W .any base t v) (hW:DataW.Whole enc P fn.params.toList s.vars apart W args.toList ds [] before) :
  Calls P f args W fun e W'=>∃ v,e = .returned v∧s.post enc P fn apart fresh jU again W args v W':=by
 obtain ⟨pa,pv,hA,_,_,_,_⟩:=id hW
 obtain ⟨qs,uN,vH⟩:=zRU fn.params.toList args.toList ds pa ss wT hA (fun j t v ht hv=>gV j t v (by rw [← Array.getElem?_toList];exact ht) (by rw [← Array.getElem?_toList];exact hv))
 have km:=uN.length
 refine (zRz (Φ:=fun b=>b<W.heap.size) zEX hnm zMo hin (hg qs uN) (fun b hb=>hb) vH (by rw [km];exact Nat.le_trans hX (by decide))).mono fun e W' ⟨he,g1,g2,g3,g4,g5⟩=>?_
 subst he
 refine ⟨_,rfl,zTW hl jr htb wZ (fun t ht=>?_) (kM ds (by have:=zJu hA;simpa using this)) hW g1 g2 g3 g4 g5⟩
 have:=List.all_eq_true.1 uw t ht
 rw [Bool.and_eq_true] at this
 exact ⟨this.1,zB2 this.2⟩
end
end Go.Eng
namespace Go.Eng
open Go
section
variable {P:Program} {H:zBl}
def zES (f:FuncId):zBl:=fun g=>bif Nat.beq g f then {} else {intr:=9}
theorem zP8 (zEX:P.follows .mixedOrders=true) (hnm:zEI P) {f:FuncId} {fn:Func} (hf:P.funcs[f]? = some fn) (yK:zUV P fn=true) (n:Nat):zGn P (@zCX P (zES f) yo0 n):=by
 refine @zFi P (zES f) yo0 zEX hnm (fun g gn hg hi=>?_) (fun g gn args hid v hZ hg hi hr=>?_) (fun g first i caps k plan h=>by cases h) n
 ·cases hb:Nat.beq g f with
  | true =>
   rw [Nat.eq_of_beq_eq_true hb,hf] at hg
   cases hg;exact yK
  | false=>simp [zES,hb] at hi
 ·cases hb:Nat.beq g f with
  | true=>exact absurd (by simp [zES,hb]) hi
  | false =>
   have e:(zES f g).intr=9:=by simp [zES,hb]
   rw [e] at hr
   simp [zDY] at hr
theorem zPu {α:Type} {f:Nat→α} {s:Nat} {v:α} (h:f s=v):upd f s v=f:=by
 funext t
 by_cases ht:t=s
 ·subst ht;rw [zAl,h]
 ·rw [zAi ht]
theorem zLD {f:FuncId} {p q v:PV} (hp:p.heavy=false) {w:World} {Φ:Nat→Prop} {rv:Nat→Value} {E:Nat→PV} {L:Nat→List Nat} {vs:Array Value} (hE:∀ s,s<zAb→E s=(zBc [q] []).get s) (kh:∀ s,zAb≤s→E s = .bad)
  (C:Conf w (fun b=>∃ s,b∈L s) Φ w Φ rv E L) (yI:vs.size=1) (yp:∀ i,i<1→vs[i]? = some (rv i)) (jd:∀ s,1≤s→s<zAn→rv s=undef) (hL0:L 0=[]) (hr:Rep w Φ (zA8 w rv E) p (rv 0) []) (h:zFv P f [p] [] v []) :
  Calls P f vs w fun e w'=>∃ u Φ' rv' E' L',e = .returned u∧Conf w (fun b=>∃ s,b∈L s) Φ w' Φ' rv' E' L'∧([]:List PV).length=([]:List PV).length ∧
   (∀ j,j<([]:List PV).length→E' (zAn+j)=([]:List PV).getD j .bad∧rv' (zAn+j)=rv (zAn+j))∧Gave v u rv' E':=by
 have C1:=C.put (s:=0) hp hr
 rw [zPu hL0,zPu rfl] at C1
 have h1:(1:Nat)≤zAn:=by decide
 have hg:(0:Nat)<zAb:=by decide
 refine h w Φ rv (upd E 0 p) L vs (fun s hs=>?_) (fun s hs=>?_) C1 yI yp jd
 ·by_cases h:s=0
  ·subst h;rw [zAl];rfl
  ·rw [zAi h,hE s hs,zDr (args:=[q]) h1,zDr (args:=[p]) h1]
   simp [h,show ¬ s<1 by omega]
 ·rw [zAi (by omega)];exact kh s hs
theorem zSt {f:FuncId} {v:PV} (h1:zFv P f [.nils 0] [] v []) (h2:zFv P f [.nn] [] v []):zFv P f [.sl []] [] v []:=by
 intro w Φ rv E L vs hE kh C yI yp jd
 have h0:E 0 = .sl []:=by rw [hE 0 (by decide)];rfl
 have hr:=C.rep 0
 rw [h0] at hr
 obtain ⟨hL0,hc⟩:=hr
 have hc:∃ a n,rv 0 = .slice a 0 n∧(a=none→n=0):=by
  rcases hc with ⟨_,a,n,hv,ha⟩ | ⟨a,n,c,us,sz,hv,_⟩
  ·exact ⟨a,n,hv,ha⟩
  ·exact ⟨some a,n,hv,fun h=>by cases h⟩
 obtain ⟨a,n,hv,ha⟩:=hc
 cases a with
 | none =>
  rw [ha rfl] at hv
  exact zLD (p := .nils 0) rfl hE kh C yI yp jd hL0 ⟨hv,rfl⟩ h1
 | some a=>exact zLD (p := .nn) rfl hE kh C yI yp jd hL0 ⟨rfl,a,n,hv⟩ h2
theorem zPH {f:FuncId} {v:PV} {k:Nat} (h1:zFv P f [.nils 0] [] v []):zFv P f [.nils k] [] v []:=by
 intro w Φ rv E L vs hE kh C yI yp jd
 have h0:E 0 = .nils k:=by rw [hE 0 (by decide)];rfl
 have hr:=C.rep 0
 rw [h0] at hr
 exact zLD (p := .nils 0) rfl hE kh C yI yp jd hr.2 ⟨hr.1,rfl⟩ h1
theorem zLK (zEX:P.follows .mixedOrders=true) (hnm:zEI P) {f:FuncId} {fn:Func} (hf:P.funcs[f]? = some fn) (hb:fn.body.isSome=true) (yK:zUV P fn=true) {sz:Nat} (yI:(fn.resultTypes[0]?).bind (fun t=>(zBS P t).bind (szT P))=some sz)
  (r1:∃ n,@zCX P (zES f) yo0 n f [.nils 0] []=some (.own sz [],[])) (r2:∃ n,@zCX P (zES f) yo0 n f [.nn] []=some (.own sz [],[]))
  (r3:∀ x xs,(∀ y∈x::xs,y.plain=true∧y.cells.length=sz)→(x::xs).length≤zA1→∃ n,@zCX P (zES f) yo0 n f [.sl (x::xs)] []=some (.own sz (x::xs),[])) :
  ∀ args hid v hZ,zDY P fn 1 args hid=some (v,hZ)→zCx P f∧zFv P f args hid v hZ:=by
 have so:=zP8 zEX hnm hf yK
 have hc:zCx P f:=⟨fn,hf,by cases hx:fn.body with
  | none=>rw [hx] at hb;cases hb
  | some _=>rfl⟩
 obtain ⟨n1,r1⟩:=r1
 obtain ⟨n2,r2⟩:=r2
 have m1:zFv P f [.nils 0] [] (.own sz []) []:=(so n1 _ _ _ _ _ r1).2
 have m2:=(so n2 _ _ _ _ _ r2).2
 intro args hid v hZ h
 refine ⟨hc,?_⟩
 rcases args with _ | ⟨p,_ | ⟨p2,ps⟩⟩
 ·simp [zDY] at h
 ·rcases hid with _ | ⟨q,qs⟩
  ·cases p<;>first | (simp [zDY] at h;done) | skip
   ·rename_i k
    simp only [zDY,yI,Option.some.injEq,Prod.mk.injEq] at h
    obtain ⟨rfl,rfl⟩:=h
    exact zPH m1
   ·rename_i xs
    simp only [zDY,yI] at h
    split at h
    ·rename_i hx
     simp only [Option.some.injEq,Prod.mk.injEq] at h
     obtain ⟨rfl,rfl⟩:=h
     simp only [Bool.and_eq_true,decide_eq_true_eq,List.all_eq_true] at hx
     cases xs with
     | nil=>exact zSt m1 m2
     | cons x xs =>
      obtain ⟨n3,r3⟩:=r3 x xs (fun y hy=>by simpa using hx.1 y hy) hx.2
      exact (so n3 _ _ _ _ _ r3).2
    ·cases h
  ·simp [zDY] at h
 ·simp [zDY] at h
theorem zGN [Yo] {f:FuncId} {fn:Func} {sz:Nat} {α:Type} (g:α→PV) (l:List α) (hl:l.length≤4294967296) (hg:∀ x,((g x).plain&&Nat.beq (g x).cells.length sz)=true:=by intro x;kernel_rfl) (hf:P.funcs[f]? = some fn:=by kernel_rfl) (hi:(H f).intr=1:=by kernel_rfl)
  (yI:(fn.resultTypes[0]?).bind (fun t=>(zBS P t).bind (szT P))=some sz:=by kernel_rfl):zDs P H f [.sl (l.map g)] [] (.own sz (l.map g)) []:=by
 refine ⟨1,fun n hn=>?_⟩
 obtain ⟨k,rfl⟩:∃ k,n=k+1:=⟨n-1,by omega⟩
 show zIO P H (zCX P H k) Yo.yo zCd (k+1) f _ _=_
 have kw:((l.map g).all (fun x=>x.plain&&decide (x.cells.length=sz))&&decide ((l.map g).length≤zA1))=true:=by
  simp only [List.all_map,Bool.and_eq_true,List.all_eq_true,List.length_map,decide_eq_true_eq,Function.comp]
  refine ⟨fun x _=>?_,hl⟩
  have:=hg x
  simp only [Bool.and_eq_true] at this
  exact ⟨this.1,Nat.eq_of_beq_eq_true this.2⟩
 simp only [Bool.and_eq_true,decide_eq_true_eq] at kw
 simp only [zIO,hf,hi,zDY,yI]
 rw [if_pos (by decide),if_pos (by simpa using kw)]
theorem zHg {f:FuncId} {args:List PV} {v:PV} (h:@zDs yo0 P (zES f) f args [] v []):∃ n,@zCX P (zES f) yo0 n f args []=some (v,[]):=by
 obtain ⟨n,h⟩:=h
 exact ⟨n,h n (Nat.le_refl _)⟩
theorem zTH (cl:List FuncId) (h:((List.range P.funcs.size).all fun f=>Nat.beq (H f).intr 0||Nat.beq (H f).intr 9||(Nat.beq (H f).intr 1&&cl.any (Nat.beq f)))=true)
  (hc:∀ f∈cl,∀ fn,P.funcs[f]? = some fn→∀ args hid v hZ,zDY P fn 1 args hid=some (v,hZ)→zCx P f∧zFv P f args hid v hZ):zEL P H:=fun f fn args hid v hZ hf hi hr=>by
 have yJ:=(Array.getElem?_eq_some_iff.1 hf).1
 have:=List.all_eq_true.1 h f (List.mem_range.2 yJ)
 rw [Bool.or_eq_true,Bool.or_eq_true,Bool.and_eq_true] at this
 rcases this with (h1 | h1) | ⟨h1,h2⟩
 ·exact absurd (Nat.eq_of_beq_eq_true h1) hi
 ·rw [Nat.eq_of_beq_eq_true h1] at hr
  simp [zDY] at hr
 ·rw [Nat.eq_of_beq_eq_true h1] at hr
  obtain ⟨g,hg,hb⟩:=List.any_eq_true.1 h2
  rw [Nat.eq_of_beq_eq_true hb] at hf ⊢
  exact hc g hg fn hf args hid v hZ hr
end
end Go.Eng
set_option maxRecDepth 100000
namespace Go.Eng
open Go Go.Proofs
def idV (p:PV):PV:=p
theorem zHU (xs:List PV):xs.map idV=xs:=by
 induction xs with
 | nil=>rfl
 | cons x xs ih=>rw [List.map_cons,ih];rfl
theorem zE8:∀ {l:List PV},(∀ y∈l,y.plain=true)→zBt l=[]
 | [],_=>rfl
 | p::ps,h=>by
  rw [zBt,(zK9 (h p (by simp))).2,zE8 fun y hy=>h y (by simp [hy])];rfl
theorem zRN {xs:List PV} {sz n:Nat} (h:∀ y∈xs,y.plain=true∧y.cells.length=sz) (hn:Nat.beq sz n=true):((xs.map idV).all fun y=>y.cells.length.beq n&&y.cells.all fun q=>q.oneCell)=true:=by
 rw [zHU,List.all_eq_true]
 intro y hy
 rw [Bool.and_eq_true]
 exact ⟨by rw [(h y hy).2];exact hn,List.all_eq_true.2 fun q hq=>zJC (h y hy).1 q hq⟩
theorem zVY {xs:List PV} {sz:Nat} (h:∀ y∈xs,y.plain=true∧y.cells.length=sz):((xs.map idV).all fun x=>x.plain)=true:=by
 rw [zHU,List.all_eq_true];exact fun y hy=>(h y hy).1
section
variable [Yo]
theorem zXO:zDs Tryz.prog (zES 61) 61 [.nils 0] [] (.own 2 []) []:=zDs.closed 50
theorem zYV:zDs Tryz.prog (zES 61) 61 [.nn] [] (.own 2 []) []:=zDs.closed 50
theorem zYl (xs:List PV) (h:∀ y∈xs,y.plain=true∧y.cells.length=2) (hI:0<xs.length) (hl:xs.length≤4294967296):zDs Tryz.prog (zES 61) 61 [.sl (xs.map idV)] [] (.own 2 (xs.map idV)) []:=by
 refine zAf Tryz.f61 ?_
 refine zAd 1<|zAa<|zAg<|zAd 1<|S_a [(0,.v (PV.bool false))] (ap (zNC (by omega):zHx Tryz.prog BinOp.eql 27 (PV.sl (List.map idV xs)) (zEB (Value.slice none 0 0))=some (PV.bool false)) an)<|zAa<|zAW<|zAj<|zAd 2<|S_a [(0,.ob),(0,.ob),(0,.ob),(3,.ob)] (ap (zVY h:((List.map idV xs).all fun x=>x.plain)=true)<|ap (zRN h (by kernel_rfl):((List.map idV xs).all fun y=>y.cells.length.beq ((fun x=>x.size) Tryz.prog.types[37])&&y.cells.all fun q=>q.oneCell)=true)<|ap (?_:(zBt (List.map idV xs)).isEmpty=true)<|ap ((by exact zA9 (by simp only [List.length_map,zzLn,zA1]<;>omega)):(0+(List.map idV xs).length).ble zA1=true) an)<|zAc 1<|zAa<|zAm<|E_a [(1,.yes),(1,.v (PV.own 2 (List.map idV (List.take ([]++List.map idV xs).length xs))))] (ap (blz ([]++List.map idV xs))<|ap ((by simp [zB4]):PV.own 2 (List.take ([]++List.map idV xs).length (List.drop 0 ([]++List.map idV xs)))=PV.own 2 (List.map idV (List.take ([]++List.map idV xs).length xs))) an) (PV.own 2 (List.map idV (List.take ([]++List.map idV xs).length xs))) [] (by simp [*]) rfl
 rw [zHU,zE8 fun y hy=>(h y hy).1];rfl
theorem zYe:zDs Tryz.prog (zES 65) 65 [.nils 0] [] (.own 1 []) []:=zDs.closed 50
theorem zX7:zDs Tryz.prog (zES 65) 65 [.nn] [] (.own 1 []) []:=zDs.closed 50
theorem zZj (xs:List PV) (h:∀ y∈xs,y.plain=true∧y.cells.length=1) (hI:0<xs.length) (hl:xs.length≤4294967296):zDs Tryz.prog (zES 65) 65 [.sl (xs.map idV)] [] (.own 1 (xs.map idV)) []:=by
 refine zAf Tryz.f65 ?_
 refine zAd 1<|zAa<|zAg<|zAd 1<|S_a [(0,.v (PV.bool false))] (ap (zNC (by omega):zHx Tryz.prog BinOp.eql 51 (PV.sl (List.map idV xs)) (zEB (Value.slice none 0 0))=some (PV.bool false)) an)<|zAa<|zAW<|zAj<|zAd 2<|S_a [(0,.ob),(0,.ob),(0,.ob),(3,.ob)] (ap (zVY h:((List.map idV xs).all fun x=>x.plain)=true)<|ap (zRN h (by kernel_rfl):((List.map idV xs).all fun y=>y.cells.length.beq ((fun x=>x.size) Tryz.prog.types[3])&&y.cells.all fun q=>q.oneCell)=true)<|ap (?_:(zBt (List.map idV xs)).isEmpty=true)<|ap ((by exact zA9 (by simp only [List.length_map,zzLn,zA1]<;>omega)):(0+(List.map idV xs).length).ble zA1=true) an)<|zAc 1<|zAa<|zAm<|E_a [(1,.yes),(1,.v (PV.own 1 (List.map idV (List.take ([]++List.map idV xs).length xs))))] (ap (blz ([]++List.map idV xs))<|ap ((by simp [zB4]):PV.own 1 (List.take ([]++List.map idV xs).length (List.drop 0 ([]++List.map idV xs)))=PV.own 1 (List.map idV (List.take ([]++List.map idV xs).length xs))) an) (PV.own 1 (List.map idV (List.take ([]++List.map idV xs).length xs))) [] (by simp [*]) rfl
 rw [zHU,zE8 fun y hy=>(h y hy).1];rfl
theorem zWQ:zDs Tryz.prog (zES 123) 123 [.nils 0] [] (.own 2 []) []:=zDs.closed 50
theorem zXa:zDs Tryz.prog (zES 123) 123 [.nn] [] (.own 2 []) []:=zDs.closed 50
theorem zWn (xs:List PV) (h:∀ y∈xs,y.plain=true∧y.cells.length=2) (hI:0<xs.length) (hl:xs.length≤4294967296):zDs Tryz.prog (zES 123) 123 [.sl (xs.map idV)] [] (.own 2 (xs.map idV)) []:=by
 refine zAf Tryz.f123 ?_
 refine zAd 1<|zAa<|zAg<|zAd 1<|S_a [(0,.v (PV.bool false))] (ap (zNC (by omega):zHx Tryz.prog BinOp.eql 40 (PV.sl (List.map idV xs)) (zEB (Value.slice none 0 0))=some (PV.bool false)) an)<|zAa<|zAW<|zAj<|zAd 2<|S_a [(0,.ob),(0,.ob),(0,.ob),(3,.ob)] (ap (zVY h:((List.map idV xs).all fun x=>x.plain)=true)<|ap (zRN h (by kernel_rfl):((List.map idV xs).all fun y=>y.cells.length.beq ((fun x=>x.size) Tryz.prog.types[108])&&y.cells.all fun q=>q.oneCell)=true)<|ap (?_:(zBt (List.map idV xs)).isEmpty=true)<|ap ((by exact zA9 (by simp only [List.length_map,zzLn,zA1]<;>omega)):(0+(List.map idV xs).length).ble zA1=true) an)<|zAc 1<|zAa<|zAm<|E_a [(1,.yes),(1,.v (PV.own 2 (List.map idV (List.take ([]++List.map idV xs).length xs))))] (ap (blz ([]++List.map idV xs))<|ap ((by simp [zB4]):PV.own 2 (List.take ([]++List.map idV xs).length (List.drop 0 ([]++List.map idV xs)))=PV.own 2 (List.map idV (List.take ([]++List.map idV xs).length xs))) an) (PV.own 2 (List.map idV (List.take ([]++List.map idV xs).length xs))) [] (by simp [*]) rfl
 rw [zHU,zE8 fun y hy=>(h y hy).1];rfl
end
theorem zVs:∀ args hid v hZ,zDY Tryz.prog Tryz.f61 1 args hid=some (v,hZ)→zCx Tryz.prog 61∧zFv Tryz.prog 61 args hid v hZ :=
 zLK (f:=61) (fn:=Tryz.f61) (sz:=2) (by kernel_rfl) (zIs (by kernel_rfl)) (by kernel_rfl) (by kernel_rfl) (by kernel_rfl) (by kernel_rfl) (zHg (@zXO yo0)) (zHg (@zYV yo0)) fun x xs h hl=>by
  have:=zHg (@zYl yo0 (x::xs) h (by simp) hl)
  rw [zHU] at this
  exact this
theorem zV4:∀ args hid v hZ,zDY Tryz.prog Tryz.f65 1 args hid=some (v,hZ)→zCx Tryz.prog 65∧zFv Tryz.prog 65 args hid v hZ :=
 zLK (f:=65) (fn:=Tryz.f65) (sz:=1) (by kernel_rfl) (zIs (by kernel_rfl)) (by kernel_rfl) (by kernel_rfl) (by kernel_rfl) (by kernel_rfl) (zHg (@zYe yo0)) (zHg (@zX7 yo0)) fun x xs h hl=>by
  have:=zHg (@zZj yo0 (x::xs) h (by simp) hl)
  rw [zHU] at this
  exact this
theorem zTz:∀ args hid v hZ,zDY Tryz.prog Tryz.f123 1 args hid=some (v,hZ)→zCx Tryz.prog 123∧zFv Tryz.prog 123 args hid v hZ :=
 zLK (f:=123) (fn:=Tryz.f123) (sz:=2) (by kernel_rfl) (zIs (by kernel_rfl)) (by kernel_rfl) (by kernel_rfl) (by kernel_rfl) (by kernel_rfl) (zHg (@zWQ yo0)) (zHg (@zXa yo0)) fun x xs h hl=>by
  have:=zHg (@zWn yo0 (x::xs) h (by simp) hl)
  rw [zHU] at this
  exact this
theorem zXl:∀ f∈[61,65,123],∀ fn,Tryz.prog.funcs[f]? = some fn→∀ args hid v hZ,zDY Tryz.prog fn 1 args hid=some (v,hZ)→zCx Tryz.prog f∧zFv Tryz.prog f args hid v hZ:=by
 intro f hf fn kM
 simp only [List.mem_cons,List.not_mem_nil,or_false] at hf
 rcases hf with rfl | rfl | rfl
 ·have e:Tryz.prog.funcs[61]? = some Tryz.f61:=by kernel_rfl
  rw [e] at kM;cases kM
  exact zVs
 ·have e:Tryz.prog.funcs[65]? = some Tryz.f65:=by kernel_rfl
  rw [e] at kM;cases kM
  exact zV4
 ·have e:Tryz.prog.funcs[123]? = some Tryz.f123:=by kernel_rfl
  rw [e] at kM;cases kM
  exact zTz
end Go.Eng
namespace Go.Proofs.YtppbomajegnkeaaGreat
open Go.ChangeShapes Go.WideShapes Go.ChangeAt Go.RowKit Go.Eng
theorem Tryz.own:ownKnob Tryz.prog.godebug=none:=by kernel_rfl
theorem Tryz.laidOut:laidOutB Tryz.prog=true:=by kernel_rfl
theorem zEX:Tryz.prog.follows .mixedOrders=true:=by kernel_rfl
theorem hnm:zEI Tryz.prog:=zIs (by kernel_rfl)
theorem zMo:Fit Tryz.prog zLb:=zWG (by kernel_rfl)
theorem hin:zEL Tryz.prog zLb:=zTH [61,65,123] (by kernel_rfl) zXl
end Go.Proofs.YtppbomajegnkeaaGreat
namespace Go.Eng
open Go
theorem zXj {k:IntKind} {p:PV} (h:zOu (false,[.num k]) p):∃ n,p = .int k n∧k.min≤n∧n≤k.max:=by
 simp only [zOu,Bool.false_eq_true,if_false] at h
 obtain ⟨q,qs,hc,⟨n,rfl,hn⟩,wk⟩:=h
 cases hc
 exact ⟨n,rfl,hn⟩
theorem zVt {k:IntKind} {p:PV} (h:zOu (false,[.list false [.num k]]) p):∃ l:List Int,p = .sl (l.map (.int k))∧l.length≤maxLen∧∀ n∈l,k.min≤n∧n≤k.max:=by
 simp only [zOu,Bool.false_eq_true,if_false] at h
 obtain ⟨q,qs,hc,h,wk⟩:=h
 cases hc
 exact zPp h
theorem zV5 {ss:List Sh} {ag:Bool} {α:Type} {R:α→Prop} {enc:α→PV} {p:PV} (hr:∀ x,zCJ ss x.cells→x.isAgg=ag→∃ a,x=enc a∧R a) (h:zOu (false,[.list ag ss]) p):∃ l:List α,p = .sl (l.map enc)∧l.length≤maxLen∧∀ a∈l,R a:=by
 simp only [zOu,Bool.false_eq_true,if_false] at h
 obtain ⟨q,qs,hc,⟨xs,rfl,hl,hx⟩,wk⟩:=h
 cases hc
 obtain ⟨l,rfl,hb⟩:=zLv (α:=α) (R:=R) (enc:=enc) (xs:=xs) fun x jx=>hr x (hx x jx).1 (hx x jx).2
 exact ⟨l,rfl,by simpa using hl,hb⟩
theorem zOd {ss:List Sh} {ag:Bool} {α:Type} {R:α→Prop} {enc:α→PV} {p:PV} (hr:∀ x,zCJ ss x.cells→x.isAgg=ag→∃ a,x=enc a∧R a) (h:zXD (.list ag ss) p):∃ l:List α,p = .sl (l.map enc)∧l.length≤maxLen∧∀ a∈l,R a:=by
 obtain ⟨xs,rfl,hl,hx⟩:=h
 obtain ⟨l,rfl,hb⟩:=zLv (α:=α) (R:=R) (enc:=enc) (xs:=xs) fun x jx=>hr x (hx x jx).1 (hx x jx).2
 exact ⟨l,rfl,by simpa using hl,hb⟩
theorem zUw {x:PV} (h:x.isAgg=true):x = .agg x.cells:=by cases x<;>simp [PV.isAgg] at h;rfl
theorem zWT {x y:PV} (h:x.isAgg=false) (hc:x.cells=[y]):x=y:=by
 cases x<;>simp [PV.isAgg] at h<;>simpa [PV.cells] using hc
end Go.Eng
set_option maxRecDepth 10000
set_option maxHeartbeats 4000000
namespace Go.Eng
open Go Go.Proofs
theorem zAq {α:Type} {l:List α} {i:Nat} {d:α} (h:i<l.length):l.getD i d=l[i]:=by simp [List.getD,List.getElem?_eq_getElem h]
theorem zEW {α β:Type} {f:β→α→β} {b:β} {l:List α} {i:Nat} {d:α} (h:i<l.length):(l.take (i+1)).foldl f b=f ((l.take i).foldl f b) (l.getD i d):=by
 rw [zAq h];exact zP6 h
theorem zEh {α:Type} {l m:List α} {i:Nat} {d:α} (h:i<l.length) (h':i<m.length) (ha:l.take i=m.take i) (he:l.getD i d=m.getD i d):l.take (i+1)=m.take (i+1):=by
 rw [zAq h,zAq h'] at he
 rw [List.take_add_one,List.take_add_one,ha,List.getElem?_eq_getElem h,List.getElem?_eq_getElem h',he]
theorem zBP {α:Type} {l:List α} {i:Nat} {d:α} (h:i<l.length):l.take (i+1)=l.take i++[l.getD i d]:=by
 rw [List.take_add_one,List.getElem?_eq_getElem h,zAq h];rfl
theorem zBz {α:Type} {l:List α} {d:α} {p:α→Prop} (h:∀ x∈l,p x) (i:Nat) (hi:i<l.length):p (l.getD i d):=by
 rw [zAq hi];exact h _ (List.getElem_mem hi)
theorem zCS {l:List Int} {i j:Nat} {v:Int}:(l.set i v).getD j 0=if i=j∧j<l.length then v else l.getD j 0:=by
 simp only [List.getD_eq_getElem?_getD,List.getElem?_set]
 by_cases h:i=j
 ·subst h
  by_cases h2:i<l.length
  ·simp [h2]
  ·simp [h2]
 ·simp [h]
def zEo {α:Type} (φ:α→Bool) (l:List α):Int:=if l.findIdx φ<l.length then (l.findIdx φ:Int) else -1
theorem zBO {α : Type} {φ : α → Bool} {l : List α} {i : Nat} (h : i < l.length) (h0 : ∀ j (hj : j < i), φ (l[j]'(by omega)) = false) (hi : φ l[i] = true) : zEo φ l = i := by
 have:l.findIdx φ=i:=by
  rw [List.findIdx_eq h]
  exact ⟨hi,fun j hj=>by simpa using h0 j hj⟩
 simp [zEo,this,h]
theorem zB1 {α : Type} {φ : α → Bool} {l : List α} (h0 : ∀ j (hj : j < l.length), φ (l[j]'hj) = false) : zEo φ l = -1 := by
 have:¬ l.findIdx φ<l.length:=by
  intro h
  have:=List.findIdx_getElem (w:=h)
  rw [h0 _ h] at this;cases this
 simp [zEo,this]
theorem zD2 {α:Type} (φ:α→Bool) (l:List α):decide (zEo φ l≥0)=l.any φ:=by
 unfold zEo
 split
 ·rename_i h
  have:=List.findIdx_getElem (w:=h)
  have h2:l.any φ=true:=List.any_eq_true.2 ⟨_,List.getElem_mem h,this⟩
  rw [h2];simp
 ·rename_i h
  have h2:l.any φ=false:=by
   rw [List.any_eq_false]
   intro x hx hp
   exact h (List.findIdx_lt_length_of_exists ⟨x,hx,hp⟩)
  rw [h2];simp
structure Nw where
 h:Int
 l:List (Int×Int)
 n:List (Int×Bool)
 s:List (List Int)
abbrev prV (x:Int×Int):PV := .agg [I x.1,I x.2]
abbrev ntV (x:Int×Bool):PV := .agg [I x.1,.bool x.2]
abbrev prs (l:List (Int×Int)):PV := .sl (l.map prV)
abbrev zDX (l:List Int):PV := .own 1 (l.map I)
abbrev nwV (n:Nw):PV := .agg [I n.h,.sl (n.l.map prV),.sl (n.n.map ntV),.sl (n.s.map zAw)]
abbrev nwO (n:Nw):PV := .agg [I n.h,.own 2 (n.l.map prV),.own 2 (n.n.map ntV),.own 1 (n.s.map zDX)]
instance:FrzOf zDX zAw:=⟨fun x=>by simp only [zAY,zFM]⟩
def inB (n lo hi:Int):Bool:=decide (lo≤n)&&decide (n≤hi)
def pr2 (x:Int×Int):Int×Int:=(if x.2<x.1 then x.2 else x.1,if x.2>x.1 then x.2 else x.1)
abbrev FG [Yo] (f:FuncId) (args:List PV) (v:PV):Prop:=zDs Tryz.prog zLb f args [] v []
section
variable [Yo]
theorem f107 (n lo hi:Int):FG 107 [I n,I lo,I hi] (.bool (inB n lo hi)):=by
 refine zAf Tryz.f107 ?_
 refine zAd 1<|zAa<|zAd 4<|zDa 10 (n≥lo) (fun k0=>(zAc 5<|zAa<|zAm<|E_a [] an (PV.bool (decide (n≤hi))) [] ?_ rfl)) (fun k0=>(zAc 5<|zAa<|zAm<|E_a [] an (PV.bool false) [] ?_ rfl))
 ·simp only [inB,decide_eq_true k0,Bool.true_and]
 ·simp only [inB,decide_eq_false k0,Bool.false_and]
theorem f111 (n lo hi:Int):FG 111 [I n,I lo,I hi] (.bool (!inB n lo hi)):=by
 have e:(!inB n lo hi)=(decide (n<lo)||decide (hi<n)):=by
  unfold inB
  by_cases h1:lo≤n<;>by_cases h2:n≤hi<;>simp [h1,h2]<;>omega
 rw [e]
 refine zAf Tryz.f111 ?_
 refine zAd 1<|zAa<|zAd 4<|zDa 10 (n<lo) (fun k0=>(zAc 5<|zAa<|zAm<|E_a [] an (PV.bool true) [] (by simp [*]) rfl)) (fun k0=>(zAc 5<|zAa<|zAm<|E_a [] an (PV.bool (decide (n>hi))) [] (by simp [*]) rfl))
theorem f165 (n k:Int):FG 165 [I n,.sl [I k]] (I (max n k)):=by
 refine zAf Tryz.f165 ?_
 refine zAd 1<|zAa<|zAg<|zAd 1<|zAc 1<|zAc 1<|zAa<|zAh 0 ?_
 refine zAo (fun (i,v)=>i=0∧v=n∨i=1∧v=if k>n then k else n) (fun (i,v)=>[(0,I v),(9,I (i:Nat))]) (fun (i,_)=>1-i) ((0:Nat),n) (.inl ⟨rfl,rfl⟩) fun (i,v) hi=>?_
 rcases hi with ⟨rfl,rfl⟩ | ⟨rfl,rfl⟩
 ·refine zAd 1<|zAa<|zAg<|zBM<|zAj<|zAg<|zAh 1<|zAd 3<|zAa<|zAe<|zAc 4<|zAa<|zAe<|zAc 2<|zAa ?_
  exact ⟨(1,if k>v then k else v),.inr ⟨rfl,rfl⟩,by simp only;omega,by kernel_rfl,by kernel_rfl⟩
 ·refine zAd 1<|zAa<|zAg<|zAW<|zAs 0<|zAd 2<|zAa<|zAm<|E_a [] an (I (if k>n then k else n)) [] ?_ rfl
  rw [Int.max_def]
  by_cases h:k>n
  ·rw [if_pos h,if_pos (by omega)]
  ·rw [if_neg h];split
   ·have:n=k:=by omega
    rw [this]
   ·rfl
theorem f110 (x:Int×Int):FG 110 [prV x] (prV (pr2 x)):=by
 refine zAf Tryz.f110 ?_
 refine zAd 2<|zAa<|zAd 1<|zAc 1<|zAc 1<|zAc 2<|zAc 1<|zAc 1<|zAc 1<|zAc 4<|zAa<|zAm<|E_a [] an (PV.agg [I (if x.snd<x.fst then x.snd else x.fst),I (if x.snd>x.fst then x.snd else x.fst)]) [] rfl rfl
theorem f109 (n:Nw) (x:Int) (hb:1≤n.h∧n.h≤10):FG 109 [nwV n,I x] (.bool (inB x 0 (n.h-1))):=by
 refine zAf Tryz.f109 ?_
 refine zAd 2<|zAa<|zAd 3<|S_a [(1,.v (I (n.h-1)))] (ap ((zCP rfl (by omega)):I (IntKind.i64.wrap (n.h-1))=I (n.h-1)) an)<|S_a [(10,.ret (PV.bool (inB x 0 (n.h-1))) [])] (ap (f107 x (0) (n.h-1)) an)<|zAc 1<|zAa<|zAm<|E_a [] an (PV.bool (inB x 0 (n.h-1))) [] rfl rfl
theorem f106 (n:Nw) (x:Int) (hb:n.n.length≤8):FG 106 [nwV n,I x] (.bool (inB x 0 (n.n.length-1))):=by
 refine zAf Tryz.f106 ?_
 refine zAd 2<|zAa<|zAd 3<|S_a [(0,.n n.n.length)] (ap (lnS ntV n.n) an)<|S_a [(1,.v (I ((↑n.n.length:Int)-1)))] (ap ((zCP rfl (by omega)):I (IntKind.i64.wrap ((↑n.n.length:Int)-1))=I ((↑n.n.length:Int)-1)) an)<|S_a [(10,.ret (PV.bool (inB x 0 ((↑n.n.length:Int)-1))) [])] (ap (f107 x (0) ((↑n.n.length:Int)-1)) an)<|zAc 1<|zAa<|zAm<|E_a [] an (PV.bool (inB x 0 ((↑n.n.length:Int)-1))) [] rfl rfl
end
end Go.Eng
namespace Go.Eng
open Go
abbrev zZs:Sh := .list true [.num .i64,.num .i64]
abbrev zZC:Sh := .list true [.num .i64,.bool]
abbrev zXN:Sh := .list false [.list false [.num .i64]]
theorem zUq (x:PV) (h:zCJ [.num .i64,.num .i64] x.cells) (ha:x.isAgg=true):∃ r:Int×Int,x=prV r∧True:=by
 obtain ⟨p1,q1,hc,⟨w,rfl,_⟩,p2,q2,rfl,⟨s,rfl,_⟩,h3⟩:=h
 simp only [zCJ] at h3;subst h3
 exact ⟨(w,s),by rw [zUw ha,hc],trivial⟩
theorem zWj (x:PV) (h:zCJ [.num .i64,.bool] x.cells) (ha:x.isAgg=true):∃ r:Int×Bool,x=ntV r∧True:=by
 obtain ⟨p1,q1,hc,⟨w,rfl,_⟩,p2,q2,rfl,⟨s,rfl⟩,h3⟩:=h
 simp only [zCJ] at h3;subst h3
 exact ⟨(w,s),by rw [zUw ha,hc],trivial⟩
theorem zUQ (x:PV) (h:zCJ [.list false [.num .i64]] x.cells) (ha:x.isAgg=false):∃ r:List Int,x=zAw r∧True:=by
 obtain ⟨p1,q1,hc,h1,h2⟩:=h
 simp only [zCJ] at h2;subst h2
 obtain ⟨l,rfl,_⟩:=zPp h1
 exact ⟨l,zWT ha hc,trivial⟩
theorem zV3 {p:PV} (h:zOu (true,[.num .i64,zZs,zZC,zXN]) p):∃ n:Nw,p=nwV n:=by
 simp only [zOu,if_true] at h
 obtain ⟨cs,rfl,p1,q1,rfl,⟨c,rfl,_⟩,p2,q2,rfl,h2,p3,q3,rfl,h3,p4,q4,rfl,h4,h5⟩:=h
 simp only [zCJ] at h5;subst h5
 obtain ⟨l,rfl,_⟩:=zOd zUq h2
 obtain ⟨n,rfl,_⟩:=zOd zWj h3
 obtain ⟨s,rfl,_⟩:=zOd zUQ h4
 exact ⟨⟨c,l,n,s⟩,rfl⟩
theorem zTJ {p:PV} (h:zOu (false,[zZs]) p):∃ l:List (Int×Int),p=prs l:=by
 obtain ⟨l,rfl,_⟩:=zV5 zUq h
 exact ⟨l,rfl⟩
theorem zWF {p:PV} (h:zOu (true,[.num .i64,.num .i64]) p):∃ c:Int×Int,p=prV c:=by
 simp only [zOu,if_true] at h
 obtain ⟨cs,rfl,p1,q1,rfl,⟨a,rfl,_⟩,p2,q2,rfl,⟨b,rfl,_⟩,h3⟩:=h
 simp only [zCJ] at h3;subst h3
 exact ⟨(a,b),rfl⟩
end Go.Eng
set_option maxRecDepth 10000
set_option maxHeartbeats 4000000
namespace Go.Eng
open Go Go.Proofs
def has {α:Type} [DecidableEq α] (l:List α) (x:α):Bool:=l.any fun y=>decide (x=y)
theorem zLc {α:Type} [DecidableEq α] {l:List α} {x:α}:has l x=decide (x∈l):=by
 rw [Bool.eq_iff_iff];simp [has]
theorem zMx {x y:Int×Int}:(decide (x.1=y.1)&&decide (x.2=y.2))=decide (x=y):=by
 rw [Bool.eq_iff_iff];simp [Prod.ext_iff]
theorem zUY {α:Type} {l:List α} {z x:α} {i:Nat} (h:i<l.length):(l.take i++List.replicate (l.length-i) z).set i x=l.take i++[x]++List.replicate (l.length-(i+1)) z:=by
 obtain ⟨k,hk⟩:∃ k,l.length-i=k+1:=⟨l.length-i-1,by omega⟩
 rw [hk,show l.length-(i+1)=k by omega,List.replicate_succ,List.set_append_right _ _ (by rw [List.length_take];omega),List.length_take,Nat.min_eq_left (by omega),Nat.sub_self,List.set_cons_zero,List.append_assoc];rfl
section
variable [Yo]
theorem f98 (l m:List (Int)) (hl:l.length<4294967296):FG 98 [.sl (l.map I),.sl (m.map I)] (.bool (decide (l=m))):=by
 refine zAf Tryz.f98 ?_
 refine zAd 1<|zAa<|zAg<|zAd 1<|S_a [(0,.n l.length)] (ap (lnS I l) an)<|zAc 1<|S_a [(0,.n m.length)] (ap (lnS I m) an)<|zAc 1<|zAa<|zDk ((↑l.length:Int)=(↑m.length:Int)) (fun k0=>(zAd 1<|zAa<|zAm<|E_a [] an (PV.bool false) [] ?_ rfl)) (fun k0=>(zAj<|zAg<|zAd 1<|S_a [(0,.n l.length)] (ap (lnS I l) an)<|zAc 1<|zAa<|zAh 0 ?_))
 ·simp;intro h;subst h;simp at *
 refine zAo (fun i=>i≤l.length∧l.take i=m.take i) (fun i=>[(13,I (i:Nat))]) (fun i=>l.length-i) (0:Nat) (by simp) fun i ⟨hi,ha⟩=>?_
 refine zAd 1<|zAa<|zAg<|zBZ ((↑i:Int)<(↑l.length:Int)) (fun k1=>(zAj<|zAg<|zAh 1<|zAd 2<|zAa<|zAd 2<|S_a [(2,.v (I (l.getD i 0)))] (ap (zBx (0) (by omega):(List.map I l)[i]? = some (I (l.getD i 0))) an)<|zAc 3<|S_a [(2,.v (I (m.getD i 0)))] (ap (zBx (0) (by omega):(List.map I m)[i]? = some (I (m.getD i 0))) an)<|zAc 2<|zAa<|zDk (l.getD i 0=m.getD i 0) (fun k2=>(zAd 1<|zAa<|zAm<|E_a [] an (PV.bool false) [] ?_ rfl)) (fun k2=>(zAj<|zAe<|S_a [(1,.v (I (↑(i+1):Int)))] (ap (wrN i) an)<|zAc 1<|zAa ?_)))) (fun k1=>(zAs 0<|zAd 1<|zAa<|zAm<|E_a [] an (PV.bool true) [] ?_ rfl))
 ·simp;intro h;subst h;omega
 ·refine ⟨i+1,⟨by omega,?_⟩,by omega,by kernel_rfl,by kernel_rfl⟩
  exact zEh (d:=0) (by omega) (by omega) ha (by assumption)
 ·rw [List.take_of_length_le (by omega),List.take_of_length_le (by omega)] at ha
  simp [ha]
theorem f28 (l m:List (Int)) (hl:l.length<4294967296):FG 28 [.sl (l.map I),.sl (m.map I)] (.bool (decide (l=m))):=by
 refine zAf Tryz.f28 ?_
 refine zAd 1<|zAa<|zAd 2<|S_a [(8,.ret (PV.bool (decide (l=m))) [])] (ap (f98 l m (by omega)) an)<|zAc 1<|zAa<|zAm<|E_a [] an (PV.bool (decide (l=m))) [] rfl rfl
theorem f166 (l m:List (Int×Int)) (hl:l.length<4294967296):FG 166 [.sl (l.map prV),.sl (m.map prV)] (.bool (decide (l=m))):=by
 refine zAf Tryz.f166 ?_
 refine zAd 1<|zAa<|zAg<|zAd 1<|S_a [(0,.n l.length)] (ap (lnS prV l) an)<|zAc 1<|S_a [(0,.n m.length)] (ap (lnS prV m) an)<|zAc 1<|zAa<|zDk ((↑l.length:Int)=(↑m.length:Int)) (fun k0=>(zAd 1<|zAa<|zAm<|E_a [] an (PV.bool false) [] ?_ rfl)) (fun k0=>(zAj<|zAg<|zAd 1<|S_a [(0,.n l.length)] (ap (lnS prV l) an)<|zAc 1<|zAa<|zAh 0 ?_))
 ·simp;intro h;subst h;simp at *
 refine zAo (fun i=>i≤l.length∧l.take i=m.take i) (fun i=>[(13,I (i:Nat))]) (fun i=>l.length-i) (0:Nat) (by simp) fun i ⟨hi,ha⟩=>?_
 refine zAd 1<|zAa<|zAg<|zBZ ((↑i:Int)<(↑l.length:Int)) (fun k1=>(zAj<|zAg<|zAh 1<|zAd 2<|zAa<|zAd 2<|S_a [(2,.v (PV.agg [I (l.getD i default).fst,I (l.getD i default).snd]))] (ap (zBx default (by omega):(List.map prV l)[i]? = some (PV.agg [I (l.getD i default).fst,I (l.getD i default).snd])) an)<|zAc 3<|S_a [(2,.v (PV.agg [I (m.getD i default).fst,I (m.getD i default).snd]))] (ap (zBx default (by omega):(List.map prV m)[i]? = some (PV.agg [I (m.getD i default).fst,I (m.getD i default).snd])) an)<|zAc 1<|S_a [(0,.v (PV.bool !(decide ((l.getD i default).fst=(m.getD i default).fst)&&decide ((l.getD i default).snd=(m.getD i default).snd))))] (ap (zVz:zHx Tryz.prog BinOp.neq 87 (PV.agg [I (l.getD i default).fst,I (l.getD i default).snd]) (PV.agg [I (m.getD i default).fst,I (m.getD i default).snd])=some (PV.bool !(decide ((l.getD i default).fst=(m.getD i default).fst)&&decide ((l.getD i default).snd=(m.getD i default).snd)))) an)<|zAa<|zDf (!(decide ((l.getD i default).fst=(m.getD i default).fst)&&decide ((l.getD i default).snd=(m.getD i default).snd))) (fun k2=>(zAd 1<|zAa<|zAm<|E_a [] an (PV.bool false) [] ?_ rfl)) (fun k2=>(zAj<|zAe<|S_a [(1,.v (I (↑(i+1):Int)))] (ap (wrN i) an)<|zAc 1<|zAa ?_)))) (fun k1=>(zAs 0<|zAd 1<|zAa<|zAm<|E_a [] an (PV.bool true) [] ?_ rfl))
 ·simp;intro h;subst h;simp at *
 ·refine ⟨i+1,⟨by omega,?_⟩,by omega,by kernel_rfl,by kernel_rfl⟩
  exact zEh (d:=default) (by omega) (by omega) ha (by first | assumption | (simp only [Bool.not_eq_true,Bool.not_eq_false',Bool.and_eq_true,decide_eq_true_eq] at k2;exact Prod.ext k2.1 k2.2))
 ·rw [List.take_of_length_le (by omega),List.take_of_length_le (by omega)] at ha
  simp [ha]
theorem f103 (l m:List (Int×Int)) (hl:l.length<4294967296):FG 103 [.sl (l.map prV),.sl (m.map prV)] (.bool (decide (l=m))):=by
 refine zAf Tryz.f103 ?_
 refine zAd 1<|zAa<|zAd 2<|S_a [(8,.ret (PV.bool (decide (l=m))) [])] (ap (f166 l m (by omega)) an)<|zAc 1<|zAa<|zAm<|E_a [] an (PV.bool (decide (l=m))) [] rfl rfl
theorem f167 (l m:List (Int×Bool)) (hl:l.length<4294967296):FG 167 [.sl (l.map ntV),.sl (m.map ntV)] (.bool (decide (l=m))):=by
 refine zAf Tryz.f167 ?_
 refine zAd 1<|zAa<|zAg<|zAd 1<|S_a [(0,.n l.length)] (ap (lnS ntV l) an)<|zAc 1<|S_a [(0,.n m.length)] (ap (lnS ntV m) an)<|zAc 1<|zAa<|zDk ((↑l.length:Int)=(↑m.length:Int)) (fun k0=>(zAd 1<|zAa<|zAm<|E_a [] an (PV.bool false) [] ?_ rfl)) (fun k0=>(zAj<|zAg<|zAd 1<|S_a [(0,.n l.length)] (ap (lnS ntV l) an)<|zAc 1<|zAa<|zAh 0 ?_))
 ·simp;intro h;subst h;simp at *
 refine zAo (fun i=>i≤l.length∧l.take i=m.take i) (fun i=>[(13,I (i:Nat))]) (fun i=>l.length-i) (0:Nat) (by simp) fun i ⟨hi,ha⟩=>?_
 refine zAd 1<|zAa<|zAg<|zBZ ((↑i:Int)<(↑l.length:Int)) (fun k1=>(zAj<|zAg<|zAh 1<|zAd 2<|zAa<|zAd 2<|S_a [(2,.v (PV.agg [I (l.getD i default).fst,PV.bool (l.getD i default).snd]))] (ap (zBx default (by omega):(List.map ntV l)[i]? = some (PV.agg [I (l.getD i default).fst,PV.bool (l.getD i default).snd])) an)<|zAc 3<|S_a [(2,.v (PV.agg [I (m.getD i default).fst,PV.bool (m.getD i default).snd]))] (ap (zBx default (by omega):(List.map ntV m)[i]? = some (PV.agg [I (m.getD i default).fst,PV.bool (m.getD i default).snd])) an)<|zAc 1<|S_a [(0,.v (PV.bool !(decide ((l.getD i default).fst=(m.getD i default).fst)&&decide ((l.getD i default).snd=(m.getD i default).snd))))] (ap (zT5:zHx Tryz.prog BinOp.neq 99 (PV.agg [I (l.getD i default).fst,PV.bool (l.getD i default).snd]) (PV.agg [I (m.getD i default).fst,PV.bool (m.getD i default).snd])=some (PV.bool !(decide ((l.getD i default).fst=(m.getD i default).fst)&&decide ((l.getD i default).snd=(m.getD i default).snd)))) an)<|zAa<|zDf (!(decide ((l.getD i default).fst=(m.getD i default).fst)&&decide ((l.getD i default).snd=(m.getD i default).snd))) (fun k2=>(zAd 1<|zAa<|zAm<|E_a [] an (PV.bool false) [] ?_ rfl)) (fun k2=>(zAj<|zAe<|S_a [(1,.v (I (↑(i+1):Int)))] (ap (wrN i) an)<|zAc 1<|zAa ?_)))) (fun k1=>(zAs 0<|zAd 1<|zAa<|zAm<|E_a [] an (PV.bool true) [] ?_ rfl))
 ·simp;intro h;subst h;simp at *
 ·refine ⟨i+1,⟨by omega,?_⟩,by omega,by kernel_rfl,by kernel_rfl⟩
  exact zEh (d:=default) (by omega) (by omega) ha (by first | assumption | (simp only [Bool.not_eq_true,Bool.not_eq_false',Bool.and_eq_true,decide_eq_true_eq] at k2;exact Prod.ext k2.1 k2.2))
 ·rw [List.take_of_length_le (by omega),List.take_of_length_le (by omega)] at ha
  simp [ha]
theorem f104 (l m:List (Int×Bool)) (hl:l.length<4294967296):FG 104 [.sl (l.map ntV),.sl (m.map ntV)] (.bool (decide (l=m))):=by
 refine zAf Tryz.f104 ?_
 refine zAd 1<|zAa<|zAd 2<|S_a [(8,.ret (PV.bool (decide (l=m))) [])] (ap (f167 l m (by omega)) an)<|zAc 1<|zAa<|zAm<|E_a [] an (PV.bool (decide (l=m))) [] rfl rfl
theorem f158 (l m:List (Int×Int)) (hl:l.length<4294967296):FG 158 [.sl (l.map prV),.sl (m.map prV)] (.bool (decide (l=m))):=by
 refine zAf Tryz.f158 ?_
 refine zAd 1<|zAa<|zAg<|zAd 1<|S_a [(0,.n l.length)] (ap (lnS prV l) an)<|zAc 1<|S_a [(0,.n m.length)] (ap (lnS prV m) an)<|zAc 1<|zAa<|zDk ((↑l.length:Int)=(↑m.length:Int)) (fun k0=>(zAd 1<|zAa<|zAm<|E_a [] an (PV.bool false) [] ?_ rfl)) (fun k0=>(zAj<|zAg<|zAd 1<|S_a [(0,.n l.length)] (ap (lnS prV l) an)<|zAc 1<|zAa<|zAh 0 ?_))
 ·simp;intro h;subst h;simp at *
 refine zAo (fun i=>i≤l.length∧l.take i=m.take i) (fun i=>[(13,I (i:Nat))]) (fun i=>l.length-i) (0:Nat) (by simp) fun i ⟨hi,ha⟩=>?_
 refine zAd 1<|zAa<|zAg<|zBZ ((↑i:Int)<(↑l.length:Int)) (fun k1=>(zAj<|zAg<|zAh 1<|zAd 2<|zAa<|zAd 2<|S_a [(2,.v (PV.agg [I (l.getD i default).fst,I (l.getD i default).snd]))] (ap (zBx default (by omega):(List.map prV l)[i]? = some (PV.agg [I (l.getD i default).fst,I (l.getD i default).snd])) an)<|zAc 3<|S_a [(2,.v (PV.agg [I (m.getD i default).fst,I (m.getD i default).snd]))] (ap (zBx default (by omega):(List.map prV m)[i]? = some (PV.agg [I (m.getD i default).fst,I (m.getD i default).snd])) an)<|zAc 1<|S_a [(0,.v (PV.bool !(decide ((l.getD i default).fst=(m.getD i default).fst)&&decide ((l.getD i default).snd=(m.getD i default).snd))))] (ap (zNQ:zHx Tryz.prog BinOp.neq 108 (PV.agg [I (l.getD i default).fst,I (l.getD i default).snd]) (PV.agg [I (m.getD i default).fst,I (m.getD i default).snd])=some (PV.bool !(decide ((l.getD i default).fst=(m.getD i default).fst)&&decide ((l.getD i default).snd=(m.getD i default).snd)))) an)<|zAa<|zDf (!(decide ((l.getD i default).fst=(m.getD i default).fst)&&decide ((l.getD i default).snd=(m.getD i default).snd))) (fun k2=>(zAd 1<|zAa<|zAm<|E_a [] an (PV.bool false) [] ?_ rfl)) (fun k2=>(zAj<|zAe<|S_a [(1,.v (I (↑(i+1):Int)))] (ap (wrN i) an)<|zAc 1<|zAa ?_)))) (fun k1=>(zAs 0<|zAd 1<|zAa<|zAm<|E_a [] an (PV.bool true) [] ?_ rfl))
 ·simp;intro h;subst h;simp at *
 ·refine ⟨i+1,⟨by omega,?_⟩,by omega,by kernel_rfl,by kernel_rfl⟩
  exact zEh (d:=default) (by omega) (by omega) ha (by first | assumption | (simp only [Bool.not_eq_true,Bool.not_eq_false',Bool.and_eq_true,decide_eq_true_eq] at k2;exact Prod.ext k2.1 k2.2))
 ·rw [List.take_of_length_le (by omega),List.take_of_length_le (by omega)] at ha
  simp [ha]
theorem f78 (l m:List (Int×Int)) (hl:l.length<4294967296):FG 78 [.sl (l.map prV),.sl (m.map prV)] (.bool (decide (l=m))):=by
 refine zAf Tryz.f78 ?_
 refine zAd 1<|zAa<|zAd 2<|S_a [(8,.ret (PV.bool (decide (l=m))) [])] (ap (f158 l m (by omega)) an)<|zAc 1<|zAa<|zAm<|E_a [] an (PV.bool (decide (l=m))) [] rfl rfl
theorem f105 (l m:List (Int×Int)) (hl:l.length<4294967296):FG 105 [.sl (l.map prV),.sl (m.map prV)] (.bool (decide (l=m))):=by
 refine zAf Tryz.f105 ?_
 refine zAd 1<|zAa<|zAg<|zAd 1<|S_a [(0,.n l.length)] (ap (lnS prV l) an)<|zAc 1<|S_a [(0,.n m.length)] (ap (lnS prV m) an)<|zAc 1<|zAa<|zDk ((↑l.length:Int)=(↑m.length:Int)) (fun k0=>(zAd 1<|zAa<|zAm<|E_a [] an (PV.bool false) [] ?_ rfl)) (fun k0=>(zAj<|zAg<|zAd 1<|S_a [(0,.n l.length)] (ap (lnS prV l) an)<|zAc 1<|zAa<|zAh 0 ?_))
 ·simp;intro h;subst h;simp at *
 refine zAo (fun i=>i≤l.length∧l.take i=m.take i) (fun i=>[(13,I (i:Nat))]) (fun i=>l.length-i) (0:Nat) (by simp) fun i ⟨hi,ha⟩=>?_
 refine zAd 1<|zAa<|zAg<|zBZ ((↑i:Int)<(↑l.length:Int)) (fun k1=>(zAj<|zAg<|zAh 1<|zAd 2<|zAa<|zAd 2<|S_a [(2,.v (PV.agg [I (l.getD i default).fst,I (l.getD i default).snd]))] (ap (zBx default (by omega):(List.map prV l)[i]? = some (PV.agg [I (l.getD i default).fst,I (l.getD i default).snd])) an)<|zAc 3<|S_a [(2,.v (PV.agg [I (m.getD i default).fst,I (m.getD i default).snd]))] (ap (zBx default (by omega):(List.map prV m)[i]? = some (PV.agg [I (m.getD i default).fst,I (m.getD i default).snd])) an)<|zAc 1<|S_a [(0,.v (PV.bool !(decide ((l.getD i default).fst=(m.getD i default).fst)&&decide ((l.getD i default).snd=(m.getD i default).snd))))] (ap (zNQ:zHx Tryz.prog BinOp.neq 37 (PV.agg [I (l.getD i default).fst,I (l.getD i default).snd]) (PV.agg [I (m.getD i default).fst,I (m.getD i default).snd])=some (PV.bool !(decide ((l.getD i default).fst=(m.getD i default).fst)&&decide ((l.getD i default).snd=(m.getD i default).snd)))) an)<|zAa<|zDf (!(decide ((l.getD i default).fst=(m.getD i default).fst)&&decide ((l.getD i default).snd=(m.getD i default).snd))) (fun k2=>(zAd 1<|zAa<|zAm<|E_a [] an (PV.bool false) [] ?_ rfl)) (fun k2=>(zAj<|zAe<|S_a [(1,.v (I (↑(i+1):Int)))] (ap (wrN i) an)<|zAc 1<|zAa ?_)))) (fun k1=>(zAs 0<|zAd 1<|zAa<|zAm<|E_a [] an (PV.bool true) [] ?_ rfl))
 ·simp;intro h;subst h;simp at *
 ·refine ⟨i+1,⟨by omega,?_⟩,by omega,by kernel_rfl,by kernel_rfl⟩
  exact zEh (d:=default) (by omega) (by omega) ha (by first | assumption | (simp only [Bool.not_eq_true,Bool.not_eq_false',Bool.and_eq_true,decide_eq_true_eq] at k2;exact Prod.ext k2.1 k2.2))
 ·rw [List.take_of_length_le (by omega),List.take_of_length_le (by omega)] at ha
  simp [ha]
theorem f34 (l m:List (Int×Int)) (hl:l.length<4294967296):FG 34 [.sl (l.map prV),.sl (m.map prV)] (.bool (decide (l=m))):=by
 refine zAf Tryz.f34 ?_
 refine zAd 1<|zAa<|zAd 2<|S_a [(8,.ret (PV.bool (decide (l=m))) [])] (ap (f105 l m (by omega)) an)<|zAc 1<|zAa<|zAm<|E_a [] an (PV.bool (decide (l=m))) [] rfl rfl
theorem f96 (l m:List (Int×Int)) (hl:l.length<4294967296):FG 96 [.sl (l.map prV),.sl (m.map prV)] (.bool (decide (l=m))):=by
 refine zAf Tryz.f96 ?_
 refine zAd 1<|zAa<|zAg<|zAd 1<|S_a [(0,.n l.length)] (ap (lnS prV l) an)<|zAc 1<|S_a [(0,.n m.length)] (ap (lnS prV m) an)<|zAc 1<|zAa<|zDk ((↑l.length:Int)=(↑m.length:Int)) (fun k0=>(zAd 1<|zAa<|zAm<|E_a [] an (PV.bool false) [] ?_ rfl)) (fun k0=>(zAj<|zAg<|zAd 1<|S_a [(0,.n l.length)] (ap (lnS prV l) an)<|zAc 1<|zAa<|zAh 0 ?_))
 ·simp;intro h;subst h;simp at *
 refine zAo (fun i=>i≤l.length∧l.take i=m.take i) (fun i=>[(13,I (i:Nat))]) (fun i=>l.length-i) (0:Nat) (by simp) fun i ⟨hi,ha⟩=>?_
 refine zAd 1<|zAa<|zAg<|zBZ ((↑i:Int)<(↑l.length:Int)) (fun k1=>(zAj<|zAg<|zAh 1<|zAd 2<|zAa<|zAd 2<|S_a [(2,.v (PV.agg [I (l.getD i default).fst,I (l.getD i default).snd]))] (ap (zBx default (by omega):(List.map prV l)[i]? = some (PV.agg [I (l.getD i default).fst,I (l.getD i default).snd])) an)<|zAc 3<|S_a [(2,.v (PV.agg [I (m.getD i default).fst,I (m.getD i default).snd]))] (ap (zBx default (by omega):(List.map prV m)[i]? = some (PV.agg [I (m.getD i default).fst,I (m.getD i default).snd])) an)<|zAc 1<|S_a [(0,.v (PV.bool !(decide ((l.getD i default).fst=(m.getD i default).fst)&&decide ((l.getD i default).snd=(m.getD i default).snd))))] (ap (zNQ:zHx Tryz.prog BinOp.neq 49 (PV.agg [I (l.getD i default).fst,I (l.getD i default).snd]) (PV.agg [I (m.getD i default).fst,I (m.getD i default).snd])=some (PV.bool !(decide ((l.getD i default).fst=(m.getD i default).fst)&&decide ((l.getD i default).snd=(m.getD i default).snd)))) an)<|zAa<|zDf (!(decide ((l.getD i default).fst=(m.getD i default).fst)&&decide ((l.getD i default).snd=(m.getD i default).snd))) (fun k2=>(zAd 1<|zAa<|zAm<|E_a [] an (PV.bool false) [] ?_ rfl)) (fun k2=>(zAj<|zAe<|S_a [(1,.v (I (↑(i+1):Int)))] (ap (wrN i) an)<|zAc 1<|zAa ?_)))) (fun k1=>(zAs 0<|zAd 1<|zAa<|zAm<|E_a [] an (PV.bool true) [] ?_ rfl))
 ·simp;intro h;subst h;simp at *
 ·refine ⟨i+1,⟨by omega,?_⟩,by omega,by kernel_rfl,by kernel_rfl⟩
  exact zEh (d:=default) (by omega) (by omega) ha (by first | assumption | (simp only [Bool.not_eq_true,Bool.not_eq_false',Bool.and_eq_true,decide_eq_true_eq] at k2;exact Prod.ext k2.1 k2.2))
 ·rw [List.take_of_length_le (by omega),List.take_of_length_le (by omega)] at ha
  simp [ha]
theorem f24 (l m:List (Int×Int)) (hl:l.length<4294967296):FG 24 [.sl (l.map prV),.sl (m.map prV)] (.bool (decide (l=m))):=by
 refine zAf Tryz.f24 ?_
 refine zAd 1<|zAa<|zAd 2<|S_a [(8,.ret (PV.bool (decide (l=m))) [])] (ap (f96 l m (by omega)) an)<|zAc 1<|zAa<|zAm<|E_a [] an (PV.bool (decide (l=m))) [] rfl rfl
theorem f87 (l:List (Int×Int)) (hl:l.length<1000000):FG 87 [.sl (l.map prV)] (.own 2 (l.map prV)):=by
 refine zAf Tryz.f87 ?_
 refine zAd 1<|zAa<|zAd 1<|S_a [(0,.n l.length)] (ap (lnS prV l) an)<|S_a [(4,.ob),(0,.ob),(1,.v (PV.own 2 (List.map (fun x=>PV.agg [I 0,I 0]) (List.replicate l.length ()))))] (ap ((by exact zAr (by omega)):decide (l.length≤l.length)=true)<|ap ((by exact zAr (by simp [zA1]<;>omega)):decide (l.length≤zA1)=true)<|ap ((by simp):PV.own 2 (List.replicate l.length (PV.agg [I 0,I 0]))=PV.own 2 (List.map (fun x=>PV.agg [I 0,I 0]) (List.replicate l.length ()))) an)<|zAc 1<|zAa<|zAd 2<|zLn (fun q=>q) 3 2 (List.map (fun x=>PV.agg [I 0,I 0]) (List.replicate l.length ())) (List.map prV l) (List.map prV l) (zIu fun _ _=>(by first | exact zFl | exact ⟨rfl,rfl,rfl,rfl,Nat.le_refl _,rfl⟩)) (by simp<;>omega) (zK1 (by simp<;>omega)) zNh.nil (zAa<|zAd 1<|S_a [(2,.yes)] (ap ((by exact zBj (by simp<;>omega)):(Nat.beq 0 0&&(List.map prV l).length.beq (List.map prV l).length)=true) an)<|zAa<|zAm<|E_a [(1,.yes),(1,.v (PV.own 2 (List.map prV l)))] (ap (blz (List.map prV l))<|ap ((zAE zAz):PV.own 2 (List.take (List.map prV l).length (List.drop 0 (List.map prV l)))=PV.own 2 (List.map prV l)) an) (PV.own 2 (List.map prV l)) [] rfl rfl)
theorem f20 (l:List (Int×Int)) (hl:l.length<1000000):FG 20 [.sl (l.map prV)] (.own 2 (l.map prV)):=by
 refine zAf Tryz.f20 ?_
 refine zAd 1<|zAa<|zAd 1<|S_a [(0,.n l.length)] (ap (lnS prV l) an)<|S_a [(4,.ob),(0,.ob),(1,.v (PV.own 2 (List.map (fun x=>PV.agg [I 0,I 0]) (List.replicate l.length ()))))] (ap ((by exact zAr (by omega)):decide (l.length≤l.length)=true)<|ap ((by exact zAr (by simp [zA1]<;>omega)):decide (l.length≤zA1)=true)<|ap ((by simp):PV.own 2 (List.replicate l.length (PV.agg [I 0,I 0]))=PV.own 2 (List.map (fun x=>PV.agg [I 0,I 0]) (List.replicate l.length ()))) an)<|zAc 1<|zAa<|zAd 2<|zLn (fun q=>q) 3 2 (List.map (fun x=>PV.agg [I 0,I 0]) (List.replicate l.length ())) (List.map prV l) (List.map prV l) (zIu fun _ _=>(by first | exact zFl | exact ⟨rfl,rfl,rfl,rfl,Nat.le_refl _,rfl⟩)) (by simp<;>omega) (zK1 (by simp<;>omega)) zNh.nil (zAa<|zAd 1<|S_a [(2,.yes)] (ap ((by exact zBj (by simp<;>omega)):(Nat.beq 0 0&&(List.map prV l).length.beq (List.map prV l).length)=true) an)<|zAa<|zAm<|E_a [(1,.yes),(1,.v (PV.own 2 (List.map prV l)))] (ap (blz (List.map prV l))<|ap ((zAE zAz):PV.own 2 (List.take (List.map prV l).length (List.drop 0 (List.map prV l)))=PV.own 2 (List.map prV l)) an) (PV.own 2 (List.map prV l)) [] rfl rfl)
theorem f88 (l:List (Int×Bool)) (hl:l.length<1000000):FG 88 [.sl (l.map ntV)] (.own 2 (l.map ntV)):=by
 refine zAf Tryz.f88 ?_
 refine zAd 1<|zAa<|zAd 1<|S_a [(0,.n l.length)] (ap (lnS ntV l) an)<|S_a [(4,.ob),(0,.ob),(1,.v (PV.own 2 (List.map (fun x=>PV.agg [I 0,PV.bool false]) (List.replicate l.length ()))))] (ap ((by exact zAr (by omega)):decide (l.length≤l.length)=true)<|ap ((by exact zAr (by simp [zA1]<;>omega)):decide (l.length≤zA1)=true)<|ap ((by simp):PV.own 2 (List.replicate l.length (PV.agg [I 0,PV.bool false]))=PV.own 2 (List.map (fun x=>PV.agg [I 0,PV.bool false]) (List.replicate l.length ()))) an)<|zAc 1<|zAa<|zAd 2<|zLn (fun q=>q) 3 2 (List.map (fun x=>PV.agg [I 0,PV.bool false]) (List.replicate l.length ())) (List.map ntV l) (List.map ntV l) (zIu fun _ _=>(by first | exact zFl | exact ⟨rfl,rfl,rfl,rfl,Nat.le_refl _,rfl⟩)) (by simp<;>omega) (zK1 (by simp<;>omega)) zNh.nil (zAa<|zAd 1<|S_a [(2,.yes)] (ap ((by exact zBj (by simp<;>omega)):(Nat.beq 0 0&&(List.map ntV l).length.beq (List.map ntV l).length)=true) an)<|zAa<|zAm<|E_a [(1,.yes),(1,.v (PV.own 2 (List.map ntV l)))] (ap (blz (List.map ntV l))<|ap ((zAE zAz):PV.own 2 (List.take (List.map ntV l).length (List.drop 0 (List.map ntV l)))=PV.own 2 (List.map ntV l)) an) (PV.own 2 (List.map ntV l)) [] rfl rfl)
theorem f35 (l:List (Int)) (hl:l.length<1000000):FG 35 [.sl (l.map I)] (.own 1 (l.map I)):=by
 refine zAf Tryz.f35 ?_
 refine zAd 1<|zAa<|zAd 1<|S_a [(0,.n l.length)] (ap (lnS I l) an)<|S_a [(4,.ob),(0,.ob),(1,.v (PV.own 1 (List.map I (List.replicate l.length 0))))] (ap ((by exact zAr (by omega)):decide (l.length≤l.length)=true)<|ap ((by exact zAr (by simp [zA1]<;>omega)):decide (l.length≤zA1)=true)<|ap ((by simp):PV.own 1 (List.replicate l.length (I 0))=PV.own 1 (List.map I (List.replicate l.length 0))) an)<|zAc 1<|zAa<|zAd 2<|zLn (fun q=>q) 3 1 (List.map I (List.replicate l.length 0)) (List.map I l) (List.map I l) (zIu fun _ _=>(by first | exact zFl | exact ⟨rfl,rfl,rfl,rfl,Nat.le_refl _,rfl⟩)) (by simp<;>omega) (zK1 (by simp<;>omega)) zNh.nil (zAa<|zAd 1<|S_a [(2,.yes)] (ap ((by exact zBj (by simp<;>omega)):(Nat.beq 0 0&&(List.map I l).length.beq (List.map I l).length)=true) an)<|zAa<|zAm<|E_a [(1,.yes),(1,.v (PV.own 1 (List.map I l)))] (ap (blz (List.map I l))<|ap ((zAE zAz):PV.own 1 (List.take (List.map I l).length (List.drop 0 (List.map I l)))=PV.own 1 (List.map I l)) an) (PV.own 1 (List.map I l)) [] rfl rfl)
theorem f89 (l:List (List Int)) (hl:l.length<1000000) (hr:∀ r∈l,r.length<1000000):FG 89 [.sl (l.map zAw)] (.own 1 (l.map zDX)):=by
 refine zAf Tryz.f89 ?_
 refine zAd 1<|zAa<|zAd 1<|S_a [(0,.n l.length)] (ap (lnS zAw l) an)<|S_a [(4,.ob),(0,.ob),(1,.v (PV.own 1 (List.map (fun l=>PV.own 1 (List.map I l)) (List.replicate l.length []))))] (ap ((by exact zAr (by omega)):decide (l.length≤l.length)=true)<|ap ((by exact zAr (by simp [zA1]<;>omega)):decide (l.length≤zA1)=true)<|ap ((by simp):PV.own 1 (List.replicate l.length (PV.own 1 []))=PV.own 1 (List.map (fun l=>PV.own 1 (List.map I l)) (List.replicate l.length []))) an)<|zAc 1<|zAa<|zAg<|zAd 1<|S_a [(0,.n l.length)] (ap (lnS zAw l) an)<|zAc 1<|zAa<|zAh 0 ?_
 refine zAo (fun (i,q)=>i≤l.length∧q=l.take i++List.replicate (l.length-i) []) (fun (i,q)=>[(3,.own 1 (q.map zDX)),(11,I (i:Nat))]) (fun (i,_)=>l.length-i) ((0:Nat),List.replicate l.length []) ⟨Nat.zero_le _,by simp⟩ fun (i,q) ⟨hi,hq⟩=>?_
 have km:q.length=l.length:=by rw [hq];simp;omega
 by_cases yB:i<l.length
 ·have gY:=zBz (d:=[]) hr i yB
  refine zAd 1<|zAa<|zAg<|zAJ ((↑i:Int)<(↑l.length:Int)) (by omega)<|zAj<|zAg<|zAh 1<|zAd 1<|S_a [(2,.v (zAw (l.getD i [])))] (ap (zBx [] (by omega):(List.map zAw l)[i]? = some (zAw (l.getD i []))) an)<|zAc 3<|zAa<|zAe<|zAc 3<|S_a [(6,.ret (PV.own 1 (List.map I (l.getD i []))) [])] (ap (f35 (l.getD i []) (by omega)) an)<|S_a [(2,.ob),(1,.n i)] (ap ((by exact zAr (by simp only [List.length_map,zzLn]<;>omega)):decide (i<(List.map zDX q).length)=true)<|ap ((by simp):some (0+i)=some i) an)<|S_a [(8,.root (PV.own 1 (List.map zDX (q.set i (l.getD i [])))) true)] (ap (zN2 (zBx [] (by omega)) zFg:zBC (PV.own 1 (List.map zDX q)) [] i 0 (PV.own 1 (List.map I (l.getD i []))).cells=some (PV.own 1 (List.map zDX (q.set i (l.getD i []))))∧zAM (PV.own 1 (List.map zDX q)) (PV.own 1 (List.map zDX (q.set i (l.getD i [])))) []=true) an)<|zAa<|zAe<|S_a [(1,.v (I (↑(i+1):Int)))] (ap (wrN i) an)<|zAc 1<|zAa ?_
  refine ⟨(i+1,q.set i (l.getD i [])),⟨by omega,?_⟩,by simp only;omega,by kernel_rfl,by kernel_rfl⟩
  rw [hq,zBP (d:=[]) yB,zUY yB]
 ·refine zAd 1<|zAa<|zAg<|zAK ((↑i:Int)<(↑l.length:Int)) (by omega)<|zAs 0<|zAd 1<|S_a [(2,.yes)] (ap ((by exact zBj (by simp<;>omega)):(Nat.beq 0 0&&(List.map zDX q).length.beq (List.map zDX q).length)=true) an)<|zAa<|zAm<|E_a [(1,.yes),(1,.v (PV.own 1 (List.map zDX q)))] (ap (blz (List.map zDX q))<|ap ((zAE zAz):PV.own 1 (List.take (List.map zDX q).length (List.drop 0 (List.map zDX q)))=PV.own 1 (List.map zDX q)) an) (PV.own 1 (List.map zDX q)) [] ?_ rfl
  rw [hq,show l.length-i=0 by omega,List.take_of_length_le (by omega)];simp
theorem f136 (l:List (Int)) (x:Int) (hl:l.length<4294967296):FG 136 [.sl (l.map I),I x] (I (zEo (fun y=>decide (x=y)) l)):=by
 refine zAf Tryz.f136 ?_
 refine zAd 1<|zAa<|zAg<|zAd 1<|S_a [(0,.n l.length)] (ap (lnS I l) an)<|zAc 1<|zAa<|zAh 0 ?_
 refine zAo (fun i=>i≤l.length∧∀ j,j<i→decide (x=l.getD j 0)=false) (fun i=>[(8,I (i:Nat))]) (fun i=>l.length-i) (0:Nat) (by simp) fun i ⟨hi,ha⟩=>?_
 refine zAd 1<|zAa<|zAg<|zBZ ((↑i:Int)<(↑l.length:Int)) (fun k0=>(zAj<|zAg<|zAh 1<|zAd 2<|zAa<|zAd 3<|S_a [(2,.v (I (l.getD i 0)))] (ap (zBx (0) (by omega):(List.map I l)[i]? = some (I (l.getD i 0))) an)<|zAc 2<|zAa<|zBZ (x=l.getD i 0) (fun k1=>(zAd 2<|zAa<|zAm<|E_a [] an (I (↑i:Int)) [] ?_ rfl)) (fun k1=>(zAj<|zAe<|S_a [(1,.v (I (↑(i+1):Int)))] (ap (wrN i) an)<|zAc 1<|zAa ?_)))) (fun k0=>(zAs 0<|zAd 1<|zAa<|zAm<|E_a [] an (I (-1)) [] ?_ rfl))
 ·rw [zBO (i:=i) (by omega) (fun j hj=>by rw [← zAq (d:=0)];exact ha j hj) (by rw [← zAq (d:=0)];simp only [decide_eq_true_eq,decide_eq_false_iff_not] at *;omega)]
 ·refine ⟨i+1,⟨by omega,fun j hj=>?_⟩,by omega,by kernel_rfl,by kernel_rfl⟩
  rcases Nat.lt_succ_iff_lt_or_eq.1 hj with h | rfl
  ·exact ha j h
  ·simp only [decide_eq_true_eq,decide_eq_false_iff_not] at *;omega
 ·rw [zB1 fun j hj=>by rw [← zAq (d:=0)];exact ha j (by omega)]
theorem f58 (l:List (Int)) (x:Int) (hl:l.length<4294967296):FG 58 [.sl (l.map I),I x] (.bool (has l x)):=by
 refine zAf Tryz.f58 ?_
 refine zAd 1<|zAa<|zAd 2<|S_a [(8,.ret (I (zEo (fun y=>decide (x=y)) l)) [])] (ap (f136 l x (by omega)) an)<|zAc 2<|zAa<|zAm<|E_a [] an (PV.bool (decide (zEo (fun y=>decide (x=y)) l≥0))) [] ?_ rfl
 rw [zD2];rfl
theorem f161 (l:List (Int×Int)) (x:Int×Int) (hl:l.length<4294967296):FG 161 [.sl (l.map prV),prV x] (I (zEo (fun y=>decide (x=y)) l)):=by
 refine zAf Tryz.f161 ?_
 refine zAd 2<|zAa<|zAg<|zAd 1<|S_a [(0,.n l.length)] (ap (lnS prV l) an)<|zAc 1<|zAa<|zAh 0 ?_
 refine zAo (fun i=>i≤l.length∧∀ j,j<i→decide (x=l.getD j default)=false) (fun i=>[(8,I (i:Nat))]) (fun i=>l.length-i) (0:Nat) (by simp) fun i ⟨hi,ha⟩=>?_
 refine zAd 1<|zAa<|zAg<|zBZ ((↑i:Int)<(↑l.length:Int)) (fun k0=>(zAj<|zAg<|zAh 1<|zAd 2<|zAa<|zAd 3<|S_a [(2,.v (PV.agg [I (l.getD i default).fst,I (l.getD i default).snd]))] (ap (zBx default (by omega):(List.map prV l)[i]? = some (PV.agg [I (l.getD i default).fst,I (l.getD i default).snd])) an)<|zAc 1<|S_a [(0,.v (PV.bool (decide (x.fst=(l.getD i default).fst)&&decide (x.snd=(l.getD i default).snd))))] (ap (zSd:zHx Tryz.prog BinOp.eql 108 (PV.agg [I x.fst,I x.snd]) (PV.agg [I (l.getD i default).fst,I (l.getD i default).snd])=some (PV.bool (decide (x.fst=(l.getD i default).fst)&&decide (x.snd=(l.getD i default).snd)))) an)<|zAa<|zDf (decide (x.fst=(l.getD i default).fst)&&decide (x.snd=(l.getD i default).snd)) (fun k1=>(zAd 2<|zAa<|zAm<|E_a [] an (I (↑i:Int)) [] ?_ rfl)) (fun k1=>(zAj<|zAe<|S_a [(1,.v (I (↑(i+1):Int)))] (ap (wrN i) an)<|zAc 1<|zAa ?_)))) (fun k0=>(zAs 0<|zAd 1<|zAa<|zAm<|E_a [] an (I (-1)) [] ?_ rfl))
 ·rw [zBO (i:=i) (by omega) (fun j hj=>by rw [← zAq (d:=default)];exact ha j hj) (by rw [← zAq (d:=default)];rw [← zMx];assumption)]
 ·refine ⟨i+1,⟨by omega,fun j hj=>?_⟩,by omega,by kernel_rfl,by kernel_rfl⟩
  rcases Nat.lt_succ_iff_lt_or_eq.1 hj with h | rfl
  ·exact ha j h
  ·rw [← zMx];assumption
 ·rw [zB1 fun j hj=>by rw [← zAq (d:=default)];exact ha j (by omega)]
theorem f81 (l:List (Int×Int)) (x:Int×Int) (hl:l.length<4294967296):FG 81 [.sl (l.map prV),prV x] (.bool (has l x)):=by
 refine zAf Tryz.f81 ?_
 refine zAd 2<|zAa<|zAd 2<|S_a [(8,.ret (I (zEo (fun y=>decide (x=y)) l)) [])] (ap (f161 l x (by omega)) an)<|zAc 2<|zAa<|zAm<|E_a [] an (PV.bool (decide (zEo (fun y=>decide (x=y)) l≥0))) [] ?_ rfl
 rw [zD2];rfl
theorem f65 (l:List (Int)) (hl:l.length<4294967296):FG 65 [.sl (l.map I)] (.own 1 (l.map I)):=zGN (fn:=Tryz.f65) I l (by omega)
theorem f123 (l:List (Int×Int)) (hl:l.length<4294967296):FG 123 [.sl (l.map prV)] (.own 2 (l.map prV)):=zGN (fn:=Tryz.f123) prV l (by omega)
theorem f61 (l:List (Int×Int)) (hl:l.length<4294967296):FG 61 [.sl (l.map prV)] (.own 2 (l.map prV)):=zGN (fn:=Tryz.f61) prV l (by omega)
theorem f210 (x:Int):FG 210 [I x] (.bool false):=by
 refine zAf Tryz.f210 ?_
 refine zAd 1<|zAa<|zAd 4<|zAa<|zAm<|E_a [] an (PV.bool (x != x)) [] (by simp [*]) rfl
theorem f182 (x y:Int):FG 182 [I x,I y] (.bool (decide (x<y))):=by
 refine zAf Tryz.f182 ?_
 refine zAd 1<|zAa<|zAd 1<|S_a [(6,.ret (PV.bool false) [])] (ap (f210 x) an)<|zAc 11<|zAa<|zAm<|E_a [] an (PV.bool (decide (x<y))) [] rfl rfl
end
end Go.Eng
set_option maxRecDepth 10000
set_option maxHeartbeats 4000000
namespace Go.Eng
open Go Go.Proofs
def zVL (o:List Int) (x:Int):List Int:=if o.getLast? = some x then o else o++[x]
def zGT (l:List Int):List Int:=l.foldl zVL []
theorem zQs (o:List Int) (x:Int):(zVL o x).getLast? = some x:=by
 unfold zVL;split
 ·assumption
 ·simp
theorem zG2 {l:List Int} {i:Nat} (h:i<l.length):zGT (l.take (i+1))=zVL (zGT (l.take i)) (l.getD i 0):=zEW h
theorem zRV {l:List Int} {i:Nat} (h:i<l.length):(zGT (l.take (i+1))).getLast? = some (l.getD i 0):=by
 rw [zG2 h];exact zQs _ _
theorem zHs {l:List Int} {i:Nat} (h0:0<i) (h:i<l.length):zGT (l.take (i+1))=if l.getD i 0=l.getD (i-1) 0 then zGT (l.take i) else zGT (l.take i)++[l.getD i 0]:=by
 obtain ⟨j,rfl⟩:∃ j,i=j+1:=⟨i-1,by omega⟩
 rw [zG2 h,zVL,zRV (by omega)]
 simp only [Nat.add_sub_cancel,Option.some.injEq,eq_comm]
theorem zKZ {S:List Int} {p:Nat} {x:Int} (h:p<S.length):(S.set p x).take (p+1)=S.take p++[x]:=by
 rw [zBP (d:=0) (by simpa using h),List.take_set_of_le (Nat.le_refl p),zCS,if_pos ⟨rfl,h⟩]
theorem zG3 {l:List Int}:∀ k,k≤l.length→(∀ j,1≤j→j<k→l.getD j 0≠l.getD (j-1) 0)→zGT (l.take k)=l.take k
 | 0,_,_=>rfl
 | k+1,hk,h=>by
  have ih:=zG3 k (by omega) fun j h1 h2=>h j h1 (by omega)
  cases k with
  | zero=>rw [zG2 (by omega)];simp [zGT,zVL,zBP (d:=0) (show 0<l.length by omega)]
  | succ k=>rw [zHs (by omega) (by omega),if_neg (h (k+1) (by omega) (by omega)),ih,← zBP (by omega)]
def zSJ (l:List Int):Bool:=(List.range (l.length-1)).all fun j=>decide (l.getD j 0<l.getD (j+1) 0)
def zFK (l:List Int):Bool:=(List.range (l.length-1)).all fun j=>decide (l.getD j 0≤l.getD (j+1) 0)
section
variable [Yo]
theorem f138 (l m:List (List Int)) (hl:l.length<4294967296) (hr:∀ r∈l,r.length<4294967296):FG 138 [.sl (l.map zAw),.sl (m.map zAw),.func 98 [] []] (.bool (decide (l=m))):=by
 refine zAf Tryz.f138 ?_
 refine zAd 1<|zAa<|zAg<|zAd 1<|S_a [(0,.n l.length)] (ap (lnS zAw l) an)<|zAc 1<|S_a [(0,.n m.length)] (ap (lnS zAw m) an)<|zAc 1<|zAa<|zDk ((↑l.length:Int)=(↑m.length:Int)) (fun k0=>(zAd 1<|zAa<|zAm<|E_a [] an (PV.bool false) [] ?_ rfl)) (fun k0=>(zAj<|zAg<|zAd 1<|S_a [(0,.n l.length)] (ap (lnS zAw l) an)<|zAc 1<|zAa<|zAh 0 ?_))
 ·simp;intro h;subst h;simp at *
 refine zAo (fun i=>i≤l.length∧l.take i=m.take i) (fun i=>[(17,I (i:Nat))]) (fun i=>l.length-i) (0:Nat) (by simp) fun i ⟨hi,ha⟩=>?_
 by_cases yB:i<l.length
 ·have gY:=zBz (d:=[]) hr i yB
  refine zAd 1<|zAa<|zAg<|zAJ ((↑i:Int)<(↑l.length:Int)) (by omega)<|zAj<|zAg<|zAh 1<|zAd 1<|S_a [(2,.v (zAw (l.getD i [])))] (ap (zBx [] (by omega):(List.map zAw l)[i]? = some (zAw (l.getD i []))) an)<|zAc 3<|zAa<|zAd 2<|S_a [(2,.v (zAw (m.getD i [])))] (ap (zBx [] (by omega):(List.map zAw m)[i]? = some (zAw (m.getD i []))) an)<|zAc 2<|zAa<|zAd 3<|S_a [(8,.ret (PV.bool (decide (l.getD i []=m.getD i []))) [])] (ap (f98 (l.getD i []) (m.getD i []) (by omega)) an)<|zAc 1<|zAa<|zDk (l.getD i []=m.getD i []) (fun k1=>(zAd 1<|zAa<|zAm<|E_a [] an (PV.bool false) [] ?_ rfl)) (fun k1=>(zAj<|zAe<|S_a [(1,.v (I (↑(i+1):Int)))] (ap (wrN i) an)<|zAc 1<|zAa ?_))
  ·simp;intro h;subst h;simp at *
  ·refine ⟨i+1,⟨by omega,?_⟩,by omega,by kernel_rfl,by kernel_rfl⟩
   exact zEh (d:=[]) (by omega) (by omega) ha (by assumption)
 ·refine zAd 1<|zAa<|zAg<|zAK ((↑i:Int)<(↑l.length:Int)) (by omega)<|zAs 0<|zAd 1<|zAa<|zAm<|E_a [] an (PV.bool true) [] ?_ rfl
  rw [List.take_of_length_le (by omega),List.take_of_length_le (by omega)] at ha
  simp [ha]
theorem f62 (l m:List (List Int)) (hl:l.length<4294967296) (hr:∀ r∈l,r.length<4294967296):FG 62 [.sl (l.map zAw),.sl (m.map zAw)] (.bool (decide (l=m))):=by
 refine zAf Tryz.f62 ?_
 refine zAd 1<|zAa<|zAd 2<|S_a [(9,.ret (PV.bool (decide (l=m))) [])] (ap (f138 l m (by omega) (by omega)) an)<|zAc 1<|zAa<|zAm<|E_a [] an (PV.bool (decide (l=m))) [] rfl rfl
theorem f155 (l:List Int) (hl:l.length<4294967296):FG 155 [zAw l] (.bool (zFK l)):=by
 refine zAf Tryz.f155 ?_
 refine zAd 1<|zAa<|zAg<|zAd 1<|S_a [(0,.n l.length)] (ap (lnS I l) an)<|S_a [(1,.v (I ((↑l.length:Int)-1)))] (ap ((zCP rfl (by omega)):I (IntKind.i64.wrap ((↑l.length:Int)-1))=I ((↑l.length:Int)-1)) an)<|zAc 1<|zAa<|zAh 0 ?_
 refine zAo (fun (x:Int)=>x<l.length∧∀ j:Nat,x<j→j<l.length→0<j→l.getD (j-1) 0≤l.getD j 0) (fun x=>[(3,I x)]) (fun x=>x.toNat) ((l.length:Int)-1) ⟨by omega,fun j h1 h2=>by omega⟩ fun x ⟨hi,ha⟩=>?_
 have e2:(x-1).toNat=x.toNat-1:=by omega
 by_cases h1:0<x
 ·refine zAg<|zAd 2<|zAa<|zAJ (x>0) (by omega)<|zAj<|zAg<|zAh 1<|zAd 2<|S_a [(0,.ob),(1,.v (I (l.getD x.toNat 0)))] (ap ((by exact zAr (by omega)):decide (0≤x)=true)<|ap (zBx (0) (by omega):(List.map I l)[x.toNat]? = some (I (l.getD x.toNat 0))) an)<|zAc 3<|S_a [(1,.v (I (x-1)))] (ap ((zCP rfl (by omega)):I (IntKind.i64.wrap (x-1))=I (x-1)) an)<|S_a [(0,.ob),(1,.v (I (l.getD (x-1).toNat 0)))] (ap ((by exact zAr (by omega)):decide (0≤x-1)=true)<|ap (zBx (0) (by omega):(List.map I l)[(x-1).toNat]? = some (I (l.getD (x-1).toNat 0))) an)<|zAc 1<|S_a [(8,.ret (PV.bool (decide (l.getD x.toNat 0<l.getD (x-1).toNat 0))) [])] (ap (f182 (l.getD x.toNat 0) (l.getD (x-1).toNat 0)) an)<|zAa<|zBZ (l.getD x.toNat 0<l.getD (x-1).toNat 0) (fun k0=>(zAd 1<|zAa<|zAm<|E_a [] an (PV.bool false) [] ?_ rfl)) (fun k0=>(zAj<|zAe<|zAc 1<|S_a [(1,.v (I (x-1)))] (ap ((zCP rfl (by omega)):I (IntKind.i64.wrap (x-1))=I (x-1)) an)<|zAc 1<|zAa ?_))
  ·rw [e2] at k0
   have:zFK l=false:=by
    simp only [zFK,List.all_eq_false]
    exact ⟨x.toNat-1,List.mem_range.2 (by omega),by rw [show x.toNat-1+1=x.toNat by omega];simp only [decide_eq_true_eq];omega⟩
   rw [this]
  ·rw [e2] at k0
   refine ⟨x-1,⟨by omega,fun j h3 h4 h5=>?_⟩,by omega,by kernel_rfl,by kernel_rfl⟩
   by_cases hj:j=x.toNat
   ·subst hj;omega
   ·exact ha j (by omega) h4 h5
 ·refine zAg<|zAd 2<|zAa<|zAK (x>0) (by omega)<|zAs 0<|zAd 1<|zAa<|zAm<|E_a [] an (PV.bool true) [] ?_ rfl
  have:zFK l=true:=by
   simp only [zFK,List.all_eq_true,List.mem_range,decide_eq_true_eq]
   exact fun j hj=>by have:=ha (j+1) (by omega) (by omega) (by omega);simpa using this
  rw [this]
theorem f97 (l:List Int) (hl:l.length<4294967296):FG 97 [.own 1 (l.map I)] (.own 1 ((zGT l).map I)):=by
 refine zAf Tryz.f97 ?_
 refine zAd 1<|zAa<|zAg<|zAd 1<|S_a [(0,.n l.length)] (ap (lnS I l) an)<|zAc 1<|zAa<|zBZ ((↑l.length:Int)<2) (fun k0=>(zAd 1<|S_a [(2,.yes)] (ap ((by exact zBj (by simp<;>omega)):(Nat.beq 0 0&&(List.map I l).length.beq (List.map I l).length)=true) an)<|zAa<|zAm<|E_a [(1,.yes),(1,.v (PV.own 1 (List.map I l)))] (ap (blz (List.map I l))<|ap ((zAE zAz):PV.own 1 (List.take (List.map I l).length (List.drop 0 (List.map I l)))=PV.own 1 (List.map I l)) an) (PV.own 1 (List.map I l)) [] ?_ rfl)) (fun k0=>(zAj<|zAg<|zAd 1<|zAa<|zAh 0 ?_))
 ·have:=zG3 (l:=l) l.length (Nat.le_refl _) fun j h1 h2=>by omega
  rw [List.take_length] at this
  rw [this]
 ·refine zAo (fun k=>1≤k∧k≤l.length∧∀ j,1≤j→j<k→l.getD j 0≠l.getD (j-1) 0) (fun k=>[(3,I (k:Nat))]) (fun k=>l.length-k) (1:Nat) ⟨by omega,by omega,fun j h1 h2=>absurd h1 (by omega)⟩ fun k ⟨jL,hk,ha⟩=>?_
  have jk:=zG3 k hk ha
  refine zAg<|zAd 2<|S_a [(0,.n l.length)] (ap (lnS I l) an)<|zAc 1<|zAa<|zBZ ((↑k:Int)<(↑l.length:Int)) (fun k2=>(zAj<|zAg<|zAh 1<|zAd 2<|S_a [(2,.ob),(1,.n k)] (ap ((by exact zAr (by simp only [List.length_map,zzLn]<;>omega)):decide (k<(List.map I l).length)=true)<|ap ((by simp):some (0+k)=some k) an)<|S_a [(0,.cs false ([I (l.getD k 0)]))] (ap (zDb (q:=PV.own 1 (List.map I l)) (xs:=List.map I l) (x:=I (l.getD k 0)) rfl (zBx (0) (by omega)):zAv 0 (PV.own 1 (List.map I l)) [] k 0 1=some (false,[I (l.getD k 0)])) an)<|zAc 2<|S_a [(1,.v (I (↑(k-1):Int)))] (ap ((zCP (by omega) (by omega)):I (IntKind.i64.wrap ((↑k:Int)-1))=I (↑(k-1):Int)) an)<|S_a [(2,.ob),(1,.n (k-1))] (ap ((by exact zAr (by simp only [List.length_map,zzLn]<;>omega)):decide (k-1<(List.map I l).length)=true)<|ap ((by simp):some (0+(k-1))=some (k-1)) an)<|S_a [(0,.cs false ([I (l.getD (k-1) 0)]))] (ap (zDb (q:=PV.own 1 (List.map I l)) (xs:=List.map I l) (x:=I (l.getD (k-1) 0)) rfl (zBx (0) (by omega)):zAv 0 (PV.own 1 (List.map I l)) [] (k-1) 0 1=some (false,[I (l.getD (k-1) 0)])) an)<|zAc 1<|zAa<|zBZ (l.getD k 0=l.getD (k-1) 0) (fun k3=>(zAd 2<|S_a [(3,.ob),(0,.yes),(0,.yes),(0,.v (PV.bor 0 [] 1 k (l.length-k)))] (ap ((by exact zA9 (by simp only [List.length_map,zzLn,zA1]<;>omega)):k.ble (List.map I l).length=true)<|ap ((by exact zA9 (by simp only [List.length_map,zzLn,zA1]<;>omega)):(List.map I l).length.ble (List.map I l).length=true)<|ap ((by simp<;>omega):(k.beq 0||k.blt (List.map I l).length)=true)<|ap ((by simp):PV.bor 0 [] 1 (0+k) ((List.map I l).length-k)=PV.bor 0 [] 1 k (l.length-k)) an)<|zAc 1<|zAa<|zAg<|zAd 1<|zAa<|zAh 2 ?_)) (fun k3=>(zAj<|zAe<|zAc 1<|S_a [(1,.v (I (↑(k+1):Int)))] (ap (wrN k) an)<|zAc 1<|zAa ?_)))) (fun k2=>(zAs 0<|zAd 1<|S_a [(2,.yes)] (ap ((by exact zBj (by simp<;>omega)):(Nat.beq 0 0&&(List.map I l).length.beq (List.map I l).length)=true) an)<|zAa<|zAm<|E_a [(1,.yes),(1,.v (PV.own 1 (List.map I l)))] (ap (blz (List.map I l))<|ap ((zAE zAz):PV.own 1 (List.take (List.map I l).length (List.drop 0 (List.map I l)))=PV.own 1 (List.map I l)) an) (PV.own 1 (List.map I l)) [] ?_ rfl))
  ·have e0:zGT (l.take (k+1))=l.take k:=by rw [zHs (by omega) (by omega),if_pos k3,jk]
   clear ha jk
   refine zAo (fun (p,q,S)=>1≤q∧k+q≤l.length∧p<k+q∧S.length=l.length∧S.take p=zGT (l.take (k+q))∧∀ j,k+q≤j+1→S.getD j 0=l.getD j 0) (fun (p,q,S)=>[(0,.own 1 (S.map I)),(3,I (p:Nat)),(5,I (q:Nat))]) (fun (p,q,S)=>l.length-(k+q)) (k,(1:Nat),l) ⟨by omega,by omega,by omega,rfl,e0.symm,fun _ _=>rfl⟩ fun (p,q,S) ⟨hq,hkq,hp,hS,hc,hd⟩=>?_
   have uy:(zGT (l.take (k+q))).length=p:=by rw [← hc,List.length_take];omega
   by_cases kK:k+q<l.length
   ·have hx:=hd (k+q) (by omega)
    have hy:=hd (k+q-1) (by omega)
    have yC:=zHs (l:=l) (i:=k+q) (by omega) kK
    have wX:=hd
    clear hd
    refine zAg<|zAd 4<|zAa<|zAJ ((↑q:Int)<(↑(l.length-k):Int)) (by omega)<|zAj<|zAg<|zAh 3<|zAd 2<|S_a [(2,.ob)] (ap ((by exact zAr (by omega)):decide (q<l.length-k)=true) an)<|S_a [(0,.cs false ([I (S.getD (k+q) 0)]))] (ap (zDb (q:=PV.own 1 (List.map I S)) (xs:=List.map I S) (x:=I (S.getD (k+q) 0)) rfl (zBx (0) (by omega)):zAv 0 (PV.own 1 (List.map I S)) [] (k+(↑q:Int).toNat) 0 1=some (false,[I (S.getD (k+q) 0)])) an)<|zAc 2<|S_a [(1,.v (I (↑(q-1):Int)))] (ap ((zCP (by omega) (by omega)):I (IntKind.i64.wrap ((↑q:Int)-1))=I (↑(q-1):Int)) an)<|S_a [(2,.ob)] (ap ((by exact zAr (by omega)):decide (q-1<l.length-k)=true) an)<|S_a [(0,.cs false ([I (S.getD (k+(q-1)) 0)]))] (ap (zDb (q:=PV.own 1 (List.map I S)) (xs:=List.map I S) (x:=I (S.getD (k+(q-1)) 0)) rfl (zBx (0) (by omega)):zAv 0 (PV.own 1 (List.map I S)) [] (k+(↑(q-1):Int).toNat) 0 1=some (false,[I (S.getD (k+(q-1)) 0)])) an)<|zAc 1<|zAa<|zDk (S.getD (k+q) 0=S.getD (k+(q-1)) 0) (fun k4=>(zAd 4<|S_a [(2,.ob)] (ap ((by exact zAr (by omega)):decide (q<l.length-k)=true) an)<|S_a [(0,.cs false ([I (S.getD (k+q) 0)]))] (ap (zDb (q:=PV.own 1 (List.map I S)) (xs:=List.map I S) (x:=I (S.getD (k+q) 0)) rfl (zBx (0) (by omega)):zAv 0 (PV.own 1 (List.map I S)) [] (k+(↑q:Int).toNat) 0 1=some (false,[I (S.getD (k+q) 0)])) an)<|S_a [(2,.ob),(1,.n p)] (ap ((by exact zAr (by simp only [List.length_map,zzLn]<;>omega)):decide (p<(List.map I S).length)=true)<|ap ((by simp):some (0+p)=some p) an)<|S_a [(8,.root (PV.own 1 (List.map I (S.set p (S.getD (k+q) 0)))) true)] (ap (zN2 (zBx (0) (by omega)) zFg:zBC (PV.own 1 (List.map I S)) [] p 0 (I (S.getD (k+q) 0)).cells=some (PV.own 1 (List.map I (S.set p (S.getD (k+q) 0))))∧zAM (PV.own 1 (List.map I S)) (PV.own 1 (List.map I (S.set p (S.getD (k+q) 0)))) []=true) an)<|zAa<|zAe<|zAc 1<|S_a [(1,.v (I (↑(p+1):Int)))] (ap (wrN p) an)<|zAc 1<|zAa<|zAe<|zAc 1<|S_a [(1,.v (I (↑(q+1):Int)))] (ap (wrN q) an)<|zAc 1<|zAa ?_)) (fun k4=>(zAj<|zAe<|zAc 1<|S_a [(1,.v (I (↑(q+1):Int)))] (ap (wrN q) an)<|zAc 1<|zAa ?_))
    ·rw [show k+(q-1)=k+q-1 by omega,hx,hy] at k4
     rw [if_neg k4] at yC
     refine ⟨(p+1,q+1,S.set p (S.getD (k+q) 0)),⟨by omega,by omega,by omega,by simpa using hS,?_,fun j hj=>?_⟩,by simp only;omega,by kernel_rfl,by kernel_rfl⟩
     ·rw [← Nat.add_assoc,yC,← hc,hx,zKZ (by omega)]
     ·rw [zCS,if_neg (by omega)];exact wX j (by omega)
    ·rw [show k+(q-1)=k+q-1 by omega,hx,hy] at k4
     rw [if_pos k4] at yC
     exact ⟨(p,q+1,S),⟨by omega,by omega,by omega,hS,by rw [← Nat.add_assoc,yC,hc],fun j hj=>wX j (by omega)⟩,by simp only;omega,by kernel_rfl,by kernel_rfl⟩
   ·refine zAg<|zAd 4<|zAa<|zAK ((↑q:Int)<(↑(l.length-k):Int)) (by omega)<|zAs 2<|zAd 2<|S_a [(3,.ob),(0,.yes),(0,.yes),(0,.v (PV.bor 0 [] 1 p (S.length-p)))] (ap ((by exact zA9 (by simp only [List.length_map,zzLn,zA1]<;>omega)):p.ble (List.map I S).length=true)<|ap ((by exact zA9 (by simp only [List.length_map,zzLn,zA1]<;>omega)):(List.map I S).length.ble (List.map I S).length=true)<|ap ((by simp<;>omega):(p.beq 0||p.blt (List.map I S).length)=true)<|ap ((by simp):PV.bor 0 [] 1 (0+p) ((List.map I S).length-p)=PV.bor 0 [] 1 p (S.length-p)) an)<|zNO (g:=I) (fun q=>q) 0 1 p (S.length-p) S (0) (by first | omega | (simp<;>omega)) ⟨rfl,rfl⟩ (fun _=>(by first | exact zFl | exact ⟨rfl,rfl,rfl,rfl,Nat.le_refl _,rfl⟩)) zNh.nil (zAa<|zAd 2<|S_a [(4,.yes)] (ap ((by exact zA9 (by simp<;>omega)):p.ble (List.map I (List.take p S++List.replicate (S.length-p) 0++List.drop (p+(S.length-p)) S)).length=true) an)<|zAc 1<|zAa<|zAm<|E_a [(1,.yes),(1,.v (PV.own 1 (List.map I (List.take p (List.take p S++List.replicate (S.length-p) 0++List.drop (p+(S.length-p)) S)))))] (ap ((by exact zA9 (by simp<;>omega)):(0+((↑p:Int).toNat-0)).ble (List.map I (List.take p S++List.replicate (S.length-p) 0++List.drop (p+(S.length-p)) S)).length=true)<|ap ((by simp):PV.own 1 (List.take p (List.drop 0 (List.map I (List.take p S++List.replicate (S.length-p) 0++List.drop (p+(S.length-p)) S))))=PV.own 1 (List.map I (List.take p (List.take p S++List.replicate (S.length-p) 0++List.drop (p+(S.length-p)) S)))) an) (PV.own 1 (List.map I (List.take p (List.take p S++List.replicate (S.length-p) 0++List.drop (p+(S.length-p)) S)))) [] ?_ rfl)
    rw [show k+q=l.length by omega,List.take_length] at hc
    rw [← hc,List.append_assoc,List.take_append_of_le_length (by rw [List.length_take];omega),List.take_take,Nat.min_self]
  ·refine ⟨k+1,⟨by omega,by omega,fun j h1 h2=>?_⟩,by omega,by kernel_rfl,by kernel_rfl⟩
   by_cases hj:j=k
   ·subst hj;assumption
   ·exact ha j h1 (by omega)
  ·rw [show k=l.length by omega,List.take_length] at jk
   rw [jk]
end
end Go.Eng
