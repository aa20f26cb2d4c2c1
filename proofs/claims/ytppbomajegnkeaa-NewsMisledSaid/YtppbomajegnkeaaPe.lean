/- For all numbers, cries and when the law NewsMisled ends in true: who is misled is left, and in linked towns nobody is left in the end; without conditions. -/
import Derived.Test.YtppbomajegnkeaaPd
import Derived.ProofKit
import Derived.ChangeArms
import Derived.Test.YtppbomajegnkeaaProg
import Derived.Test.YtppbomajegnkeaaPa
import Derived.Test.YtppbomajegnkeaaRows
set_option linter.unusedVariables false
set_option linter.unusedSimpArgs false
set_option linter.unusedSectionVars false
namespace Go.Eng
open Go Go.ChangeShapes Go.WideShapes Go.ChangeAt Go.RowKit
section
variable {H:Type} {enc:TypeId×Value→H} {P:Program}
theorem zNj {f:Func} {s:ChangeSpec} {apart fresh jR again:Bool} {W W':World} {args:Array Value} {v:Value} {ds gs:List (DataW H)} {before pa pv:List MemPlace}
  (hW:DataW.Whole enc P f.params.toList s.vars apart W args.toList ds gs before)
  (y7:∀ (b:Nat) (sp:Nat→Bool) (hd:Bool),DataW.TrodAll enc P W' b sp hd f.resultTypes.toList (v.resultList f.resultTypes.size) (s.fn H (ds++gs)).results [])
  (yL:∀ sp:Nat→Bool,(∀ p∈before,sp p.block=true)→DataW.TrodAll enc P W' 0 sp true f.params.toList args.toList (s.fn H (ds++gs)).args pa)
  (jg:∀ sp:Nat→Bool,(∀ p∈before,sp p.block=true)→DataW.TrodVars enc P W' sp s.vars (s.fn H (ds++gs)).vars pv)
  (ya:before=pa++pv) (hold':∀ b,b<W.heap.size→W'.heap[b]? = W.heap[b]?) (hk:W.keptBut W' (· ∈ before))
  (yD:∀ (j:Nat) (t:TypeId) (r:Value),f.resultTypes[j]? = some t→(v.resultList f.resultTypes.size)[j]? = some r→Value.okWide P W' .any 0 t r) :
  s.post enc P f apart fresh jR again W args v W':=by
 have yC:=hW.lt
 have hold:∀ p∈before,(fun b=>decide (b<W.heap.size)) p.block=true:=fun p hp=>by simpa using yC p hp
 refine ⟨ds,gs,before,[],pa,pv,hW,y7 _ _ _,yL _ hold,jg _ hold,World.keptBut_mono (fun p hp=>⟨hp,?_⟩) hk,fun _=>?_⟩
 ·rw [ya,List.mem_append] at hp
  exact Or.inr hp
 ·obtain ⟨_,_,_,_,_,hz,hn⟩:=hW
  refine ⟨yD,_,_,([]++pa)++pv,⟨[]++pa,pv,trodAll_append (yL _ (fun _ _=>rfl)) (y7 _ _ _),jg _ (fun _ _=>rfl),rfl,?_,?_⟩,?_⟩
  ·intro b off hp
   have jc:MemPlace.cell b off∈before:=by rw [ya];simpa using hp
   have h1:=hz b off jc
   have h2:=yC _ jc
   unfold World.frozen? at h1 ⊢
   rw [hold' b h2];exact h1
  ·intro ha
   have:=hn ha
   rw [ya] at this
   simpa using this
  ·intro p hp _
   rw [ya]
   simpa using hp
theorem zG4 {W W':World} {sp':Nat→Bool} (hl:laidOutB P=true) (hb:Below W.heap.size W W'):∀ {ts:List TypeId} {vs:List Value} {ds:List (DataW H)} {ps:List MemPlace},(∀ t∈ts,P.readableRec t=true∧t<P.types.size)→DataW.TrodAll enc P W 0 (fun _=>true) true ts vs ds ps→(∀ x∈ps,x.block<W.heap.size)→(∀ x∈ps,sp' x.block=true) →
  DataW.TrodAll enc P W' 0 sp' true ts vs ds ps
 | [],vs,ds,ps,_,h,_,_=>by
  obtain ⟨rfl,rfl,rfl⟩:=trodAll_nil h
  exact trodAll_mk0
 | t::ts,vs,ds,ps,ht,h,yC,hs=>by
  obtain ⟨v,vs',d,ds',p,q,rfl,rfl,rfl,h1,h2⟩:=trodAll_cons h
  exact ⟨p,q,WideElems.Trod_stays hl (ht t (by simp)).1 (ht t (by simp)).2 h1 (fun x hx=>hb.same (yC x (by simp [hx]))) (fun x hx=>hs x (by simp [hx])),zG4 hl hb (fun t h=>ht t (by simp [h])) h2 (fun x hx=>yC x (by simp [hx])) (fun x hx=>hs x (by simp [hx])),rfl⟩
theorem zSI {f:Func} {s:ChangeSpec} {apart fresh jR again:Bool} {W W':World} {args:Array Value} {ds:List (DataW H)} {before:List MemPlace} {tb:TypeId} (hl:laidOutB P=true) (jg:s.vars=[]) (htb:P.underlying tb=some .bool) (wS:f.resultTypes=#[tb]) (uj:∀ t∈f.params.toList,P.readableRec t=true∧t<P.types.size)
  (uI:s.fn H ds={results:=[.lit (.bool true)],args:=ds}) (hW:DataW.Whole enc P f.params.toList s.vars apart W args.toList ds [] before)
  (h1:W.heap.size≤W'.heap.size) (h2:∀ b,b<W.heap.size→W'.heap[b]? = W.heap[b]?) (h3:W'.os=W.os) (h4:W'.tape=W.tape) (h5:W'.output=W.output):s.post enc P f apart fresh jR again W args (.bool true) W':=by
 have yC:=hW.lt
 have hb:Below W.heap.size W W':=⟨h3,h4,h5,h1,h2⟩
 obtain ⟨pa,pv,hA,hV,ya,hz,hn⟩:=id hW
 have hpv:pv=[]:=by
  rw [jg] at hV
  exact (trodVars_none hV).2
 subst hpv
 have hrl:(Value.bool true).resultList f.resultTypes.size=[.bool true]:=by rw [wS];rfl
 have gS:s.fn H (ds++[])={results:=[.lit (.bool true)],args:=ds}:=by rw [List.append_nil];exact uI
 have w8:∀ x∈pa,x.block<W.heap.size:=fun x hx=>yC x (by rw [ya];simp [hx])
 refine zNj (pa:=pa) (pv:=[]) hW (fun b sp hd=>?_) (fun sp y4=>?_) (fun sp y4=>?_) ya h2 ?_ ?_
 ·rw [hrl,wS,gS];exact trodAll_mk1 (shut_bool htb true)
 ·rw [gS];exact zG4 hl hb uj hA w8 (fun x hx=>y4 x (by rw [ya];simp [hx]))
 ·rw [jg,gS];rfl
 ·refine ⟨h3,h5,fun i hi=>?_⟩
  rw [h2 i hi]
  cases W.heap[i]? with
  | none=>rfl
  | some o=>cases o<;>first | exact ⟨rfl,rfl,rfl,fun _ _=>rfl⟩ | exact .inr ⟨rfl,rfl⟩ | rfl
 ·exact ok_one wS rfl (okWide_bool_mk htb true)
end
end Go.Eng
namespace Go.Eng
open Go
section
variable {w:World} {Φ:Nat→Prop} {A:Al}
end
end Go.Eng
namespace Go.Eng
open Go
section
variable {P:Program} {H:zBf}
theorem zQS {f:FuncId} {fn:Func} (h:P.funcs[f]? = some fn):fn∈P.funcs.toList:=by
 rw [← Array.getElem?_toList] at h
 exact List.mem_of_getElem? h
theorem zIm (h : (P.funcs.toList.all fun fn => !(fn.name == "runtime.NumGoroutine")) = true) : zEB P := fun f fn hf => by
  have:=List.all_eq_true.1 h fn (zQS hf)
  simpa using this
theorem zWS (h:((List.range P.funcs.size).all fun f=>bif Nat.beq (H f).intr 0 then (match P.funcs[f]? with
  | some fn=>zU8 P fn
  | none=>true) else true)=true):Fit P H:=fun f fn hf hi=>by
 have yC:=(Array.getElem?_eq_some_iff.1 hf).1
 have:=List.all_eq_true.1 h f (List.mem_range.2 yC)
 rw [hi,hf] at this
 exact this
end
end Go.Eng
namespace Go.Eng
open Go Go.ChangeShapes Go.WideShapes Go.ChangeAt Go.RowKit
inductive Sh where
 | num (k:IntKind)
 | bool
 | list (ag:Bool) (parts:List Sh)
mutual
def zXp:Sh→PV→Prop
 | .num k,p=>∃ n,p = .int k n∧k.min≤n∧n≤k.max
 | .bool,p=>∃ b,p = .bool b
 | .list ag ss,p=>∃ xs,p = .sl xs∧xs.length≤maxLen∧∀ x∈xs,zD7 ss x.cells∧x.isAgg=ag
def zD7:List Sh→List PV→Prop
 | [],ps=>ps=[]
 | s::ss,ps=>∃ p qs,ps=p::qs∧zXp s p∧zD7 ss qs
end
def zVT (P:Program) (t:TypeId):Bool :=
 match P.underlying t with
 | some (.struct _)=>true
 | some (.array ..)=>true
 | _=>false
def zW6 (P:Program) (t:TypeId):Bool :=
 match P.underlying t with
 | some (.struct _)=>true
 | _=>false
def zG5 (P:Program) (sh:TypeId→Option (List Sh)) (n:Nat):List Field→Nat→Option (List Sh)
 | [],off=>if off=n then some [] else none
 | f::fs,off=>if f.offset=off then match sh f.type with
  | some a=>if a.length=P.cellsOf f.type then (zG5 P sh n fs (off+P.cellsOf f.type)).map (a++·) else none
  | none=>none else none
def zDf (P:Program):Nat→TypeId→Option (List Sh)
 | 0,_=>none
 | n + 1,t=>match P.underlying t with
  | some (.int k)=>some [.num k]
  | some .bool=>some [.bool]
  | some (.slice e)=>match zDf P n e with
   | some ss=>if ss.length=P.cellsOf e∧0<ss.length∧(zVT P e=true∨ss.length=1) then some [.list (zVT P e) ss] else none
   | none=>none
  | some (.struct fs)=>zG5 P (zDf P n) (P.cellsOf t) fs.toList 0
  | some (.array m e)=>match zDf P n e with
   | some es=>if P.cellsOf t=m*P.cellsOf e then some (List.replicate m es).flatten else none
   | none=>none
  | _=>none
section
variable {H:Type} {enc:TypeId×Value→H} {P:Program} {w:World} {spare:Nat→Bool} {uB:Bool} {Φ:Nat→Prop} {base:Nat}
theorem zD7.app:∀ {a b:List Sh} {p q:List PV},zD7 a p→zD7 b q→zD7 (a++b) (p++q)
 | [],b,p,q,h1,h2=>by simp only [zD7] at h1;subst h1;exact h2
 | s::a,b,p,q,h1,h2=>by
  obtain ⟨x,xs,rfl,h3,h4⟩:=h1
  exact ⟨x,xs++q,rfl,h3,zD7.app h4 h2⟩
theorem zD7.length:∀ {a:List Sh} {p:List PV},zD7 a p→p.length=a.length
 | [],p,h=>by simp only [zD7] at h;subst h;rfl
 | s::a,p,h=>by
  obtain ⟨x,xs,rfl,_,h4⟩:=h
  simp [zD7.length h4]
theorem zM3 {sh:TypeId→Option (List Sh)} {N n:Nat} {cs:List Value} (j0:cs.length=N) (ih:∀ t (vs:List Value) x ss,sh t=some ss→DataW.trod enc P w 0 spare uB n t vs=some x→∃ ps,zD7 ss ps∧zAX w Φ zCf ps vs []) :
  ∀ (fs:List Field) (off:Nat) (ss:List Sh),zG5 P sh N fs off=some ss→(∀ f∈fs,∃ y,DataW.trod enc P w 0 spare uB n f.type ((cs.drop f.offset).take (P.cellsOf f.type))=some y)→off≤N→∃ ps,zD7 ss ps∧zAX w Φ zCf ps (cs.drop off) []
 | [],off,ss,h,_,yN=>by
  simp only [zG5] at h
  split at h
  ·rename_i he
   cases h
   exact ⟨[],rfl,by rw [List.drop_eq_nil_of_le (by omega)];exact ⟨rfl,rfl⟩⟩
  ·cases h
 | f :: fs,off,ss,h,hf,yN=>by
  simp only [zG5] at h
  split at h
  ·rename_i ho
   cases hs:sh f.type with
   | none=>rw [hs] at h;cases h
   | some a =>
    rw [hs] at h;simp only at h
    split at h
    ·rename_i uG
     obtain ⟨b,hb,rfl⟩:=Option.map_eq_some_iff.1 h
     obtain ⟨y,hy⟩:=hf f (by simp)
     rw [ho] at hy
     obtain ⟨ps,h1,h2⟩:=ih _ _ _ _ hs hy
     have hl:=h2.length
     have uH:=h1.length
     simp only [List.length_take,List.length_drop] at hl
     have qw:off+P.cellsOf f.type≤N:=by omega
     obtain ⟨qs,h3,h4⟩:=zM3 j0 ih fs _ b hb (fun g hg=>hf g (by simp [hg])) qw
     refine ⟨ps++qs,h1.app h3,?_⟩
     have:=h2.append h4
     rw [← List.drop_drop,List.take_append_drop] at this
     exact this
    ·cases h
  ·cases h
theorem zRM {s:Nat} {ag:Bool} {ss:List Sh} (hs:0<s) (j5:ag=true∨s=1):∀ (len:Nat) (c:List Value),c.length=len*s→(∀ i,i<len→∃ ps,zD7 ss ps∧ps.length=s∧zAX w Φ zCf ps ((c.drop (i*s)).take s) []) →
  ∃ (xs:List PV) (us:List Value),xs.length=len∧(∀ x∈xs,zD7 ss x.cells∧x.isAgg=ag∧x.cells.length=s)∧(∀ u∈us,u.cells.size=s)∧us.map zCo=xs.map PV.isAgg∧c=flat us∧zAX w Φ zCf xs us []
 | 0,c,hc,_=>⟨[],[],rfl,by simp,by simp,rfl,by rw [Nat.zero_mul] at hc;rw [List.eq_nil_of_length_eq_zero hc];rfl,rfl,rfl⟩
 | len + 1,c,hc,h=>by
  obtain ⟨ps,h1,h2,h3⟩:=h 0 (by omega)
  simp only [Nat.zero_mul,List.drop_zero] at h3
  have yO:(c.take s).length=s:=by simp;rw [hc,Nat.add_mul];omega
  obtain ⟨xs,us,g1,g2,g3,g4,g5,g6⟩:=zRM hs j5 len (c.drop s) (by simp [hc,Nat.add_mul]) (fun i hi=>by
   obtain ⟨ps,h1,h2,h3⟩:=h (i+1) (by omega)
   refine ⟨ps,h1,h2,?_⟩
   rw [List.drop_drop,show s+i*s=(i+1)*s by rw [Nat.add_mul];omega];exact h3)
  have jE:c=c.take s++c.drop s:=(List.take_append_drop s c).symm
  cases ag with
  | true =>
   refine ⟨.agg ps::xs,.agg (c.take s).toArray::us,by simp [g1],fun x hx=>?_,fun u hu=>?_,by simp [zCo,PV.isAgg,g4],?_,⟨_,us,[],[],rfl,rfl,⟨_,rfl,by simpa using h3⟩,g6⟩⟩
   ·rcases List.mem_cons.1 hx with rfl | hx
    ·exact ⟨h1,rfl,h2⟩
    ·exact g2 x hx
   ·rcases List.mem_cons.1 hu with rfl | hu
    ·simpa [Value.cells] using yO
    ·exact g3 u hu
   ·conv=>lhs;rw [jE]
    rw [g5];rfl
  | false =>
   have ub:s=1:=by
    rcases j5 with h | h
    ·cases h
    ·exact h
   subst ub
   obtain ⟨p,rfl⟩:=List.length_eq_one_iff.1 h2
   obtain ⟨u,hu⟩:=List.length_eq_one_iff.1 yO
   rw [hu] at h3 jE
   obtain ⟨u',us',L1,L2,he,hL,h4,h5⟩:=h3
   cases he
   obtain ⟨rfl,rfl⟩:=List.append_eq_nil_iff.1 hL.symm
   have yM:p.isAgg=false∧p.cells=[p]∧u.cells=#[u]∧zCo u=false:=by
    obtain ⟨p',qs,hp,hfp,_⟩:∃ p' qs,[p]=p'::qs∧(∃ s,zXp s p')∧True:=by
     cases ss with
     | nil=>simp only [zD7] at h1;cases h1
     | cons s ss=>obtain ⟨x,xs,h6,h7,_⟩:=h1;exact ⟨x,xs,h6,⟨s,h7⟩,trivial⟩
    cases hp
    obtain ⟨s,hfp⟩:=hfp
    cases s with
    | num k=>obtain ⟨n,rfl,_⟩:=hfp;obtain ⟨rfl,_⟩:=h4;exact ⟨rfl,rfl,rfl,rfl⟩
    | bool=>obtain ⟨n,rfl⟩:=hfp;obtain ⟨rfl,_⟩:=h4;exact ⟨rfl,rfl,rfl,rfl⟩
    | list ag' ss' =>
     obtain ⟨ys,rfl,_⟩:=hfp
     obtain ⟨_,⟨_,a,n,rfl,_⟩ | ⟨a,n,c',us',sz,rfl,_⟩⟩:=h4<;>exact ⟨rfl,rfl,rfl,rfl⟩
   refine ⟨p::xs,u::us,by simp [g1],fun x hx=>?_,fun v hv=>?_,by simp [yM.1,yM.2.2.2,g4],?_,⟨u,us,[],[],rfl,rfl,h4,g6⟩⟩
   ·rcases List.mem_cons.1 hx with rfl | hx
    ·rw [yM.2.1];exact ⟨h1,yM.1,rfl⟩
    ·exact g2 x hx
   ·rcases List.mem_cons.1 hv with rfl | hv
    ·rw [yM.2.2.1];rfl
    ·exact g3 v hv
   ·conv=>lhs;rw [jE]
    rw [g5];simp only [flat,List.flatMap_cons,yM.2.2.1]
theorem zTL {n:Nat} {e t:TypeId} {fuel:Nat} {cs:List Value} {x:DataW H×List MemPlace} (ht:P.underlying t=some (.array n e)) (h:DataW.trod enc P w base spare uB fuel t cs=some x) :
  ∃ (xs:List (DataW H×List MemPlace)) (m:Nat),cs.length=P.cellsOf t∧xs.length=n∧∀ (i:Nat),i<n→DataW.trod enc P w base spare uB m e ((cs.drop (i*P.cellsOf e)).take (P.cellsOf e))=xs[i]?:=by
 cases fuel with
 | zero=>simp [DataW.trod] at h
 | succ m =>
  unfold DataW.trod at h
  rw [ht] at h
  split at h<;>simp_all
  obtain ⟨hl,xs,hp,hd⟩:=h
  exact ⟨xs,by simpa using mapM_some_length hp,m,fun i hi=>mapM_some_get hp i i (by simp [hi])⟩
theorem zT1 {s:Nat} {es:List Sh}:∀ (n:Nat) (c:List Value),c.length=n*s→(∀ i,i<n→∃ ps,zD7 es ps∧zAX w Φ zCf ps ((c.drop (i*s)).take s) [])→∃ ps,zD7 (List.replicate n es).flatten ps∧zAX w Φ zCf ps c []
 | 0,c,hc,_=>⟨[],rfl,by rw [Nat.zero_mul] at hc;rw [List.eq_nil_of_length_eq_zero hc];exact ⟨rfl,rfl⟩⟩
 | n + 1,c,hc,h=>by
  obtain ⟨ps,h1,h2⟩:=h 0 (by omega)
  simp only [Nat.zero_mul,List.drop_zero] at h2
  obtain ⟨qs,h3,h4⟩:=zT1 (s:=s) n (c.drop s) (by simp [hc,Nat.add_mul]) fun i hi=>by
   obtain ⟨ps,h1,h2⟩:=h (i+1) (by omega)
   refine ⟨ps,h1,?_⟩
   rw [List.drop_drop,show s+i*s=(i+1)*s by rw [Nat.add_mul];omega];exact h2
  refine ⟨ps++qs,?_,?_⟩
  ·rw [List.replicate_succ,List.flatten_cons];exact h1.app h3
  ·have:=h2.append h4
   rw [List.take_append_drop] at this
   exact this
theorem zLs : ∀ (n m:Nat) (t:TypeId) (vs:List Value) (x:DataW H×List MemPlace) (ss:List Sh),zDf P n t=some ss→DataW.trod enc P w 0 spare uB m t vs=some x→∃ ps,zD7 ss ps∧zAX w (fun b=>b<w.heap.size) zCf ps vs []
 | 0,m,t,vs,x,ss,h,_=>by cases h
 | n + 1, m, t,vs,x,ss,h,hx=>by
  simp only [zDf] at h
  split at h
  ·rename_i k ht
   cases h
   obtain ⟨i,rfl,_,hw⟩:=DataW.trod_int ht hx
   simp only [Lit.wf,Bool.and_eq_true,decide_eq_true_eq] at hw
   exact ⟨[.int k i],⟨_,[],rfl,⟨i,rfl,hw.1,hw.2⟩,rfl⟩,_,_,[],[],rfl,rfl,⟨rfl,rfl⟩,rfl,rfl⟩
  ·rename_i ht
   cases h
   obtain ⟨b,rfl,_⟩:=DataW.trod_bool ht hx
   exact ⟨[.bool b],⟨_,[],rfl,⟨b,rfl⟩,rfl⟩,_,_,[],[],rfl,rfl,⟨rfl,rfl⟩,rfl,rfl⟩
  ·rename_i e ht
   cases j6:zDf P n e with
   | none=>rw [j6] at h;cases h
   | some es =>
    rw [j6] at h;simp only at h
    split at h
    ·rename_i hc
     cases h
     obtain ⟨jW,jE,uS⟩:=hc
     rcases DataW.trod_slice ht hx with ⟨rfl,_⟩ | ⟨a,len,cap,zXP,rest,k,_,rfl,_,_,hlc,hcm,yz,kD,_⟩
     ·exact ⟨[.sl []],⟨_,[],rfl,⟨[],rfl,Nat.zero_le _,by simp⟩,rfl⟩,_,_,[],[],rfl,rfl,⟨rfl,.inl ⟨rfl,_,_,rfl,fun _=>rfl⟩⟩,rfl,rfl⟩
     ·by_cases h0:len=0
      ·subst h0
       exact ⟨[.sl []],⟨_,[],rfl,⟨[],rfl,Nat.zero_le _,by simp⟩,rfl⟩,_,_,[],[],rfl,rfl,⟨rfl,.inl ⟨rfl,_,_,rfl,fun h=>by cases h⟩⟩,rfl,rfl⟩
      have zA6:∀ i,i<len→∃ (cs:List Value) (y:DataW H×List MemPlace),cs.length=P.cellsOf e∧(∀ j,j<P.cellsOf e→w.cell? ((a.add (i*P.cellsOf e)).add j)=cs[j]?)∧DataW.trod enc P w 0 spare uB k e cs=some y:=by
       intro i hi
       have:=kD i hi
       rw [List.getElem?_eq_getElem (by omega)] at this
       obtain ⟨cs,h1,h2⟩:=Option.bind_eq_some_iff.1 this
       obtain ⟨_,h3,h4⟩:=World.cells?_some h1
       exact ⟨cs,_,h3,h4,h2⟩
      obtain ⟨cs0,_,h00,h01,_⟩:=zA6 0 (by omega)
      have yP:=h01 0 (by omega)
      rw [List.getElem?_eq_getElem (by omega)] at yP
      have y4:a.spot=none∧∃ row el fr,w.heap[a.block]? = some (.cells row el fr):=by
       simp only [Nat.zero_mul,Addr.add,if_true,World.cell?] at yP
       cases hb:w.heap[a.block]? with
       | none=>rw [hb] at yP;cases yP
       | some o =>
        cases o<;>rw [hb] at yP<;>simp only at yP<;>try (cases yP;done)
        rename_i row el fr
        cases hs:a.spot with
        | some s=>rw [hs] at yP;cases yP
        | none=>exact ⟨rfl,row,el,fr,rfl⟩
      obtain ⟨y5,row,el,fr,yG⟩:=y4
      have kZ:∀ i j,i<len→j<P.cellsOf e→w.cell? ((a.add (i*P.cellsOf e)).add j)=row[a.off+(i*P.cellsOf e+j)]?:=by
       intro i j hi hj
       have key:∀ m:Nat,(a.add m).block=a.block∧(a.add m).off=a.off+m∧(a.add m).spot=none:=by
        intro m
        unfold Addr.add
        split
        ·rename_i h;subst h;exact ⟨rfl,rfl,y5⟩
        ·exact ⟨rfl,rfl,by simp⟩
       have key2:∀ m j:Nat,w.cell? ((a.add m).add j)=row[a.off+(m+j)]?:=by
        intro m j
        obtain ⟨k1,k2,k3⟩:=key m
        by_cases h:j=0
        ·subst h
         simp only [Addr.add,if_true,World.cell?] at *
         rw [k1,yG];simp only;rw [k3,k2];simp
        ·have:(a.add m).add j=⟨a.block,a.off+m+j,none⟩:=by
          generalize a.add m=a1 at k1 k2 k3
          unfold Addr.add
          rw [if_neg h,k1,k2]
         rw [this]
         simp only [World.cell?,yG]
         rw [Nat.add_assoc];rfl
       exact key2 _ _
      have jm:=zRM (w:=w) (Φ:=fun b=>b<w.heap.size) (ss:=es) jE (by rw [jW] at uS ⊢;exact uS) len (seg row a.off (len*P.cellsOf e)) ?_ ?_
      ·obtain ⟨xs,us,g1,g2,g3,g4,g5,g6⟩:=jm
       refine ⟨[.sl xs],⟨_,[],rfl,⟨xs,rfl,by omega,fun x hx=>⟨(g2 x hx).1,(g2 x hx).2.1⟩⟩,rfl⟩,_,_,[],[],rfl,rfl,⟨rfl,.inr ⟨a,cap,row,us,P.cellsOf e,by rw [g1],y5,by omega,(Array.getElem?_eq_some_iff.1 yG).1,⟨el,fr,yG⟩,?_,⟨?_,g4⟩,by rw [g1];exact g5,g6⟩⟩,rfl,rfl⟩
       ·intro x hx;rw [← jW];exact (g2 x hx).2.2
       ·intro u hu;rw [← jW];exact g3 u hu
      ·
       have:=zA6 (len-1) (by omega)
       obtain ⟨cs,_,h1,h2,_⟩:=this
       have h3:=h2 (P.cellsOf e-1) (by omega)
       rw [kZ _ _ (by omega) (by omega),List.getElem?_eq_getElem (by omega)] at h3
       have h4:=(Array.getElem?_eq_some_iff.1 h3).1
       have h5:(len-1)*P.cellsOf e+P.cellsOf e=len*P.cellsOf e:=by
        obtain ⟨l,rfl⟩:∃ l,len=l+1:=⟨len-1,by omega⟩
        rw [Nat.add_sub_cancel,Nat.add_mul];omega
       simp only [seg,List.length_take,List.length_drop,Array.length_toList,jW]
       omega
      ·intro i hi
       obtain ⟨cs,y,h1,h2,h3⟩:=zA6 i hi
       obtain ⟨ps,h4,h5⟩:=zLs n k e cs y es j6 h3
       refine ⟨ps,h4,by rw [h4.length],?_⟩
       have:((seg row a.off (len*P.cellsOf e)).drop (i*es.length)).take es.length=cs:=by
        rw [jW]
        apply List.ext_getElem?
        intro j
        have wa:i*P.cellsOf e+P.cellsOf e≤len*P.cellsOf e:=by
         have:(i+1)*P.cellsOf e≤len*P.cellsOf e:=Nat.mul_le_mul_right _ (by omega)
         rw [Nat.add_mul] at this;omega
        simp only [seg,List.getElem?_take,List.getElem?_drop]
        split
        ·rename_i hj
         rw [if_pos (by omega),Array.getElem?_toList,← kZ i j hi hj,h2 j hj]
        ·rw [List.getElem?_eq_none (by omega)]
       rw [this];exact h5
    ·cases h
  ·rename_i fs ht
   obtain ⟨xs,k,_,_,hl,vN,hf⟩:=DataW.trod_struct ht hx
   obtain ⟨ps,h1,h2⟩:=zM3 (Φ:=fun b=>b<w.heap.size) hl (fun t vs x ss h1 h2=>zLs n k t vs x ss h1 h2) fs.toList 0 ss h (fun f yi=>by
    obtain ⟨i,hi⟩:=List.getElem?_of_mem yi
    have qt:fs[i]? = some f:=by rw [← Array.getElem?_toList];exact hi
    have yC:=(Array.getElem?_eq_some_iff.1 qt).1
    exact ⟨xs[i]'(by omega), by rw [hf i f qt, List.getElem?_eq_getElem (by omega)]⟩) (Nat.zero_le _)
   exact ⟨ps,h1,by simpa using h2⟩
  ·rename_i m' e ht
   cases j6:zDf P n e with
   | none=>rw [j6] at h;cases h
   | some es =>
    rw [j6] at h;simp only at h
    split at h
    ·rename_i hc
     cases h
     obtain ⟨xs,k,hl,vN,hf⟩:=zTL ht hx
     exact zT1 m' vs (by rw [hl,hc]) fun i hi=>zLs n k e _ _ es j6 (by rw [hf i hi,List.getElem?_eq_getElem (by omega)])
    ·cases h
  ·cases h
def zUG (x:Bool×List Sh) (p:PV):Prop:=if x.1 then ∃ cs,p = .agg cs∧zD7 x.2 cs else zD7 x.2 [p]
def zLv:List (Bool×List Sh)→List PV→Prop
 | [],ps=>ps=[]
 | s::ss,ps=>∃ p qs,ps=p::qs∧zUG s p∧zLv ss qs
def zFd (P:Program):List TypeId→Option (List (Bool×List Sh))
 | []=>some []
 | t::ts=>match zDf P 20 t,zFd P ts with
  | some ss,some rest=>if zW6 P t=true∨zVT P t=false∧ss.length=1 then some ((zW6 P t,ss)::rest) else none
  | _,_=>none
theorem zLv.length:∀ {ss:List (Bool×List Sh)} {ps:List PV},zLv ss ps→ps.length=ss.length
 | [],ps,h=>by simp only [zLv] at h;subst h;rfl
 | s::ss,ps,h=>by
  obtain ⟨p,qs,rfl,_,h2⟩:=h
  simp [zLv.length h2]
theorem zQw {n:Nat} {t:TypeId} {ss:List Sh} (h:zDf P n t=some ss) (ha:zVT P t=false):(∃ k,P.underlying t=some (.int k))∨P.underlying t=some .bool∨∃ e,P.underlying t=some (.slice e):=by
 cases n with
 | zero=>cases h
 | succ n =>
  simp only [zDf] at h
  split at h
  ·exact .inl ⟨_,by assumption⟩
  ·exact .inr (.inl (by assumption))
  ·exact .inr (.inr ⟨_,by assumption⟩)
  ·rename_i fs ht
   simp only [zVT,ht] at ha;cases ha
  ·rename_i ht
   simp only [zVT,ht] at ha;cases ha
  ·cases h
theorem zSe : ∀ (ts:List TypeId) (vs:List Value) (ds:List (DataW H)) (ps:List MemPlace) (ss:List (Bool×List Sh)),zFd P ts=some ss→DataW.TrodAll enc P w 0 spare uB ts vs ds ps→(∀ (j:Nat) t v,ts[j]? = some t→vs[j]? = some v→Value.okWide P w .any base t v) →
  ∃ qs,zLv ss qs∧zAX w (fun b=>b<w.heap.size) zCf qs vs []
 | [],vs,ds,ps,ss,hs,h,_=>by
  obtain ⟨rfl,_,_⟩:=trodAll_nil h
  cases hs
  exact ⟨[],rfl,rfl,rfl⟩
 | t :: ts,vs,ds,ps,ss,hs,h,hv=>by
  obtain ⟨v,vs',d,ds',p,q,rfl,rfl,rfl,⟨fuel,h1⟩,h2⟩:=trodAll_cons h
  simp only [zFd] at hs
  cases yH:zDf P 20 t with
  | none=>rw [yH] at hs;cases hs
  | some s =>
   cases yc:zFd P ts with
   | none=>rw [yH,yc] at hs;cases hs
   | some rest =>
    rw [yH,yc] at hs
    simp only at hs
    split at hs
    ·rename_i hc
     cases hs
     obtain ⟨qs,g1,g2⟩:=zSe ts vs' ds' q rest yc h2 (fun j t v ht yF=>hv (j+1) t v (by simpa using ht) (by simpa using yF))
     obtain ⟨cs,g3,g4⟩:=zLs 20 fuel t v.cells.toList _ s yH h1
     have yD:=hv 0 t v rfl rfl
     cases ha:zW6 P t with
     | true =>
      have ww:∃ fs,P.underlying t=some (.struct fs):=by
       simp only [zW6] at ha
       split at ha
       ·exact ⟨_,by assumption⟩
       ·cases ha
      obtain ⟨fs,ht⟩:=ww
      obtain ⟨row,rfl,_⟩:=okWide_struct ht yD
      exact ⟨.agg cs::qs,⟨_,_,rfl,by simp only [zUG,if_true];exact ⟨cs,rfl,g3⟩,g1⟩,_,_,[],[],rfl,rfl,⟨row,rfl,g4⟩,g2⟩
     | false =>
      have yM:v.cells.toList=[v]:=by
       rcases zQw yH (hc.elim (fun h=>by rw [h] at ha;cases ha) fun h=>h.1) with ⟨k,ht⟩ | ht | ⟨e,ht⟩
       ·obtain ⟨n,rfl⟩:=okWide_int ht yD;rfl
       ·obtain ⟨n,rfl⟩:=okWide_bool ht yD;rfl
       ·obtain ⟨a,n,c,rfl⟩:=okWide_slice ht yD;rfl
      rw [yM] at g4
      obtain ⟨u,us,L1,L2,he,hL,g5,g6⟩:∃ u us L1 L2,cs=u::us∧([]:List Nat)=L1++L2∧Rep w (fun b=>b<w.heap.size) zCf u v L1∧zAX w (fun b=>b<w.heap.size) zCf us [] L2:=by
       cases cs with
       | nil=>have:=g4.length;simp at this
       | cons u us =>
        obtain ⟨v',vs'',L1,L2,he,hL,g5,g6⟩:=g4
        cases he
        exact ⟨u,us,L1,L2,rfl,hL,g5,g6⟩
      obtain ⟨rfl,rfl⟩:=List.append_eq_nil_iff.1 hL.symm
      have wK:us=[]:=List.eq_nil_of_length_eq_zero (by have:=g6.length;simp at this;omega)
      subst wK;subst he
      exact ⟨u::qs,⟨_,_,rfl,by simp only [zUG,Bool.false_eq_true,if_false];exact g3,g1⟩,_,_,[],[],rfl,rfl,g5,g2⟩
    ·cases hs
theorem zQT {α:Type} {R:α→Prop} {enc:α→PV}:∀ {xs:List PV},(∀ x∈xs,∃ a,x=enc a∧R a)→∃ l:List α,xs=l.map enc∧∀ a∈l,R a
 | [],_=>⟨[],rfl,by simp⟩
 | x :: xs,h=>by
  obtain ⟨a,rfl,ha⟩:=h x (by simp)
  obtain ⟨l,rfl,hl⟩:=zQT (xs:=xs) fun y hy=>h y (by simp [hy])
  exact ⟨a::l,rfl,fun b hb=>by
   rcases List.mem_cons.1 hb with rfl | hb
   ·exact ha
   ·exact hl b hb⟩
theorem zTh {k:IntKind} {p:PV} (h:zXp (.list false [.num k]) p):∃ l:List Int,p = .sl (l.map (.int k))∧l.length≤maxLen∧∀ n∈l,k.min≤n∧n≤k.max:=by
 obtain ⟨xs,rfl,hl,hx⟩:=h
 obtain ⟨l,rfl,hb⟩:=zQT (α:=Int) (R:=fun n=>k.min≤n∧n≤k.max) (enc := .int k) (xs:=xs) fun x uK=>by
  obtain ⟨⟨q,qs,hc,⟨n,rfl,hn⟩,qC⟩,ha⟩:=hx x uK
  simp only [zD7] at qC;subst qC
  refine ⟨n,?_,hn⟩
  cases x<;>simp [PV.cells] at hc<;>first | exact hc | simp_all [PV.isAgg]
 exact ⟨l,rfl,by simpa using hl,hb⟩
theorem zIK:∀ {ts:List TypeId} {vs:List Value} {ds:List (DataW H)} {ps:List MemPlace},DataW.TrodAll enc P w 0 spare uB ts vs ds ps→ds.length=ts.length
 | [],vs,ds,ps,h=>by obtain ⟨_,rfl,_⟩:=trodAll_nil h;rfl
 | t::ts,vs,ds,ps,h=>by
  obtain ⟨_,_,_,_,_,_,rfl,rfl,_,_,h2⟩:=trodAll_cons h
  simp [zIK h2]
theorem zVt {Hh:zBf} {f:FuncId} {fn:Func} {s:ChangeSpec} {apart fresh jR again:Bool} {W:World} {args:Array Value} {ds:List (DataW H)} {before:List MemPlace} {tb:TypeId} {ss:List (Bool×List Sh)} (zE5:P.follows .mixedOrders=true) (hnm:zEB P) (zMd:Fit P Hh) (hin:zEM P Hh)
  (hl:laidOutB P=true) (jg:s.vars=[]) (htb:P.underlying tb=some .bool) (wS:fn.resultTypes=#[tb]) (uj:fn.params.toList.all (fun t=>P.readableRec t&&Nat.blt t P.types.size)=true) (uI:∀ ds,ds.length=fn.params.size→s.fn H ds={results:=[.lit (.bool true)],args:=ds}) (wM:zFd P fn.params.toList=some ss) (hZ:ss.length≤1000)
  (hg:∀ qs,zLv ss qs→@zBD (yo1 P Hh) P Hh f qs [] (.bool true) [])
  (gQ:∀ (j:Nat) t v,fn.params[j]? = some t→args[j]? = some v→Value.okWide P W .any base t v) (hW:DataW.Whole enc P fn.params.toList s.vars apart W args.toList ds [] before) :
  Calls P f args W fun e W'=>∃ v,e = .returned v∧s.post enc P fn apart fresh jR again W args v W':=by
 obtain ⟨pa,pv,hA,_,_,_,_⟩:=id hW
 obtain ⟨qs,kU,kF⟩:=zSe fn.params.toList args.toList ds pa ss wM hA (fun j t v ht hv=>gQ j t v (by rw [← Array.getElem?_toList];exact ht) (by rw [← Array.getElem?_toList];exact hv))
 have qc:=kU.length
 refine (zRN (Φ:=fun b=>b<W.heap.size) zE5 hnm zMd hin (hg qs kU) (fun b hb=>hb) kF (by rw [qc];exact Nat.le_trans hZ (by decide))).mono fun e W' ⟨he,g1,g2,g3,g4,g5⟩=>?_
 subst he
 refine ⟨_,rfl,zSI hl jg htb wS (fun t ht=>?_) (uI ds (by have:=zIK hA;simpa using this)) hW g1 g2 g3 g4 g5⟩
 have:=List.all_eq_true.1 uj t ht
 rw [Bool.and_eq_true] at this
 exact ⟨this.1,zB7 this.2⟩
end
end Go.Eng
namespace Go.Eng
open Go
section
variable {P:Program} {H:zBf}
def zEz (f:FuncId):zBf:=fun g=>bif Nat.beq g f then {} else {intr:=9}
theorem zPv (zE5:P.follows .mixedOrders=true) (hnm:zEB P) {f:FuncId} {fn:Func} (hf:P.funcs[f]? = some fn) (yD:zU8 P fn=true) (n:Nat):zGd P (@zC9 P (zEz f) yo0 n):=by
 refine @zE4 P (zEz f) yo0 zE5 hnm (fun g gn hg hi=>?_) (fun g gn args hid v hX hg hi hr=>?_) (fun g first i caps k plan h=>by cases h) n
 ·cases hb:Nat.beq g f with
  | true =>
   rw [Nat.eq_of_beq_eq_true hb,hf] at hg
   cases hg;exact yD
  | false=>simp [zEz,hb] at hi
 ·cases hb:Nat.beq g f with
  | true=>exact absurd (by simp [zEz,hb]) hi
  | false =>
   have e:(zEz f g).intr=9:=by simp [zEz,hb]
   rw [e] at hr
   simp [zDJ] at hr
theorem zOw {α:Type} {f:Nat→α} {s:Nat} {v:α} (h:f s=v):upd f s v=f:=by
 funext t
 by_cases ht:t=s
 ·subst ht;rw [zAi,h]
 ·rw [zAf ht]
theorem zKR {f:FuncId} {p q v:PV} (hp:p.heavy=false) {w:World} {Φ:Nat→Prop} {rv:Nat→Value} {E:Nat→PV} {L:Nat→List Nat} {vs:Array Value} (hE:∀ s,s<zAb→E s=(zA3 [q] []).get s) (kX:∀ s,zAb≤s→E s = .bad)
  (C:Conf w (fun b=>∃ s,b∈L s) Φ w Φ rv E L) (yJ:vs.size=1) (yk:∀ i,i<1→vs[i]? = some (rv i)) (j8:∀ s,1≤s→s<zAm→rv s=undef) (hL0:L 0=[]) (hr:Rep w Φ (zA0 w rv E) p (rv 0) []) (h:zFt P f [p] [] v []) :
  Calls P f vs w fun e w'=>∃ u Φ' rv' E' L',e = .returned u∧Conf w (fun b=>∃ s,b∈L s) Φ w' Φ' rv' E' L'∧([]:List PV).length=([]:List PV).length ∧
   (∀ j,j<([]:List PV).length→E' (zAm+j)=([]:List PV).getD j .bad∧rv' (zAm+j)=rv (zAm+j))∧Gave v u rv' E':=by
 have C1:=C.put (s:=0) hp hr
 rw [zOw hL0,zOw rfl] at C1
 have h1:(1:Nat)≤zAm:=by decide
 have hg:(0:Nat)<zAb:=by decide
 refine h w Φ rv (upd E 0 p) L vs (fun s hs=>?_) (fun s hs=>?_) C1 yJ yk j8
 ·by_cases h:s=0
  ·subst h;rw [zAi];rfl
  ·rw [zAf h,hE s hs,zDi (args:=[q]) h1,zDi (args:=[p]) h1]
   simp [h,show ¬ s<1 by omega]
 ·rw [zAf (by omega)];exact kX s hs
theorem zQl {f:FuncId} {v:PV} (h1:zFt P f [.nils 0] [] v []) (h2:zFt P f [.nn] [] v []):zFt P f [.sl []] [] v []:=by
 intro w Φ rv E L vs hE kX C yJ yk j8
 have h0:E 0 = .sl []:=by rw [hE 0 (by decide)];rfl
 have hr:=C.rep 0
 rw [h0] at hr
 obtain ⟨hL0,hc⟩:=hr
 have hc:∃ a n,rv 0 = .slice a 0 n∧(a=none→n=0):=by
  rcases hc with ⟨_,a,n,hv,ha⟩ | ⟨a,n,c,us,sz,hv,_⟩
  ·exact ⟨a,n,hv,ha⟩
  ·exact ⟨some a,n,hv,fun h=>by cases h⟩
 obtain ⟨a,n,hv,ha⟩:=hc
 cases a with
 | none =>
  rw [ha rfl] at hv
  exact zKR (p := .nils 0) rfl hE kX C yJ yk j8 hL0 ⟨hv,rfl⟩ h1
 | some a=>exact zKR (p := .nn) rfl hE kX C yJ yk j8 hL0 ⟨rfl,a,n,hv⟩ h2
theorem zPJ {f:FuncId} {v:PV} {k:Nat} (h1:zFt P f [.nils 0] [] v []):zFt P f [.nils k] [] v []:=by
 intro w Φ rv E L vs hE kX C yJ yk j8
 have h0:E 0 = .nils k:=by rw [hE 0 (by decide)];rfl
 have hr:=C.rep 0
 rw [h0] at hr
 exact zKR (p := .nils 0) rfl hE kX C yJ yk j8 hr.2 ⟨hr.1,rfl⟩ h1
theorem zLF (zE5:P.follows .mixedOrders=true) (hnm:zEB P) {f:FuncId} {fn:Func} (hf:P.funcs[f]? = some fn) (hb:fn.body.isSome=true) (yD:zU8 P fn=true) {sz:Nat} (yJ:(fn.resultTypes[0]?).bind (fun t=>(zBU P t).bind (szT P))=some sz)
  (r1:∃ n,@zC9 P (zEz f) yo0 n f [.nils 0] []=some (.own sz [],[])) (r2:∃ n,@zC9 P (zEz f) yo0 n f [.nn] []=some (.own sz [],[]))
  (r3:∀ x xs,(∀ y∈x::xs,y.plain=true∧y.cells.length=sz)→(x::xs).length≤zAY→∃ n,@zC9 P (zEz f) yo0 n f [.sl (x::xs)] []=some (.own sz (x::xs),[])) :
  ∀ args hid v hX,zDJ P fn 1 args hid=some (v,hX)→zCH P f∧zFt P f args hid v hX:=by
 have so:=zPv zE5 hnm hf yD
 have hc:zCH P f:=⟨fn,hf,by cases hx:fn.body with
  | none=>rw [hx] at hb;cases hb
  | some _=>rfl⟩
 obtain ⟨n1,r1⟩:=r1
 obtain ⟨n2,r2⟩:=r2
 have m1:zFt P f [.nils 0] [] (.own sz []) []:=(so n1 _ _ _ _ _ r1).2
 have m2:=(so n2 _ _ _ _ _ r2).2
 intro args hid v hX h
 refine ⟨hc,?_⟩
 rcases args with _ | ⟨p,_ | ⟨p2,ps⟩⟩
 ·simp [zDJ] at h
 ·rcases hid with _ | ⟨q,qs⟩
  ·cases p<;>first | (simp [zDJ] at h;done) | skip
   ·rename_i k
    simp only [zDJ,yJ,Option.some.injEq,Prod.mk.injEq] at h
    obtain ⟨rfl,rfl⟩:=h
    exact zPJ m1
   ·rename_i xs
    simp only [zDJ,yJ] at h
    split at h
    ·rename_i hx
     simp only [Option.some.injEq,Prod.mk.injEq] at h
     obtain ⟨rfl,rfl⟩:=h
     simp only [Bool.and_eq_true,decide_eq_true_eq,List.all_eq_true] at hx
     cases xs with
     | nil=>exact zQl m1 m2
     | cons x xs =>
      obtain ⟨n3,r3⟩:=r3 x xs (fun y hy=>by simpa using hx.1 y hy) hx.2
      exact (so n3 _ _ _ _ _ r3).2
    ·cases h
  ·simp [zDJ] at h
 ·simp [zDJ] at h
theorem zGq [Yo] {f:FuncId} {fn:Func} {sz:Nat} {α:Type} (g:α→PV) (l:List α) (hl:l.length≤4294967296) (hg:∀ x,((g x).plain&&Nat.beq (g x).cells.length sz)=true:=by intro x;kernel_rfl) (hf:P.funcs[f]? = some fn:=by kernel_rfl) (hi:(H f).intr=1:=by kernel_rfl)
  (yJ:(fn.resultTypes[0]?).bind (fun t=>(zBU P t).bind (szT P))=some sz:=by kernel_rfl):zBD P H f [.sl (l.map g)] [] (.own sz (l.map g)) []:=by
 refine ⟨1,fun n hn=>?_⟩
 obtain ⟨k,rfl⟩:∃ k,n=k+1:=⟨n-1,by omega⟩
 show zI7 P H (zC9 P H k) Yo.yo zCg (k+1) f _ _=_
 have vB:((l.map g).all (fun x=>x.plain&&decide (x.cells.length=sz))&&decide ((l.map g).length≤zAY))=true:=by
  simp only [List.all_map,Bool.and_eq_true,List.all_eq_true,List.length_map,decide_eq_true_eq,Function.comp]
  refine ⟨fun x _=>?_,hl⟩
  have:=hg x
  simp only [Bool.and_eq_true] at this
  exact ⟨this.1,Nat.eq_of_beq_eq_true this.2⟩
 simp only [Bool.and_eq_true,decide_eq_true_eq] at vB
 simp only [zI7,hf,hi,zDJ,yJ]
 rw [if_pos (by decide),if_pos (by simpa using vB)]
theorem zGZ {f:FuncId} {args:List PV} {v:PV} (h:@zBD yo0 P (zEz f) f args [] v []):∃ n,@zC9 P (zEz f) yo0 n f args []=some (v,[]):=by
 obtain ⟨n,h⟩:=h
 exact ⟨n,h n (Nat.le_refl _)⟩
theorem zTQ (cl:List FuncId) (h:((List.range P.funcs.size).all fun f=>Nat.beq (H f).intr 0||Nat.beq (H f).intr 9||(Nat.beq (H f).intr 1&&cl.any (Nat.beq f)))=true)
  (hc:∀ f∈cl,∀ fn,P.funcs[f]? = some fn→∀ args hid v hX,zDJ P fn 1 args hid=some (v,hX)→zCH P f∧zFt P f args hid v hX):zEM P H:=fun f fn args hid v hX hf hi hr=>by
 have yC:=(Array.getElem?_eq_some_iff.1 hf).1
 have:=List.all_eq_true.1 h f (List.mem_range.2 yC)
 rw [Bool.or_eq_true,Bool.or_eq_true,Bool.and_eq_true] at this
 rcases this with (h1 | h1) | ⟨h1,h2⟩
 ·exact absurd (Nat.eq_of_beq_eq_true h1) hi
 ·rw [Nat.eq_of_beq_eq_true h1] at hr
  simp [zDJ] at hr
 ·rw [Nat.eq_of_beq_eq_true h1] at hr
  obtain ⟨g,hg,hb⟩:=List.any_eq_true.1 h2
  rw [Nat.eq_of_beq_eq_true hb] at hf ⊢
  exact hc g hg fn hf args hid v hX hr
end
end Go.Eng
set_option maxRecDepth 100000
namespace Go.Eng
open Go Go.Proofs
def idV (p:PV):PV:=p
theorem zHZ (xs:List PV):xs.map idV=xs:=by
 induction xs with
 | nil=>rfl
 | cons x xs ih=>rw [List.map_cons,ih];rfl
theorem zEZ:∀ {l:List PV},(∀ y∈l,y.plain=true)→zBv l=[]
 | [],_=>rfl
 | p::ps,h=>by
  rw [zBv,(zK0 (h p (by simp))).2,zEZ fun y hy=>h y (by simp [hy])];rfl
theorem zQk {xs:List PV} {sz n:Nat} (h:∀ y∈xs,y.plain=true∧y.cells.length=sz) (hn:Nat.beq sz n=true):((xs.map idV).all fun y=>y.cells.length.beq n&&y.cells.all fun q=>q.oneCell)=true:=by
 rw [zHZ,List.all_eq_true]
 intro y hy
 rw [Bool.and_eq_true]
 exact ⟨by rw [(h y hy).2];exact hn,List.all_eq_true.2 fun q hq=>zI4 (h y hy).1 q hq⟩
theorem zVE {xs:List PV} {sz:Nat} (h:∀ y∈xs,y.plain=true∧y.cells.length=sz):((xs.map idV).all fun x=>x.plain)=true:=by
 rw [zHZ,List.all_eq_true];exact fun y hy=>(h y hy).1
section
variable [Yo]
theorem zXS:zBD Try.prog (zEz 71) 71 [.nils 0] [] (.own 1 []) []:=zBD.closed 50
theorem zW9:zBD Try.prog (zEz 71) 71 [.nn] [] (.own 1 []) []:=zBD.closed 50
theorem zXF (xs:List PV) (h:∀ y∈xs,y.plain=true∧y.cells.length=1) (hI:0<xs.length) (hl:xs.length≤4294967296):zBD Try.prog (zEz 71) 71 [.sl (xs.map idV)] [] (.own 1 (xs.map idV)) []:=by
 refine zAe Try.f71 ?_
 refine zAd 1<|zAa<|zAh<|zAd 1<|S_a [(0,.v (PV.bool false))] (ap (zNz (by omega):zH4 Try.prog BinOp.eql 47 (PV.sl (List.map idV xs)) (zEu (Value.slice none 0 0))=some (PV.bool false)) an)<|zAa<|zAN<|zAl<|zAd 2<|S_a [(0,.ob),(0,.ob),(0,.ob),(3,.ob)] (ap (zVE h:((List.map idV xs).all fun x=>x.plain)=true)<|ap (zQk h (by kernel_rfl):((List.map idV xs).all fun y=>y.cells.length.beq ((fun x=>x.size) Try.prog.types[3])&&y.cells.all fun q=>q.oneCell)=true)<|ap (?_:(zBv (List.map idV xs)).isEmpty=true)<|ap ((by exact zBb (by simp only [List.length_map,zzLn,zAY]<;>omega)):(0+(List.map idV xs).length).ble zAY=true) an)<|zAc 1<|zAa<|zAn<|E_a [(1,.yes),(1,.v (PV.own 1 (List.map idV (List.take ([]++List.map idV xs).length xs))))] (ap (blz ([]++List.map idV xs))<|ap ((by simp [zDg]):PV.own 1 (List.take ([]++List.map idV xs).length (List.drop 0 ([]++List.map idV xs)))=PV.own 1 (List.map idV (List.take ([]++List.map idV xs).length xs))) an) (PV.own 1 (List.map idV (List.take ([]++List.map idV xs).length xs))) [] (by simp [*]) rfl
 rw [zHZ,zEZ fun y hy=>(h y hy).1];rfl
theorem zWs:zBD Try.prog (zEz 115) 115 [.nils 0] [] (.own 2 []) []:=zBD.closed 50
theorem zWa:zBD Try.prog (zEz 115) 115 [.nn] [] (.own 2 []) []:=zBD.closed 50
theorem zW5 (xs:List PV) (h:∀ y∈xs,y.plain=true∧y.cells.length=2) (hI:0<xs.length) (hl:xs.length≤4294967296):zBD Try.prog (zEz 115) 115 [.sl (xs.map idV)] [] (.own 2 (xs.map idV)) []:=by
 refine zAe Try.f115 ?_
 refine zAd 1<|zAa<|zAh<|zAd 1<|S_a [(0,.v (PV.bool false))] (ap (zNz (by omega):zH4 Try.prog BinOp.eql 31 (PV.sl (List.map idV xs)) (zEu (Value.slice none 0 0))=some (PV.bool false)) an)<|zAa<|zAN<|zAl<|zAd 2<|S_a [(0,.ob),(0,.ob),(0,.ob),(3,.ob)] (ap (zVE h:((List.map idV xs).all fun x=>x.plain)=true)<|ap (zQk h (by kernel_rfl):((List.map idV xs).all fun y=>y.cells.length.beq ((fun x=>x.size) Try.prog.types[34])&&y.cells.all fun q=>q.oneCell)=true)<|ap (?_:(zBv (List.map idV xs)).isEmpty=true)<|ap ((by exact zBb (by simp only [List.length_map,zzLn,zAY]<;>omega)):(0+(List.map idV xs).length).ble zAY=true) an)<|zAc 1<|zAa<|zAn<|E_a [(1,.yes),(1,.v (PV.own 2 (List.map idV (List.take ([]++List.map idV xs).length xs))))] (ap (blz ([]++List.map idV xs))<|ap ((by simp [zDg]):PV.own 2 (List.take ([]++List.map idV xs).length (List.drop 0 ([]++List.map idV xs)))=PV.own 2 (List.map idV (List.take ([]++List.map idV xs).length xs))) an) (PV.own 2 (List.map idV (List.take ([]++List.map idV xs).length xs))) [] (by simp [*]) rfl
 rw [zHZ,zEZ fun y hy=>(h y hy).1];rfl
theorem zWv:zBD Try.prog (zEz 117) 117 [.nils 0] [] (.own 2 []) []:=zBD.closed 50
theorem zW0:zBD Try.prog (zEz 117) 117 [.nn] [] (.own 2 []) []:=zBD.closed 50
theorem zWk (xs:List PV) (h:∀ y∈xs,y.plain=true∧y.cells.length=2) (hI:0<xs.length) (hl:xs.length≤4294967296):zBD Try.prog (zEz 117) 117 [.sl (xs.map idV)] [] (.own 2 (xs.map idV)) []:=by
 refine zAe Try.f117 ?_
 refine zAd 1<|zAa<|zAh<|zAd 1<|S_a [(0,.v (PV.bool false))] (ap (zNz (by omega):zH4 Try.prog BinOp.eql 35 (PV.sl (List.map idV xs)) (zEu (Value.slice none 0 0))=some (PV.bool false)) an)<|zAa<|zAN<|zAl<|zAd 2<|S_a [(0,.ob),(0,.ob),(0,.ob),(3,.ob)] (ap (zVE h:((List.map idV xs).all fun x=>x.plain)=true)<|ap (zQk h (by kernel_rfl):((List.map idV xs).all fun y=>y.cells.length.beq ((fun x=>x.size) Try.prog.types[42])&&y.cells.all fun q=>q.oneCell)=true)<|ap (?_:(zBv (List.map idV xs)).isEmpty=true)<|ap ((by exact zBb (by simp only [List.length_map,zzLn,zAY]<;>omega)):(0+(List.map idV xs).length).ble zAY=true) an)<|zAc 1<|zAa<|zAn<|E_a [(1,.yes),(1,.v (PV.own 2 (List.map idV (List.take ([]++List.map idV xs).length xs))))] (ap (blz ([]++List.map idV xs))<|ap ((by simp [zDg]):PV.own 2 (List.take ([]++List.map idV xs).length (List.drop 0 ([]++List.map idV xs)))=PV.own 2 (List.map idV (List.take ([]++List.map idV xs).length xs))) an) (PV.own 2 (List.map idV (List.take ([]++List.map idV xs).length xs))) [] (by simp [*]) rfl
 rw [zHZ,zEZ fun y hy=>(h y hy).1];rfl
end
theorem zUU:∀ args hid v hX,zDJ Try.prog Try.f71 1 args hid=some (v,hX)→zCH Try.prog 71∧zFt Try.prog 71 args hid v hX :=
 zLF (f:=71) (fn:=Try.f71) (sz:=1) (by kernel_rfl) (zIm (by kernel_rfl)) (by kernel_rfl) (by kernel_rfl) (by kernel_rfl) (by kernel_rfl) (zGZ (@zXS yo0)) (zGZ (@zW9 yo0)) fun x xs h hl=>by
  have:=zGZ (@zXF yo0 (x::xs) h (by simp) hl)
  rw [zHZ] at this
  exact this
theorem zSy:∀ args hid v hX,zDJ Try.prog Try.f115 1 args hid=some (v,hX)→zCH Try.prog 115∧zFt Try.prog 115 args hid v hX :=
 zLF (f:=115) (fn:=Try.f115) (sz:=2) (by kernel_rfl) (zIm (by kernel_rfl)) (by kernel_rfl) (by kernel_rfl) (by kernel_rfl) (by kernel_rfl) (zGZ (@zWs yo0)) (zGZ (@zWa yo0)) fun x xs h hl=>by
  have:=zGZ (@zW5 yo0 (x::xs) h (by simp) hl)
  rw [zHZ] at this
  exact this
theorem zTb:∀ args hid v hX,zDJ Try.prog Try.f117 1 args hid=some (v,hX)→zCH Try.prog 117∧zFt Try.prog 117 args hid v hX :=
 zLF (f:=117) (fn:=Try.f117) (sz:=2) (by kernel_rfl) (zIm (by kernel_rfl)) (by kernel_rfl) (by kernel_rfl) (by kernel_rfl) (by kernel_rfl) (zGZ (@zWv yo0)) (zGZ (@zW0 yo0)) fun x xs h hl=>by
  have:=zGZ (@zWk yo0 (x::xs) h (by simp) hl)
  rw [zHZ] at this
  exact this
theorem zWU:∀ f∈[71,115,117],∀ fn,Try.prog.funcs[f]? = some fn→∀ args hid v hX,zDJ Try.prog fn 1 args hid=some (v,hX)→zCH Try.prog f∧zFt Try.prog f args hid v hX:=by
 intro f hf fn uI
 simp only [List.mem_cons,List.not_mem_nil,or_false] at hf
 rcases hf with rfl | rfl | rfl
 ·have e:Try.prog.funcs[71]? = some Try.f71:=by kernel_rfl
  rw [e] at uI;cases uI
  exact zUU
 ·have e:Try.prog.funcs[115]? = some Try.f115:=by kernel_rfl
  rw [e] at uI;cases uI
  exact zSy
 ·have e:Try.prog.funcs[117]? = some Try.f117:=by kernel_rfl
  rw [e] at uI;cases uI
  exact zTb
end Go.Eng
namespace Go.Proofs.Ytppbomajegnkeaa
open Go.ChangeShapes Go.WideShapes Go.ChangeAt Go.RowKit Go.Eng
theorem Try.own:ownKnob Try.prog.godebug=none:=by kernel_rfl
theorem Try.laidOut:laidOutB Try.prog=true:=by kernel_rfl
theorem zE5:Try.prog.follows .mixedOrders=true:=by kernel_rfl
theorem hnm:zEB Try.prog:=zIm (by kernel_rfl)
theorem zMd:Fit Try.prog zBO:=zWS (by kernel_rfl)
theorem hin:zEM Try.prog zBO:=zTQ [71,115,117] (by kernel_rfl) zWU
end Go.Proofs.Ytppbomajegnkeaa
namespace Go.Eng
open Go
theorem zWK {k:IntKind} {p:PV} (h:zUG (false,[.num k]) p):∃ n,p = .int k n∧k.min≤n∧n≤k.max:=by
 simp only [zUG,Bool.false_eq_true,if_false] at h
 obtain ⟨q,qs,hc,⟨n,rfl,hn⟩,qC⟩:=h
 cases hc
 exact ⟨n,rfl,hn⟩
theorem zRd {k:IntKind} {p:PV} (h:zUG (false,[.list false [.num k]]) p):∃ l:List Int,p = .sl (l.map (.int k))∧l.length≤maxLen∧∀ n∈l,k.min≤n∧n≤k.max:=by
 simp only [zUG,Bool.false_eq_true,if_false] at h
 obtain ⟨q,qs,hc,h,qC⟩:=h
 cases hc
 exact zTh h
end Go.Eng
set_option maxRecDepth 10000
set_option maxHeartbeats 4000000
namespace Go.Eng
open Go Go.Proofs
theorem zAB {α:Type} {l:List α} {i:Nat} {d:α} (h:i<l.length):l.getD i d=l[i]:=by simp [List.getD,List.getElem?_eq_getElem h]
theorem zER {α β:Type} {f:β→α→β} {b:β} {l:List α} {i:Nat} {d:α} (h:i<l.length):(l.take (i+1)).foldl f b=f ((l.take i).foldl f b) (l.getD i d):=by
 rw [zAB h];exact zPB h
theorem zIO {α:Type} {l m:List α} {i:Nat} {d:α} (h:i<l.length) (h':i<m.length) (ha:l.take i=m.take i) (he:l.getD i d=m.getD i d):l.take (i+1)=m.take (i+1):=by
 rw [zAB h,zAB h'] at he
 rw [List.take_add_one,List.take_add_one,ha,List.getElem?_eq_getElem h,List.getElem?_eq_getElem h',he]
theorem zDm {α:Type} {l:List α} {i:Nat} {d:α} (h:i<l.length):l.take (i+1)=l.take i++[l.getD i d]:=by
 rw [List.take_add_one,List.getElem?_eq_getElem h,zAB h];rfl
theorem zCp {α:Type} {l:List α} {d:α} {p:α→Prop} (h:∀ x∈l,p x) (i:Nat) (hi:i<l.length):p (l.getD i d):=by
 rw [zAB hi];exact h _ (List.getElem_mem hi)
theorem zBZ {l:List Int} {i j:Nat} {v:Int}:(l.set i v).getD j 0=if i=j∧j<l.length then v else l.getD j 0:=by
 simp only [List.getD_eq_getElem?_getD,List.getElem?_set]
 by_cases h:i=j
 ·subst h
  by_cases h2:i<l.length
  ·simp [h2]
  ·simp [h2]
 ·simp [h]
def zD4 {α:Type} (φ:α→Bool) (l:List α):Int:=if l.findIdx φ<l.length then (l.findIdx φ:Int) else -1
theorem zBN {α : Type} {φ : α → Bool} {l : List α} {i : Nat} (h : i < l.length) (h0 : ∀ j (hj : j < i), φ (l[j]'(by omega)) = false) (hi : φ l[i] = true) : zD4 φ l = i := by
 have:l.findIdx φ=i:=by
  rw [List.findIdx_eq h]
  exact ⟨hi,fun j hj=>by simpa using h0 j hj⟩
 simp [zD4,this,h]
theorem zB2 {α : Type} {φ : α → Bool} {l : List α} (h0 : ∀ j (hj : j < l.length), φ (l[j]'hj) = false) : zD4 φ l = -1 := by
 have:¬ l.findIdx φ<l.length:=by
  intro h
  have:=List.findIdx_getElem (w:=h)
  rw [h0 _ h] at this;cases this
 simp [zD4,this]
theorem zDB {α:Type} (φ:α→Bool) (l:List α):decide (zD4 φ l≥0)=l.any φ:=by
 unfold zD4
 split
 ·rename_i h
  have:=List.findIdx_getElem (w:=h)
  have h2:l.any φ=true:=List.any_eq_true.2 ⟨_,List.getElem_mem h,this⟩
  rw [h2];simp
 ·rename_i h
  have h2:l.any φ=false:=by
   rw [List.any_eq_false]
   intro x hx hp
   exact h (List.findIdx_lt_length_of_exists ⟨x,hx,hp⟩)
  rw [h2];simp
structure Nw where
 h:Int
 l:List (Int×Int)
 n:List (Int×Bool)
 s:List (List Int)
abbrev prV (x:Int×Int):PV := .agg [I x.1,I x.2]
abbrev ntV (x:Int×Bool):PV := .agg [I x.1,.bool x.2]
abbrev prs (l:List (Int×Int)):PV := .sl (l.map prV)
abbrev zKs (l:List Int):PV := .own 1 (l.map I)
abbrev nwV (n:Nw):PV := .agg [I n.h,.sl (n.l.map prV),.sl (n.n.map ntV),.sl (n.s.map zBi)]
abbrev nwO (n:Nw):PV := .agg [I n.h,.own 2 (n.l.map prV),.own 2 (n.n.map ntV),.own 1 (n.s.map zKs)]
instance:FrzOf zKs zBi:=⟨fun x=>by simp only [zAS,zFP]⟩
def inB (n lo hi:Int):Bool:=decide (lo≤n)&&decide (n≤hi)
def pr2 (x:Int×Int):Int×Int:=(if x.2<x.1 then x.2 else x.1,if x.2>x.1 then x.2 else x.1)
abbrev FG [Yo] (f:FuncId) (args:List PV) (v:PV):Prop:=zBD Try.prog zBO f args [] v []
section
variable [Yo]
theorem f63 (n lo hi:Int):FG 63 [I n,I lo,I hi] (.bool (inB n lo hi)):=by
 refine zAe Try.f63 ?_
 refine zAd 1<|zAa<|zAd 4<|zIR 10 (n≥lo) (fun k0=>(zAc 5<|zAa<|zAn<|E_a [] an (PV.bool (decide (n≤hi))) [] ?_ rfl)) (fun k0=>(zAc 5<|zAa<|zAn<|E_a [] an (PV.bool false) [] ?_ rfl))
 ·simp only [inB,decide_eq_true k0,Bool.true_and]
 ·simp only [inB,decide_eq_false k0,Bool.false_and]
theorem f94 (n k:Int):FG 94 [I n,.sl [I k]] (I (max n k)):=by
 refine zAe Try.f94 ?_
 refine zAd 1<|zAa<|zAh<|zAd 1<|zAc 1<|zAc 1<|zAa<|zAk 0 ?_
 refine zAz (fun (i,v)=>i=0∧v=n∨i=1∧v=if k>n then k else n) (fun (i,v)=>[(0,I v),(9,I (i:Nat))]) (fun (i,_)=>1-i) ((0:Nat),n) (.inl ⟨rfl,rfl⟩) fun (i,v) hi=>?_
 rcases hi with ⟨rfl,rfl⟩ | ⟨rfl,rfl⟩
 ·refine zAd 1<|zAa<|zAh<|zEb<|zAl<|zAh<|zAk 1<|zAd 3<|zAa<|zAg<|zAc 4<|zAa<|zAg<|zAc 2<|zAa ?_
  exact ⟨(1,if k>v then k else v),.inr ⟨rfl,rfl⟩,by simp only;omega,by kernel_rfl,by kernel_rfl⟩
 ·refine zAd 1<|zAa<|zAh<|zAN<|zAO 0<|zAd 2<|zAa<|zAn<|E_a [] an (I (if k>n then k else n)) [] ?_ rfl
  rw [Int.max_def]
  by_cases h:k>n
  ·rw [if_pos h,if_pos (by omega)]
  ·rw [if_neg h];split
   ·have:n=k:=by omega
    rw [this]
   ·rfl
theorem f93 (x:Int×Int):FG 93 [prV x] (prV (pr2 x)):=by
 refine zAe Try.f93 ?_
 refine zAd 2<|zAa<|zAd 1<|zAc 1<|zAc 1<|zAc 2<|zAc 1<|zAc 1<|zAc 1<|zAc 4<|zAa<|zAn<|E_a [] an (PV.agg [I (if x.snd<x.fst then x.snd else x.fst),I (if x.snd>x.fst then x.snd else x.fst)]) [] rfl rfl
theorem f69 (n:Nw) (x:Int) (hb:1≤n.h∧n.h≤10):FG 69 [nwV n,I x] (.bool (inB x 0 (n.h-1))):=by
 refine zAe Try.f69 ?_
 refine zAd 2<|zAa<|zAd 3<|S_a [(1,.v (I (n.h-1)))] (ap ((zCq rfl (by omega)):I (IntKind.i64.wrap (n.h-1))=I (n.h-1)) an)<|S_a [(10,.ret (PV.bool (inB x 0 (n.h-1))) [])] (ap (f63 x (0) (n.h-1)) an)<|zAc 1<|zAa<|zAn<|E_a [] an (PV.bool (inB x 0 (n.h-1))) [] rfl rfl
theorem f73 (n:Nw) (x:Int) (hb:n.n.length≤8):FG 73 [nwV n,I x] (.bool (inB x 0 (n.n.length-1))):=by
 refine zAe Try.f73 ?_
 refine zAd 2<|zAa<|zAd 3<|S_a [(0,.n n.n.length)] (ap (lnS ntV n.n) an)<|S_a [(1,.v (I ((↑n.n.length:Int)-1)))] (ap ((zCq rfl (by omega)):I (IntKind.i64.wrap ((↑n.n.length:Int)-1))=I ((↑n.n.length:Int)-1)) an)<|S_a [(10,.ret (PV.bool (inB x 0 ((↑n.n.length:Int)-1))) [])] (ap (f63 x (0) ((↑n.n.length:Int)-1)) an)<|zAc 1<|zAa<|zAn<|E_a [] an (PV.bool (inB x 0 ((↑n.n.length:Int)-1))) [] rfl rfl
end
end Go.Eng
namespace Go.Eng
open Go
end Go.Eng
namespace Go.Eng
open Go Go.Proofs
abbrev u8 (n:Int):PV := .int .u8 n
abbrev u32 (n:Int):PV := .int .u32 n
abbrev zB3 (l:List Int) (a:Nat) (t:Int):PV := .box (.agg [.sl (l.map u8),I a,u32 t])
abbrev zPU:PV := .addr 50000000 [] 0 0 (some 3)
def zDS (l:List Int) (a:Nat):Prop:=a≤l.length∧l.length<9223372036854775808
def zGh (l:List Int) (a:Nat):Nat:=if a=l.length then 0 else a
def zAI (l:List Int) (a:Nat) (t:Int):Int:=if a=l.length then IntKind.u32.wrap (t+1) else t
def zAD (l:List Int) (a:Nat):Nat:=if 0<l.length then zGh l a+1 else zGh l a
theorem zCE {l:List Int} {a:Nat} (h:zDS l a):zDS l (zAD l a):=by
 obtain ⟨h1,h2⟩:=h
 refine ⟨?_,h2⟩
 unfold zAD zGh
 repeat' split
 all_goals omega
def zPo (n:Int):Int:=IntKind.u32.wrap ↑(BitVec.ofInt IntKind.u32.bits (IntKind.u32.wrap ↑(BitVec.ofInt IntKind.u32.bits n ^^^ BitVec.ofInt IntKind.u32.bits (n.fdiv (2 ^ min (Int.toNat 7) IntKind.u32.bits))).toNat) &&& BitVec.ofInt IntKind.u32.bits 65535).toNat
theorem zOU (n:Int):0≤zPo n∧zPo n≤65535:=by
 unfold zPo
 generalize BitVec.ofInt IntKind.u32.bits (IntKind.u32.wrap ↑(BitVec.ofInt IntKind.u32.bits n ^^^ BitVec.ofInt IntKind.u32.bits (n.fdiv (2 ^ min (Int.toNat 7) IntKind.u32.bits))).toNat)=x
 have h:(x &&& BitVec.ofInt IntKind.u32.bits 65535).toNat≤65535:=by
  rw [BitVec.toNat_and]
  exact Nat.le_trans Nat.and_le_right (by decide)
 generalize (x &&& BitVec.ofInt IntKind.u32.bits 65535).toNat=m at h
 have:IntKind.u32.wrap (m:Int)=m:=by
  simp only [IntKind.wrap]
  simp [IntKind.signed,IntKind.bits]
  omega
 rw [this];omega
def zHm (l:List Int) (a:Nat) (t:Int):Int:=zPo (if 0<l.length then IntKind.u32.wrap (IntKind.u32.wrap (30011*zAI l a t)+IntKind.u32.wrap (263*IntKind.u32.wrap (l.getD (zGh l a) 0))) else IntKind.u32.wrap (30011*zAI l a t))
theorem zSC (l:List Int) (a:Nat) (t:Int):0≤zHm l a t∧zHm l a t≤65535:=zOU _
def zAq (l:List Int) (a:Nat) (t:Int) (n:Int):Int:=(zHm l a t).tmod (max 1 (n+1))
theorem zCF (l:List Int) (a:Nat) (t:Int) (n:Int):0≤zAq l a t n∧zAq l a t n≤max 0 n:=by
 have h1:=zSC l a t
 have h2:0<max 1 (n+1):=by omega
 have h3:=Int.tmod_nonneg (max 1 (n+1)) h1.1
 have h4:=Int.tmod_lt_of_pos (zHm l a t) h2
 unfold zAq
 omega
section
variable [Yo]
theorem f7 (l:List Int):FG 7 [.sl (l.map u8)] (zB3 l 0 0):=by
 refine zAe Try.f7 ?_
 refine zAd 1<|zAa<|zAd 4<|zAa<|zAn<|E_a [] an ((PV.agg [PV.sl (List.map u8 l),I 0,PV.int IntKind.u32 0]).box) [] rfl rfl
theorem f79 (l:List Int) (a:Nat) (t:Int) (h:zDS l a):zBD Try.prog zBO 79 [zPU] [zB3 l a t] (I (zHm l a t)) [zB3 l (zAD l a) (zAI l a t)]:=by
 refine zAe Try.f79 ?_
 have h1:=h.1
 have h2:=h.2
 have hb:∀ n,-9223372036854775808≤zPo n∧zPo n<9223372036854775808:=fun n=>by have:=zOU n;omega
 refine zAd 1<|zAa<|zAh<|zAd 8<|S_a [(0,.n l.length)] (ap (lnS u8 l) an)<|zAc 1<|zAa<|zDa ((↑a:Int)=(↑l.length:Int)) (fun k0=>(zAg<|zAc 6<|zAc 1<|zAc 6<|zAa<|zAd 3<|zAc 1<|zAc 1<|zAc 1<|zAa<|zAh<|zAd 4<|S_a [(0,.n l.length)] (ap (lnS u8 l) an)<|zAc 1<|zAa<|zDa ((↑l.length:Int)>0) (fun k1=>(zAd 9<|S_a [(2,.v (PV.int IntKind.u8 (l.getD 0 0)))] (ap (zCG (0) (by omega):(List.map u8 l)[0]? = some (PV.int IntKind.u8 (l.getD 0 0))) an)<|zAc 1<|zAc 1<|zAc 1<|zAc 1<|zAc 1<|zAa<|zAg<|zAc 8<|zAa<|zAd 2<|zAc 1<|zAc 1<|zAc 1<|S_a [(0,.v (I (IntKind.u32.wrap (↑(BitVec.ofInt IntKind.u32.bits (IntKind.u32.wrap (↑(BitVec.ofInt IntKind.u32.bits (IntKind.u32.wrap (IntKind.u32.wrap (30011*IntKind.u32.wrap (t+1))+IntKind.u32.wrap (263*IntKind.u32.wrap (l.getD 0 0)))) ^^^ BitVec.ofInt IntKind.u32.bits ((IntKind.u32.wrap (IntKind.u32.wrap (30011*IntKind.u32.wrap (t+1))+IntKind.u32.wrap (263*IntKind.u32.wrap (l.getD 0 0)))).fdiv (2 ^ min (Int.toNat 7) IntKind.u32.bits))).toNat:Int)) &&& BitVec.ofInt IntKind.u32.bits 65535).toNat:Int))))] (ap ((zCq rfl ?_):I (IntKind.i64.wrap (IntKind.u32.wrap (↑(BitVec.ofInt IntKind.u32.bits (IntKind.u32.wrap (↑(BitVec.ofInt IntKind.u32.bits (IntKind.u32.wrap (IntKind.u32.wrap (30011*IntKind.u32.wrap (t+1))+IntKind.u32.wrap (263*IntKind.u32.wrap (l.getD 0 0)))) ^^^ BitVec.ofInt IntKind.u32.bits ((IntKind.u32.wrap (IntKind.u32.wrap (30011*IntKind.u32.wrap (t+1))+IntKind.u32.wrap (263*IntKind.u32.wrap (l.getD 0 0)))).fdiv (2 ^ min (Int.toNat 7) IntKind.u32.bits))).toNat:Int)) &&& BitVec.ofInt IntKind.u32.bits 65535).toNat:Int)))=I (IntKind.u32.wrap (↑(BitVec.ofInt IntKind.u32.bits (IntKind.u32.wrap (↑(BitVec.ofInt IntKind.u32.bits (IntKind.u32.wrap (IntKind.u32.wrap (30011*IntKind.u32.wrap (t+1))+IntKind.u32.wrap (263*IntKind.u32.wrap (l.getD 0 0)))) ^^^ BitVec.ofInt IntKind.u32.bits ((IntKind.u32.wrap (IntKind.u32.wrap (30011*IntKind.u32.wrap (t+1))+IntKind.u32.wrap (263*IntKind.u32.wrap (l.getD 0 0)))).fdiv (2 ^ min (Int.toNat 7) IntKind.u32.bits))).toNat:Int)) &&& BitVec.ofInt IntKind.u32.bits 65535).toNat:Int))) an)<|zAc 1<|zAa<|zAn<|E_a [] an (I (IntKind.u32.wrap (↑(BitVec.ofInt IntKind.u32.bits (IntKind.u32.wrap (↑(BitVec.ofInt IntKind.u32.bits (IntKind.u32.wrap (IntKind.u32.wrap (30011*IntKind.u32.wrap (t+1))+IntKind.u32.wrap (263*IntKind.u32.wrap (l.getD 0 0)))) ^^^ BitVec.ofInt IntKind.u32.bits ((IntKind.u32.wrap (IntKind.u32.wrap (30011*IntKind.u32.wrap (t+1))+IntKind.u32.wrap (263*IntKind.u32.wrap (l.getD 0 0)))).fdiv (2 ^ min (Int.toNat 7) IntKind.u32.bits))).toNat:Int)) &&& BitVec.ofInt IntKind.u32.bits 65535).toNat:Int))) ([(PV.agg [PV.sl (List.map u8 l),I (IntKind.i64.wrap (0+1)),PV.int IntKind.u32 (IntKind.u32.wrap (t+1))]).box]) ?_ ?_)) (fun k1=>(zAl<|zAd 2<|zAc 1<|zAc 1<|zAc 1<|S_a [(0,.v (I (IntKind.u32.wrap (↑(BitVec.ofInt IntKind.u32.bits (IntKind.u32.wrap (↑(BitVec.ofInt IntKind.u32.bits (IntKind.u32.wrap (30011*IntKind.u32.wrap (t+1))) ^^^ BitVec.ofInt IntKind.u32.bits ((IntKind.u32.wrap (30011*IntKind.u32.wrap (t+1))).fdiv (2 ^ min (Int.toNat 7) IntKind.u32.bits))).toNat:Int)) &&& BitVec.ofInt IntKind.u32.bits 65535).toNat:Int))))] (ap ((zCq rfl ?_):I (IntKind.i64.wrap (IntKind.u32.wrap (↑(BitVec.ofInt IntKind.u32.bits (IntKind.u32.wrap (↑(BitVec.ofInt IntKind.u32.bits (IntKind.u32.wrap (30011*IntKind.u32.wrap (t+1))) ^^^ BitVec.ofInt IntKind.u32.bits ((IntKind.u32.wrap (30011*IntKind.u32.wrap (t+1))).fdiv (2 ^ min (Int.toNat 7) IntKind.u32.bits))).toNat:Int)) &&& BitVec.ofInt IntKind.u32.bits 65535).toNat:Int)))=I (IntKind.u32.wrap (↑(BitVec.ofInt IntKind.u32.bits (IntKind.u32.wrap (↑(BitVec.ofInt IntKind.u32.bits (IntKind.u32.wrap (30011*IntKind.u32.wrap (t+1))) ^^^ BitVec.ofInt IntKind.u32.bits ((IntKind.u32.wrap (30011*IntKind.u32.wrap (t+1))).fdiv (2 ^ min (Int.toNat 7) IntKind.u32.bits))).toNat:Int)) &&& BitVec.ofInt IntKind.u32.bits 65535).toNat:Int))) an)<|zAc 1<|zAa<|zAn<|E_a [] an (I (IntKind.u32.wrap (↑(BitVec.ofInt IntKind.u32.bits (IntKind.u32.wrap (↑(BitVec.ofInt IntKind.u32.bits (IntKind.u32.wrap (30011*IntKind.u32.wrap (t+1))) ^^^ BitVec.ofInt IntKind.u32.bits ((IntKind.u32.wrap (30011*IntKind.u32.wrap (t+1))).fdiv (2 ^ min (Int.toNat 7) IntKind.u32.bits))).toNat:Int)) &&& BitVec.ofInt IntKind.u32.bits 65535).toNat:Int))) ([(PV.agg [PV.sl (List.map u8 l),I 0,PV.int IntKind.u32 (IntKind.u32.wrap (t+1))]).box]) ?_ ?_)))) (fun k0=>(zAl<|zAd 4<|zAc 1<|zAc 1<|zAa<|zAh<|zAd 4<|S_a [(0,.n l.length)] (ap (lnS u8 l) an)<|zAc 1<|zAa<|zA5 ((↑l.length:Int)>0) (by omega)<|zAd 9<|S_a [(2,.v (PV.int IntKind.u8 (l.getD a 0)))] (ap (zCG (0) (by omega):(List.map u8 l)[a]? = some (PV.int IntKind.u8 (l.getD a 0))) an)<|zAc 1<|zAc 1<|zAc 1<|zAc 1<|zAc 1<|zAa<|zAg<|zAc 4<|S_a [(1,.v (I (↑(a+1):Int)))] (ap (wrN a) an)<|zAc 3<|zAa<|zAd 2<|zAc 1<|zAc 1<|zAc 1<|S_a [(0,.v (I (IntKind.u32.wrap (↑(BitVec.ofInt IntKind.u32.bits (IntKind.u32.wrap (↑(BitVec.ofInt IntKind.u32.bits (IntKind.u32.wrap (IntKind.u32.wrap (30011*t)+IntKind.u32.wrap (263*IntKind.u32.wrap (l.getD a 0)))) ^^^ BitVec.ofInt IntKind.u32.bits ((IntKind.u32.wrap (IntKind.u32.wrap (30011*t)+IntKind.u32.wrap (263*IntKind.u32.wrap (l.getD a 0)))).fdiv (2 ^ min (Int.toNat 7) IntKind.u32.bits))).toNat:Int)) &&& BitVec.ofInt IntKind.u32.bits 65535).toNat:Int))))] (ap ((zCq rfl ?_):I (IntKind.i64.wrap (IntKind.u32.wrap (↑(BitVec.ofInt IntKind.u32.bits (IntKind.u32.wrap (↑(BitVec.ofInt IntKind.u32.bits (IntKind.u32.wrap (IntKind.u32.wrap (30011*t)+IntKind.u32.wrap (263*IntKind.u32.wrap (l.getD a 0)))) ^^^ BitVec.ofInt IntKind.u32.bits ((IntKind.u32.wrap (IntKind.u32.wrap (30011*t)+IntKind.u32.wrap (263*IntKind.u32.wrap (l.getD a 0)))).fdiv (2 ^ min (Int.toNat 7) IntKind.u32.bits))).toNat:Int)) &&& BitVec.ofInt IntKind.u32.bits 65535).toNat:Int)))=I (IntKind.u32.wrap (↑(BitVec.ofInt IntKind.u32.bits (IntKind.u32.wrap (↑(BitVec.ofInt IntKind.u32.bits (IntKind.u32.wrap (IntKind.u32.wrap (30011*t)+IntKind.u32.wrap (263*IntKind.u32.wrap (l.getD a 0)))) ^^^ BitVec.ofInt IntKind.u32.bits ((IntKind.u32.wrap (IntKind.u32.wrap (30011*t)+IntKind.u32.wrap (263*IntKind.u32.wrap (l.getD a 0)))).fdiv (2 ^ min (Int.toNat 7) IntKind.u32.bits))).toNat:Int)) &&& BitVec.ofInt IntKind.u32.bits 65535).toNat:Int))) an)<|zAc 1<|zAa<|zAn<|E_a [] an (I (IntKind.u32.wrap (↑(BitVec.ofInt IntKind.u32.bits (IntKind.u32.wrap (↑(BitVec.ofInt IntKind.u32.bits (IntKind.u32.wrap (IntKind.u32.wrap (30011*t)+IntKind.u32.wrap (263*IntKind.u32.wrap (l.getD a 0)))) ^^^ BitVec.ofInt IntKind.u32.bits ((IntKind.u32.wrap (IntKind.u32.wrap (30011*t)+IntKind.u32.wrap (263*IntKind.u32.wrap (l.getD a 0)))).fdiv (2 ^ min (Int.toNat 7) IntKind.u32.bits))).toNat:Int)) &&& BitVec.ofInt IntKind.u32.bits 65535).toNat:Int))) ([(PV.agg [PV.sl (List.map u8 l),I (↑(a+1):Int),PV.int IntKind.u32 t]).box]) ?_ ?_))
 ·exact hb _
 ·have e1:a=l.length:=by omega
  have e2:0<l.length:=by omega
  simp only [zHm,zGh,zAI,e1,e2,if_true];rfl
 ·have e1:a=l.length:=by omega
  have e2:0<l.length:=by omega
  simp only [zAD,zGh,zAI,e1,e2,if_true];rfl
 ·exact hb _
 ·have e1:a=l.length:=by omega
  have e2:¬ 0<l.length:=by omega
  simp only [zHm,zGh,zAI,e1,e2,if_true,if_false];rfl
 ·have e1:a=l.length:=by omega
  have e2:¬ 0<l.length:=by omega
  simp only [zAD,zGh,zAI,e1,e2,if_true,if_false];rfl
 ·exact hb _
 ·have e1:¬ a=l.length:=by omega
  have e2:0<l.length:=by omega
  simp only [zHm,zGh,zAI,e1,e2,if_true,if_false];rfl
 ·have e1:¬ a=l.length:=by omega
  have e2:0<l.length:=by omega
  simp only [zAD,zGh,zAI,e1,e2,if_true,if_false]
theorem f38 (l:List Int) (a:Nat) (t:Int) (n:Int) (h:zDS l a) (hn : -9000000000000000000≤n∧n≤9000000000000000000):zBD Try.prog zBO 38 [zPU,I n] [zB3 l a t] (I (zAq l a t n)) [zB3 l (zAD l a) (zAI l a t)]:=by
 refine zAe Try.f38 ?_
 have e:(if n+1>1 then n+1 else 1)=max 1 (n+1):=by split<;>omega
 refine zAd 1<|zAa<|zAd 1<|S_a [(4,.ret (I (zHm l a t)) ([zB3 l (zAD l a) (zAI l a t)]))] (ap (f79 l a t (by omega)) an)<|zAc 1<|S_a [(1,.v (I (n+1)))] (ap ((zCq rfl (by omega)):I (IntKind.i64.wrap (n+1))=I (n+1)) an)<|zAc 1<|S_a [(0,.v (I ((zHm l a t).tmod (if n+1>1 then n+1 else 1))))] (ap (zV9 (by omega) rfl:zH4 Try.prog BinOp.rem 3 (I (zHm l a t)) (I (if n+1>1 then n+1 else 1))=some (I ((zHm l a t).tmod (if n+1>1 then n+1 else 1)))) an)<|zAc 1<|zAa<|zAn<|E_a [] an (I ((zHm l a t).tmod (if n+1>1 then n+1 else 1))) ([(PV.agg [PV.sl (List.map u8 l),I (↑(zAD l a):Int),PV.int IntKind.u32 (zAI l a t)]).box]) ?_ rfl
 rw [e];rfl
theorem f36 (l:List Int) (a:Nat) (t:Int) (lo hi:Int) (h:zDS l a) (hl:0≤lo∧lo≤1000000) (hn:0≤hi∧hi≤1000000):zBD Try.prog zBO 36 [zPU,I lo,I hi] [zB3 l a t] (I (lo+zAq l a t (hi-lo))) [zB3 l (zAD l a) (zAI l a t)]:=by
 refine zAe Try.f36 ?_
 have:=zCF l a t (hi-lo)
 refine zAd 1<|zAa<|zAd 4<|S_a [(1,.v (I (hi-lo)))] (ap ((zCq rfl (by omega)):I (IntKind.i64.wrap (hi-lo))=I (hi-lo)) an)<|S_a [(6,.ret (I (zAq l a t (hi-lo))) ([zB3 l (zAD l a) (zAI l a t)]))] (ap (f38 l a t (hi-lo) (by omega) (by omega)) an)<|S_a [(1,.v (I (lo+zAq l a t (hi-lo))))] (ap ((zCq rfl (by omega)):I (IntKind.i64.wrap (lo+zAq l a t (hi-lo)))=I (lo+zAq l a t (hi-lo))) an)<|zAc 1<|zAa<|zAn<|E_a [] an (I (lo+zAq l a t (hi-lo))) ([(PV.agg [PV.sl (List.map u8 l),I (↑(zAD l a):Int),PV.int IntKind.u32 (zAI l a t)]).box]) rfl rfl
theorem f37 (l:List Int) (a:Nat) (t:Int) (n:Int) (h:zDS l a) (hn:0≤n∧n≤1000000):zBD Try.prog zBO 37 [zPU,I n] [zB3 l a t] (.bool (decide (zAq l a t (n-1)=0))) [zB3 l (zAD l a) (zAI l a t)]:=by
 refine zAe Try.f37 ?_
 refine zAd 1<|zAa<|zAd 2<|S_a [(1,.v (I (n-1)))] (ap ((zCq rfl (by omega)):I (IntKind.i64.wrap (n-1))=I (n-1)) an)<|S_a [(6,.ret (I (zAq l a t (n-1))) ([zB3 l (zAD l a) (zAI l a t)]))] (ap (f38 l a t (n-1) (by omega) (by omega)) an)<|zAc 2<|zAa<|zAn<|E_a [] an (PV.bool (zAq l a t (n-1)==0)) ([(PV.agg [PV.sl (List.map u8 l),I (↑(zAD l a):Int),PV.int IntKind.u32 (zAI l a t)]).box]) rfl rfl
end
end Go.Eng
set_option maxRecDepth 10000
set_option maxHeartbeats 4000000
namespace Go.Eng
open Go Go.Proofs
def has {α:Type} [DecidableEq α] (l:List α) (x:α):Bool:=l.any fun y=>decide (x=y)
theorem zVC {α:Type} [DecidableEq α] {l:List α} {x:α}:has l x=decide (x∈l):=by
 rw [Bool.eq_iff_iff];simp [has]
theorem zV7 {x y:Int×Int}:(decide (x.1=y.1)&&decide (x.2=y.2))=decide (x=y):=by
 rw [Bool.eq_iff_iff];simp [Prod.ext_iff]
section
variable [Yo]
theorem f75 (l m:List (Int)) (hl:l.length<4294967296):FG 75 [.sl (l.map I),.sl (m.map I)] (.bool (decide (l=m))):=by
 refine zAe Try.f75 ?_
 refine zAd 1<|zAa<|zAh<|zAd 1<|S_a [(0,.n l.length)] (ap (lnS I l) an)<|zAc 1<|S_a [(0,.n m.length)] (ap (lnS I m) an)<|zAc 1<|zAa<|zD9 ((↑l.length:Int)=(↑m.length:Int)) (fun k0=>(zAd 1<|zAa<|zAn<|E_a [] an (PV.bool false) [] ?_ rfl)) (fun k0=>(zAl<|zAh<|zAd 1<|S_a [(0,.n l.length)] (ap (lnS I l) an)<|zAc 1<|zAa<|zAk 0 ?_))
 ·simp;intro h;subst h;simp at *
 refine zAz (fun i=>i≤l.length∧l.take i=m.take i) (fun i=>[(13,I (i:Nat))]) (fun i=>l.length-i) (0:Nat) (by simp) fun i ⟨hi,ha⟩=>?_
 refine zAd 1<|zAa<|zAh<|zDa ((↑i:Int)<(↑l.length:Int)) (fun k1=>(zAl<|zAh<|zAk 1<|zAd 2<|zAa<|zAd 2<|S_a [(2,.v (I (l.getD i 0)))] (ap (zCG (0) (by omega):(List.map I l)[i]? = some (I (l.getD i 0))) an)<|zAc 3<|S_a [(2,.v (I (m.getD i 0)))] (ap (zCG (0) (by omega):(List.map I m)[i]? = some (I (m.getD i 0))) an)<|zAc 2<|zAa<|zD9 (l.getD i 0=m.getD i 0) (fun k2=>(zAd 1<|zAa<|zAn<|E_a [] an (PV.bool false) [] ?_ rfl)) (fun k2=>(zAl<|zAg<|S_a [(1,.v (I (↑(i+1):Int)))] (ap (wrN i) an)<|zAc 1<|zAa ?_)))) (fun k1=>(zAO 0<|zAd 1<|zAa<|zAn<|E_a [] an (PV.bool true) [] ?_ rfl))
 ·simp;intro h;subst h;omega
 ·refine ⟨i+1,⟨by omega,?_⟩,by omega,by kernel_rfl,by kernel_rfl⟩
  exact zIO (d:=0) (by omega) (by omega) ha (by assumption)
 ·rw [List.take_of_length_le (by omega),List.take_of_length_le (by omega)] at ha
  simp [ha]
theorem f33 (l m:List (Int)) (hl:l.length<4294967296):FG 33 [.sl (l.map I),.sl (m.map I)] (.bool (decide (l=m))):=by
 refine zAe Try.f33 ?_
 refine zAd 1<|zAa<|zAd 2<|S_a [(8,.ret (PV.bool (decide (l=m))) [])] (ap (f75 l m (by omega)) an)<|zAc 1<|zAa<|zAn<|E_a [] an (PV.bool (decide (l=m))) [] rfl rfl
theorem f88 (l m:List (Int×Int)) (hl:l.length<4294967296):FG 88 [.sl (l.map prV),.sl (m.map prV)] (.bool (decide (l=m))):=by
 refine zAe Try.f88 ?_
 refine zAd 1<|zAa<|zAh<|zAd 1<|S_a [(0,.n l.length)] (ap (lnS prV l) an)<|zAc 1<|S_a [(0,.n m.length)] (ap (lnS prV m) an)<|zAc 1<|zAa<|zD9 ((↑l.length:Int)=(↑m.length:Int)) (fun k0=>(zAd 1<|zAa<|zAn<|E_a [] an (PV.bool false) [] ?_ rfl)) (fun k0=>(zAl<|zAh<|zAd 1<|S_a [(0,.n l.length)] (ap (lnS prV l) an)<|zAc 1<|zAa<|zAk 0 ?_))
 ·simp;intro h;subst h;simp at *
 refine zAz (fun i=>i≤l.length∧l.take i=m.take i) (fun i=>[(13,I (i:Nat))]) (fun i=>l.length-i) (0:Nat) (by simp) fun i ⟨hi,ha⟩=>?_
 refine zAd 1<|zAa<|zAh<|zDa ((↑i:Int)<(↑l.length:Int)) (fun k1=>(zAl<|zAh<|zAk 1<|zAd 2<|zAa<|zAd 2<|S_a [(2,.v (PV.agg [I (l.getD i default).fst,I (l.getD i default).snd]))] (ap (zCG default (by omega):(List.map prV l)[i]? = some (PV.agg [I (l.getD i default).fst,I (l.getD i default).snd])) an)<|zAc 3<|S_a [(2,.v (PV.agg [I (m.getD i default).fst,I (m.getD i default).snd]))] (ap (zCG default (by omega):(List.map prV m)[i]? = some (PV.agg [I (m.getD i default).fst,I (m.getD i default).snd])) an)<|zAc 1<|S_a [(0,.v (PV.bool !(decide ((l.getD i default).fst=(m.getD i default).fst)&&decide ((l.getD i default).snd=(m.getD i default).snd))))] (ap (zR5:zH4 Try.prog BinOp.neq 42 (PV.agg [I (l.getD i default).fst,I (l.getD i default).snd]) (PV.agg [I (m.getD i default).fst,I (m.getD i default).snd])=some (PV.bool !(decide ((l.getD i default).fst=(m.getD i default).fst)&&decide ((l.getD i default).snd=(m.getD i default).snd)))) an)<|zAa<|zED (!(decide ((l.getD i default).fst=(m.getD i default).fst)&&decide ((l.getD i default).snd=(m.getD i default).snd))) (fun k2=>(zAd 1<|zAa<|zAn<|E_a [] an (PV.bool false) [] ?_ rfl)) (fun k2=>(zAl<|zAg<|S_a [(1,.v (I (↑(i+1):Int)))] (ap (wrN i) an)<|zAc 1<|zAa ?_)))) (fun k1=>(zAO 0<|zAd 1<|zAa<|zAn<|E_a [] an (PV.bool true) [] ?_ rfl))
 ·simp;intro h;subst h;simp at *
 ·refine ⟨i+1,⟨by omega,?_⟩,by omega,by kernel_rfl,by kernel_rfl⟩
  exact zIO (d:=default) (by omega) (by omega) ha (by first | assumption | (simp only [Bool.not_eq_true,Bool.not_eq_false',Bool.and_eq_true,decide_eq_true_eq] at k2;exact Prod.ext k2.1 k2.2))
 ·rw [List.take_of_length_le (by omega),List.take_of_length_le (by omega)] at ha
  simp [ha]
theorem f50 (l m:List (Int×Int)) (hl:l.length<4294967296):FG 50 [.sl (l.map prV),.sl (m.map prV)] (.bool (decide (l=m))):=by
 refine zAe Try.f50 ?_
 refine zAd 1<|zAa<|zAd 2<|S_a [(8,.ret (PV.bool (decide (l=m))) [])] (ap (f88 l m (by omega)) an)<|zAc 1<|zAa<|zAn<|E_a [] an (PV.bool (decide (l=m))) [] rfl rfl
theorem f92 (l m:List (Int×Int)) (hl:l.length<4294967296):FG 92 [.sl (l.map prV),.sl (m.map prV)] (.bool (decide (l=m))):=by
 refine zAe Try.f92 ?_
 refine zAd 1<|zAa<|zAh<|zAd 1<|S_a [(0,.n l.length)] (ap (lnS prV l) an)<|zAc 1<|S_a [(0,.n m.length)] (ap (lnS prV m) an)<|zAc 1<|zAa<|zD9 ((↑l.length:Int)=(↑m.length:Int)) (fun k0=>(zAd 1<|zAa<|zAn<|E_a [] an (PV.bool false) [] ?_ rfl)) (fun k0=>(zAl<|zAh<|zAd 1<|S_a [(0,.n l.length)] (ap (lnS prV l) an)<|zAc 1<|zAa<|zAk 0 ?_))
 ·simp;intro h;subst h;simp at *
 refine zAz (fun i=>i≤l.length∧l.take i=m.take i) (fun i=>[(13,I (i:Nat))]) (fun i=>l.length-i) (0:Nat) (by simp) fun i ⟨hi,ha⟩=>?_
 refine zAd 1<|zAa<|zAh<|zDa ((↑i:Int)<(↑l.length:Int)) (fun k1=>(zAl<|zAh<|zAk 1<|zAd 2<|zAa<|zAd 2<|S_a [(2,.v (PV.agg [I (l.getD i default).fst,I (l.getD i default).snd]))] (ap (zCG default (by omega):(List.map prV l)[i]? = some (PV.agg [I (l.getD i default).fst,I (l.getD i default).snd])) an)<|zAc 3<|S_a [(2,.v (PV.agg [I (m.getD i default).fst,I (m.getD i default).snd]))] (ap (zCG default (by omega):(List.map prV m)[i]? = some (PV.agg [I (m.getD i default).fst,I (m.getD i default).snd])) an)<|zAc 1<|S_a [(0,.v (PV.bool !(decide ((l.getD i default).fst=(m.getD i default).fst)&&decide ((l.getD i default).snd=(m.getD i default).snd))))] (ap (zR5:zH4 Try.prog BinOp.neq 34 (PV.agg [I (l.getD i default).fst,I (l.getD i default).snd]) (PV.agg [I (m.getD i default).fst,I (m.getD i default).snd])=some (PV.bool !(decide ((l.getD i default).fst=(m.getD i default).fst)&&decide ((l.getD i default).snd=(m.getD i default).snd)))) an)<|zAa<|zED (!(decide ((l.getD i default).fst=(m.getD i default).fst)&&decide ((l.getD i default).snd=(m.getD i default).snd))) (fun k2=>(zAd 1<|zAa<|zAn<|E_a [] an (PV.bool false) [] ?_ rfl)) (fun k2=>(zAl<|zAg<|S_a [(1,.v (I (↑(i+1):Int)))] (ap (wrN i) an)<|zAc 1<|zAa ?_)))) (fun k1=>(zAO 0<|zAd 1<|zAa<|zAn<|E_a [] an (PV.bool true) [] ?_ rfl))
 ·simp;intro h;subst h;simp at *
 ·refine ⟨i+1,⟨by omega,?_⟩,by omega,by kernel_rfl,by kernel_rfl⟩
  exact zIO (d:=default) (by omega) (by omega) ha (by first | assumption | (simp only [Bool.not_eq_true,Bool.not_eq_false',Bool.and_eq_true,decide_eq_true_eq] at k2;exact Prod.ext k2.1 k2.2))
 ·rw [List.take_of_length_le (by omega),List.take_of_length_le (by omega)] at ha
  simp [ha]
theorem f53 (l m:List (Int×Int)) (hl:l.length<4294967296):FG 53 [.sl (l.map prV),.sl (m.map prV)] (.bool (decide (l=m))):=by
 refine zAe Try.f53 ?_
 refine zAd 1<|zAa<|zAd 2<|S_a [(8,.ret (PV.bool (decide (l=m))) [])] (ap (f92 l m (by omega)) an)<|zAc 1<|zAa<|zAn<|E_a [] an (PV.bool (decide (l=m))) [] rfl rfl
theorem f58 (l:List (Int)) (x:Int) (hl:l.length<4294967296):FG 58 [.sl (l.map I),I x] (I (zD4 (fun y=>decide (x=y)) l)):=by
 refine zAe Try.f58 ?_
 refine zAd 1<|zAa<|zAh<|zAd 1<|S_a [(0,.n l.length)] (ap (lnS I l) an)<|zAc 1<|zAa<|zAk 0 ?_
 refine zAz (fun i=>i≤l.length∧∀ j,j<i→decide (x=l.getD j 0)=false) (fun i=>[(8,I (i:Nat))]) (fun i=>l.length-i) (0:Nat) (by simp) fun i ⟨hi,ha⟩=>?_
 refine zAd 1<|zAa<|zAh<|zDa ((↑i:Int)<(↑l.length:Int)) (fun k0=>(zAl<|zAh<|zAk 1<|zAd 2<|zAa<|zAd 3<|S_a [(2,.v (I (l.getD i 0)))] (ap (zCG (0) (by omega):(List.map I l)[i]? = some (I (l.getD i 0))) an)<|zAc 2<|zAa<|zDa (x=l.getD i 0) (fun k1=>(zAd 2<|zAa<|zAn<|E_a [] an (I (↑i:Int)) [] ?_ rfl)) (fun k1=>(zAl<|zAg<|S_a [(1,.v (I (↑(i+1):Int)))] (ap (wrN i) an)<|zAc 1<|zAa ?_)))) (fun k0=>(zAO 0<|zAd 1<|zAa<|zAn<|E_a [] an (I (-1)) [] ?_ rfl))
 ·rw [zBN (i:=i) (by omega) (fun j hj=>by rw [← zAB (d:=0)];exact ha j hj) (by rw [← zAB (d:=0)];simp only [decide_eq_true_eq,decide_eq_false_iff_not] at *;omega)]
 ·refine ⟨i+1,⟨by omega,fun j hj=>?_⟩,by omega,by kernel_rfl,by kernel_rfl⟩
  rcases Nat.lt_succ_iff_lt_or_eq.1 hj with h | rfl
  ·exact ha j h
  ·simp only [decide_eq_true_eq,decide_eq_false_iff_not] at *;omega
 ·rw [zB2 fun j hj=>by rw [← zAB (d:=0)];exact ha j (by omega)]
theorem f20 (l:List (Int)) (x:Int) (hl:l.length<4294967296):FG 20 [.sl (l.map I),I x] (.bool (has l x)):=by
 refine zAe Try.f20 ?_
 refine zAd 1<|zAa<|zAd 2<|S_a [(8,.ret (I (zD4 (fun y=>decide (x=y)) l)) [])] (ap (f58 l x (by omega)) an)<|zAc 2<|zAa<|zAn<|E_a [] an (PV.bool (decide (zD4 (fun y=>decide (x=y)) l≥0))) [] ?_ rfl
 rw [zDB];rfl
theorem f71 (l:List (Int)) (hl:l.length<4294967296):FG 71 [.sl (l.map I)] (.own 1 (l.map I)):=zGq (fn:=Try.f71) I l (by omega)
theorem f117 (l:List (Int×Int)) (hl:l.length<4294967296):FG 117 [.sl (l.map prV)] (.own 2 (l.map prV)):=zGq (fn:=Try.f117) prV l (by omega)
theorem f115 (l:List (Int×Int)) (hl:l.length<4294967296):FG 115 [.sl (l.map prV)] (.own 2 (l.map prV)):=zGq (fn:=Try.f115) prV l (by omega)
theorem f95 (x:Int):FG 95 [I x] (.bool false):=by
 refine zAe Try.f95 ?_
 refine zAd 1<|zAa<|zAd 4<|zAa<|zAn<|E_a [] an (PV.bool (x != x)) [] (by simp [*]) rfl
theorem f56 (x y:Int):FG 56 [I x,I y] (.bool (decide (x<y))):=by
 refine zAe Try.f56 ?_
 refine zAd 1<|zAa<|zAd 1<|S_a [(6,.ret (PV.bool false) [])] (ap (f95 x) an)<|zAc 11<|zAa<|zAn<|E_a [] an (PV.bool (decide (x<y))) [] rfl rfl
end
end Go.Eng
set_option maxRecDepth 10000
set_option maxHeartbeats 4000000
namespace Go.Eng
open Go Go.Proofs
def zOL (o:List Int) (x:Int):List Int:=if o.getLast? = some x then o else o++[x]
def zFB (l:List Int):List Int:=l.foldl zOL []
theorem zL2 (o:List Int) (x:Int):(zOL o x).getLast? = some x:=by
 unfold zOL;split
 ·assumption
 ·simp
theorem zGM {l:List Int} {i:Nat} (h:i<l.length):zFB (l.take (i+1))=zOL (zFB (l.take i)) (l.getD i 0):=zER h
theorem zRm {l:List Int} {i:Nat} (h:i<l.length):(zFB (l.take (i+1))).getLast? = some (l.getD i 0):=by
 rw [zGM h];exact zL2 _ _
theorem zG6 {l:List Int} {i:Nat} (h0:0<i) (h:i<l.length):zFB (l.take (i+1))=if l.getD i 0=l.getD (i-1) 0 then zFB (l.take i) else zFB (l.take i)++[l.getD i 0]:=by
 obtain ⟨j,rfl⟩:∃ j,i=j+1:=⟨i-1,by omega⟩
 rw [zGM h,zOL,zRm (by omega)]
 simp only [Nat.add_sub_cancel,Option.some.injEq,eq_comm]
theorem zKQ {S:List Int} {p:Nat} {x:Int} (h:p<S.length):(S.set p x).take (p+1)=S.take p++[x]:=by
 rw [zDm (d:=0) (by simpa using h),List.take_set_of_le (Nat.le_refl p),zBZ,if_pos ⟨rfl,h⟩]
theorem zGQ {l:List Int}:∀ k,k≤l.length→(∀ j,1≤j→j<k→l.getD j 0≠l.getD (j-1) 0)→zFB (l.take k)=l.take k
 | 0,_,_=>rfl
 | k+1,hk,h=>by
  have ih:=zGQ k (by omega) fun j h1 h2=>h j h1 (by omega)
  cases k with
  | zero=>rw [zGM (by omega)];simp [zFB,zOL,zDm (d:=0) (show 0<l.length by omega)]
  | succ k=>rw [zG6 (by omega) (by omega),if_neg (h (k+1) (by omega) (by omega)),ih,← zDm (by omega)]
def zSb (l:List Int):Bool:=(List.range (l.length-1)).all fun j=>decide (l.getD j 0<l.getD (j+1) 0)
def zEE (l:List Int):Bool:=(List.range (l.length-1)).all fun j=>decide (l.getD j 0≤l.getD (j+1) 0)
section
variable [Yo]
theorem f17 (l:List Int) (hl:l.length<4294967296):FG 17 [zBi l] (.bool (zEE l)):=by
 refine zAe Try.f17 ?_
 refine zAd 1<|zAa<|zAh<|zAd 1<|S_a [(0,.n l.length)] (ap (lnS I l) an)<|S_a [(1,.v (I ((↑l.length:Int)-1)))] (ap ((zCq rfl (by omega)):I (IntKind.i64.wrap ((↑l.length:Int)-1))=I ((↑l.length:Int)-1)) an)<|zAc 1<|zAa<|zAk 0 ?_
 refine zAz (fun (x:Int)=>x<l.length∧∀ j:Nat,x<j→j<l.length→0<j→l.getD (j-1) 0≤l.getD j 0) (fun x=>[(3,I x)]) (fun x=>x.toNat) ((l.length:Int)-1) ⟨by omega,fun j h1 h2=>by omega⟩ fun x ⟨hi,ha⟩=>?_
 have e2:(x-1).toNat=x.toNat-1:=by omega
 by_cases h1:0<x
 ·refine zAh<|zAd 2<|zAa<|zA5 (x>0) (by omega)<|zAl<|zAh<|zAk 1<|zAd 2<|S_a [(0,.ob),(1,.v (I (l.getD x.toNat 0)))] (ap ((by exact zAp (by omega)):decide (0≤x)=true)<|ap (zCG (0) (by omega):(List.map I l)[x.toNat]? = some (I (l.getD x.toNat 0))) an)<|zAc 3<|S_a [(1,.v (I (x-1)))] (ap ((zCq rfl (by omega)):I (IntKind.i64.wrap (x-1))=I (x-1)) an)<|S_a [(0,.ob),(1,.v (I (l.getD (x-1).toNat 0)))] (ap ((by exact zAp (by omega)):decide (0≤x-1)=true)<|ap (zCG (0) (by omega):(List.map I l)[(x-1).toNat]? = some (I (l.getD (x-1).toNat 0))) an)<|zAc 1<|S_a [(8,.ret (PV.bool (decide (l.getD x.toNat 0<l.getD (x-1).toNat 0))) [])] (ap (f56 (l.getD x.toNat 0) (l.getD (x-1).toNat 0)) an)<|zAa<|zDa (l.getD x.toNat 0<l.getD (x-1).toNat 0) (fun k0=>(zAd 1<|zAa<|zAn<|E_a [] an (PV.bool false) [] ?_ rfl)) (fun k0=>(zAl<|zAg<|zAc 1<|S_a [(1,.v (I (x-1)))] (ap ((zCq rfl (by omega)):I (IntKind.i64.wrap (x-1))=I (x-1)) an)<|zAc 1<|zAa ?_))
  ·rw [e2] at k0
   have:zEE l=false:=by
    simp only [zEE,List.all_eq_false]
    exact ⟨x.toNat-1,List.mem_range.2 (by omega),by rw [show x.toNat-1+1=x.toNat by omega];simp only [decide_eq_true_eq];omega⟩
   rw [this]
  ·rw [e2] at k0
   refine ⟨x-1,⟨by omega,fun j h3 h4 h5=>?_⟩,by omega,by kernel_rfl,by kernel_rfl⟩
   by_cases hj:j=x.toNat
   ·subst hj;omega
   ·exact ha j (by omega) h4 h5
 ·refine zAh<|zAd 2<|zAa<|zBd (x>0) (by omega)<|zAO 0<|zAd 1<|zAa<|zAn<|E_a [] an (PV.bool true) [] ?_ rfl
  have:zEE l=true:=by
   simp only [zEE,List.all_eq_true,List.mem_range,decide_eq_true_eq]
   exact fun j hj=>by have:=ha (j+1) (by omega) (by omega) (by omega);simpa using this
  rw [this]
theorem f54 (l:List Int) (hl:l.length<4294967296):FG 54 [.own 1 (l.map I)] (.own 1 ((zFB l).map I)):=by
 refine zAe Try.f54 ?_
 refine zAd 1<|zAa<|zAh<|zAd 1<|S_a [(0,.n l.length)] (ap (lnS I l) an)<|zAc 1<|zAa<|zDa ((↑l.length:Int)<2) (fun k0=>(zAd 1<|S_a [(2,.yes)] (ap ((by exact zBR (by simp<;>omega)):(Nat.beq 0 0&&(List.map I l).length.beq (List.map I l).length)=true) an)<|zAa<|zAn<|E_a [(1,.yes),(1,.v (PV.own 1 (List.map I l)))] (ap (blz (List.map I l))<|ap ((zA8 zBx):PV.own 1 (List.take (List.map I l).length (List.drop 0 (List.map I l)))=PV.own 1 (List.map I l)) an) (PV.own 1 (List.map I l)) [] ?_ rfl)) (fun k0=>(zAl<|zAh<|zAd 1<|zAa<|zAk 0 ?_))
 ·have:=zGQ (l:=l) l.length (Nat.le_refl _) fun j h1 h2=>by omega
  rw [List.take_length] at this
  rw [this]
 ·refine zAz (fun k=>1≤k∧k≤l.length∧∀ j,1≤j→j<k→l.getD j 0≠l.getD (j-1) 0) (fun k=>[(3,I (k:Nat))]) (fun k=>l.length-k) (1:Nat) ⟨by omega,by omega,fun j h1 h2=>absurd h1 (by omega)⟩ fun k ⟨jN,hk,ha⟩=>?_
  have jv:=zGQ k hk ha
  refine zAh<|zAd 2<|S_a [(0,.n l.length)] (ap (lnS I l) an)<|zAc 1<|zAa<|zDa ((↑k:Int)<(↑l.length:Int)) (fun k2=>(zAl<|zAh<|zAk 1<|zAd 2<|S_a [(2,.ob),(1,.n k)] (ap ((by exact zAp (by simp only [List.length_map,zzLn]<;>omega)):decide (k<(List.map I l).length)=true)<|ap ((by simp):some (0+k)=some k) an)<|S_a [(0,.cs false ([I (l.getD k 0)]))] (ap (zC8 (q:=PV.own 1 (List.map I l)) (xs:=List.map I l) (x:=I (l.getD k 0)) rfl (zCG (0) (by omega)):zAs 0 (PV.own 1 (List.map I l)) [] k 0 1=some (false,[I (l.getD k 0)])) an)<|zAc 2<|S_a [(1,.v (I (↑(k-1):Int)))] (ap ((zCq (by omega) (by omega)):I (IntKind.i64.wrap ((↑k:Int)-1))=I (↑(k-1):Int)) an)<|S_a [(2,.ob),(1,.n (k-1))] (ap ((by exact zAp (by simp only [List.length_map,zzLn]<;>omega)):decide (k-1<(List.map I l).length)=true)<|ap ((by simp):some (0+(k-1))=some (k-1)) an)<|S_a [(0,.cs false ([I (l.getD (k-1) 0)]))] (ap (zC8 (q:=PV.own 1 (List.map I l)) (xs:=List.map I l) (x:=I (l.getD (k-1) 0)) rfl (zCG (0) (by omega)):zAs 0 (PV.own 1 (List.map I l)) [] (k-1) 0 1=some (false,[I (l.getD (k-1) 0)])) an)<|zAc 1<|zAa<|zDa (l.getD k 0=l.getD (k-1) 0) (fun k3=>(zAd 2<|S_a [(3,.ob),(0,.yes),(0,.yes),(0,.v (PV.bor 0 [] 1 k (l.length-k)))] (ap ((by exact zBb (by simp only [List.length_map,zzLn,zAY]<;>omega)):k.ble (List.map I l).length=true)<|ap ((by exact zBb (by simp only [List.length_map,zzLn,zAY]<;>omega)):(List.map I l).length.ble (List.map I l).length=true)<|ap ((by simp<;>omega):(k.beq 0||k.blt (List.map I l).length)=true)<|ap ((by simp):PV.bor 0 [] 1 (0+k) ((List.map I l).length-k)=PV.bor 0 [] 1 k (l.length-k)) an)<|zAc 1<|zAa<|zAh<|zAd 1<|zAa<|zAk 2 ?_)) (fun k3=>(zAl<|zAg<|zAc 1<|S_a [(1,.v (I (↑(k+1):Int)))] (ap (wrN k) an)<|zAc 1<|zAa ?_)))) (fun k2=>(zAO 0<|zAd 1<|S_a [(2,.yes)] (ap ((by exact zBR (by simp<;>omega)):(Nat.beq 0 0&&(List.map I l).length.beq (List.map I l).length)=true) an)<|zAa<|zAn<|E_a [(1,.yes),(1,.v (PV.own 1 (List.map I l)))] (ap (blz (List.map I l))<|ap ((zA8 zBx):PV.own 1 (List.take (List.map I l).length (List.drop 0 (List.map I l)))=PV.own 1 (List.map I l)) an) (PV.own 1 (List.map I l)) [] ?_ rfl))
  ·have e0:zFB (l.take (k+1))=l.take k:=by rw [zG6 (by omega) (by omega),if_pos k3,jv]
   clear ha jv
   refine zAz (fun (p,q,S)=>1≤q∧k+q≤l.length∧p<k+q∧S.length=l.length∧S.take p=zFB (l.take (k+q))∧∀ j,k+q≤j+1→S.getD j 0=l.getD j 0) (fun (p,q,S)=>[(0,.own 1 (S.map I)),(3,I (p:Nat)),(5,I (q:Nat))]) (fun (p,q,S)=>l.length-(k+q)) (k,(1:Nat),l) ⟨by omega,by omega,by omega,rfl,e0.symm,fun _ _=>rfl⟩ fun (p,q,S) ⟨hq,hkq,hp,hS,hc,hd⟩=>?_
   have uH:(zFB (l.take (k+q))).length=p:=by rw [← hc,List.length_take];omega
   by_cases vR:k+q<l.length
   ·have hx:=hd (k+q) (by omega)
    have hy:=hd (k+q-1) (by omega)
    have yH:=zG6 (l:=l) (i:=k+q) (by omega) vR
    have gI:=hd
    clear hd
    refine zAh<|zAd 4<|zAa<|zA5 ((↑q:Int)<(↑(l.length-k):Int)) (by omega)<|zAl<|zAh<|zAk 3<|zAd 2<|S_a [(2,.ob)] (ap ((by exact zAp (by omega)):decide (q<l.length-k)=true) an)<|S_a [(0,.cs false ([I (S.getD (k+q) 0)]))] (ap (zC8 (q:=PV.own 1 (List.map I S)) (xs:=List.map I S) (x:=I (S.getD (k+q) 0)) rfl (zCG (0) (by omega)):zAs 0 (PV.own 1 (List.map I S)) [] (k+(↑q:Int).toNat) 0 1=some (false,[I (S.getD (k+q) 0)])) an)<|zAc 2<|S_a [(1,.v (I (↑(q-1):Int)))] (ap ((zCq (by omega) (by omega)):I (IntKind.i64.wrap ((↑q:Int)-1))=I (↑(q-1):Int)) an)<|S_a [(2,.ob)] (ap ((by exact zAp (by omega)):decide (q-1<l.length-k)=true) an)<|S_a [(0,.cs false ([I (S.getD (k+(q-1)) 0)]))] (ap (zC8 (q:=PV.own 1 (List.map I S)) (xs:=List.map I S) (x:=I (S.getD (k+(q-1)) 0)) rfl (zCG (0) (by omega)):zAs 0 (PV.own 1 (List.map I S)) [] (k+(↑(q-1):Int).toNat) 0 1=some (false,[I (S.getD (k+(q-1)) 0)])) an)<|zAc 1<|zAa<|zD9 (S.getD (k+q) 0=S.getD (k+(q-1)) 0) (fun k4=>(zAd 4<|S_a [(2,.ob)] (ap ((by exact zAp (by omega)):decide (q<l.length-k)=true) an)<|S_a [(0,.cs false ([I (S.getD (k+q) 0)]))] (ap (zC8 (q:=PV.own 1 (List.map I S)) (xs:=List.map I S) (x:=I (S.getD (k+q) 0)) rfl (zCG (0) (by omega)):zAs 0 (PV.own 1 (List.map I S)) [] (k+(↑q:Int).toNat) 0 1=some (false,[I (S.getD (k+q) 0)])) an)<|S_a [(2,.ob),(1,.n p)] (ap ((by exact zAp (by simp only [List.length_map,zzLn]<;>omega)):decide (p<(List.map I S).length)=true)<|ap ((by simp):some (0+p)=some p) an)<|S_a [(8,.root (PV.own 1 (List.map I (S.set p (S.getD (k+q) 0)))) true)] (ap (zMg (zCG (0) (by omega)) zEl:zBw (PV.own 1 (List.map I S)) [] p 0 (I (S.getD (k+q) 0)).cells=some (PV.own 1 (List.map I (S.set p (S.getD (k+q) 0))))∧zAF (PV.own 1 (List.map I S)) (PV.own 1 (List.map I (S.set p (S.getD (k+q) 0)))) []=true) an)<|zAa<|zAg<|zAc 1<|S_a [(1,.v (I (↑(p+1):Int)))] (ap (wrN p) an)<|zAc 1<|zAa<|zAg<|zAc 1<|S_a [(1,.v (I (↑(q+1):Int)))] (ap (wrN q) an)<|zAc 1<|zAa ?_)) (fun k4=>(zAl<|zAg<|zAc 1<|S_a [(1,.v (I (↑(q+1):Int)))] (ap (wrN q) an)<|zAc 1<|zAa ?_))
    ·rw [show k+(q-1)=k+q-1 by omega,hx,hy] at k4
     rw [if_neg k4] at yH
     refine ⟨(p+1,q+1,S.set p (S.getD (k+q) 0)),⟨by omega,by omega,by omega,by simpa using hS,?_,fun j hj=>?_⟩,by simp only;omega,by kernel_rfl,by kernel_rfl⟩
     ·rw [← Nat.add_assoc,yH,← hc,hx,zKQ (by omega)]
     ·rw [zBZ,if_neg (by omega)];exact gI j (by omega)
    ·rw [show k+(q-1)=k+q-1 by omega,hx,hy] at k4
     rw [if_pos k4] at yH
     exact ⟨(p,q+1,S),⟨by omega,by omega,by omega,hS,by rw [← Nat.add_assoc,yH,hc],fun j hj=>gI j (by omega)⟩,by simp only;omega,by kernel_rfl,by kernel_rfl⟩
   ·refine zAh<|zAd 4<|zAa<|zBd ((↑q:Int)<(↑(l.length-k):Int)) (by omega)<|zAO 2<|zAd 2<|S_a [(3,.ob),(0,.yes),(0,.yes),(0,.v (PV.bor 0 [] 1 p (S.length-p)))] (ap ((by exact zBb (by simp only [List.length_map,zzLn,zAY]<;>omega)):p.ble (List.map I S).length=true)<|ap ((by exact zBb (by simp only [List.length_map,zzLn,zAY]<;>omega)):(List.map I S).length.ble (List.map I S).length=true)<|ap ((by simp<;>omega):(p.beq 0||p.blt (List.map I S).length)=true)<|ap ((by simp):PV.bor 0 [] 1 (0+p) ((List.map I S).length-p)=PV.bor 0 [] 1 p (S.length-p)) an)<|zRl (g:=I) (fun q=>q) 0 1 p (S.length-p) S (0) (by first | omega | (simp<;>omega)) ⟨rfl,rfl⟩ (fun _=>(by first | exact zOj | exact ⟨rfl,rfl,rfl,rfl,Nat.le_refl _,rfl⟩)) zSx.nil (zAa<|zAd 2<|S_a [(4,.yes)] (ap ((by exact zBb (by simp<;>omega)):p.ble (List.map I (List.take p S++List.replicate (S.length-p) 0++List.drop (p+(S.length-p)) S)).length=true) an)<|zAc 1<|zAa<|zAn<|E_a [(1,.yes),(1,.v (PV.own 1 (List.map I (List.take p (List.take p S++List.replicate (S.length-p) 0++List.drop (p+(S.length-p)) S)))))] (ap ((by exact zBb (by simp<;>omega)):(0+((↑p:Int).toNat-0)).ble (List.map I (List.take p S++List.replicate (S.length-p) 0++List.drop (p+(S.length-p)) S)).length=true)<|ap ((by simp):PV.own 1 (List.take p (List.drop 0 (List.map I (List.take p S++List.replicate (S.length-p) 0++List.drop (p+(S.length-p)) S))))=PV.own 1 (List.map I (List.take p (List.take p S++List.replicate (S.length-p) 0++List.drop (p+(S.length-p)) S)))) an) (PV.own 1 (List.map I (List.take p (List.take p S++List.replicate (S.length-p) 0++List.drop (p+(S.length-p)) S)))) [] ?_ rfl)
    rw [show k+q=l.length by omega,List.take_length] at hc
    rw [← hc,List.append_assoc,List.take_append_of_le_length (by rw [List.length_take];omega),List.take_take,Nat.min_self]
  ·refine ⟨k+1,⟨by omega,by omega,fun j h1 h2=>?_⟩,by omega,by kernel_rfl,by kernel_rfl⟩
   by_cases hj:j=k
   ·subst hj;assumption
   ·exact ha j h1 (by omega)
  ·rw [show k=l.length by omega,List.take_length] at jv
   rw [jv]
end
end Go.Eng
