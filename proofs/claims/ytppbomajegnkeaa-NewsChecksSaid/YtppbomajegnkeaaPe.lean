/- For whatever news and notice, the law NewsChecks returns true and changes no argument: the error of news, chains and the notices in force are as the reference tells them. -/
import Derived.Test.YtppbomajegnkeaaPd
import Derived.ProofKit
import Derived.ChangeArms
import Derived.Test.YtppbomajegnkeaaProg
import Derived.Test.YtppbomajegnkeaaPa
import Derived.Test.YtppbomajegnkeaaRows
set_option linter.unusedVariables false
set_option linter.unusedSimpArgs false
set_option linter.unusedSectionVars false
namespace Go.Eng
open Go Go.ChangeShapes Go.WideShapes Go.ChangeAt Go.RowKit
section
variable {H:Type} {enc:TypeId×Value→H} {P:Program}
theorem zND {f:Func} {s:ChangeSpec} {apart fresh jO again:Bool} {W W':World} {args:Array Value} {v:Value} {ds gs:List (DataW H)} {before pa pv:List MemPlace}
  (hW:DataW.Whole enc P f.params.toList s.vars apart W args.toList ds gs before)
  (y7:∀ (b:Nat) (sp:Nat→Bool) (hd:Bool),DataW.TrodAll enc P W' b sp hd f.resultTypes.toList (v.resultList f.resultTypes.size) (s.fn H (ds++gs)).results [])
  (yK:∀ sp:Nat→Bool,(∀ p∈before,sp p.block=true)→DataW.TrodAll enc P W' 0 sp true f.params.toList args.toList (s.fn H (ds++gs)).args pa)
  (ji:∀ sp:Nat→Bool,(∀ p∈before,sp p.block=true)→DataW.TrodVars enc P W' sp s.vars (s.fn H (ds++gs)).vars pv)
  (ya:before=pa++pv) (hold':∀ b,b<W.heap.size→W'.heap[b]? = W.heap[b]?) (hk:W.keptBut W' (· ∈ before))
  (yH:∀ (j:Nat) (t:TypeId) (r:Value),f.resultTypes[j]? = some t→(v.resultList f.resultTypes.size)[j]? = some r→Value.okWide P W' .any 0 t r) :
  s.post enc P f apart fresh jO again W args v W':=by
 have yI:=hW.lt
 have hold:∀ p∈before,(fun b=>decide (b<W.heap.size)) p.block=true:=fun p hp=>by simpa using yI p hp
 refine ⟨ds,gs,before,[],pa,pv,hW,y7 _ _ _,yK _ hold,ji _ hold,World.keptBut_mono (fun p hp=>⟨hp,?_⟩) hk,fun _=>?_⟩
 ·rw [ya,List.mem_append] at hp
  exact Or.inr hp
 ·obtain ⟨_,_,_,_,_,hz,hn⟩:=hW
  refine ⟨yH,_,_,([]++pa)++pv,⟨[]++pa,pv,trodAll_append (yK _ (fun _ _=>rfl)) (y7 _ _ _),ji _ (fun _ _=>rfl),rfl,?_,?_⟩,?_⟩
  ·intro b off hp
   have jc:MemPlace.cell b off∈before:=by rw [ya];simpa using hp
   have h1:=hz b off jc
   have h2:=yI _ jc
   unfold World.frozen? at h1 ⊢
   rw [hold' b h2];exact h1
  ·intro ha
   have:=hn ha
   rw [ya] at this
   simpa using this
  ·intro p hp _
   rw [ya]
   simpa using hp
theorem zG4 {W W':World} {sp':Nat→Bool} (hl:laidOutB P=true) (hb:Below W.heap.size W W'):∀ {ts:List TypeId} {vs:List Value} {ds:List (DataW H)} {ps:List MemPlace},(∀ t∈ts,P.readableRec t=true∧t<P.types.size)→DataW.TrodAll enc P W 0 (fun _=>true) true ts vs ds ps→(∀ x∈ps,x.block<W.heap.size)→(∀ x∈ps,sp' x.block=true) →
  DataW.TrodAll enc P W' 0 sp' true ts vs ds ps
 | [],vs,ds,ps,_,h,_,_=>by
  obtain ⟨rfl,rfl,rfl⟩:=trodAll_nil h
  exact trodAll_mk0
 | t::ts,vs,ds,ps,ht,h,yI,hs=>by
  obtain ⟨v,vs',d,ds',p,q,rfl,rfl,rfl,h1,h2⟩:=trodAll_cons h
  exact ⟨p,q,WideElems.Trod_stays hl (ht t (by simp)).1 (ht t (by simp)).2 h1 (fun x hx=>hb.same (yI x (by simp [hx]))) (fun x hx=>hs x (by simp [hx])),zG4 hl hb (fun t h=>ht t (by simp [h])) h2 (fun x hx=>yI x (by simp [hx])) (fun x hx=>hs x (by simp [hx])),rfl⟩
theorem zTp {f:Func} {s:ChangeSpec} {apart fresh jO again:Bool} {W W':World} {args:Array Value} {ds:List (DataW H)} {before:List MemPlace} {tb:TypeId} (hl:laidOutB P=true) (ji:s.vars=[]) (htb:P.underlying tb=some .bool) (wP:f.resultTypes=#[tb]) (uj:∀ t∈f.params.toList,P.readableRec t=true∧t<P.types.size)
  (uI:s.fn H ds={results:=[.lit (.bool true)],args:=ds}) (hW:DataW.Whole enc P f.params.toList s.vars apart W args.toList ds [] before)
  (h1:W.heap.size≤W'.heap.size) (h2:∀ b,b<W.heap.size→W'.heap[b]? = W.heap[b]?) (h3:W'.os=W.os) (h4:W'.tape=W.tape) (h5:W'.output=W.output):s.post enc P f apart fresh jO again W args (.bool true) W':=by
 have yI:=hW.lt
 have hb:Below W.heap.size W W':=⟨h3,h4,h5,h1,h2⟩
 obtain ⟨pa,pv,hA,hV,ya,hz,hn⟩:=id hW
 have hpv:pv=[]:=by
  rw [ji] at hV
  exact (trodVars_none hV).2
 subst hpv
 have hrl:(Value.bool true).resultList f.resultTypes.size=[.bool true]:=by rw [wP];rfl
 have gJ:s.fn H (ds++[])={results:=[.lit (.bool true)],args:=ds}:=by rw [List.append_nil];exact uI
 have wX:∀ x∈pa,x.block<W.heap.size:=fun x hx=>yI x (by rw [ya];simp [hx])
 refine zND (pa:=pa) (pv:=[]) hW (fun b sp hd=>?_) (fun sp yZ=>?_) (fun sp yZ=>?_) ya h2 ?_ ?_
 ·rw [hrl,wP,gJ];exact trodAll_mk1 (shut_bool htb true)
 ·rw [gJ];exact zG4 hl hb uj hA wX (fun x hx=>yZ x (by rw [ya];simp [hx]))
 ·rw [ji,gJ];rfl
 ·refine ⟨h3,h5,fun i hi=>?_⟩
  rw [h2 i hi]
  cases W.heap[i]? with
  | none=>rfl
  | some o=>cases o<;>first | exact ⟨rfl,rfl,rfl,fun _ _=>rfl⟩ | exact .inr ⟨rfl,rfl⟩ | rfl
 ·exact ok_one wP rfl (okWide_bool_mk htb true)
end
end Go.Eng
namespace Go.Eng
open Go
section
variable {w:World} {Φ:Nat→Prop} {A:Al}
end
end Go.Eng
namespace Go.Eng
open Go
section
variable {P:Program} {H:zBc}
theorem zRU {f:FuncId} {fn:Func} (h:P.funcs[f]? = some fn):fn∈P.funcs.toList:=by
 rw [← Array.getElem?_toList] at h
 exact List.mem_of_getElem? h
theorem zIs (h : (P.funcs.toList.all fun fn => !(fn.name == "runtime.NumGoroutine")) = true) : zEK P := fun f fn hf => by
  have:=List.all_eq_true.1 h fn (zRU hf)
  simpa using this
theorem zWi (h:((List.range P.funcs.size).all fun f=>bif Nat.beq (H f).intr 0 then (match P.funcs[f]? with
  | some fn=>zUD P fn
  | none=>true) else true)=true):Fit P H:=fun f fn hf hi=>by
 have yI:=(Array.getElem?_eq_some_iff.1 hf).1
 have:=List.all_eq_true.1 h f (List.mem_range.2 yI)
 rw [hi,hf] at this
 exact this
end
end Go.Eng
namespace Go.Eng
open Go Go.ChangeShapes Go.WideShapes Go.ChangeAt Go.RowKit
inductive Sh where
 | num (k:IntKind)
 | bool
 | list (ag:Bool) (parts:List Sh)
mutual
def zWI:Sh→PV→Prop
 | .num k,p=>∃ n,p = .int k n∧k.min≤n∧n≤k.max
 | .bool,p=>∃ b,p = .bool b
 | .list ag ss,p=>∃ xs,p = .sl xs∧xs.length≤maxLen∧∀ x∈xs,zCQ ss x.cells∧x.isAgg=ag
def zCQ:List Sh→List PV→Prop
 | [],ps=>ps=[]
 | s::ss,ps=>∃ p qs,ps=p::qs∧zWI s p∧zCQ ss qs
end
def zVp (P:Program) (t:TypeId):Bool :=
 match P.underlying t with
 | some (.struct _)=>true
 | some (.array ..)=>true
 | _=>false
def zWK (P:Program) (t:TypeId):Bool :=
 match P.underlying t with
 | some (.struct _)=>true
 | _=>false
def zHi (P:Program) (sh:TypeId→Option (List Sh)) (n:Nat):List Field→Nat→Option (List Sh)
 | [],off=>if off=n then some [] else none
 | f::fs,off=>if f.offset=off then match sh f.type with
  | some a=>if a.length=P.cellsOf f.type then (zHi P sh n fs (off+P.cellsOf f.type)).map (a++·) else none
  | none=>none else none
def zC7 (P:Program):Nat→TypeId→Option (List Sh)
 | 0,_=>none
 | n + 1,t=>match P.underlying t with
  | some (.int k)=>some [.num k]
  | some .bool=>some [.bool]
  | some (.slice e)=>match zC7 P n e with
   | some ss=>if ss.length=P.cellsOf e∧0<ss.length∧(zVp P e=true∨ss.length=1) then some [.list (zVp P e) ss] else none
   | none=>none
  | some (.struct fs)=>zHi P (zC7 P n) (P.cellsOf t) fs.toList 0
  | some (.array m e)=>match zC7 P n e with
   | some es=>if P.cellsOf t=m*P.cellsOf e then some (List.replicate m es).flatten else none
   | none=>none
  | _=>none
section
variable {H:Type} {enc:TypeId×Value→H} {P:Program} {w:World} {spare:Nat→Bool} {uB:Bool} {Φ:Nat→Prop} {base:Nat}
theorem zCQ.app:∀ {a b:List Sh} {p q:List PV},zCQ a p→zCQ b q→zCQ (a++b) (p++q)
 | [],b,p,q,h1,h2=>by simp only [zCQ] at h1;subst h1;exact h2
 | s::a,b,p,q,h1,h2=>by
  obtain ⟨x,xs,rfl,h3,h4⟩:=h1
  exact ⟨x,xs++q,rfl,h3,zCQ.app h4 h2⟩
theorem zCQ.length:∀ {a:List Sh} {p:List PV},zCQ a p→p.length=a.length
 | [],p,h=>by simp only [zCQ] at h;subst h;rfl
 | s::a,p,h=>by
  obtain ⟨x,xs,rfl,_,h4⟩:=h
  simp [zCQ.length h4]
theorem zMl {sh:TypeId→Option (List Sh)} {N n:Nat} {cs:List Value} (jY:cs.length=N) (ih:∀ t (vs:List Value) x ss,sh t=some ss→DataW.trod enc P w 0 spare uB n t vs=some x→∃ ps,zCQ ss ps∧zAS w Φ zB7 ps vs []) :
  ∀ (fs:List Field) (off:Nat) (ss:List Sh),zHi P sh N fs off=some ss→(∀ f∈fs,∃ y,DataW.trod enc P w 0 spare uB n f.type ((cs.drop f.offset).take (P.cellsOf f.type))=some y)→off≤N→∃ ps,zCQ ss ps∧zAS w Φ zB7 ps (cs.drop off) []
 | [],off,ss,h,_,yO=>by
  simp only [zHi] at h
  split at h
  ·rename_i he
   cases h
   exact ⟨[],rfl,by rw [List.drop_eq_nil_of_le (by omega)];exact ⟨rfl,rfl⟩⟩
  ·cases h
 | f :: fs,off,ss,h,hf,yO=>by
  simp only [zHi] at h
  split at h
  ·rename_i ho
   cases hs:sh f.type with
   | none=>rw [hs] at h;cases h
   | some a =>
    rw [hs] at h;simp only at h
    split at h
    ·rename_i uQ
     obtain ⟨b,hb,rfl⟩:=Option.map_eq_some_iff.1 h
     obtain ⟨y,hy⟩:=hf f (by simp)
     rw [ho] at hy
     obtain ⟨ps,h1,h2⟩:=ih _ _ _ _ hs hy
     have hl:=h2.length
     have uk:=h1.length
     simp only [List.length_take,List.length_drop] at hl
     have qn:off+P.cellsOf f.type≤N:=by omega
     obtain ⟨qs,h3,h4⟩:=zMl jY ih fs _ b hb (fun g hg=>hf g (by simp [hg])) qn
     refine ⟨ps++qs,h1.app h3,?_⟩
     have:=h2.append h4
     rw [← List.drop_drop,List.take_append_drop] at this
     exact this
    ·cases h
  ·cases h
theorem zRu {s:Nat} {ag:Bool} {ss:List Sh} (hs:0<s) (j3:ag=true∨s=1):∀ (len:Nat) (c:List Value),c.length=len*s→(∀ i,i<len→∃ ps,zCQ ss ps∧ps.length=s∧zAS w Φ zB7 ps ((c.drop (i*s)).take s) []) →
  ∃ (xs:List PV) (us:List Value),xs.length=len∧(∀ x∈xs,zCQ ss x.cells∧x.isAgg=ag∧x.cells.length=s)∧(∀ u∈us,u.cells.size=s)∧us.map zCg=xs.map PV.isAgg∧c=flat us∧zAS w Φ zB7 xs us []
 | 0,c,hc,_=>⟨[],[],rfl,by simp,by simp,rfl,by rw [Nat.zero_mul] at hc;rw [List.eq_nil_of_length_eq_zero hc];rfl,rfl,rfl⟩
 | len + 1,c,hc,h=>by
  obtain ⟨ps,h1,h2,h3⟩:=h 0 (by omega)
  simp only [Nat.zero_mul,List.drop_zero] at h3
  have yP:(c.take s).length=s:=by simp;rw [hc,Nat.add_mul];omega
  obtain ⟨xs,us,g1,g2,g3,g4,g5,g6⟩:=zRu hs j3 len (c.drop s) (by simp [hc,Nat.add_mul]) (fun i hi=>by
   obtain ⟨ps,h1,h2,h3⟩:=h (i+1) (by omega)
   refine ⟨ps,h1,h2,?_⟩
   rw [List.drop_drop,show s+i*s=(i+1)*s by rw [Nat.add_mul];omega];exact h3)
  have jD:c=c.take s++c.drop s:=(List.take_append_drop s c).symm
  cases ag with
  | true =>
   refine ⟨.agg ps::xs,.agg (c.take s).toArray::us,by simp [g1],fun x hx=>?_,fun u hu=>?_,by simp [zCg,PV.isAgg,g4],?_,⟨_,us,[],[],rfl,rfl,⟨_,rfl,by simpa using h3⟩,g6⟩⟩
   ·rcases List.mem_cons.1 hx with rfl | hx
    ·exact ⟨h1,rfl,h2⟩
    ·exact g2 x hx
   ·rcases List.mem_cons.1 hu with rfl | hu
    ·simpa [Value.cells] using yP
    ·exact g3 u hu
   ·conv=>lhs;rw [jD]
    rw [g5];rfl
  | false =>
   have uc:s=1:=by
    rcases j3 with h | h
    ·cases h
    ·exact h
   subst uc
   obtain ⟨p,rfl⟩:=List.length_eq_one_iff.1 h2
   obtain ⟨u,hu⟩:=List.length_eq_one_iff.1 yP
   rw [hu] at h3 jD
   obtain ⟨u',us',L1,L2,he,hL,h4,h5⟩:=h3
   cases he
   obtain ⟨rfl,rfl⟩:=List.append_eq_nil_iff.1 hL.symm
   have yN:p.isAgg=false∧p.cells=[p]∧u.cells=#[u]∧zCg u=false:=by
    obtain ⟨p',qs,hp,hfp,_⟩:∃ p' qs,[p]=p'::qs∧(∃ s,zWI s p')∧True:=by
     cases ss with
     | nil=>simp only [zCQ] at h1;cases h1
     | cons s ss=>obtain ⟨x,xs,h6,h7,_⟩:=h1;exact ⟨x,xs,h6,⟨s,h7⟩,trivial⟩
    cases hp
    obtain ⟨s,hfp⟩:=hfp
    cases s with
    | num k=>obtain ⟨n,rfl,_⟩:=hfp;obtain ⟨rfl,_⟩:=h4;exact ⟨rfl,rfl,rfl,rfl⟩
    | bool=>obtain ⟨n,rfl⟩:=hfp;obtain ⟨rfl,_⟩:=h4;exact ⟨rfl,rfl,rfl,rfl⟩
    | list ag' ss' =>
     obtain ⟨ys,rfl,_⟩:=hfp
     obtain ⟨_,⟨_,a,n,rfl,_⟩ | ⟨a,n,c',us',sz,rfl,_⟩⟩:=h4<;>exact ⟨rfl,rfl,rfl,rfl⟩
   refine ⟨p::xs,u::us,by simp [g1],fun x hx=>?_,fun v hv=>?_,by simp [yN.1,yN.2.2.2,g4],?_,⟨u,us,[],[],rfl,rfl,h4,g6⟩⟩
   ·rcases List.mem_cons.1 hx with rfl | hx
    ·rw [yN.2.1];exact ⟨h1,yN.1,rfl⟩
    ·exact g2 x hx
   ·rcases List.mem_cons.1 hv with rfl | hv
    ·rw [yN.2.2.1];rfl
    ·exact g3 v hv
   ·conv=>lhs;rw [jD]
    rw [g5];simp only [flat,List.flatMap_cons,yN.2.2.1]
theorem zS0 {n:Nat} {e t:TypeId} {fuel:Nat} {cs:List Value} {x:DataW H×List MemPlace} (ht:P.underlying t=some (.array n e)) (h:DataW.trod enc P w base spare uB fuel t cs=some x) :
  ∃ (xs:List (DataW H×List MemPlace)) (m:Nat),cs.length=P.cellsOf t∧xs.length=n∧∀ (i:Nat),i<n→DataW.trod enc P w base spare uB m e ((cs.drop (i*P.cellsOf e)).take (P.cellsOf e))=xs[i]?:=by
 cases fuel with
 | zero=>simp [DataW.trod] at h
 | succ m =>
  unfold DataW.trod at h
  rw [ht] at h
  split at h<;>simp_all
  obtain ⟨hl,xs,hp,hd⟩:=h
  exact ⟨xs,by simpa using mapM_some_length hp,m,fun i hi=>mapM_some_get hp i i (by simp [hi])⟩
theorem zTv {s:Nat} {es:List Sh}:∀ (n:Nat) (c:List Value),c.length=n*s→(∀ i,i<n→∃ ps,zCQ es ps∧zAS w Φ zB7 ps ((c.drop (i*s)).take s) [])→∃ ps,zCQ (List.replicate n es).flatten ps∧zAS w Φ zB7 ps c []
 | 0,c,hc,_=>⟨[],rfl,by rw [Nat.zero_mul] at hc;rw [List.eq_nil_of_length_eq_zero hc];exact ⟨rfl,rfl⟩⟩
 | n + 1,c,hc,h=>by
  obtain ⟨ps,h1,h2⟩:=h 0 (by omega)
  simp only [Nat.zero_mul,List.drop_zero] at h2
  obtain ⟨qs,h3,h4⟩:=zTv (s:=s) n (c.drop s) (by simp [hc,Nat.add_mul]) fun i hi=>by
   obtain ⟨ps,h1,h2⟩:=h (i+1) (by omega)
   refine ⟨ps,h1,?_⟩
   rw [List.drop_drop,show s+i*s=(i+1)*s by rw [Nat.add_mul];omega];exact h2
  refine ⟨ps++qs,?_,?_⟩
  ·rw [List.replicate_succ,List.flatten_cons];exact h1.app h3
  ·have:=h2.append h4
   rw [List.take_append_drop] at this
   exact this
theorem zLf : ∀ (n m:Nat) (t:TypeId) (vs:List Value) (x:DataW H×List MemPlace) (ss:List Sh),zC7 P n t=some ss→DataW.trod enc P w 0 spare uB m t vs=some x→∃ ps,zCQ ss ps∧zAS w (fun b=>b<w.heap.size) zB7 ps vs []
 | 0,m,t,vs,x,ss,h,_=>by cases h
 | n + 1, m, t,vs,x,ss,h,hx=>by
  simp only [zC7] at h
  split at h
  ·rename_i k ht
   cases h
   obtain ⟨i,rfl,_,hw⟩:=DataW.trod_int ht hx
   simp only [Lit.wf,Bool.and_eq_true,decide_eq_true_eq] at hw
   exact ⟨[.int k i],⟨_,[],rfl,⟨i,rfl,hw.1,hw.2⟩,rfl⟩,_,_,[],[],rfl,rfl,⟨rfl,rfl⟩,rfl,rfl⟩
  ·rename_i ht
   cases h
   obtain ⟨b,rfl,_⟩:=DataW.trod_bool ht hx
   exact ⟨[.bool b],⟨_,[],rfl,⟨b,rfl⟩,rfl⟩,_,_,[],[],rfl,rfl,⟨rfl,rfl⟩,rfl,rfl⟩
  ·rename_i e ht
   cases j4:zC7 P n e with
   | none=>rw [j4] at h;cases h
   | some es =>
    rw [j4] at h;simp only at h
    split at h
    ·rename_i hc
     cases h
     obtain ⟨jT,jD,uS⟩:=hc
     rcases DataW.trod_slice ht hx with ⟨rfl,_⟩ | ⟨a,len,cap,zW7,rest,k,_,rfl,_,_,hlc,hcm,yr,kF,_⟩
     ·exact ⟨[.sl []],⟨_,[],rfl,⟨[],rfl,Nat.zero_le _,by simp⟩,rfl⟩,_,_,[],[],rfl,rfl,⟨rfl,.inl ⟨rfl,_,_,rfl,fun _=>rfl⟩⟩,rfl,rfl⟩
     ·by_cases h0:len=0
      ·subst h0
       exact ⟨[.sl []],⟨_,[],rfl,⟨[],rfl,Nat.zero_le _,by simp⟩,rfl⟩,_,_,[],[],rfl,rfl,⟨rfl,.inl ⟨rfl,_,_,rfl,fun h=>by cases h⟩⟩,rfl,rfl⟩
      have zA6:∀ i,i<len→∃ (cs:List Value) (y:DataW H×List MemPlace),cs.length=P.cellsOf e∧(∀ j,j<P.cellsOf e→w.cell? ((a.add (i*P.cellsOf e)).add j)=cs[j]?)∧DataW.trod enc P w 0 spare uB k e cs=some y:=by
       intro i hi
       have:=kF i hi
       rw [List.getElem?_eq_getElem (by omega)] at this
       obtain ⟨cs,h1,h2⟩:=Option.bind_eq_some_iff.1 this
       obtain ⟨_,h3,h4⟩:=World.cells?_some h1
       exact ⟨cs,_,h3,h4,h2⟩
      obtain ⟨cs0,_,h00,h01,_⟩:=zA6 0 (by omega)
      have yQ:=h01 0 (by omega)
      rw [List.getElem?_eq_getElem (by omega)] at yQ
      have yZ:a.spot=none∧∃ row el fr,w.heap[a.block]? = some (.cells row el fr):=by
       simp only [Nat.zero_mul,Addr.add,if_true,World.cell?] at yQ
       cases hb:w.heap[a.block]? with
       | none=>rw [hb] at yQ;cases yQ
       | some o =>
        cases o<;>rw [hb] at yQ<;>simp only at yQ<;>try (cases yQ;done)
        rename_i row el fr
        cases hs:a.spot with
        | some s=>rw [hs] at yQ;cases yQ
        | none=>exact ⟨rfl,row,el,fr,rfl⟩
      obtain ⟨y1,row,el,fr,yE⟩:=yZ
      have ka:∀ i j,i<len→j<P.cellsOf e→w.cell? ((a.add (i*P.cellsOf e)).add j)=row[a.off+(i*P.cellsOf e+j)]?:=by
       intro i j hi hj
       have key:∀ m:Nat,(a.add m).block=a.block∧(a.add m).off=a.off+m∧(a.add m).spot=none:=by
        intro m
        unfold Addr.add
        split
        ·rename_i h;subst h;exact ⟨rfl,rfl,y1⟩
        ·exact ⟨rfl,rfl,by simp⟩
       have key2:∀ m j:Nat,w.cell? ((a.add m).add j)=row[a.off+(m+j)]?:=by
        intro m j
        obtain ⟨k1,k2,k3⟩:=key m
        by_cases h:j=0
        ·subst h
         simp only [Addr.add,if_true,World.cell?] at *
         rw [k1,yE];simp only;rw [k3,k2];simp
        ·have:(a.add m).add j=⟨a.block,a.off+m+j,none⟩:=by
          generalize a.add m=a1 at k1 k2 k3
          unfold Addr.add
          rw [if_neg h,k1,k2]
         rw [this]
         simp only [World.cell?,yE]
         rw [Nat.add_assoc];rfl
       exact key2 _ _
      have jj:=zRu (w:=w) (Φ:=fun b=>b<w.heap.size) (ss:=es) jD (by rw [jT] at uS ⊢;exact uS) len (seg row a.off (len*P.cellsOf e)) ?_ ?_
      ·obtain ⟨xs,us,g1,g2,g3,g4,g5,g6⟩:=jj
       refine ⟨[.sl xs],⟨_,[],rfl,⟨xs,rfl,by omega,fun x hx=>⟨(g2 x hx).1,(g2 x hx).2.1⟩⟩,rfl⟩,_,_,[],[],rfl,rfl,⟨rfl,.inr ⟨a,cap,row,us,P.cellsOf e,by rw [g1],y1,by omega,(Array.getElem?_eq_some_iff.1 yE).1,⟨el,fr,yE⟩,?_,⟨?_,g4⟩,by rw [g1];exact g5,g6⟩⟩,rfl,rfl⟩
       ·intro x hx;rw [← jT];exact (g2 x hx).2.2
       ·intro u hu;rw [← jT];exact g3 u hu
      ·
       have:=zA6 (len-1) (by omega)
       obtain ⟨cs,_,h1,h2,_⟩:=this
       have h3:=h2 (P.cellsOf e-1) (by omega)
       rw [ka _ _ (by omega) (by omega),List.getElem?_eq_getElem (by omega)] at h3
       have h4:=(Array.getElem?_eq_some_iff.1 h3).1
       have h5:(len-1)*P.cellsOf e+P.cellsOf e=len*P.cellsOf e:=by
        obtain ⟨l,rfl⟩:∃ l,len=l+1:=⟨len-1,by omega⟩
        rw [Nat.add_sub_cancel,Nat.add_mul];omega
       simp only [seg,List.length_take,List.length_drop,Array.length_toList,jT]
       omega
      ·intro i hi
       obtain ⟨cs,y,h1,h2,h3⟩:=zA6 i hi
       obtain ⟨ps,h4,h5⟩:=zLf n k e cs y es j4 h3
       refine ⟨ps,h4,by rw [h4.length],?_⟩
       have:((seg row a.off (len*P.cellsOf e)).drop (i*es.length)).take es.length=cs:=by
        rw [jT]
        apply List.ext_getElem?
        intro j
        have wZ:i*P.cellsOf e+P.cellsOf e≤len*P.cellsOf e:=by
         have:(i+1)*P.cellsOf e≤len*P.cellsOf e:=Nat.mul_le_mul_right _ (by omega)
         rw [Nat.add_mul] at this;omega
        simp only [seg,List.getElem?_take,List.getElem?_drop]
        split
        ·rename_i hj
         rw [if_pos (by omega),Array.getElem?_toList,← ka i j hi hj,h2 j hj]
        ·rw [List.getElem?_eq_none (by omega)]
       rw [this];exact h5
    ·cases h
  ·rename_i fs ht
   obtain ⟨xs,k,_,_,hl,vQ,hf⟩:=DataW.trod_struct ht hx
   obtain ⟨ps,h1,h2⟩:=zMl (Φ:=fun b=>b<w.heap.size) hl (fun t vs x ss h1 h2=>zLf n k t vs x ss h1 h2) fs.toList 0 ss h (fun f yi=>by
    obtain ⟨i,hi⟩:=List.getElem?_of_mem yi
    have ql:fs[i]? = some f:=by rw [← Array.getElem?_toList];exact hi
    have yI:=(Array.getElem?_eq_some_iff.1 ql).1
    exact ⟨xs[i]'(by omega), by rw [hf i f ql, List.getElem?_eq_getElem (by omega)]⟩) (Nat.zero_le _)
   exact ⟨ps,h1,by simpa using h2⟩
  ·rename_i m' e ht
   cases j4:zC7 P n e with
   | none=>rw [j4] at h;cases h
   | some es =>
    rw [j4] at h;simp only at h
    split at h
    ·rename_i hc
     cases h
     obtain ⟨xs,k,hl,vQ,hf⟩:=zS0 ht hx
     exact zTv m' vs (by rw [hl,hc]) fun i hi=>zLf n k e _ _ es j4 (by rw [hf i hi,List.getElem?_eq_getElem (by omega)])
    ·cases h
  ·cases h
def zU9 (x:Bool×List Sh) (p:PV):Prop:=if x.1 then ∃ cs,p = .agg cs∧zCQ x.2 cs else zCQ x.2 [p]
def zK6:List (Bool×List Sh)→List PV→Prop
 | [],ps=>ps=[]
 | s::ss,ps=>∃ p qs,ps=p::qs∧zU9 s p∧zK6 ss qs
def zEW (P:Program):List TypeId→Option (List (Bool×List Sh))
 | []=>some []
 | t::ts=>match zC7 P 20 t,zEW P ts with
  | some ss,some rest=>if zWK P t=true∨zVp P t=false∧ss.length=1 then some ((zWK P t,ss)::rest) else none
  | _,_=>none
theorem zK6.length:∀ {ss:List (Bool×List Sh)} {ps:List PV},zK6 ss ps→ps.length=ss.length
 | [],ps,h=>by simp only [zK6] at h;subst h;rfl
 | s::ss,ps,h=>by
  obtain ⟨p,qs,rfl,_,h2⟩:=h
  simp [zK6.length h2]
theorem zQU {n:Nat} {t:TypeId} {ss:List Sh} (h:zC7 P n t=some ss) (ha:zVp P t=false):(∃ k,P.underlying t=some (.int k))∨P.underlying t=some .bool∨∃ e,P.underlying t=some (.slice e):=by
 cases n with
 | zero=>cases h
 | succ n =>
  simp only [zC7] at h
  split at h
  ·exact .inl ⟨_,by assumption⟩
  ·exact .inr (.inl (by assumption))
  ·exact .inr (.inr ⟨_,by assumption⟩)
  ·rename_i fs ht
   simp only [zVp,ht] at ha;cases ha
  ·rename_i ht
   simp only [zVp,ht] at ha;cases ha
  ·cases h
theorem zQL : ∀ (ts:List TypeId) (vs:List Value) (ds:List (DataW H)) (ps:List MemPlace) (ss:List (Bool×List Sh)),zEW P ts=some ss→DataW.TrodAll enc P w 0 spare uB ts vs ds ps→(∀ (j:Nat) t v,ts[j]? = some t→vs[j]? = some v→Value.okWide P w .any base t v) →
  ∃ qs,zK6 ss qs∧zAS w (fun b=>b<w.heap.size) zB7 qs vs []
 | [],vs,ds,ps,ss,hs,h,_=>by
  obtain ⟨rfl,_,_⟩:=trodAll_nil h
  cases hs
  exact ⟨[],rfl,rfl,rfl⟩
 | t :: ts,vs,ds,ps,ss,hs,h,hv=>by
  obtain ⟨v,vs',d,ds',p,q,rfl,rfl,rfl,⟨fuel,h1⟩,h2⟩:=trodAll_cons h
  simp only [zEW] at hs
  cases yM:zC7 P 20 t with
  | none=>rw [yM] at hs;cases hs
  | some s =>
   cases yc:zEW P ts with
   | none=>rw [yM,yc] at hs;cases hs
   | some rest =>
    rw [yM,yc] at hs
    simp only at hs
    split at hs
    ·rename_i hc
     cases hs
     obtain ⟨qs,g1,g2⟩:=zQL ts vs' ds' q rest yc h2 (fun j t v ht yD=>hv (j+1) t v (by simpa using ht) (by simpa using yD))
     obtain ⟨cs,g3,g4⟩:=zLf 20 fuel t v.cells.toList _ s yM h1
     have yH:=hv 0 t v rfl rfl
     cases ha:zWK P t with
     | true =>
      have wn:∃ fs,P.underlying t=some (.struct fs):=by
       simp only [zWK] at ha
       split at ha
       ·exact ⟨_,by assumption⟩
       ·cases ha
      obtain ⟨fs,ht⟩:=wn
      obtain ⟨row,rfl,_⟩:=okWide_struct ht yH
      exact ⟨.agg cs::qs,⟨_,_,rfl,by simp only [zU9,if_true];exact ⟨cs,rfl,g3⟩,g1⟩,_,_,[],[],rfl,rfl,⟨row,rfl,g4⟩,g2⟩
     | false =>
      have yN:v.cells.toList=[v]:=by
       rcases zQU yM (hc.elim (fun h=>by rw [h] at ha;cases ha) fun h=>h.1) with ⟨k,ht⟩ | ht | ⟨e,ht⟩
       ·obtain ⟨n,rfl⟩:=okWide_int ht yH;rfl
       ·obtain ⟨n,rfl⟩:=okWide_bool ht yH;rfl
       ·obtain ⟨a,n,c,rfl⟩:=okWide_slice ht yH;rfl
      rw [yN] at g4
      obtain ⟨u,us,L1,L2,he,hL,g5,g6⟩:∃ u us L1 L2,cs=u::us∧([]:List Nat)=L1++L2∧Rep w (fun b=>b<w.heap.size) zB7 u v L1∧zAS w (fun b=>b<w.heap.size) zB7 us [] L2:=by
       cases cs with
       | nil=>have:=g4.length;simp at this
       | cons u us =>
        obtain ⟨v',vs'',L1,L2,he,hL,g5,g6⟩:=g4
        cases he
        exact ⟨u,us,L1,L2,rfl,hL,g5,g6⟩
      obtain ⟨rfl,rfl⟩:=List.append_eq_nil_iff.1 hL.symm
      have wH:us=[]:=List.eq_nil_of_length_eq_zero (by have:=g6.length;simp at this;omega)
      subst wH;subst he
      exact ⟨u::qs,⟨_,_,rfl,by simp only [zU9,Bool.false_eq_true,if_false];exact g3,g1⟩,_,_,[],[],rfl,rfl,g5,g2⟩
    ·cases hs
theorem zM4 {α:Type} {R:α→Prop} {enc:α→PV}:∀ {xs:List PV},(∀ x∈xs,∃ a,x=enc a∧R a)→∃ l:List α,xs=l.map enc∧∀ a∈l,R a
 | [],_=>⟨[],rfl,by simp⟩
 | x :: xs,h=>by
  obtain ⟨a,rfl,ha⟩:=h x (by simp)
  obtain ⟨l,rfl,hl⟩:=zM4 (xs:=xs) fun y hy=>h y (by simp [hy])
  exact ⟨a::l,rfl,fun b hb=>by
   rcases List.mem_cons.1 hb with rfl | hb
   ·exact ha
   ·exact hl b hb⟩
theorem zSo {k:IntKind} {p:PV} (h:zWI (.list false [.num k]) p):∃ l:List Int,p = .sl (l.map (.int k))∧l.length≤maxLen∧∀ n∈l,k.min≤n∧n≤k.max:=by
 obtain ⟨xs,rfl,hl,hx⟩:=h
 obtain ⟨l,rfl,hb⟩:=zM4 (α:=Int) (R:=fun n=>k.min≤n∧n≤k.max) (enc := .int k) (xs:=xs) fun x kT=>by
  obtain ⟨⟨q,qs,hc,⟨n,rfl,hn⟩,qf⟩,ha⟩:=hx x kT
  simp only [zCQ] at qf;subst qf
  refine ⟨n,?_,hn⟩
  cases x<;>simp [PV.cells] at hc<;>first | exact hc | simp_all [PV.isAgg]
 exact ⟨l,rfl,by simpa using hl,hb⟩
theorem zIZ:∀ {ts:List TypeId} {vs:List Value} {ds:List (DataW H)} {ps:List MemPlace},DataW.TrodAll enc P w 0 spare uB ts vs ds ps→ds.length=ts.length
 | [],vs,ds,ps,h=>by obtain ⟨_,rfl,_⟩:=trodAll_nil h;rfl
 | t::ts,vs,ds,ps,h=>by
  obtain ⟨_,_,_,_,_,_,rfl,rfl,_,_,h2⟩:=trodAll_cons h
  simp [zIZ h2]
theorem zT3 {Hh:zBc} {f:FuncId} {fn:Func} {s:ChangeSpec} {apart fresh jO again:Bool} {W:World} {args:Array Value} {ds:List (DataW H)} {before:List MemPlace} {tb:TypeId} {ss:List (Bool×List Sh)} (zE9:P.follows .mixedOrders=true) (hnm:zEK P) (zMi:Fit P Hh) (hin:zEz P Hh)
  (hl:laidOutB P=true) (ji:s.vars=[]) (htb:P.underlying tb=some .bool) (wP:fn.resultTypes=#[tb]) (uj:fn.params.toList.all (fun t=>P.readableRec t&&Nat.blt t P.types.size)=true) (uI:∀ ds,ds.length=fn.params.size→s.fn H ds={results:=[.lit (.bool true)],args:=ds}) (wK:zEW P fn.params.toList=some ss) (hZ:ss.length≤1000)
  (hg:∀ qs,zK6 ss qs→@zDi (yo1 P Hh) P Hh f qs [] (.bool true) [])
  (gH:∀ (j:Nat) t v,fn.params[j]? = some t→args[j]? = some v→Value.okWide P W .any base t v) (hW:DataW.Whole enc P fn.params.toList s.vars apart W args.toList ds [] before) :
  Calls P f args W fun e W'=>∃ v,e = .returned v∧s.post enc P fn apart fresh jO again W args v W':=by
 obtain ⟨pa,pv,hA,_,_,_,_⟩:=id hW
 obtain ⟨qs,kd,v4⟩:=zQL fn.params.toList args.toList ds pa ss wK hA (fun j t v ht hv=>gH j t v (by rw [← Array.getElem?_toList];exact ht) (by rw [← Array.getElem?_toList];exact hv))
 have gK:=kd.length
 refine (zQO (Φ:=fun b=>b<W.heap.size) zE9 hnm zMi hin (hg qs kd) (fun b hb=>hb) v4 (by rw [gK];exact Nat.le_trans hZ (by decide))).mono fun e W' ⟨he,g1,g2,g3,g4,g5⟩=>?_
 subst he
 refine ⟨_,rfl,zTp hl ji htb wP (fun t ht=>?_) (uI ds (by have:=zIZ hA;simpa using this)) hW g1 g2 g3 g4 g5⟩
 have:=List.all_eq_true.1 uj t ht
 rw [Bool.and_eq_true] at this
 exact ⟨this.1,zBZ this.2⟩
end
end Go.Eng
namespace Go.Eng
open Go
section
variable {P:Program} {H:zBc}
def zEI (f:FuncId):zBc:=fun g=>bif Nat.beq g f then {} else {intr:=9}
theorem zPq (zE9:P.follows .mixedOrders=true) (hnm:zEK P) {f:FuncId} {fn:Func} (hf:P.funcs[f]? = some fn) (yH:zUD P fn=true) (n:Nat):zGc P (@zCR P (zEI f) yo0 n):=by
 refine @zE3 P (zEI f) yo0 zE9 hnm (fun g gn hg hi=>?_) (fun g gn args hid v hX hg hi hr=>?_) (fun g first i caps k plan h=>by cases h) n
 ·cases hb:Nat.beq g f with
  | true =>
   rw [Nat.eq_of_beq_eq_true hb,hf] at hg
   cases hg;exact yH
  | false=>simp [zEI,hb] at hi
 ·cases hb:Nat.beq g f with
  | true=>exact absurd (by simp [zEI,hb]) hi
  | false =>
   have e:(zEI f g).intr=9:=by simp [zEI,hb]
   rw [e] at hr
   simp [zDL] at hr
theorem zOo {α:Type} {f:Nat→α} {s:Nat} {v:α} (h:f s=v):upd f s v=f:=by
 funext t
 by_cases ht:t=s
 ·subst ht;rw [zAk,h]
 ·rw [zAe ht]
theorem zKJ {f:FuncId} {p q v:PV} (hp:p.heavy=false) {w:World} {Φ:Nat→Prop} {rv:Nat→Value} {E:Nat→PV} {L:Nat→List Nat} {vs:Array Value} (hE:∀ s,s<zAb→E s=(zA2 [q] []).get s) (kW:∀ s,zAb≤s→E s = .bad)
  (C:Conf w (fun b=>∃ s,b∈L s) Φ w Φ rv E L) (yG:vs.size=1) (yk:∀ i,i<1→vs[i]? = some (rv i)) (j7:∀ s,1≤s→s<zAn→rv s=undef) (hL0:L 0=[]) (hr:Rep w Φ (zAW w rv E) p (rv 0) []) (h:zFn P f [p] [] v []) :
  Calls P f vs w fun e w'=>∃ u Φ' rv' E' L',e = .returned u∧Conf w (fun b=>∃ s,b∈L s) Φ w' Φ' rv' E' L'∧([]:List PV).length=([]:List PV).length ∧
   (∀ j,j<([]:List PV).length→E' (zAn+j)=([]:List PV).getD j .bad∧rv' (zAn+j)=rv (zAn+j))∧Gave v u rv' E':=by
 have C1:=C.put (s:=0) hp hr
 rw [zOo hL0,zOo rfl] at C1
 have h1:(1:Nat)≤zAn:=by decide
 have hg:(0:Nat)<zAb:=by decide
 refine h w Φ rv (upd E 0 p) L vs (fun s hs=>?_) (fun s hs=>?_) C1 yG yk j7
 ·by_cases h:s=0
  ·subst h;rw [zAk];rfl
  ·rw [zAe h,hE s hs,zDa (args:=[q]) h1,zDa (args:=[p]) h1]
   simp [h,show ¬ s<1 by omega]
 ·rw [zAe (by omega)];exact kW s hs
theorem zRv {f:FuncId} {v:PV} (h1:zFn P f [.nils 0] [] v []) (h2:zFn P f [.nn] [] v []):zFn P f [.sl []] [] v []:=by
 intro w Φ rv E L vs hE kW C yG yk j7
 have h0:E 0 = .sl []:=by rw [hE 0 (by decide)];rfl
 have hr:=C.rep 0
 rw [h0] at hr
 obtain ⟨hL0,hc⟩:=hr
 have hc:∃ a n,rv 0 = .slice a 0 n∧(a=none→n=0):=by
  rcases hc with ⟨_,a,n,hv,ha⟩ | ⟨a,n,c,us,sz,hv,_⟩
  ·exact ⟨a,n,hv,ha⟩
  ·exact ⟨some a,n,hv,fun h=>by cases h⟩
 obtain ⟨a,n,hv,ha⟩:=hc
 cases a with
 | none =>
  rw [ha rfl] at hv
  exact zKJ (p := .nils 0) rfl hE kW C yG yk j7 hL0 ⟨hv,rfl⟩ h1
 | some a=>exact zKJ (p := .nn) rfl hE kW C yG yk j7 hL0 ⟨rfl,a,n,hv⟩ h2
theorem zPn {f:FuncId} {v:PV} {k:Nat} (h1:zFn P f [.nils 0] [] v []):zFn P f [.nils k] [] v []:=by
 intro w Φ rv E L vs hE kW C yG yk j7
 have h0:E 0 = .nils k:=by rw [hE 0 (by decide)];rfl
 have hr:=C.rep 0
 rw [h0] at hr
 exact zKJ (p := .nils 0) rfl hE kW C yG yk j7 hr.2 ⟨hr.1,rfl⟩ h1
theorem zKM (zE9:P.follows .mixedOrders=true) (hnm:zEK P) {f:FuncId} {fn:Func} (hf:P.funcs[f]? = some fn) (hb:fn.body.isSome=true) (yH:zUD P fn=true) {sz:Nat} (yG:(fn.resultTypes[0]?).bind (fun t=>(zBH P t).bind (szT P))=some sz)
  (r1:∃ n,@zCR P (zEI f) yo0 n f [.nils 0] []=some (.own sz [],[])) (r2:∃ n,@zCR P (zEI f) yo0 n f [.nn] []=some (.own sz [],[]))
  (r3:∀ x xs,(∀ y∈x::xs,y.plain=true∧y.cells.length=sz)→(x::xs).length≤zBe→∃ n,@zCR P (zEI f) yo0 n f [.sl (x::xs)] []=some (.own sz (x::xs),[])) :
  ∀ args hid v hX,zDL P fn 1 args hid=some (v,hX)→zCw P f∧zFn P f args hid v hX:=by
 have so:=zPq zE9 hnm hf yH
 have hc:zCw P f:=⟨fn,hf,by cases hx:fn.body with
  | none=>rw [hx] at hb;cases hb
  | some _=>rfl⟩
 obtain ⟨n1,r1⟩:=r1
 obtain ⟨n2,r2⟩:=r2
 have m1:zFn P f [.nils 0] [] (.own sz []) []:=(so n1 _ _ _ _ _ r1).2
 have m2:=(so n2 _ _ _ _ _ r2).2
 intro args hid v hX h
 refine ⟨hc,?_⟩
 rcases args with _ | ⟨p,_ | ⟨p2,ps⟩⟩
 ·simp [zDL] at h
 ·rcases hid with _ | ⟨q,qs⟩
  ·cases p<;>first | (simp [zDL] at h;done) | skip
   ·rename_i k
    simp only [zDL,yG,Option.some.injEq,Prod.mk.injEq] at h
    obtain ⟨rfl,rfl⟩:=h
    exact zPn m1
   ·rename_i xs
    simp only [zDL,yG] at h
    split at h
    ·rename_i hx
     simp only [Option.some.injEq,Prod.mk.injEq] at h
     obtain ⟨rfl,rfl⟩:=h
     simp only [Bool.and_eq_true,decide_eq_true_eq,List.all_eq_true] at hx
     cases xs with
     | nil=>exact zRv m1 m2
     | cons x xs =>
      obtain ⟨n3,r3⟩:=r3 x xs (fun y hy=>by simpa using hx.1 y hy) hx.2
      exact (so n3 _ _ _ _ _ r3).2
    ·cases h
  ·simp [zDL] at h
 ·simp [zDL] at h
theorem zGB [Yo] {f:FuncId} {fn:Func} {sz:Nat} {α:Type} (g:α→PV) (l:List α) (hl:l.length≤4294967296) (hg:∀ x,((g x).plain&&Nat.beq (g x).cells.length sz)=true:=by intro x;kernel_rfl) (hf:P.funcs[f]? = some fn:=by kernel_rfl) (hi:(H f).intr=1:=by kernel_rfl)
  (yG:(fn.resultTypes[0]?).bind (fun t=>(zBH P t).bind (szT P))=some sz:=by kernel_rfl):zDi P H f [.sl (l.map g)] [] (.own sz (l.map g)) []:=by
 refine ⟨1,fun n hn=>?_⟩
 obtain ⟨k,rfl⟩:∃ k,n=k+1:=⟨n-1,by omega⟩
 show zJy P H (zCR P H k) Yo.yo zB5 (k+1) f _ _=_
 have ke:((l.map g).all (fun x=>x.plain&&decide (x.cells.length=sz))&&decide ((l.map g).length≤zBe))=true:=by
  simp only [List.all_map,Bool.and_eq_true,List.all_eq_true,List.length_map,decide_eq_true_eq,Function.comp]
  refine ⟨fun x _=>?_,hl⟩
  have:=hg x
  simp only [Bool.and_eq_true] at this
  exact ⟨this.1,Nat.eq_of_beq_eq_true this.2⟩
 simp only [Bool.and_eq_true,decide_eq_true_eq] at ke
 simp only [zJy,hf,hi,zDL,yG]
 rw [if_pos (by decide),if_pos (by simpa using ke)]
theorem zHc {f:FuncId} {args:List PV} {v:PV} (h:@zDi yo0 P (zEI f) f args [] v []):∃ n,@zCR P (zEI f) yo0 n f args []=some (v,[]):=by
 obtain ⟨n,h⟩:=h
 exact ⟨n,h n (Nat.le_refl _)⟩
theorem zTd (cl:List FuncId) (h:((List.range P.funcs.size).all fun f=>Nat.beq (H f).intr 0||Nat.beq (H f).intr 9||(Nat.beq (H f).intr 1&&cl.any (Nat.beq f)))=true)
  (hc:∀ f∈cl,∀ fn,P.funcs[f]? = some fn→∀ args hid v hX,zDL P fn 1 args hid=some (v,hX)→zCw P f∧zFn P f args hid v hX):zEz P H:=fun f fn args hid v hX hf hi hr=>by
 have yI:=(Array.getElem?_eq_some_iff.1 hf).1
 have:=List.all_eq_true.1 h f (List.mem_range.2 yI)
 rw [Bool.or_eq_true,Bool.or_eq_true,Bool.and_eq_true] at this
 rcases this with (h1 | h1) | ⟨h1,h2⟩
 ·exact absurd (Nat.eq_of_beq_eq_true h1) hi
 ·rw [Nat.eq_of_beq_eq_true h1] at hr
  simp [zDL] at hr
 ·rw [Nat.eq_of_beq_eq_true h1] at hr
  obtain ⟨g,hg,hb⟩:=List.any_eq_true.1 h2
  rw [Nat.eq_of_beq_eq_true hb] at hf ⊢
  exact hc g hg fn hf args hid v hX hr
end
end Go.Eng
set_option maxRecDepth 100000
namespace Go.Eng
open Go Go.Proofs
def idV (p:PV):PV:=p
theorem zHQ (xs:List PV):xs.map idV=xs:=by
 induction xs with
 | nil=>rfl
 | cons x xs ih=>rw [List.map_cons,ih];rfl
theorem zE2:∀ {l:List PV},(∀ y∈l,y.plain=true)→zBp l=[]
 | [],_=>rfl
 | p::ps,h=>by
  rw [zBp,(zKZ (h p (by simp))).2,zE2 fun y hy=>h y (by simp [hy])];rfl
theorem zRo {xs:List PV} {sz n:Nat} (h:∀ y∈xs,y.plain=true∧y.cells.length=sz) (hn:Nat.beq sz n=true):((xs.map idV).all fun y=>y.cells.length.beq n&&y.cells.all fun q=>q.oneCell)=true:=by
 rw [zHQ,List.all_eq_true]
 intro y hy
 rw [Bool.and_eq_true]
 exact ⟨by rw [(h y hy).2];exact hn,List.all_eq_true.2 fun q hq=>zIO (h y hy).1 q hq⟩
theorem zUF {xs:List PV} {sz:Nat} (h:∀ y∈xs,y.plain=true∧y.cells.length=sz):((xs.map idV).all fun x=>x.plain)=true:=by
 rw [zHQ,List.all_eq_true];exact fun y hy=>(h y hy).1
section
variable [Yo]
theorem zXt:zDi Try.prog (zEI 71) 71 [.nils 0] [] (.own 1 []) []:=zDi.closed 50
theorem zXA:zDi Try.prog (zEI 71) 71 [.nn] [] (.own 1 []) []:=zDi.closed 50
theorem zW3 (xs:List PV) (h:∀ y∈xs,y.plain=true∧y.cells.length=1) (hI:0<xs.length) (hl:xs.length≤4294967296):zDi Try.prog (zEI 71) 71 [.sl (xs.map idV)] [] (.own 1 (xs.map idV)) []:=by
 refine zAf Try.f71 ?_
 refine zAc 1<|zAa<|zAh<|zAc 1<|S_a [(0,.v (PV.bool false))] (ap (zNc (by omega):zJM Try.prog BinOp.eql 47 (PV.sl (List.map idV xs)) (zEq (Value.slice none 0 0))=some (PV.bool false)) an)<|zAa<|zA4<|zAl<|zAc 2<|S_a [(0,.ob),(0,.ob),(0,.ob),(3,.ob)] (ap (zUF h:((List.map idV xs).all fun x=>x.plain)=true)<|ap (zRo h (by kernel_rfl):((List.map idV xs).all fun y=>y.cells.length.beq ((fun x=>x.size) Try.prog.types[3])&&y.cells.all fun q=>q.oneCell)=true)<|ap (?_:(zBp (List.map idV xs)).isEmpty=true)<|ap ((by exact zBx (by simp only [List.length_map,zzLn,zBe]<;>omega)):(0+(List.map idV xs).length).ble zBe=true) an)<|zAd 1<|zAa<|zAm<|E_a [(1,.yes),(1,.v (PV.own 1 (List.map idV (List.take ([]++List.map idV xs).length xs))))] (ap (blz ([]++List.map idV xs))<|ap ((by simp [zEM]):PV.own 1 (List.take ([]++List.map idV xs).length (List.drop 0 ([]++List.map idV xs)))=PV.own 1 (List.map idV (List.take ([]++List.map idV xs).length xs))) an) (PV.own 1 (List.map idV (List.take ([]++List.map idV xs).length xs))) [] (by simp [*]) rfl
 rw [zHQ,zE2 fun y hy=>(h y hy).1];rfl
theorem zWc:zDi Try.prog (zEI 115) 115 [.nils 0] [] (.own 2 []) []:=zDi.closed 50
theorem zVE:zDi Try.prog (zEI 115) 115 [.nn] [] (.own 2 []) []:=zDi.closed 50
theorem zWq (xs:List PV) (h:∀ y∈xs,y.plain=true∧y.cells.length=2) (hI:0<xs.length) (hl:xs.length≤4294967296):zDi Try.prog (zEI 115) 115 [.sl (xs.map idV)] [] (.own 2 (xs.map idV)) []:=by
 refine zAf Try.f115 ?_
 refine zAc 1<|zAa<|zAh<|zAc 1<|S_a [(0,.v (PV.bool false))] (ap (zNc (by omega):zJM Try.prog BinOp.eql 31 (PV.sl (List.map idV xs)) (zEq (Value.slice none 0 0))=some (PV.bool false)) an)<|zAa<|zA4<|zAl<|zAc 2<|S_a [(0,.ob),(0,.ob),(0,.ob),(3,.ob)] (ap (zUF h:((List.map idV xs).all fun x=>x.plain)=true)<|ap (zRo h (by kernel_rfl):((List.map idV xs).all fun y=>y.cells.length.beq ((fun x=>x.size) Try.prog.types[34])&&y.cells.all fun q=>q.oneCell)=true)<|ap (?_:(zBp (List.map idV xs)).isEmpty=true)<|ap ((by exact zBx (by simp only [List.length_map,zzLn,zBe]<;>omega)):(0+(List.map idV xs).length).ble zBe=true) an)<|zAd 1<|zAa<|zAm<|E_a [(1,.yes),(1,.v (PV.own 2 (List.map idV (List.take ([]++List.map idV xs).length xs))))] (ap (blz ([]++List.map idV xs))<|ap ((by simp [zEM]):PV.own 2 (List.take ([]++List.map idV xs).length (List.drop 0 ([]++List.map idV xs)))=PV.own 2 (List.map idV (List.take ([]++List.map idV xs).length xs))) an) (PV.own 2 (List.map idV (List.take ([]++List.map idV xs).length xs))) [] (by simp [*]) rfl
 rw [zHQ,zE2 fun y hy=>(h y hy).1];rfl
theorem zVI:zDi Try.prog (zEI 117) 117 [.nils 0] [] (.own 2 []) []:=zDi.closed 50
theorem zVR:zDi Try.prog (zEI 117) 117 [.nn] [] (.own 2 []) []:=zDi.closed 50
theorem zV4 (xs:List PV) (h:∀ y∈xs,y.plain=true∧y.cells.length=2) (hI:0<xs.length) (hl:xs.length≤4294967296):zDi Try.prog (zEI 117) 117 [.sl (xs.map idV)] [] (.own 2 (xs.map idV)) []:=by
 refine zAf Try.f117 ?_
 refine zAc 1<|zAa<|zAh<|zAc 1<|S_a [(0,.v (PV.bool false))] (ap (zNc (by omega):zJM Try.prog BinOp.eql 35 (PV.sl (List.map idV xs)) (zEq (Value.slice none 0 0))=some (PV.bool false)) an)<|zAa<|zA4<|zAl<|zAc 2<|S_a [(0,.ob),(0,.ob),(0,.ob),(3,.ob)] (ap (zUF h:((List.map idV xs).all fun x=>x.plain)=true)<|ap (zRo h (by kernel_rfl):((List.map idV xs).all fun y=>y.cells.length.beq ((fun x=>x.size) Try.prog.types[42])&&y.cells.all fun q=>q.oneCell)=true)<|ap (?_:(zBp (List.map idV xs)).isEmpty=true)<|ap ((by exact zBx (by simp only [List.length_map,zzLn,zBe]<;>omega)):(0+(List.map idV xs).length).ble zBe=true) an)<|zAd 1<|zAa<|zAm<|E_a [(1,.yes),(1,.v (PV.own 2 (List.map idV (List.take ([]++List.map idV xs).length xs))))] (ap (blz ([]++List.map idV xs))<|ap ((by simp [zEM]):PV.own 2 (List.take ([]++List.map idV xs).length (List.drop 0 ([]++List.map idV xs)))=PV.own 2 (List.map idV (List.take ([]++List.map idV xs).length xs))) an) (PV.own 2 (List.map idV (List.take ([]++List.map idV xs).length xs))) [] (by simp [*]) rfl
 rw [zHQ,zE2 fun y hy=>(h y hy).1];rfl
end
theorem zT8:∀ args hid v hX,zDL Try.prog Try.f71 1 args hid=some (v,hX)→zCw Try.prog 71∧zFn Try.prog 71 args hid v hX :=
 zKM (f:=71) (fn:=Try.f71) (sz:=1) (by kernel_rfl) (zIs (by kernel_rfl)) (by kernel_rfl) (by kernel_rfl) (by kernel_rfl) (by kernel_rfl) (zHc (@zXt yo0)) (zHc (@zXA yo0)) fun x xs h hl=>by
  have:=zHc (@zW3 yo0 (x::xs) h (by simp) hl)
  rw [zHQ] at this
  exact this
theorem zTa:∀ args hid v hX,zDL Try.prog Try.f115 1 args hid=some (v,hX)→zCw Try.prog 115∧zFn Try.prog 115 args hid v hX :=
 zKM (f:=115) (fn:=Try.f115) (sz:=2) (by kernel_rfl) (zIs (by kernel_rfl)) (by kernel_rfl) (by kernel_rfl) (by kernel_rfl) (by kernel_rfl) (zHc (@zWc yo0)) (zHc (@zVE yo0)) fun x xs h hl=>by
  have:=zHc (@zWq yo0 (x::xs) h (by simp) hl)
  rw [zHQ] at this
  exact this
theorem zSv:∀ args hid v hX,zDL Try.prog Try.f117 1 args hid=some (v,hX)→zCw Try.prog 117∧zFn Try.prog 117 args hid v hX :=
 zKM (f:=117) (fn:=Try.f117) (sz:=2) (by kernel_rfl) (zIs (by kernel_rfl)) (by kernel_rfl) (by kernel_rfl) (by kernel_rfl) (by kernel_rfl) (zHc (@zVI yo0)) (zHc (@zVR yo0)) fun x xs h hl=>by
  have:=zHc (@zV4 yo0 (x::xs) h (by simp) hl)
  rw [zHQ] at this
  exact this
theorem zWC:∀ f∈[71,115,117],∀ fn,Try.prog.funcs[f]? = some fn→∀ args hid v hX,zDL Try.prog fn 1 args hid=some (v,hX)→zCw Try.prog f∧zFn Try.prog f args hid v hX:=by
 intro f hf fn uI
 simp only [List.mem_cons,List.not_mem_nil,or_false] at hf
 rcases hf with rfl | rfl | rfl
 ·have e:Try.prog.funcs[71]? = some Try.f71:=by kernel_rfl
  rw [e] at uI;cases uI
  exact zT8
 ·have e:Try.prog.funcs[115]? = some Try.f115:=by kernel_rfl
  rw [e] at uI;cases uI
  exact zTa
 ·have e:Try.prog.funcs[117]? = some Try.f117:=by kernel_rfl
  rw [e] at uI;cases uI
  exact zSv
end Go.Eng
namespace Go.Proofs.Ytppbomajegnkeaa
open Go.ChangeShapes Go.WideShapes Go.ChangeAt Go.RowKit Go.Eng
theorem Try.own:ownKnob Try.prog.godebug=none:=by kernel_rfl
theorem Try.laidOut:laidOutB Try.prog=true:=by kernel_rfl
theorem zE9:Try.prog.follows .mixedOrders=true:=by kernel_rfl
theorem hnm:zEK Try.prog:=zIs (by kernel_rfl)
theorem zMi:Fit Try.prog zGK:=zWi (by kernel_rfl)
theorem hin:zEz Try.prog zGK:=zTd [71,115,117] (by kernel_rfl) zWC
end Go.Proofs.Ytppbomajegnkeaa
namespace Go.Eng
open Go
theorem zWp {k:IntKind} {p:PV} (h:zU9 (false,[.num k]) p):∃ n,p = .int k n∧k.min≤n∧n≤k.max:=by
 simp only [zU9,Bool.false_eq_true,if_false] at h
 obtain ⟨q,qs,hc,⟨n,rfl,hn⟩,qf⟩:=h
 cases hc
 exact ⟨n,rfl,hn⟩
theorem zNJ {ss:List Sh} {ag:Bool} {α:Type} {R:α→Prop} {enc:α→PV} {p:PV} (hr:∀ x,zCQ ss x.cells→x.isAgg=ag→∃ a,x=enc a∧R a) (h:zWI (.list ag ss) p):∃ l:List α,p = .sl (l.map enc)∧l.length≤maxLen∧∀ a∈l,R a:=by
 obtain ⟨xs,rfl,hl,hx⟩:=h
 obtain ⟨l,rfl,hb⟩:=zM4 (α:=α) (R:=R) (enc:=enc) (xs:=xs) fun x kT=>hr x (hx x kT).1 (hx x kT).2
 exact ⟨l,rfl,by simpa using hl,hb⟩
theorem zTV {x:PV} (h:x.isAgg=true):x = .agg x.cells:=by cases x<;>simp [PV.isAgg] at h;rfl
theorem zVV {x y:PV} (h:x.isAgg=false) (hc:x.cells=[y]):x=y:=by
 cases x<;>simp [PV.isAgg] at h<;>simpa [PV.cells] using hc
end Go.Eng
set_option maxRecDepth 10000
set_option maxHeartbeats 4000000
namespace Go.Eng
open Go Go.Proofs
theorem zAB {α:Type} {l:List α} {i:Nat} {d:α} (h:i<l.length):l.getD i d=l[i]:=by simp [List.getD,List.getElem?_eq_getElem h]
theorem zGC {α β:Type} {f:β→α→β} {b:β} {l:List α} {i:Nat} {d:α} (h:i<l.length):(l.take (i+1)).foldl f b=f ((l.take i).foldl f b) (l.getD i d):=by
 rw [zAB h];exact zPt h
theorem zEw {α:Type} {l m:List α} {i:Nat} {d:α} (h:i<l.length) (h':i<m.length) (ha:l.take i=m.take i) (he:l.getD i d=m.getD i d):l.take (i+1)=m.take (i+1):=by
 rw [zAB h,zAB h'] at he
 rw [List.take_add_one,List.take_add_one,ha,List.getElem?_eq_getElem h,List.getElem?_eq_getElem h',he]
theorem zCo {α:Type} {l:List α} {i:Nat} {d:α} (h:i<l.length):l.take (i+1)=l.take i++[l.getD i d]:=by
 rw [List.take_add_one,List.getElem?_eq_getElem h,zAB h];rfl
theorem zCe {α:Type} {l:List α} {d:α} {p:α→Prop} (h:∀ x∈l,p x) (i:Nat) (hi:i<l.length):p (l.getD i d):=by
 rw [zAB hi];exact h _ (List.getElem_mem hi)
theorem zCL {l:List Int} {i j:Nat} {v:Int}:(l.set i v).getD j 0=if i=j∧j<l.length then v else l.getD j 0:=by
 simp only [List.getD_eq_getElem?_getD,List.getElem?_set]
 by_cases h:i=j
 ·subst h
  by_cases h2:i<l.length
  ·simp [h2]
  ·simp [h2]
 ·simp [h]
def zEL {α:Type} (φ:α→Bool) (l:List α):Int:=if l.findIdx φ<l.length then (l.findIdx φ:Int) else -1
theorem zBV {α : Type} {φ : α → Bool} {l : List α} {i : Nat} (h : i < l.length) (h0 : ∀ j (hj : j < i), φ (l[j]'(by omega)) = false) (hi : φ l[i] = true) : zEL φ l = i := by
 have:l.findIdx φ=i:=by
  rw [List.findIdx_eq h]
  exact ⟨hi,fun j hj=>by simpa using h0 j hj⟩
 simp [zEL,this,h]
theorem zCi {α : Type} {φ : α → Bool} {l : List α} (h0 : ∀ j (hj : j < l.length), φ (l[j]'hj) = false) : zEL φ l = -1 := by
 have:¬ l.findIdx φ<l.length:=by
  intro h
  have:=List.findIdx_getElem (w:=h)
  rw [h0 _ h] at this;cases this
 simp [zEL,this]
theorem zD5 {α:Type} (φ:α→Bool) (l:List α):decide (zEL φ l≥0)=l.any φ:=by
 unfold zEL
 split
 ·rename_i h
  have:=List.findIdx_getElem (w:=h)
  have h2:l.any φ=true:=List.any_eq_true.2 ⟨_,List.getElem_mem h,this⟩
  rw [h2];simp
 ·rename_i h
  have h2:l.any φ=false:=by
   rw [List.any_eq_false]
   intro x hx hp
   exact h (List.findIdx_lt_length_of_exists ⟨x,hx,hp⟩)
  rw [h2];simp
structure Nw where
 h:Int
 l:List (Int×Int)
 n:List (Int×Bool)
 s:List (List Int)
abbrev prV (x:Int×Int):PV := .agg [I x.1,I x.2]
abbrev ntV (x:Int×Bool):PV := .agg [I x.1,.bool x.2]
abbrev prs (l:List (Int×Int)):PV := .sl (l.map prV)
abbrev zD0 (l:List Int):PV := .own 1 (l.map I)
abbrev nwV (n:Nw):PV := .agg [I n.h,.sl (n.l.map prV),.sl (n.n.map ntV),.sl (n.s.map zAF)]
abbrev nwO (n:Nw):PV := .agg [I n.h,.own 2 (n.l.map prV),.own 2 (n.n.map ntV),.own 1 (n.s.map zD0)]
instance:FrzOf zD0 zAF:=⟨fun x=>by simp only [zAP,zFE]⟩
def inB (n lo hi:Int):Bool:=decide (lo≤n)&&decide (n≤hi)
def pr2 (x:Int×Int):Int×Int:=(if x.2<x.1 then x.2 else x.1,if x.2>x.1 then x.2 else x.1)
abbrev FG [Yo] (f:FuncId) (args:List PV) (v:PV):Prop:=zDi Try.prog zGK f args [] v []
section
variable [Yo]
theorem f63 (n lo hi:Int):FG 63 [I n,I lo,I hi] (.bool (inB n lo hi)):=by
 refine zAf Try.f63 ?_
 refine zAc 1<|zAa<|zAc 4<|zEY 10 (n≥lo) (fun k0=>(zAd 5<|zAa<|zAm<|E_a [] an (PV.bool (decide (n≤hi))) [] ?_ rfl)) (fun k0=>(zAd 5<|zAa<|zAm<|E_a [] an (PV.bool false) [] ?_ rfl))
 ·simp only [inB,decide_eq_true k0,Bool.true_and]
 ·simp only [inB,decide_eq_false k0,Bool.false_and]
theorem f72 (n lo hi:Int):FG 72 [I n,I lo,I hi] (.bool (!inB n lo hi)):=by
 have e:(!inB n lo hi)=(decide (n<lo)||decide (hi<n)):=by
  unfold inB
  by_cases h1:lo≤n<;>by_cases h2:n≤hi<;>simp [h1,h2]<;>omega
 rw [e]
 refine zAf Try.f72 ?_
 refine zAc 1<|zAa<|zAc 4<|zEY 10 (n<lo) (fun k0=>(zAd 5<|zAa<|zAm<|E_a [] an (PV.bool true) [] (by simp [*]) rfl)) (fun k0=>(zAd 5<|zAa<|zAm<|E_a [] an (PV.bool (decide (n>hi))) [] (by simp [*]) rfl))
theorem f94 (n k:Int):FG 94 [I n,.sl [I k]] (I (max n k)):=by
 refine zAf Try.f94 ?_
 refine zAc 1<|zAa<|zAh<|zAc 1<|zAd 1<|zAd 1<|zAa<|zAi 0 ?_
 refine zAu (fun (i,v)=>i=0∧v=n∨i=1∧v=if k>n then k else n) (fun (i,v)=>[(0,I v),(9,I (i:Nat))]) (fun (i,_)=>1-i) ((0:Nat),n) (.inl ⟨rfl,rfl⟩) fun (i,v) hi=>?_
 rcases hi with ⟨rfl,rfl⟩ | ⟨rfl,rfl⟩
 ·refine zAc 1<|zAa<|zAh<|zBX<|zAl<|zAh<|zAi 1<|zAc 3<|zAa<|zAg<|zAd 4<|zAa<|zAg<|zAd 2<|zAa ?_
  exact ⟨(1,if k>v then k else v),.inr ⟨rfl,rfl⟩,by simp only;omega,by kernel_rfl,by kernel_rfl⟩
 ·refine zAc 1<|zAa<|zAh<|zA4<|zAE 0<|zAc 2<|zAa<|zAm<|E_a [] an (I (if k>n then k else n)) [] ?_ rfl
  rw [Int.max_def]
  by_cases h:k>n
  ·rw [if_pos h,if_pos (by omega)]
  ·rw [if_neg h];split
   ·have:n=k:=by omega
    rw [this]
   ·rfl
theorem f93 (x:Int×Int):FG 93 [prV x] (prV (pr2 x)):=by
 refine zAf Try.f93 ?_
 refine zAc 2<|zAa<|zAc 1<|zAd 1<|zAd 1<|zAd 2<|zAd 1<|zAd 1<|zAd 1<|zAd 4<|zAa<|zAm<|E_a [] an (PV.agg [I (if x.snd<x.fst then x.snd else x.fst),I (if x.snd>x.fst then x.snd else x.fst)]) [] rfl rfl
theorem f69 (n:Nw) (x:Int) (hb:1≤n.h∧n.h≤10):FG 69 [nwV n,I x] (.bool (inB x 0 (n.h-1))):=by
 refine zAf Try.f69 ?_
 refine zAc 2<|zAa<|zAc 3<|S_a [(1,.v (I (n.h-1)))] (ap ((zDl rfl (by omega)):I (IntKind.i64.wrap (n.h-1))=I (n.h-1)) an)<|S_a [(10,.ret (PV.bool (inB x 0 (n.h-1))) [])] (ap (f63 x (0) (n.h-1)) an)<|zAd 1<|zAa<|zAm<|E_a [] an (PV.bool (inB x 0 (n.h-1))) [] rfl rfl
theorem f73 (n:Nw) (x:Int) (hb:n.n.length≤8):FG 73 [nwV n,I x] (.bool (inB x 0 (n.n.length-1))):=by
 refine zAf Try.f73 ?_
 refine zAc 2<|zAa<|zAc 3<|S_a [(0,.n n.n.length)] (ap (lnS ntV n.n) an)<|S_a [(1,.v (I ((↑n.n.length:Int)-1)))] (ap ((zDl rfl (by omega)):I (IntKind.i64.wrap ((↑n.n.length:Int)-1))=I ((↑n.n.length:Int)-1)) an)<|S_a [(10,.ret (PV.bool (inB x 0 ((↑n.n.length:Int)-1))) [])] (ap (f63 x (0) ((↑n.n.length:Int)-1)) an)<|zAd 1<|zAa<|zAm<|E_a [] an (PV.bool (inB x 0 ((↑n.n.length:Int)-1))) [] rfl rfl
end
end Go.Eng
namespace Go.Eng
open Go
abbrev zYa:Sh := .list true [.num .i64,.num .i64]
abbrev zYh:Sh := .list true [.num .i64,.bool]
abbrev zW1:Sh := .list false [.list false [.num .i64]]
theorem zVx (x:PV) (h:zCQ [.num .i64,.num .i64] x.cells) (ha:x.isAgg=true):∃ r:Int×Int,x=prV r∧True:=by
 obtain ⟨p1,q1,hc,⟨w,rfl,_⟩,p2,q2,rfl,⟨s,rfl,_⟩,h3⟩:=h
 simp only [zCQ] at h3;subst h3
 exact ⟨(w,s),by rw [zTV ha,hc],trivial⟩
theorem zWs (x:PV) (h:zCQ [.num .i64,.bool] x.cells) (ha:x.isAgg=true):∃ r:Int×Bool,x=ntV r∧True:=by
 obtain ⟨p1,q1,hc,⟨w,rfl,_⟩,p2,q2,rfl,⟨s,rfl⟩,h3⟩:=h
 simp only [zCQ] at h3;subst h3
 exact ⟨(w,s),by rw [zTV ha,hc],trivial⟩
theorem zUZ (x:PV) (h:zCQ [.list false [.num .i64]] x.cells) (ha:x.isAgg=false):∃ r:List Int,x=zAF r∧True:=by
 obtain ⟨p1,q1,hc,h1,h2⟩:=h
 simp only [zCQ] at h2;subst h2
 obtain ⟨l,rfl,_⟩:=zSo h1
 exact ⟨l,zVV ha hc,trivial⟩
theorem zTY {p:PV} (h:zU9 (true,[.num .i64,zYa,zYh,zW1]) p):∃ n:Nw,p=nwV n:=by
 simp only [zU9,if_true] at h
 obtain ⟨cs,rfl,p1,q1,rfl,⟨c,rfl,_⟩,p2,q2,rfl,h2,p3,q3,rfl,h3,p4,q4,rfl,h4,h5⟩:=h
 simp only [zCQ] at h5;subst h5
 obtain ⟨l,rfl,_⟩:=zNJ zVx h2
 obtain ⟨n,rfl,_⟩:=zNJ zWs h3
 obtain ⟨s,rfl,_⟩:=zNJ zUZ h4
 exact ⟨⟨c,l,n,s⟩,rfl⟩
end Go.Eng
set_option maxRecDepth 10000
set_option maxHeartbeats 4000000
namespace Go.Eng
open Go Go.Proofs
def has {α:Type} [DecidableEq α] (l:List α) (x:α):Bool:=l.any fun y=>decide (x=y)
theorem zUP {α:Type} [DecidableEq α] {l:List α} {x:α}:has l x=decide (x∈l):=by
 rw [Bool.eq_iff_iff];simp [has]
theorem zVL {x y:Int×Int}:(decide (x.1=y.1)&&decide (x.2=y.2))=decide (x=y):=by
 rw [Bool.eq_iff_iff];simp [Prod.ext_iff]
theorem zUo {α:Type} {l:List α} {z x:α} {i:Nat} (h:i<l.length):(l.take i++List.replicate (l.length-i) z).set i x=l.take i++[x]++List.replicate (l.length-(i+1)) z:=by
 obtain ⟨k,hk⟩:∃ k,l.length-i=k+1:=⟨l.length-i-1,by omega⟩
 rw [hk,show l.length-(i+1)=k by omega,List.replicate_succ,List.set_append_right _ _ (by rw [List.length_take];omega),List.length_take,Nat.min_eq_left (by omega),Nat.sub_self,List.set_cons_zero,List.append_assoc];rfl
section
variable [Yo]
theorem f75 (l m:List (Int)) (hl:l.length<4294967296):FG 75 [.sl (l.map I),.sl (m.map I)] (.bool (decide (l=m))):=by
 refine zAf Try.f75 ?_
 refine zAc 1<|zAa<|zAh<|zAc 1<|S_a [(0,.n l.length)] (ap (lnS I l) an)<|zAd 1<|S_a [(0,.n m.length)] (ap (lnS I m) an)<|zAd 1<|zAa<|zDE ((↑l.length:Int)=(↑m.length:Int)) (fun k0=>(zAc 1<|zAa<|zAm<|E_a [] an (PV.bool false) [] ?_ rfl)) (fun k0=>(zAl<|zAh<|zAc 1<|S_a [(0,.n l.length)] (ap (lnS I l) an)<|zAd 1<|zAa<|zAi 0 ?_))
 ·simp;intro h;subst h;simp at *
 refine zAu (fun i=>i≤l.length∧l.take i=m.take i) (fun i=>[(13,I (i:Nat))]) (fun i=>l.length-i) (0:Nat) (by simp) fun i ⟨hi,ha⟩=>?_
 refine zAc 1<|zAa<|zAh<|zCn ((↑i:Int)<(↑l.length:Int)) (fun k1=>(zAl<|zAh<|zAi 1<|zAc 2<|zAa<|zAc 2<|S_a [(2,.v (I (l.getD i 0)))] (ap (zB0 (0) (by omega):(List.map I l)[i]? = some (I (l.getD i 0))) an)<|zAd 3<|S_a [(2,.v (I (m.getD i 0)))] (ap (zB0 (0) (by omega):(List.map I m)[i]? = some (I (m.getD i 0))) an)<|zAd 2<|zAa<|zDE (l.getD i 0=m.getD i 0) (fun k2=>(zAc 1<|zAa<|zAm<|E_a [] an (PV.bool false) [] ?_ rfl)) (fun k2=>(zAl<|zAg<|S_a [(1,.v (I (↑(i+1):Int)))] (ap (wrN i) an)<|zAd 1<|zAa ?_)))) (fun k1=>(zAE 0<|zAc 1<|zAa<|zAm<|E_a [] an (PV.bool true) [] ?_ rfl))
 ·simp;intro h;subst h;omega
 ·refine ⟨i+1,⟨by omega,?_⟩,by omega,by kernel_rfl,by kernel_rfl⟩
  exact zEw (d:=0) (by omega) (by omega) ha (by assumption)
 ·rw [List.take_of_length_le (by omega),List.take_of_length_le (by omega)] at ha
  simp [ha]
theorem f33 (l m:List (Int)) (hl:l.length<4294967296):FG 33 [.sl (l.map I),.sl (m.map I)] (.bool (decide (l=m))):=by
 refine zAf Try.f33 ?_
 refine zAc 1<|zAa<|zAc 2<|S_a [(8,.ret (PV.bool (decide (l=m))) [])] (ap (f75 l m (by omega)) an)<|zAd 1<|zAa<|zAm<|E_a [] an (PV.bool (decide (l=m))) [] rfl rfl
theorem f106 (l m:List (Int×Int)) (hl:l.length<4294967296):FG 106 [.sl (l.map prV),.sl (m.map prV)] (.bool (decide (l=m))):=by
 refine zAf Try.f106 ?_
 refine zAc 1<|zAa<|zAh<|zAc 1<|S_a [(0,.n l.length)] (ap (lnS prV l) an)<|zAd 1<|S_a [(0,.n m.length)] (ap (lnS prV m) an)<|zAd 1<|zAa<|zDE ((↑l.length:Int)=(↑m.length:Int)) (fun k0=>(zAc 1<|zAa<|zAm<|E_a [] an (PV.bool false) [] ?_ rfl)) (fun k0=>(zAl<|zAh<|zAc 1<|S_a [(0,.n l.length)] (ap (lnS prV l) an)<|zAd 1<|zAa<|zAi 0 ?_))
 ·simp;intro h;subst h;simp at *
 refine zAu (fun i=>i≤l.length∧l.take i=m.take i) (fun i=>[(13,I (i:Nat))]) (fun i=>l.length-i) (0:Nat) (by simp) fun i ⟨hi,ha⟩=>?_
 refine zAc 1<|zAa<|zAh<|zCn ((↑i:Int)<(↑l.length:Int)) (fun k1=>(zAl<|zAh<|zAi 1<|zAc 2<|zAa<|zAc 2<|S_a [(2,.v (PV.agg [I (l.getD i default).fst,I (l.getD i default).snd]))] (ap (zB0 default (by omega):(List.map prV l)[i]? = some (PV.agg [I (l.getD i default).fst,I (l.getD i default).snd])) an)<|zAd 3<|S_a [(2,.v (PV.agg [I (m.getD i default).fst,I (m.getD i default).snd]))] (ap (zB0 default (by omega):(List.map prV m)[i]? = some (PV.agg [I (m.getD i default).fst,I (m.getD i default).snd])) an)<|zAd 1<|S_a [(0,.v (PV.bool !(decide ((l.getD i default).fst=(m.getD i default).fst)&&decide ((l.getD i default).snd=(m.getD i default).snd))))] (ap (zUu:zJM Try.prog BinOp.neq 79 (PV.agg [I (l.getD i default).fst,I (l.getD i default).snd]) (PV.agg [I (m.getD i default).fst,I (m.getD i default).snd])=some (PV.bool !(decide ((l.getD i default).fst=(m.getD i default).fst)&&decide ((l.getD i default).snd=(m.getD i default).snd)))) an)<|zAa<|zEu (!(decide ((l.getD i default).fst=(m.getD i default).fst)&&decide ((l.getD i default).snd=(m.getD i default).snd))) (fun k2=>(zAc 1<|zAa<|zAm<|E_a [] an (PV.bool false) [] ?_ rfl)) (fun k2=>(zAl<|zAg<|S_a [(1,.v (I (↑(i+1):Int)))] (ap (wrN i) an)<|zAd 1<|zAa ?_)))) (fun k1=>(zAE 0<|zAc 1<|zAa<|zAm<|E_a [] an (PV.bool true) [] ?_ rfl))
 ·simp;intro h;subst h;simp at *
 ·refine ⟨i+1,⟨by omega,?_⟩,by omega,by kernel_rfl,by kernel_rfl⟩
  exact zEw (d:=default) (by omega) (by omega) ha (by first | assumption | (simp only [Bool.not_eq_true,Bool.not_eq_false',Bool.and_eq_true,decide_eq_true_eq] at k2;exact Prod.ext k2.1 k2.2))
 ·rw [List.take_of_length_le (by omega),List.take_of_length_le (by omega)] at ha
  simp [ha]
theorem f76 (l m:List (Int×Int)) (hl:l.length<4294967296):FG 76 [.sl (l.map prV),.sl (m.map prV)] (.bool (decide (l=m))):=by
 refine zAf Try.f76 ?_
 refine zAc 1<|zAa<|zAc 2<|S_a [(8,.ret (PV.bool (decide (l=m))) [])] (ap (f106 l m (by omega)) an)<|zAd 1<|zAa<|zAm<|E_a [] an (PV.bool (decide (l=m))) [] rfl rfl
theorem f107 (l m:List (Int×Bool)) (hl:l.length<4294967296):FG 107 [.sl (l.map ntV),.sl (m.map ntV)] (.bool (decide (l=m))):=by
 refine zAf Try.f107 ?_
 refine zAc 1<|zAa<|zAh<|zAc 1<|S_a [(0,.n l.length)] (ap (lnS ntV l) an)<|zAd 1<|S_a [(0,.n m.length)] (ap (lnS ntV m) an)<|zAd 1<|zAa<|zDE ((↑l.length:Int)=(↑m.length:Int)) (fun k0=>(zAc 1<|zAa<|zAm<|E_a [] an (PV.bool false) [] ?_ rfl)) (fun k0=>(zAl<|zAh<|zAc 1<|S_a [(0,.n l.length)] (ap (lnS ntV l) an)<|zAd 1<|zAa<|zAi 0 ?_))
 ·simp;intro h;subst h;simp at *
 refine zAu (fun i=>i≤l.length∧l.take i=m.take i) (fun i=>[(13,I (i:Nat))]) (fun i=>l.length-i) (0:Nat) (by simp) fun i ⟨hi,ha⟩=>?_
 refine zAc 1<|zAa<|zAh<|zCn ((↑i:Int)<(↑l.length:Int)) (fun k1=>(zAl<|zAh<|zAi 1<|zAc 2<|zAa<|zAc 2<|S_a [(2,.v (PV.agg [I (l.getD i default).fst,PV.bool (l.getD i default).snd]))] (ap (zB0 default (by omega):(List.map ntV l)[i]? = some (PV.agg [I (l.getD i default).fst,PV.bool (l.getD i default).snd])) an)<|zAd 3<|S_a [(2,.v (PV.agg [I (m.getD i default).fst,PV.bool (m.getD i default).snd]))] (ap (zB0 default (by omega):(List.map ntV m)[i]? = some (PV.agg [I (m.getD i default).fst,PV.bool (m.getD i default).snd])) an)<|zAd 1<|S_a [(0,.v (PV.bool !(decide ((l.getD i default).fst=(m.getD i default).fst)&&decide ((l.getD i default).snd=(m.getD i default).snd))))] (ap (zSM:zJM Try.prog BinOp.neq 54 (PV.agg [I (l.getD i default).fst,PV.bool (l.getD i default).snd]) (PV.agg [I (m.getD i default).fst,PV.bool (m.getD i default).snd])=some (PV.bool !(decide ((l.getD i default).fst=(m.getD i default).fst)&&decide ((l.getD i default).snd=(m.getD i default).snd)))) an)<|zAa<|zEu (!(decide ((l.getD i default).fst=(m.getD i default).fst)&&decide ((l.getD i default).snd=(m.getD i default).snd))) (fun k2=>(zAc 1<|zAa<|zAm<|E_a [] an (PV.bool false) [] ?_ rfl)) (fun k2=>(zAl<|zAg<|S_a [(1,.v (I (↑(i+1):Int)))] (ap (wrN i) an)<|zAd 1<|zAa ?_)))) (fun k1=>(zAE 0<|zAc 1<|zAa<|zAm<|E_a [] an (PV.bool true) [] ?_ rfl))
 ·simp;intro h;subst h;simp at *
 ·refine ⟨i+1,⟨by omega,?_⟩,by omega,by kernel_rfl,by kernel_rfl⟩
  exact zEw (d:=default) (by omega) (by omega) ha (by first | assumption | (simp only [Bool.not_eq_true,Bool.not_eq_false',Bool.and_eq_true,decide_eq_true_eq] at k2;exact Prod.ext k2.1 k2.2))
 ·rw [List.take_of_length_le (by omega),List.take_of_length_le (by omega)] at ha
  simp [ha]
theorem f77 (l m:List (Int×Bool)) (hl:l.length<4294967296):FG 77 [.sl (l.map ntV),.sl (m.map ntV)] (.bool (decide (l=m))):=by
 refine zAf Try.f77 ?_
 refine zAc 1<|zAa<|zAc 2<|S_a [(8,.ret (PV.bool (decide (l=m))) [])] (ap (f107 l m (by omega)) an)<|zAd 1<|zAa<|zAm<|E_a [] an (PV.bool (decide (l=m))) [] rfl rfl
theorem f88 (l m:List (Int×Int)) (hl:l.length<4294967296):FG 88 [.sl (l.map prV),.sl (m.map prV)] (.bool (decide (l=m))):=by
 refine zAf Try.f88 ?_
 refine zAc 1<|zAa<|zAh<|zAc 1<|S_a [(0,.n l.length)] (ap (lnS prV l) an)<|zAd 1<|S_a [(0,.n m.length)] (ap (lnS prV m) an)<|zAd 1<|zAa<|zDE ((↑l.length:Int)=(↑m.length:Int)) (fun k0=>(zAc 1<|zAa<|zAm<|E_a [] an (PV.bool false) [] ?_ rfl)) (fun k0=>(zAl<|zAh<|zAc 1<|S_a [(0,.n l.length)] (ap (lnS prV l) an)<|zAd 1<|zAa<|zAi 0 ?_))
 ·simp;intro h;subst h;simp at *
 refine zAu (fun i=>i≤l.length∧l.take i=m.take i) (fun i=>[(13,I (i:Nat))]) (fun i=>l.length-i) (0:Nat) (by simp) fun i ⟨hi,ha⟩=>?_
 refine zAc 1<|zAa<|zAh<|zCn ((↑i:Int)<(↑l.length:Int)) (fun k1=>(zAl<|zAh<|zAi 1<|zAc 2<|zAa<|zAc 2<|S_a [(2,.v (PV.agg [I (l.getD i default).fst,I (l.getD i default).snd]))] (ap (zB0 default (by omega):(List.map prV l)[i]? = some (PV.agg [I (l.getD i default).fst,I (l.getD i default).snd])) an)<|zAd 3<|S_a [(2,.v (PV.agg [I (m.getD i default).fst,I (m.getD i default).snd]))] (ap (zB0 default (by omega):(List.map prV m)[i]? = some (PV.agg [I (m.getD i default).fst,I (m.getD i default).snd])) an)<|zAd 1<|S_a [(0,.v (PV.bool !(decide ((l.getD i default).fst=(m.getD i default).fst)&&decide ((l.getD i default).snd=(m.getD i default).snd))))] (ap (zQa:zJM Try.prog BinOp.neq 42 (PV.agg [I (l.getD i default).fst,I (l.getD i default).snd]) (PV.agg [I (m.getD i default).fst,I (m.getD i default).snd])=some (PV.bool !(decide ((l.getD i default).fst=(m.getD i default).fst)&&decide ((l.getD i default).snd=(m.getD i default).snd)))) an)<|zAa<|zEu (!(decide ((l.getD i default).fst=(m.getD i default).fst)&&decide ((l.getD i default).snd=(m.getD i default).snd))) (fun k2=>(zAc 1<|zAa<|zAm<|E_a [] an (PV.bool false) [] ?_ rfl)) (fun k2=>(zAl<|zAg<|S_a [(1,.v (I (↑(i+1):Int)))] (ap (wrN i) an)<|zAd 1<|zAa ?_)))) (fun k1=>(zAE 0<|zAc 1<|zAa<|zAm<|E_a [] an (PV.bool true) [] ?_ rfl))
 ·simp;intro h;subst h;simp at *
 ·refine ⟨i+1,⟨by omega,?_⟩,by omega,by kernel_rfl,by kernel_rfl⟩
  exact zEw (d:=default) (by omega) (by omega) ha (by first | assumption | (simp only [Bool.not_eq_true,Bool.not_eq_false',Bool.and_eq_true,decide_eq_true_eq] at k2;exact Prod.ext k2.1 k2.2))
 ·rw [List.take_of_length_le (by omega),List.take_of_length_le (by omega)] at ha
  simp [ha]
theorem f50 (l m:List (Int×Int)) (hl:l.length<4294967296):FG 50 [.sl (l.map prV),.sl (m.map prV)] (.bool (decide (l=m))):=by
 refine zAf Try.f50 ?_
 refine zAc 1<|zAa<|zAc 2<|S_a [(8,.ret (PV.bool (decide (l=m))) [])] (ap (f88 l m (by omega)) an)<|zAd 1<|zAa<|zAm<|E_a [] an (PV.bool (decide (l=m))) [] rfl rfl
theorem f92 (l m:List (Int×Int)) (hl:l.length<4294967296):FG 92 [.sl (l.map prV),.sl (m.map prV)] (.bool (decide (l=m))):=by
 refine zAf Try.f92 ?_
 refine zAc 1<|zAa<|zAh<|zAc 1<|S_a [(0,.n l.length)] (ap (lnS prV l) an)<|zAd 1<|S_a [(0,.n m.length)] (ap (lnS prV m) an)<|zAd 1<|zAa<|zDE ((↑l.length:Int)=(↑m.length:Int)) (fun k0=>(zAc 1<|zAa<|zAm<|E_a [] an (PV.bool false) [] ?_ rfl)) (fun k0=>(zAl<|zAh<|zAc 1<|S_a [(0,.n l.length)] (ap (lnS prV l) an)<|zAd 1<|zAa<|zAi 0 ?_))
 ·simp;intro h;subst h;simp at *
 refine zAu (fun i=>i≤l.length∧l.take i=m.take i) (fun i=>[(13,I (i:Nat))]) (fun i=>l.length-i) (0:Nat) (by simp) fun i ⟨hi,ha⟩=>?_
 refine zAc 1<|zAa<|zAh<|zCn ((↑i:Int)<(↑l.length:Int)) (fun k1=>(zAl<|zAh<|zAi 1<|zAc 2<|zAa<|zAc 2<|S_a [(2,.v (PV.agg [I (l.getD i default).fst,I (l.getD i default).snd]))] (ap (zB0 default (by omega):(List.map prV l)[i]? = some (PV.agg [I (l.getD i default).fst,I (l.getD i default).snd])) an)<|zAd 3<|S_a [(2,.v (PV.agg [I (m.getD i default).fst,I (m.getD i default).snd]))] (ap (zB0 default (by omega):(List.map prV m)[i]? = some (PV.agg [I (m.getD i default).fst,I (m.getD i default).snd])) an)<|zAd 1<|S_a [(0,.v (PV.bool !(decide ((l.getD i default).fst=(m.getD i default).fst)&&decide ((l.getD i default).snd=(m.getD i default).snd))))] (ap (zQa:zJM Try.prog BinOp.neq 34 (PV.agg [I (l.getD i default).fst,I (l.getD i default).snd]) (PV.agg [I (m.getD i default).fst,I (m.getD i default).snd])=some (PV.bool !(decide ((l.getD i default).fst=(m.getD i default).fst)&&decide ((l.getD i default).snd=(m.getD i default).snd)))) an)<|zAa<|zEu (!(decide ((l.getD i default).fst=(m.getD i default).fst)&&decide ((l.getD i default).snd=(m.getD i default).snd))) (fun k2=>(zAc 1<|zAa<|zAm<|E_a [] an (PV.bool false) [] ?_ rfl)) (fun k2=>(zAl<|zAg<|S_a [(1,.v (I (↑(i+1):Int)))] (ap (wrN i) an)<|zAd 1<|zAa ?_)))) (fun k1=>(zAE 0<|zAc 1<|zAa<|zAm<|E_a [] an (PV.bool true) [] ?_ rfl))
 ·simp;intro h;subst h;simp at *
 ·refine ⟨i+1,⟨by omega,?_⟩,by omega,by kernel_rfl,by kernel_rfl⟩
  exact zEw (d:=default) (by omega) (by omega) ha (by first | assumption | (simp only [Bool.not_eq_true,Bool.not_eq_false',Bool.and_eq_true,decide_eq_true_eq] at k2;exact Prod.ext k2.1 k2.2))
 ·rw [List.take_of_length_le (by omega),List.take_of_length_le (by omega)] at ha
  simp [ha]
theorem f53 (l m:List (Int×Int)) (hl:l.length<4294967296):FG 53 [.sl (l.map prV),.sl (m.map prV)] (.bool (decide (l=m))):=by
 refine zAf Try.f53 ?_
 refine zAc 1<|zAa<|zAc 2<|S_a [(8,.ret (PV.bool (decide (l=m))) [])] (ap (f92 l m (by omega)) an)<|zAd 1<|zAa<|zAm<|E_a [] an (PV.bool (decide (l=m))) [] rfl rfl
theorem f60 (l:List (Int×Int)) (hl:l.length<1000000):FG 60 [.sl (l.map prV)] (.own 2 (l.map prV)):=by
 refine zAf Try.f60 ?_
 refine zAc 1<|zAa<|zAc 1<|S_a [(0,.n l.length)] (ap (lnS prV l) an)<|S_a [(4,.ob),(0,.ob),(1,.v (PV.own 2 (List.map (fun x=>PV.agg [I 0,I 0]) (List.replicate l.length ()))))] (ap ((by exact zAr (by omega)):decide (l.length≤l.length)=true)<|ap ((by exact zAr (by simp [zBe]<;>omega)):decide (l.length≤zBe)=true)<|ap ((by simp):PV.own 2 (List.replicate l.length (PV.agg [I 0,I 0]))=PV.own 2 (List.map (fun x=>PV.agg [I 0,I 0]) (List.replicate l.length ()))) an)<|zAd 1<|zAa<|zAc 2<|zNv (fun q=>q) 3 2 (List.map (fun x=>PV.agg [I 0,I 0]) (List.replicate l.length ())) (List.map prV l) (List.map prV l) (zLk fun _ _=>(by first | exact zGL | exact ⟨rfl,rfl,rfl,rfl,Nat.le_refl _,rfl⟩)) (by simp<;>omega) (zNf (by simp<;>omega)) zOj.nil (zAa<|zAc 1<|S_a [(2,.yes)] (ap ((by exact zBW (by simp<;>omega)):(Nat.beq 0 0&&(List.map prV l).length.beq (List.map prV l).length)=true) an)<|zAa<|zAm<|E_a [(1,.yes),(1,.v (PV.own 2 (List.map prV l)))] (ap (blz (List.map prV l))<|ap ((zA3 zAV):PV.own 2 (List.take (List.map prV l).length (List.drop 0 (List.map prV l)))=PV.own 2 (List.map prV l)) an) (PV.own 2 (List.map prV l)) [] rfl rfl)
theorem f61 (l:List (Int×Bool)) (hl:l.length<1000000):FG 61 [.sl (l.map ntV)] (.own 2 (l.map ntV)):=by
 refine zAf Try.f61 ?_
 refine zAc 1<|zAa<|zAc 1<|S_a [(0,.n l.length)] (ap (lnS ntV l) an)<|S_a [(4,.ob),(0,.ob),(1,.v (PV.own 2 (List.map (fun x=>PV.agg [I 0,PV.bool false]) (List.replicate l.length ()))))] (ap ((by exact zAr (by omega)):decide (l.length≤l.length)=true)<|ap ((by exact zAr (by simp [zBe]<;>omega)):decide (l.length≤zBe)=true)<|ap ((by simp):PV.own 2 (List.replicate l.length (PV.agg [I 0,PV.bool false]))=PV.own 2 (List.map (fun x=>PV.agg [I 0,PV.bool false]) (List.replicate l.length ()))) an)<|zAd 1<|zAa<|zAc 2<|zNv (fun q=>q) 3 2 (List.map (fun x=>PV.agg [I 0,PV.bool false]) (List.replicate l.length ())) (List.map ntV l) (List.map ntV l) (zLk fun _ _=>(by first | exact zGL | exact ⟨rfl,rfl,rfl,rfl,Nat.le_refl _,rfl⟩)) (by simp<;>omega) (zNf (by simp<;>omega)) zOj.nil (zAa<|zAc 1<|S_a [(2,.yes)] (ap ((by exact zBW (by simp<;>omega)):(Nat.beq 0 0&&(List.map ntV l).length.beq (List.map ntV l).length)=true) an)<|zAa<|zAm<|E_a [(1,.yes),(1,.v (PV.own 2 (List.map ntV l)))] (ap (blz (List.map ntV l))<|ap ((zA3 zAV):PV.own 2 (List.take (List.map ntV l).length (List.drop 0 (List.map ntV l)))=PV.own 2 (List.map ntV l)) an) (PV.own 2 (List.map ntV l)) [] rfl rfl)
theorem f96 (l:List (Int)) (hl:l.length<1000000):FG 96 [.sl (l.map I)] (.own 1 (l.map I)):=by
 refine zAf Try.f96 ?_
 refine zAc 1<|zAa<|zAc 1<|S_a [(0,.n l.length)] (ap (lnS I l) an)<|S_a [(4,.ob),(0,.ob),(1,.v (PV.own 1 (List.map I (List.replicate l.length 0))))] (ap ((by exact zAr (by omega)):decide (l.length≤l.length)=true)<|ap ((by exact zAr (by simp [zBe]<;>omega)):decide (l.length≤zBe)=true)<|ap ((by simp):PV.own 1 (List.replicate l.length (I 0))=PV.own 1 (List.map I (List.replicate l.length 0))) an)<|zAd 1<|zAa<|zAc 2<|zNv (fun q=>q) 3 1 (List.map I (List.replicate l.length 0)) (List.map I l) (List.map I l) (zLk fun _ _=>(by first | exact zGL | exact ⟨rfl,rfl,rfl,rfl,Nat.le_refl _,rfl⟩)) (by simp<;>omega) (zNf (by simp<;>omega)) zOj.nil (zAa<|zAc 1<|S_a [(2,.yes)] (ap ((by exact zBW (by simp<;>omega)):(Nat.beq 0 0&&(List.map I l).length.beq (List.map I l).length)=true) an)<|zAa<|zAm<|E_a [(1,.yes),(1,.v (PV.own 1 (List.map I l)))] (ap (blz (List.map I l))<|ap ((zA3 zAV):PV.own 1 (List.take (List.map I l).length (List.drop 0 (List.map I l)))=PV.own 1 (List.map I l)) an) (PV.own 1 (List.map I l)) [] rfl rfl)
theorem f62 (l:List (List Int)) (hl:l.length<1000000) (hr:∀ r∈l,r.length<1000000):FG 62 [.sl (l.map zAF)] (.own 1 (l.map zD0)):=by
 refine zAf Try.f62 ?_
 refine zAc 1<|zAa<|zAc 1<|S_a [(0,.n l.length)] (ap (lnS zAF l) an)<|S_a [(4,.ob),(0,.ob),(1,.v (PV.own 1 (List.map (fun l=>PV.own 1 (List.map I l)) (List.replicate l.length []))))] (ap ((by exact zAr (by omega)):decide (l.length≤l.length)=true)<|ap ((by exact zAr (by simp [zBe]<;>omega)):decide (l.length≤zBe)=true)<|ap ((by simp):PV.own 1 (List.replicate l.length (PV.own 1 []))=PV.own 1 (List.map (fun l=>PV.own 1 (List.map I l)) (List.replicate l.length []))) an)<|zAd 1<|zAa<|zAh<|zAc 1<|S_a [(0,.n l.length)] (ap (lnS zAF l) an)<|zAd 1<|zAa<|zAi 0 ?_
 refine zAu (fun (i,q)=>i≤l.length∧q=l.take i++List.replicate (l.length-i) []) (fun (i,q)=>[(3,.own 1 (q.map zD0)),(11,I (i:Nat))]) (fun (i,_)=>l.length-i) ((0:Nat),List.replicate l.length []) ⟨Nat.zero_le _,by simp⟩ fun (i,q) ⟨hi,hq⟩=>?_
 have gK:q.length=l.length:=by rw [hq];simp;omega
 by_cases yJ:i<l.length
 ·have gl:=zCe (d:=[]) hr i yJ
  refine zAc 1<|zAa<|zAh<|zA0 ((↑i:Int)<(↑l.length:Int)) (by omega)<|zAl<|zAh<|zAi 1<|zAc 1<|S_a [(2,.v (zAF (l.getD i [])))] (ap (zB0 [] (by omega):(List.map zAF l)[i]? = some (zAF (l.getD i []))) an)<|zAd 3<|zAa<|zAg<|zAd 3<|S_a [(6,.ret (PV.own 1 (List.map I (l.getD i []))) [])] (ap (f96 (l.getD i []) (by omega)) an)<|S_a [(2,.ob),(1,.n i)] (ap ((by exact zAr (by simp only [List.length_map,zzLn]<;>omega)):decide (i<(List.map zD0 q).length)=true)<|ap ((by simp):some (0+i)=some i) an)<|S_a [(8,.root (PV.own 1 (List.map zD0 (q.set i (l.getD i [])))) true)] (ap (zUY (zB0 [] (by omega)) zKL:zBF (PV.own 1 (List.map zD0 q)) [] i 0 (PV.own 1 (List.map I (l.getD i []))).cells=some (PV.own 1 (List.map zD0 (q.set i (l.getD i []))))∧zAJ (PV.own 1 (List.map zD0 q)) (PV.own 1 (List.map zD0 (q.set i (l.getD i [])))) []=true) an)<|zAa<|zAg<|S_a [(1,.v (I (↑(i+1):Int)))] (ap (wrN i) an)<|zAd 1<|zAa ?_
  refine ⟨(i+1,q.set i (l.getD i [])),⟨by omega,?_⟩,by simp only;omega,by kernel_rfl,by kernel_rfl⟩
  rw [hq,zCo (d:=[]) yJ,zUo yJ]
 ·refine zAc 1<|zAa<|zAh<|zA1 ((↑i:Int)<(↑l.length:Int)) (by omega)<|zAE 0<|zAc 1<|S_a [(2,.yes)] (ap ((by exact zBW (by simp<;>omega)):(Nat.beq 0 0&&(List.map zD0 q).length.beq (List.map zD0 q).length)=true) an)<|zAa<|zAm<|E_a [(1,.yes),(1,.v (PV.own 1 (List.map zD0 q)))] (ap (blz (List.map zD0 q))<|ap ((zA3 zAV):PV.own 1 (List.take (List.map zD0 q).length (List.drop 0 (List.map zD0 q)))=PV.own 1 (List.map zD0 q)) an) (PV.own 1 (List.map zD0 q)) [] ?_ rfl
  rw [hq,show l.length-i=0 by omega,List.take_of_length_le (by omega)];simp
theorem f58 (l:List (Int)) (x:Int) (hl:l.length<4294967296):FG 58 [.sl (l.map I),I x] (I (zEL (fun y=>decide (x=y)) l)):=by
 refine zAf Try.f58 ?_
 refine zAc 1<|zAa<|zAh<|zAc 1<|S_a [(0,.n l.length)] (ap (lnS I l) an)<|zAd 1<|zAa<|zAi 0 ?_
 refine zAu (fun i=>i≤l.length∧∀ j,j<i→decide (x=l.getD j 0)=false) (fun i=>[(8,I (i:Nat))]) (fun i=>l.length-i) (0:Nat) (by simp) fun i ⟨hi,ha⟩=>?_
 refine zAc 1<|zAa<|zAh<|zCn ((↑i:Int)<(↑l.length:Int)) (fun k0=>(zAl<|zAh<|zAi 1<|zAc 2<|zAa<|zAc 3<|S_a [(2,.v (I (l.getD i 0)))] (ap (zB0 (0) (by omega):(List.map I l)[i]? = some (I (l.getD i 0))) an)<|zAd 2<|zAa<|zCn (x=l.getD i 0) (fun k1=>(zAc 2<|zAa<|zAm<|E_a [] an (I (↑i:Int)) [] ?_ rfl)) (fun k1=>(zAl<|zAg<|S_a [(1,.v (I (↑(i+1):Int)))] (ap (wrN i) an)<|zAd 1<|zAa ?_)))) (fun k0=>(zAE 0<|zAc 1<|zAa<|zAm<|E_a [] an (I (-1)) [] ?_ rfl))
 ·rw [zBV (i:=i) (by omega) (fun j hj=>by rw [← zAB (d:=0)];exact ha j hj) (by rw [← zAB (d:=0)];simp only [decide_eq_true_eq,decide_eq_false_iff_not] at *;omega)]
 ·refine ⟨i+1,⟨by omega,fun j hj=>?_⟩,by omega,by kernel_rfl,by kernel_rfl⟩
  rcases Nat.lt_succ_iff_lt_or_eq.1 hj with h | rfl
  ·exact ha j h
  ·simp only [decide_eq_true_eq,decide_eq_false_iff_not] at *;omega
 ·rw [zCi fun j hj=>by rw [← zAB (d:=0)];exact ha j (by omega)]
theorem f20 (l:List (Int)) (x:Int) (hl:l.length<4294967296):FG 20 [.sl (l.map I),I x] (.bool (has l x)):=by
 refine zAf Try.f20 ?_
 refine zAc 1<|zAa<|zAc 2<|S_a [(8,.ret (I (zEL (fun y=>decide (x=y)) l)) [])] (ap (f58 l x (by omega)) an)<|zAd 2<|zAa<|zAm<|E_a [] an (PV.bool (decide (zEL (fun y=>decide (x=y)) l≥0))) [] ?_ rfl
 rw [zD5];rfl
theorem f71 (l:List (Int)) (hl:l.length<4294967296):FG 71 [.sl (l.map I)] (.own 1 (l.map I)):=zGB (fn:=Try.f71) I l (by omega)
theorem f117 (l:List (Int×Int)) (hl:l.length<4294967296):FG 117 [.sl (l.map prV)] (.own 2 (l.map prV)):=zGB (fn:=Try.f117) prV l (by omega)
theorem f115 (l:List (Int×Int)) (hl:l.length<4294967296):FG 115 [.sl (l.map prV)] (.own 2 (l.map prV)):=zGB (fn:=Try.f115) prV l (by omega)
theorem f95 (x:Int):FG 95 [I x] (.bool false):=by
 refine zAf Try.f95 ?_
 refine zAc 1<|zAa<|zAc 4<|zAa<|zAm<|E_a [] an (PV.bool (x != x)) [] (by simp [*]) rfl
theorem f56 (x y:Int):FG 56 [I x,I y] (.bool (decide (x<y))):=by
 refine zAf Try.f56 ?_
 refine zAc 1<|zAa<|zAc 1<|S_a [(6,.ret (PV.bool false) [])] (ap (f95 x) an)<|zAd 11<|zAa<|zAm<|E_a [] an (PV.bool (decide (x<y))) [] rfl rfl
end
end Go.Eng
set_option maxRecDepth 10000
set_option maxHeartbeats 4000000
namespace Go.Eng
open Go Go.Proofs
def zUT (o:List Int) (x:Int):List Int:=if o.getLast? = some x then o else o++[x]
def zGE (l:List Int):List Int:=l.foldl zUT []
theorem zRl (o:List Int) (x:Int):(zUT o x).getLast? = some x:=by
 unfold zUT;split
 ·assumption
 ·simp
theorem zGH {l:List Int} {i:Nat} (h:i<l.length):zGE (l.take (i+1))=zUT (zGE (l.take i)) (l.getD i 0):=zGC h
theorem zRL {l:List Int} {i:Nat} (h:i<l.length):(zGE (l.take (i+1))).getLast? = some (l.getD i 0):=by
 rw [zGH h];exact zRl _ _
theorem zG0 {l:List Int} {i:Nat} (h0:0<i) (h:i<l.length):zGE (l.take (i+1))=if l.getD i 0=l.getD (i-1) 0 then zGE (l.take i) else zGE (l.take i)++[l.getD i 0]:=by
 obtain ⟨j,rfl⟩:∃ j,i=j+1:=⟨i-1,by omega⟩
 rw [zGH h,zUT,zRL (by omega)]
 simp only [Nat.add_sub_cancel,Option.some.injEq,eq_comm]
theorem zLd {S:List Int} {p:Nat} {x:Int} (h:p<S.length):(S.set p x).take (p+1)=S.take p++[x]:=by
 rw [zCo (d:=0) (by simpa using h),List.take_set_of_le (Nat.le_refl p),zCL,if_pos ⟨rfl,h⟩]
theorem zGR {l:List Int}:∀ k,k≤l.length→(∀ j,1≤j→j<k→l.getD j 0≠l.getD (j-1) 0)→zGE (l.take k)=l.take k
 | 0,_,_=>rfl
 | k+1,hk,h=>by
  have ih:=zGR k (by omega) fun j h1 h2=>h j h1 (by omega)
  cases k with
  | zero=>rw [zGH (by omega)];simp [zGE,zUT,zCo (d:=0) (show 0<l.length by omega)]
  | succ k=>rw [zG0 (by omega) (by omega),if_neg (h (k+1) (by omega) (by omega)),ih,← zCo (by omega)]
def zSF (l:List Int):Bool:=(List.range (l.length-1)).all fun j=>decide (l.getD j 0<l.getD (j+1) 0)
def zFx (l:List Int):Bool:=(List.range (l.length-1)).all fun j=>decide (l.getD j 0≤l.getD (j+1) 0)
section
variable [Yo]
theorem f108 (l m:List (List Int)) (hl:l.length<4294967296) (hr:∀ r∈l,r.length<4294967296):FG 108 [.sl (l.map zAF),.sl (m.map zAF),.func 75 [] []] (.bool (decide (l=m))):=by
 refine zAf Try.f108 ?_
 refine zAc 1<|zAa<|zAh<|zAc 1<|S_a [(0,.n l.length)] (ap (lnS zAF l) an)<|zAd 1<|S_a [(0,.n m.length)] (ap (lnS zAF m) an)<|zAd 1<|zAa<|zDE ((↑l.length:Int)=(↑m.length:Int)) (fun k0=>(zAc 1<|zAa<|zAm<|E_a [] an (PV.bool false) [] ?_ rfl)) (fun k0=>(zAl<|zAh<|zAc 1<|S_a [(0,.n l.length)] (ap (lnS zAF l) an)<|zAd 1<|zAa<|zAi 0 ?_))
 ·simp;intro h;subst h;simp at *
 refine zAu (fun i=>i≤l.length∧l.take i=m.take i) (fun i=>[(17,I (i:Nat))]) (fun i=>l.length-i) (0:Nat) (by simp) fun i ⟨hi,ha⟩=>?_
 by_cases yJ:i<l.length
 ·have gl:=zCe (d:=[]) hr i yJ
  refine zAc 1<|zAa<|zAh<|zA0 ((↑i:Int)<(↑l.length:Int)) (by omega)<|zAl<|zAh<|zAi 1<|zAc 1<|S_a [(2,.v (zAF (l.getD i [])))] (ap (zB0 [] (by omega):(List.map zAF l)[i]? = some (zAF (l.getD i []))) an)<|zAd 3<|zAa<|zAc 2<|S_a [(2,.v (zAF (m.getD i [])))] (ap (zB0 [] (by omega):(List.map zAF m)[i]? = some (zAF (m.getD i []))) an)<|zAd 2<|zAa<|zAc 3<|S_a [(8,.ret (PV.bool (decide (l.getD i []=m.getD i []))) [])] (ap (f75 (l.getD i []) (m.getD i []) (by omega)) an)<|zAd 1<|zAa<|zDE (l.getD i []=m.getD i []) (fun k1=>(zAc 1<|zAa<|zAm<|E_a [] an (PV.bool false) [] ?_ rfl)) (fun k1=>(zAl<|zAg<|S_a [(1,.v (I (↑(i+1):Int)))] (ap (wrN i) an)<|zAd 1<|zAa ?_))
  ·simp;intro h;subst h;simp at *
  ·refine ⟨i+1,⟨by omega,?_⟩,by omega,by kernel_rfl,by kernel_rfl⟩
   exact zEw (d:=[]) (by omega) (by omega) ha (by assumption)
 ·refine zAc 1<|zAa<|zAh<|zA1 ((↑i:Int)<(↑l.length:Int)) (by omega)<|zAE 0<|zAc 1<|zAa<|zAm<|E_a [] an (PV.bool true) [] ?_ rfl
  rw [List.take_of_length_le (by omega),List.take_of_length_le (by omega)] at ha
  simp [ha]
theorem f78 (l m:List (List Int)) (hl:l.length<4294967296) (hr:∀ r∈l,r.length<4294967296):FG 78 [.sl (l.map zAF),.sl (m.map zAF)] (.bool (decide (l=m))):=by
 refine zAf Try.f78 ?_
 refine zAc 1<|zAa<|zAc 2<|S_a [(9,.ret (PV.bool (decide (l=m))) [])] (ap (f108 l m (by omega) (by omega)) an)<|zAd 1<|zAa<|zAm<|E_a [] an (PV.bool (decide (l=m))) [] rfl rfl
theorem f17 (l:List Int) (hl:l.length<4294967296):FG 17 [zAF l] (.bool (zFx l)):=by
 refine zAf Try.f17 ?_
 refine zAc 1<|zAa<|zAh<|zAc 1<|S_a [(0,.n l.length)] (ap (lnS I l) an)<|S_a [(1,.v (I ((↑l.length:Int)-1)))] (ap ((zDl rfl (by omega)):I (IntKind.i64.wrap ((↑l.length:Int)-1))=I ((↑l.length:Int)-1)) an)<|zAd 1<|zAa<|zAi 0 ?_
 refine zAu (fun (x:Int)=>x<l.length∧∀ j:Nat,x<j→j<l.length→0<j→l.getD (j-1) 0≤l.getD j 0) (fun x=>[(3,I x)]) (fun x=>x.toNat) ((l.length:Int)-1) ⟨by omega,fun j h1 h2=>by omega⟩ fun x ⟨hi,ha⟩=>?_
 have e2:(x-1).toNat=x.toNat-1:=by omega
 by_cases h1:0<x
 ·refine zAh<|zAc 2<|zAa<|zA0 (x>0) (by omega)<|zAl<|zAh<|zAi 1<|zAc 2<|S_a [(0,.ob),(1,.v (I (l.getD x.toNat 0)))] (ap ((by exact zAr (by omega)):decide (0≤x)=true)<|ap (zB0 (0) (by omega):(List.map I l)[x.toNat]? = some (I (l.getD x.toNat 0))) an)<|zAd 3<|S_a [(1,.v (I (x-1)))] (ap ((zDl rfl (by omega)):I (IntKind.i64.wrap (x-1))=I (x-1)) an)<|S_a [(0,.ob),(1,.v (I (l.getD (x-1).toNat 0)))] (ap ((by exact zAr (by omega)):decide (0≤x-1)=true)<|ap (zB0 (0) (by omega):(List.map I l)[(x-1).toNat]? = some (I (l.getD (x-1).toNat 0))) an)<|zAd 1<|S_a [(8,.ret (PV.bool (decide (l.getD x.toNat 0<l.getD (x-1).toNat 0))) [])] (ap (f56 (l.getD x.toNat 0) (l.getD (x-1).toNat 0)) an)<|zAa<|zCn (l.getD x.toNat 0<l.getD (x-1).toNat 0) (fun k0=>(zAc 1<|zAa<|zAm<|E_a [] an (PV.bool false) [] ?_ rfl)) (fun k0=>(zAl<|zAg<|zAd 1<|S_a [(1,.v (I (x-1)))] (ap ((zDl rfl (by omega)):I (IntKind.i64.wrap (x-1))=I (x-1)) an)<|zAd 1<|zAa ?_))
  ·rw [e2] at k0
   have:zFx l=false:=by
    simp only [zFx,List.all_eq_false]
    exact ⟨x.toNat-1,List.mem_range.2 (by omega),by rw [show x.toNat-1+1=x.toNat by omega];simp only [decide_eq_true_eq];omega⟩
   rw [this]
  ·rw [e2] at k0
   refine ⟨x-1,⟨by omega,fun j h3 h4 h5=>?_⟩,by omega,by kernel_rfl,by kernel_rfl⟩
   by_cases hj:j=x.toNat
   ·subst hj;omega
   ·exact ha j (by omega) h4 h5
 ·refine zAh<|zAc 2<|zAa<|zA1 (x>0) (by omega)<|zAE 0<|zAc 1<|zAa<|zAm<|E_a [] an (PV.bool true) [] ?_ rfl
  have:zFx l=true:=by
   simp only [zFx,List.all_eq_true,List.mem_range,decide_eq_true_eq]
   exact fun j hj=>by have:=ha (j+1) (by omega) (by omega) (by omega);simpa using this
  rw [this]
theorem f54 (l:List Int) (hl:l.length<4294967296):FG 54 [.own 1 (l.map I)] (.own 1 ((zGE l).map I)):=by
 refine zAf Try.f54 ?_
 refine zAc 1<|zAa<|zAh<|zAc 1<|S_a [(0,.n l.length)] (ap (lnS I l) an)<|zAd 1<|zAa<|zCn ((↑l.length:Int)<2) (fun k0=>(zAc 1<|S_a [(2,.yes)] (ap ((by exact zBW (by simp<;>omega)):(Nat.beq 0 0&&(List.map I l).length.beq (List.map I l).length)=true) an)<|zAa<|zAm<|E_a [(1,.yes),(1,.v (PV.own 1 (List.map I l)))] (ap (blz (List.map I l))<|ap ((zA3 zAV):PV.own 1 (List.take (List.map I l).length (List.drop 0 (List.map I l)))=PV.own 1 (List.map I l)) an) (PV.own 1 (List.map I l)) [] ?_ rfl)) (fun k0=>(zAl<|zAh<|zAc 1<|zAa<|zAi 0 ?_))
 ·have:=zGR (l:=l) l.length (Nat.le_refl _) fun j h1 h2=>by omega
  rw [List.take_length] at this
  rw [this]
 ·refine zAu (fun k=>1≤k∧k≤l.length∧∀ j,1≤j→j<k→l.getD j 0≠l.getD (j-1) 0) (fun k=>[(3,I (k:Nat))]) (fun k=>l.length-k) (1:Nat) ⟨by omega,by omega,fun j h1 h2=>absurd h1 (by omega)⟩ fun k ⟨jF,hk,ha⟩=>?_
  have jd:=zGR k hk ha
  refine zAh<|zAc 2<|S_a [(0,.n l.length)] (ap (lnS I l) an)<|zAd 1<|zAa<|zCn ((↑k:Int)<(↑l.length:Int)) (fun k2=>(zAl<|zAh<|zAi 1<|zAc 2<|S_a [(2,.ob),(1,.n k)] (ap ((by exact zAr (by simp only [List.length_map,zzLn]<;>omega)):decide (k<(List.map I l).length)=true)<|ap ((by simp):some (0+k)=some k) an)<|S_a [(0,.cs false ([I (l.getD k 0)]))] (ap (zDu (q:=PV.own 1 (List.map I l)) (xs:=List.map I l) (x:=I (l.getD k 0)) rfl (zB0 (0) (by omega)):zAv 0 (PV.own 1 (List.map I l)) [] k 0 1=some (false,[I (l.getD k 0)])) an)<|zAd 2<|S_a [(1,.v (I (↑(k-1):Int)))] (ap ((zDl (by omega) (by omega)):I (IntKind.i64.wrap ((↑k:Int)-1))=I (↑(k-1):Int)) an)<|S_a [(2,.ob),(1,.n (k-1))] (ap ((by exact zAr (by simp only [List.length_map,zzLn]<;>omega)):decide (k-1<(List.map I l).length)=true)<|ap ((by simp):some (0+(k-1))=some (k-1)) an)<|S_a [(0,.cs false ([I (l.getD (k-1) 0)]))] (ap (zDu (q:=PV.own 1 (List.map I l)) (xs:=List.map I l) (x:=I (l.getD (k-1) 0)) rfl (zB0 (0) (by omega)):zAv 0 (PV.own 1 (List.map I l)) [] (k-1) 0 1=some (false,[I (l.getD (k-1) 0)])) an)<|zAd 1<|zAa<|zCn (l.getD k 0=l.getD (k-1) 0) (fun k3=>(zAc 2<|S_a [(3,.ob),(0,.yes),(0,.yes),(0,.v (PV.bor 0 [] 1 k (l.length-k)))] (ap ((by exact zBx (by simp only [List.length_map,zzLn,zBe]<;>omega)):k.ble (List.map I l).length=true)<|ap ((by exact zBx (by simp only [List.length_map,zzLn,zBe]<;>omega)):(List.map I l).length.ble (List.map I l).length=true)<|ap ((by simp<;>omega):(k.beq 0||k.blt (List.map I l).length)=true)<|ap ((by simp):PV.bor 0 [] 1 (0+k) ((List.map I l).length-k)=PV.bor 0 [] 1 k (l.length-k)) an)<|zAd 1<|zAa<|zAh<|zAc 1<|zAa<|zAi 2 ?_)) (fun k3=>(zAl<|zAg<|zAd 1<|S_a [(1,.v (I (↑(k+1):Int)))] (ap (wrN k) an)<|zAd 1<|zAa ?_)))) (fun k2=>(zAE 0<|zAc 1<|S_a [(2,.yes)] (ap ((by exact zBW (by simp<;>omega)):(Nat.beq 0 0&&(List.map I l).length.beq (List.map I l).length)=true) an)<|zAa<|zAm<|E_a [(1,.yes),(1,.v (PV.own 1 (List.map I l)))] (ap (blz (List.map I l))<|ap ((zA3 zAV):PV.own 1 (List.take (List.map I l).length (List.drop 0 (List.map I l)))=PV.own 1 (List.map I l)) an) (PV.own 1 (List.map I l)) [] ?_ rfl))
  ·have e0:zGE (l.take (k+1))=l.take k:=by rw [zG0 (by omega) (by omega),if_pos k3,jd]
   clear ha jd
   refine zAu (fun (p,q,S)=>1≤q∧k+q≤l.length∧p<k+q∧S.length=l.length∧S.take p=zGE (l.take (k+q))∧∀ j,k+q≤j+1→S.getD j 0=l.getD j 0) (fun (p,q,S)=>[(0,.own 1 (S.map I)),(3,I (p:Nat)),(5,I (q:Nat))]) (fun (p,q,S)=>l.length-(k+q)) (k,(1:Nat),l) ⟨by omega,by omega,by omega,rfl,e0.symm,fun _ _=>rfl⟩ fun (p,q,S) ⟨hq,hkq,hp,hS,hc,hd⟩=>?_
   have uk:(zGE (l.take (k+q))).length=p:=by rw [← hc,List.length_take];omega
   by_cases wJ:k+q<l.length
   ·have hx:=hd (k+q) (by omega)
    have hy:=hd (k+q-1) (by omega)
    have yM:=zG0 (l:=l) (i:=k+q) (by omega) wJ
    have qz:=hd
    clear hd
    refine zAh<|zAc 4<|zAa<|zA0 ((↑q:Int)<(↑(l.length-k):Int)) (by omega)<|zAl<|zAh<|zAi 3<|zAc 2<|S_a [(2,.ob)] (ap ((by exact zAr (by omega)):decide (q<l.length-k)=true) an)<|S_a [(0,.cs false ([I (S.getD (k+q) 0)]))] (ap (zDu (q:=PV.own 1 (List.map I S)) (xs:=List.map I S) (x:=I (S.getD (k+q) 0)) rfl (zB0 (0) (by omega)):zAv 0 (PV.own 1 (List.map I S)) [] (k+(↑q:Int).toNat) 0 1=some (false,[I (S.getD (k+q) 0)])) an)<|zAd 2<|S_a [(1,.v (I (↑(q-1):Int)))] (ap ((zDl (by omega) (by omega)):I (IntKind.i64.wrap ((↑q:Int)-1))=I (↑(q-1):Int)) an)<|S_a [(2,.ob)] (ap ((by exact zAr (by omega)):decide (q-1<l.length-k)=true) an)<|S_a [(0,.cs false ([I (S.getD (k+(q-1)) 0)]))] (ap (zDu (q:=PV.own 1 (List.map I S)) (xs:=List.map I S) (x:=I (S.getD (k+(q-1)) 0)) rfl (zB0 (0) (by omega)):zAv 0 (PV.own 1 (List.map I S)) [] (k+(↑(q-1):Int).toNat) 0 1=some (false,[I (S.getD (k+(q-1)) 0)])) an)<|zAd 1<|zAa<|zDE (S.getD (k+q) 0=S.getD (k+(q-1)) 0) (fun k4=>(zAc 4<|S_a [(2,.ob)] (ap ((by exact zAr (by omega)):decide (q<l.length-k)=true) an)<|S_a [(0,.cs false ([I (S.getD (k+q) 0)]))] (ap (zDu (q:=PV.own 1 (List.map I S)) (xs:=List.map I S) (x:=I (S.getD (k+q) 0)) rfl (zB0 (0) (by omega)):zAv 0 (PV.own 1 (List.map I S)) [] (k+(↑q:Int).toNat) 0 1=some (false,[I (S.getD (k+q) 0)])) an)<|S_a [(2,.ob),(1,.n p)] (ap ((by exact zAr (by simp only [List.length_map,zzLn]<;>omega)):decide (p<(List.map I S).length)=true)<|ap ((by simp):some (0+p)=some p) an)<|S_a [(8,.root (PV.own 1 (List.map I (S.set p (S.getD (k+q) 0)))) true)] (ap (zUY (zB0 (0) (by omega)) zKL:zBF (PV.own 1 (List.map I S)) [] p 0 (I (S.getD (k+q) 0)).cells=some (PV.own 1 (List.map I (S.set p (S.getD (k+q) 0))))∧zAJ (PV.own 1 (List.map I S)) (PV.own 1 (List.map I (S.set p (S.getD (k+q) 0)))) []=true) an)<|zAa<|zAg<|zAd 1<|S_a [(1,.v (I (↑(p+1):Int)))] (ap (wrN p) an)<|zAd 1<|zAa<|zAg<|zAd 1<|S_a [(1,.v (I (↑(q+1):Int)))] (ap (wrN q) an)<|zAd 1<|zAa ?_)) (fun k4=>(zAl<|zAg<|zAd 1<|S_a [(1,.v (I (↑(q+1):Int)))] (ap (wrN q) an)<|zAd 1<|zAa ?_))
    ·rw [show k+(q-1)=k+q-1 by omega,hx,hy] at k4
     rw [if_neg k4] at yM
     refine ⟨(p+1,q+1,S.set p (S.getD (k+q) 0)),⟨by omega,by omega,by omega,by simpa using hS,?_,fun j hj=>?_⟩,by simp only;omega,by kernel_rfl,by kernel_rfl⟩
     ·rw [← Nat.add_assoc,yM,← hc,hx,zLd (by omega)]
     ·rw [zCL,if_neg (by omega)];exact qz j (by omega)
    ·rw [show k+(q-1)=k+q-1 by omega,hx,hy] at k4
     rw [if_pos k4] at yM
     exact ⟨(p,q+1,S),⟨by omega,by omega,by omega,hS,by rw [← Nat.add_assoc,yM,hc],fun j hj=>qz j (by omega)⟩,by simp only;omega,by kernel_rfl,by kernel_rfl⟩
   ·refine zAh<|zAc 4<|zAa<|zA1 ((↑q:Int)<(↑(l.length-k):Int)) (by omega)<|zAE 2<|zAc 2<|S_a [(3,.ob),(0,.yes),(0,.yes),(0,.v (PV.bor 0 [] 1 p (S.length-p)))] (ap ((by exact zBx (by simp only [List.length_map,zzLn,zBe]<;>omega)):p.ble (List.map I S).length=true)<|ap ((by exact zBx (by simp only [List.length_map,zzLn,zBe]<;>omega)):(List.map I S).length.ble (List.map I S).length=true)<|ap ((by simp<;>omega):(p.beq 0||p.blt (List.map I S).length)=true)<|ap ((by simp):PV.bor 0 [] 1 (0+p) ((List.map I S).length-p)=PV.bor 0 [] 1 p (S.length-p)) an)<|zQz (g:=I) (fun q=>q) 0 1 p (S.length-p) S (0) (by first | omega | (simp<;>omega)) ⟨rfl,rfl⟩ (fun _=>(by first | exact zGL | exact ⟨rfl,rfl,rfl,rfl,Nat.le_refl _,rfl⟩)) zOj.nil (zAa<|zAc 2<|S_a [(4,.yes)] (ap ((by exact zBx (by simp<;>omega)):p.ble (List.map I (List.take p S++List.replicate (S.length-p) 0++List.drop (p+(S.length-p)) S)).length=true) an)<|zAd 1<|zAa<|zAm<|E_a [(1,.yes),(1,.v (PV.own 1 (List.map I (List.take p (List.take p S++List.replicate (S.length-p) 0++List.drop (p+(S.length-p)) S)))))] (ap ((by exact zBx (by simp<;>omega)):(0+((↑p:Int).toNat-0)).ble (List.map I (List.take p S++List.replicate (S.length-p) 0++List.drop (p+(S.length-p)) S)).length=true)<|ap ((by simp):PV.own 1 (List.take p (List.drop 0 (List.map I (List.take p S++List.replicate (S.length-p) 0++List.drop (p+(S.length-p)) S))))=PV.own 1 (List.map I (List.take p (List.take p S++List.replicate (S.length-p) 0++List.drop (p+(S.length-p)) S)))) an) (PV.own 1 (List.map I (List.take p (List.take p S++List.replicate (S.length-p) 0++List.drop (p+(S.length-p)) S)))) [] ?_ rfl)
    rw [show k+q=l.length by omega,List.take_length] at hc
    rw [← hc,List.append_assoc,List.take_append_of_le_length (by rw [List.length_take];omega),List.take_take,Nat.min_self]
  ·refine ⟨k+1,⟨by omega,by omega,fun j h1 h2=>?_⟩,by omega,by kernel_rfl,by kernel_rfl⟩
   by_cases hj:j=k
   ·subst hj;assumption
   ·exact ha j h1 (by omega)
  ·rw [show k=l.length by omega,List.take_length] at jd
   rw [jd]
end
end Go.Eng
