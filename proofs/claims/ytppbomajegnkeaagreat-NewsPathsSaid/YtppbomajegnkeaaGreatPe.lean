/- For whatever news, cries, yT, notice and list, the law NewsPaths returns true and changes no argument: the path that is returned is one, ends at the yT and has as few jC as can be, and whether a list is a path is told as the reference tells it. -/
import Derived.Test.YtppbomajegnkeaaGreatPd
import Derived.ProofKit
import Derived.ChangeArms
import Derived.Test.YtppbomajegnkeaaGreatProg
import Derived.Test.YtppbomajegnkeaaGreatPa
import Derived.Test.YtppbomajegnkeaaGreatRows
set_option linter.unusedVariables false
set_option linter.unusedSimpArgs false
set_option linter.unusedSectionVars false
namespace Go.Eng
open Go Go.ChangeShapes Go.WideShapes Go.ChangeAt Go.RowKit
section
variable {H:Type} {enc:TypeId×Value→H} {P:Program}
theorem zNq {f:Func} {s:ChangeSpec} {apart fresh jU again:Bool} {W W':World} {args:Array Value} {v:Value} {ds gs:List (DataW H)} {before pa pv:List MemPlace}
  (hW:DataW.Whole enc P f.params.toList s.vars apart W args.toList ds gs before)
  (y9:∀ (b:Nat) (sp:Nat→Bool) (hd:Bool),DataW.TrodAll enc P W' b sp hd f.resultTypes.toList (v.resultList f.resultTypes.size) (s.fn H (ds++gs)).results [])
  (yL:∀ sp:Nat→Bool,(∀ p∈before,sp p.block=true)→DataW.TrodAll enc P W' 0 sp true f.params.toList args.toList (s.fn H (ds++gs)).args pa)
  (jn:∀ sp:Nat→Bool,(∀ p∈before,sp p.block=true)→DataW.TrodVars enc P W' sp s.vars (s.fn H (ds++gs)).vars pv)
  (y5:before=pa++pv) (hold':∀ b,b<W.heap.size→W'.heap[b]? = W.heap[b]?) (hk:W.keptBut W' (· ∈ before))
  (yJ:∀ (j:Nat) (t:TypeId) (r:Value),f.resultTypes[j]? = some t→(v.resultList f.resultTypes.size)[j]? = some r→Value.okWide P W' .any 0 t r) :
  s.post enc P f apart fresh jU again W args v W':=by
 have yI:=hW.lt
 have hold:∀ p∈before,(fun b=>decide (b<W.heap.size)) p.block=true:=fun p hp=>by simpa using yI p hp
 refine ⟨ds,gs,before,[],pa,pv,hW,y9 _ _ _,yL _ hold,jn _ hold,World.keptBut_mono (fun p hp=>⟨hp,?_⟩) hk,fun _=>?_⟩
 ·rw [y5,List.mem_append] at hp
  exact Or.inr hp
 ·obtain ⟨_,_,_,_,_,hz,hn⟩:=hW
  refine ⟨yJ,_,_,([]++pa)++pv,⟨[]++pa,pv,trodAll_append (yL _ (fun _ _=>rfl)) (y9 _ _ _),jn _ (fun _ _=>rfl),rfl,?_,?_⟩,?_⟩
  ·intro b off hp
   have ji:MemPlace.cell b off∈before:=by rw [y5];simpa using hp
   have h1:=hz b off ji
   have h2:=yI _ ji
   unfold World.frozen? at h1 ⊢
   rw [hold' b h2];exact h1
  ·intro ha
   have:=hn ha
   rw [y5] at this
   simpa using this
  ·intro p hp _
   rw [y5]
   simpa using hp
theorem zHm {W W':World} {sp':Nat→Bool} (hl:laidOutB P=true) (hb:Below W.heap.size W W'):∀ {ts:List TypeId} {vs:List Value} {ds:List (DataW H)} {ps:List MemPlace},(∀ t∈ts,P.readableRec t=true∧t<P.types.size)→DataW.TrodAll enc P W 0 (fun _=>true) true ts vs ds ps→(∀ x∈ps,x.block<W.heap.size)→(∀ x∈ps,sp' x.block=true) →
  DataW.TrodAll enc P W' 0 sp' true ts vs ds ps
 | [],vs,ds,ps,_,h,_,_=>by
  obtain ⟨rfl,rfl,rfl⟩:=trodAll_nil h
  exact trodAll_mk0
 | t::ts,vs,ds,ps,ht,h,yI,hs=>by
  obtain ⟨v,vs',d,ds',p,q,rfl,rfl,rfl,h1,h2⟩:=trodAll_cons h
  exact ⟨p,q,WideElems.Trod_stays hl (ht t (by simp)).1 (ht t (by simp)).2 h1 (fun x hx=>hb.same (yI x (by simp [hx]))) (fun x hx=>hs x (by simp [hx])),zHm hl hb (fun t h=>ht t (by simp [h])) h2 (fun x hx=>yI x (by simp [hx])) (fun x hx=>hs x (by simp [hx])),rfl⟩
theorem zTI {f:Func} {s:ChangeSpec} {apart fresh jU again:Bool} {W W':World} {args:Array Value} {ds:List (DataW H)} {before:List MemPlace} {tb:TypeId} (hl:laidOutB P=true) (jn:s.vars=[]) (htb:P.underlying tb=some .bool) (wZ:f.resultTypes=#[tb]) (uy:∀ t∈f.params.toList,P.readableRec t=true∧t<P.types.size)
  (kJ:s.fn H ds={results:=[.lit (.bool true)],args:=ds}) (hW:DataW.Whole enc P f.params.toList s.vars apart W args.toList ds [] before)
  (h1:W.heap.size≤W'.heap.size) (h2:∀ b,b<W.heap.size→W'.heap[b]? = W.heap[b]?) (h3:W'.os=W.os) (h4:W'.tape=W.tape) (h5:W'.output=W.output):s.post enc P f apart fresh jU again W args (.bool true) W':=by
 have yI:=hW.lt
 have hb:Below W.heap.size W W':=⟨h3,h4,h5,h1,h2⟩
 obtain ⟨pa,pv,hA,hV,y5,hz,hn⟩:=id hW
 have hpv:pv=[]:=by
  rw [jn] at hV
  exact (trodVars_none hV).2
 subst hpv
 have ue:(Value.bool true).resultList f.resultTypes.size=[.bool true]:=by rw [wZ];rfl
 have gW:s.fn H (ds++[])={results:=[.lit (.bool true)],args:=ds}:=by rw [List.append_nil];exact kJ
 have wg:∀ x∈pa,x.block<W.heap.size:=fun x hx=>yI x (by rw [y5];simp [hx])
 refine zNq (pa:=pa) (pv:=[]) hW (fun b sp hd=>?_) (fun sp y1=>?_) (fun sp y1=>?_) y5 h2 ?_ ?_
 ·rw [ue,wZ,gW];exact trodAll_mk1 (shut_bool htb true)
 ·rw [gW];exact zHm hl hb uy hA wg (fun x hx=>y1 x (by rw [y5];simp [hx]))
 ·rw [jn,gW];rfl
 ·refine ⟨h3,h5,fun i hi=>?_⟩
  rw [h2 i hi]
  cases W.heap[i]? with
  | none=>rfl
  | some o=>cases o<;>first | exact ⟨rfl,rfl,rfl,fun _ _=>rfl⟩ | exact .inr ⟨rfl,rfl⟩ | rfl
 ·exact ok_one wZ rfl (okWide_bool_mk htb true)
end
end Go.Eng
namespace Go.Eng
open Go
section
variable {w:World} {Φ:Nat→Prop} {A:Al}
end
end Go.Eng
namespace Go.Eng
open Go
section
variable {P:Program} {H:zBf}
theorem zRW {f:FuncId} {fn:Func} (h:P.funcs[f]? = some fn):fn∈P.funcs.toList:=by
 rw [← Array.getElem?_toList] at h
 exact List.mem_of_getElem? h
theorem zIp (h : (P.funcs.toList.all fun fn => !(fn.name == "runtime.NumGoroutine")) = true) : zEK P := fun f fn hf => by
  have:=List.all_eq_true.1 h fn (zRW hf)
  simpa using this
theorem zV9 (h:((List.range P.funcs.size).all fun f=>bif Nat.beq (H f).intr 0 then (match P.funcs[f]? with
  | some fn=>zVK P fn
  | none=>true) else true)=true):Fit P H:=fun f fn hf hi=>by
 have yI:=(Array.getElem?_eq_some_iff.1 hf).1
 have:=List.all_eq_true.1 h f (List.mem_range.2 yI)
 rw [hi,hf] at this
 exact this
end
end Go.Eng
namespace Go.Eng
open Go Go.ChangeShapes Go.WideShapes Go.ChangeAt Go.RowKit
inductive Sh where
 | num (k:IntKind)
 | bool
 | list (ag:Bool) (parts:List Sh)
mutual
def zXe:Sh→PV→Prop
 | .num k,p=>∃ n,p = .int k n∧k.min≤n∧n≤k.max
 | .bool,p=>∃ b,p = .bool b
 | .list ag ss,p=>∃ xs,p = .sl xs∧xs.length≤maxLen∧∀ x∈xs,zCK ss x.cells∧x.isAgg=ag
def zCK:List Sh→List PV→Prop
 | [],ps=>ps=[]
 | s::ss,ps=>∃ p qs,ps=p::qs∧zXe s p∧zCK ss qs
end
def zVT (P:Program) (t:TypeId):Bool :=
 match P.underlying t with
 | some (.struct _)=>true
 | some (.array ..)=>true
 | _=>false
def zXc (P:Program) (t:TypeId):Bool :=
 match P.underlying t with
 | some (.struct _)=>true
 | _=>false
def zG9 (P:Program) (sh:TypeId→Option (List Sh)) (n:Nat):List Field→Nat→Option (List Sh)
 | [],off=>if off=n then some [] else none
 | f::fs,off=>if f.offset=off then match sh f.type with
  | some a=>if a.length=P.cellsOf f.type then (zG9 P sh n fs (off+P.cellsOf f.type)).map (a++·) else none
  | none=>none else none
def zDb (P:Program):Nat→TypeId→Option (List Sh)
 | 0,_=>none
 | n + 1,t=>match P.underlying t with
  | some (.int k)=>some [.num k]
  | some .bool=>some [.bool]
  | some (.slice e)=>match zDb P n e with
   | some ss=>if ss.length=P.cellsOf e∧0<ss.length∧(zVT P e=true∨ss.length=1) then some [.list (zVT P e) ss] else none
   | none=>none
  | some (.struct fs)=>zG9 P (zDb P n) (P.cellsOf t) fs.toList 0
  | some (.array m e)=>match zDb P n e with
   | some es=>if P.cellsOf t=m*P.cellsOf e then some (List.replicate m es).flatten else none
   | none=>none
  | _=>none
section
variable {H:Type} {enc:TypeId×Value→H} {P:Program} {w:World} {spare:Nat→Bool} {uH:Bool} {Φ:Nat→Prop} {base:Nat}
theorem zCK.app:∀ {a b:List Sh} {p q:List PV},zCK a p→zCK b q→zCK (a++b) (p++q)
 | [],b,p,q,h1,h2=>by simp only [zCK] at h1;subst h1;exact h2
 | s::a,b,p,q,h1,h2=>by
  obtain ⟨x,xs,rfl,h3,h4⟩:=h1
  exact ⟨x,xs++q,rfl,h3,zCK.app h4 h2⟩
theorem zCK.length:∀ {a:List Sh} {p:List PV},zCK a p→p.length=a.length
 | [],p,h=>by simp only [zCK] at h;subst h;rfl
 | s::a,p,h=>by
  obtain ⟨x,xs,rfl,_,h4⟩:=h
  simp [zCK.length h4]
theorem zLY {sh:TypeId→Option (List Sh)} {N n:Nat} {cs:List Value} (j4:cs.length=N) (ih:∀ t (vs:List Value) x ss,sh t=some ss→DataW.trod enc P w 0 spare uH n t vs=some x→∃ ps,zCK ss ps∧zAX w Φ zB6 ps vs []) :
  ∀ (fs:List Field) (off:Nat) (ss:List Sh),zG9 P sh N fs off=some ss→(∀ f∈fs,∃ y,DataW.trod enc P w 0 spare uH n f.type ((cs.drop f.offset).take (P.cellsOf f.type))=some y)→off≤N→∃ ps,zCK ss ps∧zAX w Φ zB6 ps (cs.drop off) []
 | [],off,ss,h,_,yP=>by
  simp only [zG9] at h
  split at h
  ·rename_i he
   cases h
   exact ⟨[],rfl,by rw [List.drop_eq_nil_of_le (by omega)];exact ⟨rfl,rfl⟩⟩
  ·cases h
 | f :: fs,off,ss,h,hf,yP=>by
  simp only [zG9] at h
  split at h
  ·rename_i ho
   cases hs:sh f.type with
   | none=>rw [hs] at h;cases h
   | some a =>
    rw [hs] at h;simp only at h
    split at h
    ·rename_i uY
     obtain ⟨b,hb,rfl⟩:=Option.map_eq_some_iff.1 h
     obtain ⟨y,hy⟩:=hf f (by simp)
     rw [ho] at hy
     obtain ⟨ps,h1,h2⟩:=ih _ _ _ _ hs hy
     have hl:=h2.length
     have uz:=h1.length
     simp only [List.length_take,List.length_drop] at hl
     have gD:off+P.cellsOf f.type≤N:=by omega
     obtain ⟨qs,h3,h4⟩:=zLY j4 ih fs _ b hb (fun g hg=>hf g (by simp [hg])) gD
     refine ⟨ps++qs,h1.app h3,?_⟩
     have:=h2.append h4
     rw [← List.drop_drop,List.take_append_drop] at this
     exact this
    ·cases h
  ·cases h
theorem zRt {s:Nat} {ag:Bool} {ss:List Sh} (hs:0<s) (j9:ag=true∨s=1):∀ (len:Nat) (c:List Value),c.length=len*s→(∀ i,i<len→∃ ps,zCK ss ps∧ps.length=s∧zAX w Φ zB6 ps ((c.drop (i*s)).take s) []) →
  ∃ (xs:List PV) (us:List Value),xs.length=len∧(∀ x∈xs,zCK ss x.cells∧x.isAgg=ag∧x.cells.length=s)∧(∀ u∈us,u.cells.size=s)∧us.map zCg=xs.map PV.isAgg∧c=flat us∧zAX w Φ zB6 xs us []
 | 0,c,hc,_=>⟨[],[],rfl,by simp,by simp,rfl,by rw [Nat.zero_mul] at hc;rw [List.eq_nil_of_length_eq_zero hc];rfl,rfl,rfl⟩
 | len + 1,c,hc,h=>by
  obtain ⟨ps,h1,h2,h3⟩:=h 0 (by omega)
  simp only [Nat.zero_mul,List.drop_zero] at h3
  have yO:(c.take s).length=s:=by simp;rw [hc,Nat.add_mul];omega
  obtain ⟨xs,us,g1,g2,g3,g4,g5,g6⟩:=zRt hs j9 len (c.drop s) (by simp [hc,Nat.add_mul]) (fun i hi=>by
   obtain ⟨ps,h1,h2,h3⟩:=h (i+1) (by omega)
   refine ⟨ps,h1,h2,?_⟩
   rw [List.drop_drop,show s+i*s=(i+1)*s by rw [Nat.add_mul];omega];exact h3)
  have yp:c=c.take s++c.drop s:=(List.take_append_drop s c).symm
  cases ag with
  | true =>
   refine ⟨.agg ps::xs,.agg (c.take s).toArray::us,by simp [g1],fun x hx=>?_,fun u hu=>?_,by simp [zCg,PV.isAgg,g4],?_,⟨_,us,[],[],rfl,rfl,⟨_,rfl,by simpa using h3⟩,g6⟩⟩
   ·rcases List.mem_cons.1 hx with rfl | hx
    ·exact ⟨h1,rfl,h2⟩
    ·exact g2 x hx
   ·rcases List.mem_cons.1 hu with rfl | hu
    ·simpa [Value.cells] using yO
    ·exact g3 u hu
   ·conv=>lhs;rw [yp]
    rw [g5];rfl
  | false =>
   have uo:s=1:=by
    rcases j9 with h | h
    ·cases h
    ·exact h
   subst uo
   obtain ⟨p,rfl⟩:=List.length_eq_one_iff.1 h2
   obtain ⟨u,hu⟩:=List.length_eq_one_iff.1 yO
   rw [hu] at h3 yp
   obtain ⟨u',us',L1,L2,he,hL,h4,h5⟩:=h3
   cases he
   obtain ⟨rfl,rfl⟩:=List.append_eq_nil_iff.1 hL.symm
   have yM:p.isAgg=false∧p.cells=[p]∧u.cells=#[u]∧zCg u=false:=by
    obtain ⟨p',qs,hp,hfp,_⟩:∃ p' qs,[p]=p'::qs∧(∃ s,zXe s p')∧True:=by
     cases ss with
     | nil=>simp only [zCK] at h1;cases h1
     | cons s ss=>obtain ⟨x,xs,h6,h7,_⟩:=h1;exact ⟨x,xs,h6,⟨s,h7⟩,trivial⟩
    cases hp
    obtain ⟨s,hfp⟩:=hfp
    cases s with
    | num k=>obtain ⟨n,rfl,_⟩:=hfp;obtain ⟨rfl,_⟩:=h4;exact ⟨rfl,rfl,rfl,rfl⟩
    | bool=>obtain ⟨n,rfl⟩:=hfp;obtain ⟨rfl,_⟩:=h4;exact ⟨rfl,rfl,rfl,rfl⟩
    | list ag' ss' =>
     obtain ⟨ys,rfl,_⟩:=hfp
     obtain ⟨_,⟨_,a,n,rfl,_⟩ | ⟨a,n,c',us',sz,rfl,_⟩⟩:=h4<;>exact ⟨rfl,rfl,rfl,rfl⟩
   refine ⟨p::xs,u::us,by simp [g1],fun x hx=>?_,fun v hv=>?_,by simp [yM.1,yM.2.2.2,g4],?_,⟨u,us,[],[],rfl,rfl,h4,g6⟩⟩
   ·rcases List.mem_cons.1 hx with rfl | hx
    ·rw [yM.2.1];exact ⟨h1,yM.1,rfl⟩
    ·exact g2 x hx
   ·rcases List.mem_cons.1 hv with rfl | hv
    ·rw [yM.2.2.1];rfl
    ·exact g3 v hv
   ·conv=>lhs;rw [yp]
    rw [g5];simp only [flat,List.flatMap_cons,yM.2.2.1]
theorem zS2 {n:Nat} {e t:TypeId} {fuel:Nat} {cs:List Value} {x:DataW H×List MemPlace} (ht:P.underlying t=some (.array n e)) (h:DataW.trod enc P w base spare uH fuel t cs=some x) :
  ∃ (xs:List (DataW H×List MemPlace)) (m:Nat),cs.length=P.cellsOf t∧xs.length=n∧∀ (i:Nat),i<n→DataW.trod enc P w base spare uH m e ((cs.drop (i*P.cellsOf e)).take (P.cellsOf e))=xs[i]?:=by
 cases fuel with
 | zero=>simp [DataW.trod] at h
 | succ m =>
  unfold DataW.trod at h
  rw [ht] at h
  split at h<;>simp_all
  obtain ⟨hl,xs,hp,hd⟩:=h
  exact ⟨xs,by simpa using mapM_some_length hp,m,fun i hi=>mapM_some_get hp i i (by simp [hi])⟩
theorem zTW {s:Nat} {es:List Sh}:∀ (n:Nat) (c:List Value),c.length=n*s→(∀ i,i<n→∃ ps,zCK es ps∧zAX w Φ zB6 ps ((c.drop (i*s)).take s) [])→∃ ps,zCK (List.replicate n es).flatten ps∧zAX w Φ zB6 ps c []
 | 0,c,hc,_=>⟨[],rfl,by rw [Nat.zero_mul] at hc;rw [List.eq_nil_of_length_eq_zero hc];exact ⟨rfl,rfl⟩⟩
 | n + 1,c,hc,h=>by
  obtain ⟨ps,h1,h2⟩:=h 0 (by omega)
  simp only [Nat.zero_mul,List.drop_zero] at h2
  obtain ⟨qs,h3,h4⟩:=zTW (s:=s) n (c.drop s) (by simp [hc,Nat.add_mul]) fun i hi=>by
   obtain ⟨ps,h1,h2⟩:=h (i+1) (by omega)
   refine ⟨ps,h1,?_⟩
   rw [List.drop_drop,show s+i*s=(i+1)*s by rw [Nat.add_mul];omega];exact h2
  refine ⟨ps++qs,?_,?_⟩
  ·rw [List.replicate_succ,List.flatten_cons];exact h1.app h3
  ·have:=h2.append h4
   rw [List.take_append_drop] at this
   exact this
theorem zKU : ∀ (n m:Nat) (t:TypeId) (vs:List Value) (x:DataW H×List MemPlace) (ss:List Sh),zDb P n t=some ss→DataW.trod enc P w 0 spare uH m t vs=some x→∃ ps,zCK ss ps∧zAX w (fun b=>b<w.heap.size) zB6 ps vs []
 | 0,m,t,vs,x,ss,h,_=>by cases h
 | n + 1, m, t,vs,x,ss,h,hx=>by
  simp only [zDb] at h
  split at h
  ·rename_i k ht
   cases h
   obtain ⟨i,rfl,_,hw⟩:=DataW.trod_int ht hx
   simp only [Lit.wf,Bool.and_eq_true,decide_eq_true_eq] at hw
   exact ⟨[.int k i],⟨_,[],rfl,⟨i,rfl,hw.1,hw.2⟩,rfl⟩,_,_,[],[],rfl,rfl,⟨rfl,rfl⟩,rfl,rfl⟩
  ·rename_i ht
   cases h
   obtain ⟨b,rfl,_⟩:=DataW.trod_bool ht hx
   exact ⟨[.bool b],⟨_,[],rfl,⟨b,rfl⟩,rfl⟩,_,_,[],[],rfl,rfl,⟨rfl,rfl⟩,rfl,rfl⟩
  ·rename_i e ht
   cases ja:zDb P n e with
   | none=>rw [ja] at h;cases h
   | some es =>
    rw [ja] at h;simp only at h
    split at h
    ·rename_i hc
     cases h
     obtain ⟨jY,yp,kq⟩:=hc
     rcases DataW.trod_slice ht hx with ⟨rfl,_⟩ | ⟨a,len,cap,zYp,rest,k,_,rfl,_,_,hlc,hcm,jA,jB,_⟩
     ·exact ⟨[.sl []],⟨_,[],rfl,⟨[],rfl,Nat.zero_le _,by simp⟩,rfl⟩,_,_,[],[],rfl,rfl,⟨rfl,.inl ⟨rfl,_,_,rfl,fun _=>rfl⟩⟩,rfl,rfl⟩
     ·by_cases h0:len=0
      ·subst h0
       exact ⟨[.sl []],⟨_,[],rfl,⟨[],rfl,Nat.zero_le _,by simp⟩,rfl⟩,_,_,[],[],rfl,rfl,⟨rfl,.inl ⟨rfl,_,_,rfl,fun h=>by cases h⟩⟩,rfl,rfl⟩
      have zA7:∀ i,i<len→∃ (cs:List Value) (y:DataW H×List MemPlace),cs.length=P.cellsOf e∧(∀ j,j<P.cellsOf e→w.cell? ((a.add (i*P.cellsOf e)).add j)=cs[j]?)∧DataW.trod enc P w 0 spare uH k e cs=some y:=by
       intro i hi
       have:=jB i hi
       rw [List.getElem?_eq_getElem (by omega)] at this
       obtain ⟨cs,h1,h2⟩:=Option.bind_eq_some_iff.1 this
       obtain ⟨_,h3,h4⟩:=World.cells?_some h1
       exact ⟨cs,_,h3,h4,h2⟩
      obtain ⟨cs0,_,h00,h01,_⟩:=zA7 0 (by omega)
      have yQ:=h01 0 (by omega)
      rw [List.getElem?_eq_getElem (by omega)] at yQ
      have y1:a.spot=none∧∃ row el fr,w.heap[a.block]? = some (.cells row el fr):=by
       simp only [Nat.zero_mul,Addr.add,if_true,World.cell?] at yQ
       cases hb:w.heap[a.block]? with
       | none=>rw [hb] at yQ;cases yQ
       | some o =>
        cases o<;>rw [hb] at yQ<;>simp only at yQ<;>try (cases yQ;done)
        rename_i row el fr
        cases hs:a.spot with
        | some s=>rw [hs] at yQ;cases yQ
        | none=>exact ⟨rfl,row,el,fr,rfl⟩
      obtain ⟨y4,row,el,fr,yB⟩:=y1
      have kh:∀ i j,i<len→j<P.cellsOf e→w.cell? ((a.add (i*P.cellsOf e)).add j)=row[a.off+(i*P.cellsOf e+j)]?:=by
       intro i j hi hj
       have key:∀ m:Nat,(a.add m).block=a.block∧(a.add m).off=a.off+m∧(a.add m).spot=none:=by
        intro m
        unfold Addr.add
        split
        ·rename_i h;subst h;exact ⟨rfl,rfl,y4⟩
        ·exact ⟨rfl,rfl,by simp⟩
       have key2:∀ m j:Nat,w.cell? ((a.add m).add j)=row[a.off+(m+j)]?:=by
        intro m j
        obtain ⟨k1,k2,k3⟩:=key m
        by_cases h:j=0
        ·subst h
         simp only [Addr.add,if_true,World.cell?] at *
         rw [k1,yB];simp only;rw [k3,k2];simp
        ·have:(a.add m).add j=⟨a.block,a.off+m+j,none⟩:=by
          generalize a.add m=a1 at k1 k2 k3
          unfold Addr.add
          rw [if_neg h,k1,k2]
         rw [this]
         simp only [World.cell?,yB]
         rw [Nat.add_assoc];rfl
       exact key2 _ _
      have jh:=zRt (w:=w) (Φ:=fun b=>b<w.heap.size) (ss:=es) yp (by rw [jY] at kq ⊢;exact kq) len (seg row a.off (len*P.cellsOf e)) ?_ ?_
      ·obtain ⟨xs,us,g1,g2,g3,g4,g5,g6⟩:=jh
       refine ⟨[.sl xs],⟨_,[],rfl,⟨xs,rfl,by omega,fun x hx=>⟨(g2 x hx).1,(g2 x hx).2.1⟩⟩,rfl⟩,_,_,[],[],rfl,rfl,⟨rfl,.inr ⟨a,cap,row,us,P.cellsOf e,by rw [g1],y4,by omega,(Array.getElem?_eq_some_iff.1 yB).1,⟨el,fr,yB⟩,?_,⟨?_,g4⟩,by rw [g1];exact g5,g6⟩⟩,rfl,rfl⟩
       ·intro x hx;rw [← jY];exact (g2 x hx).2.2
       ·intro u hu;rw [← jY];exact g3 u hu
      ·
       have:=zA7 (len-1) (by omega)
       obtain ⟨cs,_,h1,h2,_⟩:=this
       have h3:=h2 (P.cellsOf e-1) (by omega)
       rw [kh _ _ (by omega) (by omega),List.getElem?_eq_getElem (by omega)] at h3
       have h4:=(Array.getElem?_eq_some_iff.1 h3).1
       have h5:(len-1)*P.cellsOf e+P.cellsOf e=len*P.cellsOf e:=by
        obtain ⟨l,rfl⟩:∃ l,len=l+1:=⟨len-1,by omega⟩
        rw [Nat.add_sub_cancel,Nat.add_mul];omega
       simp only [seg,List.length_take,List.length_drop,Array.length_toList,jY]
       omega
      ·intro i hi
       obtain ⟨cs,y,h1,h2,h3⟩:=zA7 i hi
       obtain ⟨ps,h4,h5⟩:=zKU n k e cs y es ja h3
       refine ⟨ps,h4,by rw [h4.length],?_⟩
       have:((seg row a.off (len*P.cellsOf e)).drop (i*es.length)).take es.length=cs:=by
        rw [jY]
        apply List.ext_getElem?
        intro j
        have wi:i*P.cellsOf e+P.cellsOf e≤len*P.cellsOf e:=by
         have:(i+1)*P.cellsOf e≤len*P.cellsOf e:=Nat.mul_le_mul_right _ (by omega)
         rw [Nat.add_mul] at this;omega
        simp only [seg,List.getElem?_take,List.getElem?_drop]
        split
        ·rename_i hj
         rw [if_pos (by omega),Array.getElem?_toList,← kh i j hi hj,h2 j hj]
        ·rw [List.getElem?_eq_none (by omega)]
       rw [this];exact h5
    ·cases h
  ·rename_i fs ht
   obtain ⟨xs,k,_,_,hl,v3,hf⟩:=DataW.trod_struct ht hx
   obtain ⟨ps,h1,h2⟩:=zLY (Φ:=fun b=>b<w.heap.size) hl (fun t vs x ss h1 h2=>zKU n k t vs x ss h1 h2) fs.toList 0 ss h (fun f yk=>by
    obtain ⟨i,hi⟩:=List.getElem?_of_mem yk
    have gB:fs[i]? = some f:=by rw [← Array.getElem?_toList];exact hi
    have yI:=(Array.getElem?_eq_some_iff.1 gB).1
    exact ⟨xs[i]'(by omega), by rw [hf i f gB, List.getElem?_eq_getElem (by omega)]⟩) (Nat.zero_le _)
   exact ⟨ps,h1,by simpa using h2⟩
  ·rename_i m' e ht
   cases ja:zDb P n e with
   | none=>rw [ja] at h;cases h
   | some es =>
    rw [ja] at h;simp only at h
    split at h
    ·rename_i hc
     cases h
     obtain ⟨xs,k,hl,v3,hf⟩:=zS2 ht hx
     exact zTW m' vs (by rw [hl,hc]) fun i hi=>zKU n k e _ _ es ja (by rw [hf i hi,List.getElem?_eq_getElem (by omega)])
    ·cases h
  ·cases h
def zP4 (x:Bool×List Sh) (p:PV):Prop:=if x.1 then ∃ cs,p = .agg cs∧zCK x.2 cs else zCK x.2 [p]
def zK7:List (Bool×List Sh)→List PV→Prop
 | [],ps=>ps=[]
 | s::ss,ps=>∃ p qs,ps=p::qs∧zP4 s p∧zK7 ss qs
def zEV (P:Program):List TypeId→Option (List (Bool×List Sh))
 | []=>some []
 | t::ts=>match zDb P 20 t,zEV P ts with
  | some ss,some rest=>if zXc P t=true∨zVT P t=false∧ss.length=1 then some ((zXc P t,ss)::rest) else none
  | _,_=>none
theorem zK7.length:∀ {ss:List (Bool×List Sh)} {ps:List PV},zK7 ss ps→ps.length=ss.length
 | [],ps,h=>by simp only [zK7] at h;subst h;rfl
 | s::ss,ps,h=>by
  obtain ⟨p,qs,rfl,_,h2⟩:=h
  simp [zK7.length h2]
theorem zSj {n:Nat} {t:TypeId} {ss:List Sh} (h:zDb P n t=some ss) (ha:zVT P t=false):(∃ k,P.underlying t=some (.int k))∨P.underlying t=some .bool∨∃ e,P.underlying t=some (.slice e):=by
 cases n with
 | zero=>cases h
 | succ n =>
  simp only [zDb] at h
  split at h
  ·exact .inl ⟨_,by assumption⟩
  ·exact .inr (.inl (by assumption))
  ·exact .inr (.inr ⟨_,by assumption⟩)
  ·rename_i fs ht
   simp only [zVT,ht] at ha;cases ha
  ·rename_i ht
   simp only [zVT,ht] at ha;cases ha
  ·cases h
theorem zQy : ∀ (ts:List TypeId) (vs:List Value) (ds:List (DataW H)) (ps:List MemPlace) (ss:List (Bool×List Sh)),zEV P ts=some ss→DataW.TrodAll enc P w 0 spare uH ts vs ds ps→(∀ (j:Nat) t v,ts[j]? = some t→vs[j]? = some v→Value.okWide P w .any base t v) →
  ∃ qs,zK7 ss qs∧zAX w (fun b=>b<w.heap.size) zB6 qs vs []
 | [],vs,ds,ps,ss,hs,h,_=>by
  obtain ⟨rfl,_,_⟩:=trodAll_nil h
  cases hs
  exact ⟨[],rfl,rfl,rfl⟩
 | t :: ts,vs,ds,ps,ss,hs,h,hv=>by
  obtain ⟨v,vs',d,ds',p,q,rfl,rfl,rfl,⟨fuel,h1⟩,h2⟩:=trodAll_cons h
  simp only [zEV] at hs
  cases yK:zDb P 20 t with
  | none=>rw [yK] at hs;cases hs
  | some s =>
   cases ye:zEV P ts with
   | none=>rw [yK,ye] at hs;cases hs
   | some rest =>
    rw [yK,ye] at hs
    simp only at hs
    split at hs
    ·rename_i hc
     cases hs
     obtain ⟨qs,g1,g2⟩:=zQy ts vs' ds' q rest ye h2 (fun j t v ht yD=>hv (j+1) t v (by simpa using ht) (by simpa using yD))
     obtain ⟨cs,g3,g4⟩:=zKU 20 fuel t v.cells.toList _ s yK h1
     have yJ:=hv 0 t v rfl rfl
     cases ha:zXc P t with
     | true =>
      have qE:∃ fs,P.underlying t=some (.struct fs):=by
       simp only [zXc] at ha
       split at ha
       ·exact ⟨_,by assumption⟩
       ·cases ha
      obtain ⟨fs,ht⟩:=qE
      obtain ⟨row,rfl,_⟩:=okWide_struct ht yJ
      exact ⟨.agg cs::qs,⟨_,_,rfl,by simp only [zP4,if_true];exact ⟨cs,rfl,g3⟩,g1⟩,_,_,[],[],rfl,rfl,⟨row,rfl,g4⟩,g2⟩
     | false =>
      have yM:v.cells.toList=[v]:=by
       rcases zSj yK (hc.elim (fun h=>by rw [h] at ha;cases ha) fun h=>h.1) with ⟨k,ht⟩ | ht | ⟨e,ht⟩
       ·obtain ⟨n,rfl⟩:=okWide_int ht yJ;rfl
       ·obtain ⟨n,rfl⟩:=okWide_bool ht yJ;rfl
       ·obtain ⟨a,n,c,rfl⟩:=okWide_slice ht yJ;rfl
      rw [yM] at g4
      obtain ⟨u,us,L1,L2,he,hL,g5,g6⟩:∃ u us L1 L2,cs=u::us∧([]:List Nat)=L1++L2∧Rep w (fun b=>b<w.heap.size) zB6 u v L1∧zAX w (fun b=>b<w.heap.size) zB6 us [] L2:=by
       cases cs with
       | nil=>have:=g4.length;simp at this
       | cons u us =>
        obtain ⟨v',vs'',L1,L2,he,hL,g5,g6⟩:=g4
        cases he
        exact ⟨u,us,L1,L2,rfl,hL,g5,g6⟩
      obtain ⟨rfl,rfl⟩:=List.append_eq_nil_iff.1 hL.symm
      have wS:us=[]:=List.eq_nil_of_length_eq_zero (by have:=g6.length;simp at this;omega)
      subst wS;subst he
      exact ⟨u::qs,⟨_,_,rfl,by simp only [zP4,Bool.false_eq_true,if_false];exact g3,g1⟩,_,_,[],[],rfl,rfl,g5,g2⟩
    ·cases hs
theorem zKL {α:Type} {R:α→Prop} {enc:α→PV}:∀ {xs:List PV},(∀ x∈xs,∃ a,x=enc a∧R a)→∃ l:List α,xs=l.map enc∧∀ a∈l,R a
 | [],_=>⟨[],rfl,by simp⟩
 | x :: xs,h=>by
  obtain ⟨a,rfl,ha⟩:=h x (by simp)
  obtain ⟨l,rfl,hl⟩:=zKL (xs:=xs) fun y hy=>h y (by simp [hy])
  exact ⟨a::l,rfl,fun b hb=>by
   rcases List.mem_cons.1 hb with rfl | hb
   ·exact ha
   ·exact hl b hb⟩
theorem zN9 {k:IntKind} {p:PV} (h:zXe (.list false [.num k]) p):∃ l:List Int,p = .sl (l.map (.int k))∧l.length≤maxLen∧∀ n∈l,k.min≤n∧n≤k.max:=by
 obtain ⟨xs,rfl,hl,hx⟩:=h
 obtain ⟨l,rfl,hb⟩:=zKL (α:=Int) (R:=fun n=>k.min≤n∧n≤k.max) (enc := .int k) (xs:=xs) fun x ju=>by
  obtain ⟨⟨q,qs,hc,⟨n,rfl,hn⟩,wj⟩,ha⟩:=hx x ju
  simp only [zCK] at wj;subst wj
  refine ⟨n,?_,hn⟩
  cases x<;>simp [PV.cells] at hc<;>first | exact hc | simp_all [PV.isAgg]
 exact ⟨l,rfl,by simpa using hl,hb⟩
theorem zJe:∀ {ts:List TypeId} {vs:List Value} {ds:List (DataW H)} {ps:List MemPlace},DataW.TrodAll enc P w 0 spare uH ts vs ds ps→ds.length=ts.length
 | [],vs,ds,ps,h=>by obtain ⟨_,rfl,_⟩:=trodAll_nil h;rfl
 | t::ts,vs,ds,ps,h=>by
  obtain ⟨_,_,_,_,_,_,rfl,rfl,_,_,h2⟩:=trodAll_cons h
  simp [zJe h2]
theorem zVj {Hh:zBf} {f:FuncId} {fn:Func} {s:ChangeSpec} {apart fresh jU again:Bool} {W:World} {args:Array Value} {ds:List (DataW H)} {before:List MemPlace} {tb:TypeId} {ss:List (Bool×List Sh)} (zE4:P.follows .mixedOrders=true) (hnm:zEK P) (zMr:Fit P Hh) (hin:zEA P Hh)
  (hl:laidOutB P=true) (jn:s.vars=[]) (htb:P.underlying tb=some .bool) (wZ:fn.resultTypes=#[tb]) (uy:fn.params.toList.all (fun t=>P.readableRec t&&Nat.blt t P.types.size)=true) (kJ:∀ ds,ds.length=fn.params.size→s.fn H ds={results:=[.lit (.bool true)],args:=ds}) (wU:zEV P fn.params.toList=some ss) (hX:ss.length≤1000)
  (hg:∀ qs,zK7 ss qs→@zDp (yo1 P Hh) P Hh f qs [] (.bool true) [])
  (gU:∀ (j:Nat) t v,fn.params[j]? = some t→args[j]? = some v→Value.okWide P W .any base t v) (hW:DataW.Whole enc P fn.params.toList s.vars apart W args.toList ds [] before) :
  Calls P f args W fun e W'=>∃ v,e = .returned v∧s.post enc P fn apart fresh jU again W args v W':=by
 obtain ⟨pa,pv,hA,_,_,_,_⟩:=id hW
 obtain ⟨qs,uL,vK⟩:=zQy fn.params.toList args.toList ds pa ss wU hA (fun j t v ht hv=>gU j t v (by rw [← Array.getElem?_toList];exact ht) (by rw [← Array.getElem?_toList];exact hv))
 have uf:=uL.length
 refine (zQQ (Φ:=fun b=>b<W.heap.size) zE4 hnm zMr hin (hg qs uL) (fun b hb=>hb) vK (by rw [uf];exact Nat.le_trans hX (by decide))).mono fun e W' ⟨he,g1,g2,g3,g4,g5⟩=>?_
 subst he
 refine ⟨_,rfl,zTI hl jn htb wZ (fun t ht=>?_) (kJ ds (by have:=zJe hA;simpa using this)) hW g1 g2 g3 g4 g5⟩
 have:=List.all_eq_true.1 uy t ht
 rw [Bool.and_eq_true] at this
 exact ⟨this.1,zB1 this.2⟩
end
end Go.Eng
namespace Go.Eng
open Go
section
variable {P:Program} {H:zBf}
def zEQ (f:FuncId):zBf:=fun g=>bif Nat.beq g f then {} else {intr:=9}
theorem zPf (zE4:P.follows .mixedOrders=true) (hnm:zEK P) {f:FuncId} {fn:Func} (hf:P.funcs[f]? = some fn) (yJ:zVK P fn=true) (n:Nat):zGd P (@zCR P (zEQ f) yo0 n):=by
 refine @zEY P (zEQ f) yo0 zE4 hnm (fun g gn hg hi=>?_) (fun g gn args hid v hZ hg hi hr=>?_) (fun g first i caps k plan h=>by cases h) n
 ·cases hb:Nat.beq g f with
  | true =>
   rw [Nat.eq_of_beq_eq_true hb,hf] at hg
   cases hg;exact yJ
  | false=>simp [zEQ,hb] at hi
 ·cases hb:Nat.beq g f with
  | true=>exact absurd (by simp [zEQ,hb]) hi
  | false =>
   have e:(zEQ f g).intr=9:=by simp [zEQ,hb]
   rw [e] at hr
   simp [zDJ] at hr
theorem zOl {α:Type} {f:Nat→α} {s:Nat} {v:α} (h:f s=v):upd f s v=f:=by
 funext t
 by_cases ht:t=s
 ·subst ht;rw [zAl,h]
 ·rw [zAh ht]
theorem zLn {f:FuncId} {p q v:PV} (hp:p.heavy=false) {w:World} {Φ:Nat→Prop} {rv:Nat→Value} {E:Nat→PV} {L:Nat→List Nat} {vs:Array Value} (hE:∀ s,s<zAb→E s=(zA4 [q] []).get s) (kd:∀ s,zAb≤s→E s = .bad)
  (C:Conf w (fun b=>∃ s,b∈L s) Φ w Φ rv E L) (yG:vs.size=1) (yq:∀ i,i<1→vs[i]? = some (rv i)) (jd:∀ s,1≤s→s<zAn→rv s=undef) (hL0:L 0=[]) (hr:Rep w Φ (zA0 w rv E) p (rv 0) []) (h:zFp P f [p] [] v []) :
  Calls P f vs w fun e w'=>∃ u Φ' rv' E' L',e = .returned u∧Conf w (fun b=>∃ s,b∈L s) Φ w' Φ' rv' E' L'∧([]:List PV).length=([]:List PV).length ∧
   (∀ j,j<([]:List PV).length→E' (zAn+j)=([]:List PV).getD j .bad∧rv' (zAn+j)=rv (zAn+j))∧Gave v u rv' E':=by
 have C1:=C.put (s:=0) hp hr
 rw [zOl hL0,zOl rfl] at C1
 have h1:(1:Nat)≤zAn:=by decide
 have hg:(0:Nat)<zAb:=by decide
 refine h w Φ rv (upd E 0 p) L vs (fun s hs=>?_) (fun s hs=>?_) C1 yG yq jd
 ·by_cases h:s=0
  ·subst h;rw [zAl];rfl
  ·rw [zAh h,hE s hs,zDj (args:=[q]) h1,zDj (args:=[p]) h1]
   simp [h,show ¬ s<1 by omega]
 ·rw [zAh (by omega)];exact kd s hs
theorem zSc {f:FuncId} {v:PV} (h1:zFp P f [.nils 0] [] v []) (h2:zFp P f [.nn] [] v []):zFp P f [.sl []] [] v []:=by
 intro w Φ rv E L vs hE kd C yG yq jd
 have h0:E 0 = .sl []:=by rw [hE 0 (by decide)];rfl
 have hr:=C.rep 0
 rw [h0] at hr
 obtain ⟨hL0,hc⟩:=hr
 have hc:∃ a n,rv 0 = .slice a 0 n∧(a=none→n=0):=by
  rcases hc with ⟨_,a,n,hv,ha⟩ | ⟨a,n,c,us,sz,hv,_⟩
  ·exact ⟨a,n,hv,ha⟩
  ·exact ⟨some a,n,hv,fun h=>by cases h⟩
 obtain ⟨a,n,hv,ha⟩:=hc
 cases a with
 | none =>
  rw [ha rfl] at hv
  exact zLn (p := .nils 0) rfl hE kd C yG yq jd hL0 ⟨hv,rfl⟩ h1
 | some a=>exact zLn (p := .nn) rfl hE kd C yG yq jd hL0 ⟨rfl,a,n,hv⟩ h2
theorem zPw {f:FuncId} {v:PV} {k:Nat} (h1:zFp P f [.nils 0] [] v []):zFp P f [.nils k] [] v []:=by
 intro w Φ rv E L vs hE kd C yG yq jd
 have h0:E 0 = .nils k:=by rw [hE 0 (by decide)];rfl
 have hr:=C.rep 0
 rw [h0] at hr
 exact zLn (p := .nils 0) rfl hE kd C yG yq jd hr.2 ⟨hr.1,rfl⟩ h1
theorem zLq (zE4:P.follows .mixedOrders=true) (hnm:zEK P) {f:FuncId} {fn:Func} (hf:P.funcs[f]? = some fn) (hb:fn.body.isSome=true) (yJ:zVK P fn=true) {sz:Nat} (yG:(fn.resultTypes[0]?).bind (fun t=>(zBP P t).bind (szT P))=some sz)
  (r1:∃ n,@zCR P (zEQ f) yo0 n f [.nils 0] []=some (.own sz [],[])) (r2:∃ n,@zCR P (zEQ f) yo0 n f [.nn] []=some (.own sz [],[]))
  (r3:∀ x xs,(∀ y∈x::xs,y.plain=true∧y.cells.length=sz)→(x::xs).length≤zA5→∃ n,@zCR P (zEQ f) yo0 n f [.sl (x::xs)] []=some (.own sz (x::xs),[])) :
  ∀ args hid v hZ,zDJ P fn 1 args hid=some (v,hZ)→zCt P f∧zFp P f args hid v hZ:=by
 have so:=zPf zE4 hnm hf yJ
 have hc:zCt P f:=⟨fn,hf,by cases hx:fn.body with
  | none=>rw [hx] at hb;cases hb
  | some _=>rfl⟩
 obtain ⟨n1,r1⟩:=r1
 obtain ⟨n2,r2⟩:=r2
 have m1:zFp P f [.nils 0] [] (.own sz []) []:=(so n1 _ _ _ _ _ r1).2
 have m2:=(so n2 _ _ _ _ _ r2).2
 intro args hid v hZ h
 refine ⟨hc,?_⟩
 rcases args with _ | ⟨p,_ | ⟨p2,ps⟩⟩
 ·simp [zDJ] at h
 ·rcases hid with _ | ⟨q,qs⟩
  ·cases p<;>first | (simp [zDJ] at h;done) | skip
   ·rename_i k
    simp only [zDJ,yG,Option.some.injEq,Prod.mk.injEq] at h
    obtain ⟨rfl,rfl⟩:=h
    exact zPw m1
   ·rename_i xs
    simp only [zDJ,yG] at h
    split at h
    ·rename_i hx
     simp only [Option.some.injEq,Prod.mk.injEq] at h
     obtain ⟨rfl,rfl⟩:=h
     simp only [Bool.and_eq_true,decide_eq_true_eq,List.all_eq_true] at hx
     cases xs with
     | nil=>exact zSc m1 m2
     | cons x xs =>
      obtain ⟨n3,r3⟩:=r3 x xs (fun y hy=>by simpa using hx.1 y hy) hx.2
      exact (so n3 _ _ _ _ _ r3).2
    ·cases h
  ·simp [zDJ] at h
 ·simp [zDJ] at h
theorem zGB [Yo] {f:FuncId} {fn:Func} {sz:Nat} {α:Type} (g:α→PV) (l:List α) (hl:l.length≤4294967296) (hg:∀ x,((g x).plain&&Nat.beq (g x).cells.length sz)=true:=by intro x;kernel_rfl) (hf:P.funcs[f]? = some fn:=by kernel_rfl) (hi:(H f).intr=1:=by kernel_rfl)
  (yG:(fn.resultTypes[0]?).bind (fun t=>(zBP P t).bind (szT P))=some sz:=by kernel_rfl):zDp P H f [.sl (l.map g)] [] (.own sz (l.map g)) []:=by
 refine ⟨1,fun n hn=>?_⟩
 obtain ⟨k,rfl⟩:∃ k,n=k+1:=⟨n-1,by omega⟩
 show zJK P H (zCR P H k) Yo.yo zB8 (k+1) f _ _=_
 have km:((l.map g).all (fun x=>x.plain&&decide (x.cells.length=sz))&&decide ((l.map g).length≤zA5))=true:=by
  simp only [List.all_map,Bool.and_eq_true,List.all_eq_true,List.length_map,decide_eq_true_eq,Function.comp]
  refine ⟨fun x _=>?_,hl⟩
  have:=hg x
  simp only [Bool.and_eq_true] at this
  exact ⟨this.1,Nat.eq_of_beq_eq_true this.2⟩
 simp only [Bool.and_eq_true,decide_eq_true_eq] at km
 simp only [zJK,hf,hi,zDJ,yG]
 rw [if_pos (by decide),if_pos (by simpa using km)]
theorem zGZ {f:FuncId} {args:List PV} {v:PV} (h:@zDp yo0 P (zEQ f) f args [] v []):∃ n,@zCR P (zEQ f) yo0 n f args []=some (v,[]):=by
 obtain ⟨n,h⟩:=h
 exact ⟨n,h n (Nat.le_refl _)⟩
theorem zS8 (cl:List FuncId) (h:((List.range P.funcs.size).all fun f=>Nat.beq (H f).intr 0||Nat.beq (H f).intr 9||(Nat.beq (H f).intr 1&&cl.any (Nat.beq f)))=true)
  (hc:∀ f∈cl,∀ fn,P.funcs[f]? = some fn→∀ args hid v hZ,zDJ P fn 1 args hid=some (v,hZ)→zCt P f∧zFp P f args hid v hZ):zEA P H:=fun f fn args hid v hZ hf hi hr=>by
 have yI:=(Array.getElem?_eq_some_iff.1 hf).1
 have:=List.all_eq_true.1 h f (List.mem_range.2 yI)
 rw [Bool.or_eq_true,Bool.or_eq_true,Bool.and_eq_true] at this
 rcases this with (h1 | h1) | ⟨h1,h2⟩
 ·exact absurd (Nat.eq_of_beq_eq_true h1) hi
 ·rw [Nat.eq_of_beq_eq_true h1] at hr
  simp [zDJ] at hr
 ·rw [Nat.eq_of_beq_eq_true h1] at hr
  obtain ⟨g,hg,hb⟩:=List.any_eq_true.1 h2
  rw [Nat.eq_of_beq_eq_true hb] at hf ⊢
  exact hc g hg fn hf args hid v hZ hr
end
end Go.Eng
set_option maxRecDepth 100000
namespace Go.Eng
open Go Go.Proofs
def idV (p:PV):PV:=p
theorem zH5 (xs:List PV):xs.map idV=xs:=by
 induction xs with
 | nil=>rfl
 | cons x xs ih=>rw [List.map_cons,ih];rfl
theorem zFf:∀ {l:List PV},(∀ y∈l,y.plain=true)→zBs l=[]
 | [],_=>rfl
 | p::ps,h=>by
  rw [zBs,(zKJ (h p (by simp))).2,zFf fun y hy=>h y (by simp [hy])];rfl
theorem zQM {xs:List PV} {sz n:Nat} (h:∀ y∈xs,y.plain=true∧y.cells.length=sz) (hn:Nat.beq sz n=true):((xs.map idV).all fun y=>y.cells.length.beq n&&y.cells.all fun q=>q.oneCell)=true:=by
 rw [zH5,List.all_eq_true]
 intro y hy
 rw [Bool.and_eq_true]
 exact ⟨by rw [(h y hy).2];exact hn,List.all_eq_true.2 fun q hq=>zI8 (h y hy).1 q hq⟩
theorem zUY {xs:List PV} {sz:Nat} (h:∀ y∈xs,y.plain=true∧y.cells.length=sz):((xs.map idV).all fun x=>x.plain)=true:=by
 rw [zH5,List.all_eq_true];exact fun y hy=>(h y hy).1
section
variable [Yo]
theorem zYo:zDp Tryz.prog (zEQ 61) 61 [.nils 0] [] (.own 2 []) []:=zDp.closed 50
theorem zX2:zDp Tryz.prog (zEQ 61) 61 [.nn] [] (.own 2 []) []:=zDp.closed 50
theorem zYt (xs:List PV) (h:∀ y∈xs,y.plain=true∧y.cells.length=2) (hI:0<xs.length) (hl:xs.length≤4294967296):zDp Tryz.prog (zEQ 61) 61 [.sl (xs.map idV)] [] (.own 2 (xs.map idV)) []:=by
 refine zAg Tryz.f61 ?_
 refine zAd 1<|zAa<|zAf<|zAd 1<|S_a [(0,.v (PV.bool false))] (ap (zNH (by omega):zJV Tryz.prog BinOp.eql 27 (PV.sl (List.map idV xs)) (zEz (Value.slice none 0 0))=some (PV.bool false)) an)<|zAa<|zAw<|zAk<|zAd 2<|S_a [(0,.ob),(0,.ob),(0,.ob),(3,.ob)] (ap (zUY h:((List.map idV xs).all fun x=>x.plain)=true)<|ap (zQM h (by kernel_rfl):((List.map idV xs).all fun y=>y.cells.length.beq ((fun x=>x.size) Tryz.prog.types[37])&&y.cells.all fun q=>q.oneCell)=true)<|ap (?_:(zBs (List.map idV xs)).isEmpty=true)<|ap ((by exact zBz (by simp only [List.length_map,zzLn,zA5]<;>omega)):(0+(List.map idV xs).length).ble zA5=true) an)<|zAc 1<|zAa<|zAm<|E_a [(1,.yes),(1,.v (PV.own 2 (List.map idV (List.take ([]++List.map idV xs).length xs))))] (ap (blz ([]++List.map idV xs))<|ap ((by simp [zEM]):PV.own 2 (List.take ([]++List.map idV xs).length (List.drop 0 ([]++List.map idV xs)))=PV.own 2 (List.map idV (List.take ([]++List.map idV xs).length xs))) an) (PV.own 2 (List.map idV (List.take ([]++List.map idV xs).length xs))) [] (by simp [*]) rfl
 rw [zH5,zFf fun y hy=>(h y hy).1];rfl
theorem zXR:zDp Tryz.prog (zEQ 65) 65 [.nils 0] [] (.own 1 []) []:=zDp.closed 50
theorem zYC:zDp Tryz.prog (zEQ 65) 65 [.nn] [] (.own 1 []) []:=zDp.closed 50
theorem zYn (xs:List PV) (h:∀ y∈xs,y.plain=true∧y.cells.length=1) (hI:0<xs.length) (hl:xs.length≤4294967296):zDp Tryz.prog (zEQ 65) 65 [.sl (xs.map idV)] [] (.own 1 (xs.map idV)) []:=by
 refine zAg Tryz.f65 ?_
 refine zAd 1<|zAa<|zAf<|zAd 1<|S_a [(0,.v (PV.bool false))] (ap (zNH (by omega):zJV Tryz.prog BinOp.eql 51 (PV.sl (List.map idV xs)) (zEz (Value.slice none 0 0))=some (PV.bool false)) an)<|zAa<|zAw<|zAk<|zAd 2<|S_a [(0,.ob),(0,.ob),(0,.ob),(3,.ob)] (ap (zUY h:((List.map idV xs).all fun x=>x.plain)=true)<|ap (zQM h (by kernel_rfl):((List.map idV xs).all fun y=>y.cells.length.beq ((fun x=>x.size) Tryz.prog.types[3])&&y.cells.all fun q=>q.oneCell)=true)<|ap (?_:(zBs (List.map idV xs)).isEmpty=true)<|ap ((by exact zBz (by simp only [List.length_map,zzLn,zA5]<;>omega)):(0+(List.map idV xs).length).ble zA5=true) an)<|zAc 1<|zAa<|zAm<|E_a [(1,.yes),(1,.v (PV.own 1 (List.map idV (List.take ([]++List.map idV xs).length xs))))] (ap (blz ([]++List.map idV xs))<|ap ((by simp [zEM]):PV.own 1 (List.take ([]++List.map idV xs).length (List.drop 0 ([]++List.map idV xs)))=PV.own 1 (List.map idV (List.take ([]++List.map idV xs).length xs))) an) (PV.own 1 (List.map idV (List.take ([]++List.map idV xs).length xs))) [] (by simp [*]) rfl
 rw [zH5,zFf fun y hy=>(h y hy).1];rfl
theorem zV3:zDp Tryz.prog (zEQ 123) 123 [.nils 0] [] (.own 2 []) []:=zDp.closed 50
theorem zWJ:zDp Tryz.prog (zEQ 123) 123 [.nn] [] (.own 2 []) []:=zDp.closed 50
theorem zW1 (xs:List PV) (h:∀ y∈xs,y.plain=true∧y.cells.length=2) (hI:0<xs.length) (hl:xs.length≤4294967296):zDp Tryz.prog (zEQ 123) 123 [.sl (xs.map idV)] [] (.own 2 (xs.map idV)) []:=by
 refine zAg Tryz.f123 ?_
 refine zAd 1<|zAa<|zAf<|zAd 1<|S_a [(0,.v (PV.bool false))] (ap (zNH (by omega):zJV Tryz.prog BinOp.eql 40 (PV.sl (List.map idV xs)) (zEz (Value.slice none 0 0))=some (PV.bool false)) an)<|zAa<|zAw<|zAk<|zAd 2<|S_a [(0,.ob),(0,.ob),(0,.ob),(3,.ob)] (ap (zUY h:((List.map idV xs).all fun x=>x.plain)=true)<|ap (zQM h (by kernel_rfl):((List.map idV xs).all fun y=>y.cells.length.beq ((fun x=>x.size) Tryz.prog.types[108])&&y.cells.all fun q=>q.oneCell)=true)<|ap (?_:(zBs (List.map idV xs)).isEmpty=true)<|ap ((by exact zBz (by simp only [List.length_map,zzLn,zA5]<;>omega)):(0+(List.map idV xs).length).ble zA5=true) an)<|zAc 1<|zAa<|zAm<|E_a [(1,.yes),(1,.v (PV.own 2 (List.map idV (List.take ([]++List.map idV xs).length xs))))] (ap (blz ([]++List.map idV xs))<|ap ((by simp [zEM]):PV.own 2 (List.take ([]++List.map idV xs).length (List.drop 0 ([]++List.map idV xs)))=PV.own 2 (List.map idV (List.take ([]++List.map idV xs).length xs))) an) (PV.own 2 (List.map idV (List.take ([]++List.map idV xs).length xs))) [] (by simp [*]) rfl
 rw [zH5,zFf fun y hy=>(h y hy).1];rfl
end
theorem zVs:∀ args hid v hZ,zDJ Tryz.prog Tryz.f61 1 args hid=some (v,hZ)→zCt Tryz.prog 61∧zFp Tryz.prog 61 args hid v hZ :=
 zLq (f:=61) (fn:=Tryz.f61) (sz:=2) (by kernel_rfl) (zIp (by kernel_rfl)) (by kernel_rfl) (by kernel_rfl) (by kernel_rfl) (by kernel_rfl) (zGZ (@zYo yo0)) (zGZ (@zX2 yo0)) fun x xs h hl=>by
  have:=zGZ (@zYt yo0 (x::xs) h (by simp) hl)
  rw [zH5] at this
  exact this
theorem zUE:∀ args hid v hZ,zDJ Tryz.prog Tryz.f65 1 args hid=some (v,hZ)→zCt Tryz.prog 65∧zFp Tryz.prog 65 args hid v hZ :=
 zLq (f:=65) (fn:=Tryz.f65) (sz:=1) (by kernel_rfl) (zIp (by kernel_rfl)) (by kernel_rfl) (by kernel_rfl) (by kernel_rfl) (by kernel_rfl) (zGZ (@zXR yo0)) (zGZ (@zYC yo0)) fun x xs h hl=>by
  have:=zGZ (@zYn yo0 (x::xs) h (by simp) hl)
  rw [zH5] at this
  exact this
theorem zSC:∀ args hid v hZ,zDJ Tryz.prog Tryz.f123 1 args hid=some (v,hZ)→zCt Tryz.prog 123∧zFp Tryz.prog 123 args hid v hZ :=
 zLq (f:=123) (fn:=Tryz.f123) (sz:=2) (by kernel_rfl) (zIp (by kernel_rfl)) (by kernel_rfl) (by kernel_rfl) (by kernel_rfl) (by kernel_rfl) (zGZ (@zV3 yo0)) (zGZ (@zWJ yo0)) fun x xs h hl=>by
  have:=zGZ (@zW1 yo0 (x::xs) h (by simp) hl)
  rw [zH5] at this
  exact this
theorem zWx:∀ f∈[61,65,123],∀ fn,Tryz.prog.funcs[f]? = some fn→∀ args hid v hZ,zDJ Tryz.prog fn 1 args hid=some (v,hZ)→zCt Tryz.prog f∧zFp Tryz.prog f args hid v hZ:=by
 intro f hf fn kJ
 simp only [List.mem_cons,List.not_mem_nil,or_false] at hf
 rcases hf with rfl | rfl | rfl
 ·have e:Tryz.prog.funcs[61]? = some Tryz.f61:=by kernel_rfl
  rw [e] at kJ;cases kJ
  exact zVs
 ·have e:Tryz.prog.funcs[65]? = some Tryz.f65:=by kernel_rfl
  rw [e] at kJ;cases kJ
  exact zUE
 ·have e:Tryz.prog.funcs[123]? = some Tryz.f123:=by kernel_rfl
  rw [e] at kJ;cases kJ
  exact zSC
end Go.Eng
namespace Go.Proofs.YtppbomajegnkeaaGreat
open Go.ChangeShapes Go.WideShapes Go.ChangeAt Go.RowKit Go.Eng
theorem Tryz.own:ownKnob Tryz.prog.godebug=none:=by kernel_rfl
theorem Tryz.laidOut:laidOutB Tryz.prog=true:=by kernel_rfl
theorem zE4:Tryz.prog.follows .mixedOrders=true:=by kernel_rfl
theorem hnm:zEK Tryz.prog:=zIp (by kernel_rfl)
theorem zMr:Fit Tryz.prog zKO:=zV9 (by kernel_rfl)
theorem hin:zEA Tryz.prog zKO:=zS8 [61,65,123] (by kernel_rfl) zWx
end Go.Proofs.YtppbomajegnkeaaGreat
namespace Go.Eng
open Go
theorem zTQ {k:IntKind} {p:PV} (h:zP4 (false,[.num k]) p):∃ n,p = .int k n∧k.min≤n∧n≤k.max:=by
 simp only [zP4,Bool.false_eq_true,if_false] at h
 obtain ⟨q,qs,hc,⟨n,rfl,hn⟩,wj⟩:=h
 cases hc
 exact ⟨n,rfl,hn⟩
theorem zUQ {k:IntKind} {p:PV} (h:zP4 (false,[.list false [.num k]]) p):∃ l:List Int,p = .sl (l.map (.int k))∧l.length≤maxLen∧∀ n∈l,k.min≤n∧n≤k.max:=by
 simp only [zP4,Bool.false_eq_true,if_false] at h
 obtain ⟨q,qs,hc,h,wj⟩:=h
 cases hc
 exact zN9 h
theorem zVp {ss:List Sh} {ag:Bool} {α:Type} {R:α→Prop} {enc:α→PV} {p:PV} (hr:∀ x,zCK ss x.cells→x.isAgg=ag→∃ a,x=enc a∧R a) (h:zP4 (false,[.list ag ss]) p):∃ l:List α,p = .sl (l.map enc)∧l.length≤maxLen∧∀ a∈l,R a:=by
 simp only [zP4,Bool.false_eq_true,if_false] at h
 obtain ⟨q,qs,hc,⟨xs,rfl,hl,hx⟩,wj⟩:=h
 cases hc
 obtain ⟨l,rfl,hb⟩:=zKL (α:=α) (R:=R) (enc:=enc) (xs:=xs) fun x ju=>hr x (hx x ju).1 (hx x ju).2
 exact ⟨l,rfl,by simpa using hl,hb⟩
theorem zND {ss:List Sh} {ag:Bool} {α:Type} {R:α→Prop} {enc:α→PV} {p:PV} (hr:∀ x,zCK ss x.cells→x.isAgg=ag→∃ a,x=enc a∧R a) (h:zXe (.list ag ss) p):∃ l:List α,p = .sl (l.map enc)∧l.length≤maxLen∧∀ a∈l,R a:=by
 obtain ⟨xs,rfl,hl,hx⟩:=h
 obtain ⟨l,rfl,hb⟩:=zKL (α:=α) (R:=R) (enc:=enc) (xs:=xs) fun x ju=>hr x (hx x ju).1 (hx x ju).2
 exact ⟨l,rfl,by simpa using hl,hb⟩
theorem zUj {x:PV} (h:x.isAgg=true):x = .agg x.cells:=by cases x<;>simp [PV.isAgg] at h;rfl
theorem zWm {x y:PV} (h:x.isAgg=false) (hc:x.cells=[y]):x=y:=by
 cases x<;>simp [PV.isAgg] at h<;>simpa [PV.cells] using hc
end Go.Eng
set_option maxRecDepth 10000
set_option maxHeartbeats 4000000
namespace Go.Eng
open Go Go.Proofs
theorem zAt {α:Type} {l:List α} {i:Nat} {d:α} (h:i<l.length):l.getD i d=l[i]:=by simp [List.getD,List.getElem?_eq_getElem h]
theorem zGA {α β:Type} {f:β→α→β} {b:β} {l:List α} {i:Nat} {d:α} (h:i<l.length):(l.take (i+1)).foldl f b=f ((l.take i).foldl f b) (l.getD i d):=by
 rw [zAt h];exact zPR h
theorem zEI {α:Type} {l m:List α} {i:Nat} {d:α} (h:i<l.length) (h':i<m.length) (ha:l.take i=m.take i) (he:l.getD i d=m.getD i d):l.take (i+1)=m.take (i+1):=by
 rw [zAt h,zAt h'] at he
 rw [List.take_add_one,List.take_add_one,ha,List.getElem?_eq_getElem h,List.getElem?_eq_getElem h',he]
theorem zB9 {α:Type} {l:List α} {i:Nat} {d:α} (h:i<l.length):l.take (i+1)=l.take i++[l.getD i d]:=by
 rw [List.take_add_one,List.getElem?_eq_getElem h,zAt h];rfl
theorem zBB {α:Type} {l:List α} {d:α} {p:α→Prop} (h:∀ x∈l,p x) (i:Nat) (hi:i<l.length):p (l.getD i d):=by
 rw [zAt hi];exact h _ (List.getElem_mem hi)
theorem zDF {l:List Int} {i j:Nat} {v:Int}:(l.set i v).getD j 0=if i=j∧j<l.length then v else l.getD j 0:=by
 simp only [List.getD_eq_getElem?_getD,List.getElem?_set]
 by_cases h:i=j
 ·subst h
  by_cases h2:i<l.length
  ·simp [h2]
  ·simp [h2]
 ·simp [h]
def zEO {α:Type} (φ:α→Bool) (l:List α):Int:=if l.findIdx φ<l.length then (l.findIdx φ:Int) else -1
theorem zB0 {α : Type} {φ : α → Bool} {l : List α} {i : Nat} (h : i < l.length) (h0 : ∀ j (hj : j < i), φ (l[j]'(by omega)) = false) (hi : φ l[i] = true) : zEO φ l = i := by
 have:l.findIdx φ=i:=by
  rw [List.findIdx_eq h]
  exact ⟨hi,fun j hj=>by simpa using h0 j hj⟩
 simp [zEO,this,h]
theorem zCl {α : Type} {φ : α → Bool} {l : List α} (h0 : ∀ j (hj : j < l.length), φ (l[j]'hj) = false) : zEO φ l = -1 := by
 have:¬ l.findIdx φ<l.length:=by
  intro h
  have:=List.findIdx_getElem (w:=h)
  rw [h0 _ h] at this;cases this
 simp [zEO,this]
theorem zEf {α:Type} (φ:α→Bool) (l:List α):decide (zEO φ l≥0)=l.any φ:=by
 unfold zEO
 split
 ·rename_i h
  have:=List.findIdx_getElem (w:=h)
  have h2:l.any φ=true:=List.any_eq_true.2 ⟨_,List.getElem_mem h,this⟩
  rw [h2];simp
 ·rename_i h
  have h2:l.any φ=false:=by
   rw [List.any_eq_false]
   intro x hx hp
   exact h (List.findIdx_lt_length_of_exists ⟨x,hx,hp⟩)
  rw [h2];simp
structure Nw where
 h:Int
 l:List (Int×Int)
 n:List (Int×Bool)
 s:List (List Int)
abbrev prV (x:Int×Int):PV := .agg [I x.1,I x.2]
abbrev ntV (x:Int×Bool):PV := .agg [I x.1,.bool x.2]
abbrev prs (l:List (Int×Int)):PV := .sl (l.map prV)
abbrev zBY (l:List Int):PV := .own 1 (l.map I)
abbrev nwV (n:Nw):PV := .agg [I n.h,.sl (n.l.map prV),.sl (n.n.map ntV),.sl (n.s.map zAB)]
abbrev nwO (n:Nw):PV := .agg [I n.h,.own 2 (n.l.map prV),.own 2 (n.n.map ntV),.own 1 (n.s.map zBY)]
instance:FrzOf zBY zAB:=⟨fun x=>by simp only [zAT,zFs]⟩
def inB (n lo hi:Int):Bool:=decide (lo≤n)&&decide (n≤hi)
def pr2 (x:Int×Int):Int×Int:=(if x.2<x.1 then x.2 else x.1,if x.2>x.1 then x.2 else x.1)
abbrev FG [Yo] (f:FuncId) (args:List PV) (v:PV):Prop:=zDp Tryz.prog zKO f args [] v []
section
variable [Yo]
theorem f107 (n lo hi:Int):FG 107 [I n,I lo,I hi] (.bool (inB n lo hi)):=by
 refine zAg Tryz.f107 ?_
 refine zAd 1<|zAa<|zAd 4<|zD5 10 (n≥lo) (fun k0=>(zAc 5<|zAa<|zAm<|E_a [] an (PV.bool (decide (n≤hi))) [] ?_ rfl)) (fun k0=>(zAc 5<|zAa<|zAm<|E_a [] an (PV.bool false) [] ?_ rfl))
 ·simp only [inB,decide_eq_true k0,Bool.true_and]
 ·simp only [inB,decide_eq_false k0,Bool.false_and]
theorem f111 (n lo hi:Int):FG 111 [I n,I lo,I hi] (.bool (!inB n lo hi)):=by
 have e:(!inB n lo hi)=(decide (n<lo)||decide (hi<n)):=by
  unfold inB
  by_cases h1:lo≤n<;>by_cases h2:n≤hi<;>simp [h1,h2]<;>omega
 rw [e]
 refine zAg Tryz.f111 ?_
 refine zAd 1<|zAa<|zAd 4<|zD5 10 (n<lo) (fun k0=>(zAc 5<|zAa<|zAm<|E_a [] an (PV.bool true) [] (by simp [*]) rfl)) (fun k0=>(zAc 5<|zAa<|zAm<|E_a [] an (PV.bool (decide (n>hi))) [] (by simp [*]) rfl))
theorem f165 (n k:Int):FG 165 [I n,.sl [I k]] (I (max n k)):=by
 refine zAg Tryz.f165 ?_
 refine zAd 1<|zAa<|zAf<|zAd 1<|zAc 1<|zAc 1<|zAa<|zAi 0 ?_
 refine zAq (fun (i,v)=>i=0∧v=n∨i=1∧v=if k>n then k else n) (fun (i,v)=>[(0,I v),(9,I (i:Nat))]) (fun (i,_)=>1-i) ((0:Nat),n) (.inl ⟨rfl,rfl⟩) fun (i,v) hi=>?_
 rcases hi with ⟨rfl,rfl⟩ | ⟨rfl,rfl⟩
 ·refine zAd 1<|zAa<|zAf<|zA8<|zAk<|zAf<|zAi 1<|zAd 3<|zAa<|zAe<|zAc 4<|zAa<|zAe<|zAc 2<|zAa ?_
  exact ⟨(1,if k>v then k else v),.inr ⟨rfl,rfl⟩,by simp only;omega,by kernel_rfl,by kernel_rfl⟩
 ·refine zAd 1<|zAa<|zAf<|zAw<|zAA 0<|zAd 2<|zAa<|zAm<|E_a [] an (I (if k>n then k else n)) [] ?_ rfl
  rw [Int.max_def]
  by_cases h:k>n
  ·rw [if_pos h,if_pos (by omega)]
  ·rw [if_neg h];split
   ·have:n=k:=by omega
    rw [this]
   ·rfl
theorem f110 (x:Int×Int):FG 110 [prV x] (prV (pr2 x)):=by
 refine zAg Tryz.f110 ?_
 refine zAd 2<|zAa<|zAd 1<|zAc 1<|zAc 1<|zAc 2<|zAc 1<|zAc 1<|zAc 1<|zAc 4<|zAa<|zAm<|E_a [] an (PV.agg [I (if x.snd<x.fst then x.snd else x.fst),I (if x.snd>x.fst then x.snd else x.fst)]) [] rfl rfl
theorem f109 (n:Nw) (x:Int) (hb:1≤n.h∧n.h≤10):FG 109 [nwV n,I x] (.bool (inB x 0 (n.h-1))):=by
 refine zAg Tryz.f109 ?_
 refine zAd 2<|zAa<|zAd 3<|S_a [(1,.v (I (n.h-1)))] (ap ((zCj rfl (by omega)):I (IntKind.i64.wrap (n.h-1))=I (n.h-1)) an)<|S_a [(10,.ret (PV.bool (inB x 0 (n.h-1))) [])] (ap (f107 x (0) (n.h-1)) an)<|zAc 1<|zAa<|zAm<|E_a [] an (PV.bool (inB x 0 (n.h-1))) [] rfl rfl
theorem f106 (n:Nw) (x:Int) (hb:n.n.length≤8):FG 106 [nwV n,I x] (.bool (inB x 0 (n.n.length-1))):=by
 refine zAg Tryz.f106 ?_
 refine zAd 2<|zAa<|zAd 3<|S_a [(0,.n n.n.length)] (ap (lnS ntV n.n) an)<|S_a [(1,.v (I ((↑n.n.length:Int)-1)))] (ap ((zCj rfl (by omega)):I (IntKind.i64.wrap ((↑n.n.length:Int)-1))=I ((↑n.n.length:Int)-1)) an)<|S_a [(10,.ret (PV.bool (inB x 0 ((↑n.n.length:Int)-1))) [])] (ap (f107 x (0) ((↑n.n.length:Int)-1)) an)<|zAc 1<|zAa<|zAm<|E_a [] an (PV.bool (inB x 0 ((↑n.n.length:Int)-1))) [] rfl rfl
end
end Go.Eng
namespace Go.Eng
open Go
abbrev zY1:Sh := .list true [.num .i64,.num .i64]
abbrev zZa:Sh := .list true [.num .i64,.bool]
abbrev zXM:Sh := .list false [.list false [.num .i64]]
theorem zTY (x:PV) (h:zCK [.num .i64,.num .i64] x.cells) (ha:x.isAgg=true):∃ r:Int×Int,x=prV r∧True:=by
 obtain ⟨p1,q1,hc,⟨w,rfl,_⟩,p2,q2,rfl,⟨s,rfl,_⟩,h3⟩:=h
 simp only [zCK] at h3;subst h3
 exact ⟨(w,s),by rw [zUj ha,hc],trivial⟩
theorem zWR (x:PV) (h:zCK [.num .i64,.bool] x.cells) (ha:x.isAgg=true):∃ r:Int×Bool,x=ntV r∧True:=by
 obtain ⟨p1,q1,hc,⟨w,rfl,_⟩,p2,q2,rfl,⟨s,rfl⟩,h3⟩:=h
 simp only [zCK] at h3;subst h3
 exact ⟨(w,s),by rw [zUj ha,hc],trivial⟩
theorem zVE (x:PV) (h:zCK [.list false [.num .i64]] x.cells) (ha:x.isAgg=false):∃ r:List Int,x=zAB r∧True:=by
 obtain ⟨p1,q1,hc,h1,h2⟩:=h
 simp only [zCK] at h2;subst h2
 obtain ⟨l,rfl,_⟩:=zN9 h1
 exact ⟨l,zWm ha hc,trivial⟩
theorem zUP {p:PV} (h:zP4 (true,[.num .i64,zY1,zZa,zXM]) p):∃ n:Nw,p=nwV n:=by
 simp only [zP4,if_true] at h
 obtain ⟨cs,rfl,p1,q1,rfl,⟨c,rfl,_⟩,p2,q2,rfl,h2,p3,q3,rfl,h3,p4,q4,rfl,h4,h5⟩:=h
 simp only [zCK] at h5;subst h5
 obtain ⟨l,rfl,_⟩:=zND zTY h2
 obtain ⟨n,rfl,_⟩:=zND zWR h3
 obtain ⟨s,rfl,_⟩:=zND zVE h4
 exact ⟨⟨c,l,n,s⟩,rfl⟩
theorem zTJ {p:PV} (h:zP4 (false,[zY1]) p):∃ l:List (Int×Int),p=prs l:=by
 obtain ⟨l,rfl,_⟩:=zVp zTY h
 exact ⟨l,rfl⟩
end Go.Eng
set_option maxRecDepth 10000
set_option maxHeartbeats 4000000
namespace Go.Eng
open Go Go.Proofs
def has {α:Type} [DecidableEq α] (l:List α) (x:α):Bool:=l.any fun y=>decide (x=y)
theorem zM3 {α:Type} [DecidableEq α] {l:List α} {x:α}:has l x=decide (x∈l):=by
 rw [Bool.eq_iff_iff];simp [has]
theorem zWH {x y:Int×Int}:(decide (x.1=y.1)&&decide (x.2=y.2))=decide (x=y):=by
 rw [Bool.eq_iff_iff];simp [Prod.ext_iff]
theorem zVt {α:Type} {l:List α} {z x:α} {i:Nat} (h:i<l.length):(l.take i++List.replicate (l.length-i) z).set i x=l.take i++[x]++List.replicate (l.length-(i+1)) z:=by
 obtain ⟨k,hk⟩:∃ k,l.length-i=k+1:=⟨l.length-i-1,by omega⟩
 rw [hk,show l.length-(i+1)=k by omega,List.replicate_succ,List.set_append_right _ _ (by rw [List.length_take];omega),List.length_take,Nat.min_eq_left (by omega),Nat.sub_self,List.set_cons_zero,List.append_assoc];rfl
section
variable [Yo]
theorem f98 (l m:List (Int)) (hl:l.length<4294967296):FG 98 [.sl (l.map I),.sl (m.map I)] (.bool (decide (l=m))):=by
 refine zAg Tryz.f98 ?_
 refine zAd 1<|zAa<|zAf<|zAd 1<|S_a [(0,.n l.length)] (ap (lnS I l) an)<|zAc 1<|S_a [(0,.n m.length)] (ap (lnS I m) an)<|zAc 1<|zAa<|zDc ((↑l.length:Int)=(↑m.length:Int)) (fun k0=>(zAd 1<|zAa<|zAm<|E_a [] an (PV.bool false) [] ?_ rfl)) (fun k0=>(zAk<|zAf<|zAd 1<|S_a [(0,.n l.length)] (ap (lnS I l) an)<|zAc 1<|zAa<|zAi 0 ?_))
 ·simp;intro h;subst h;simp at *
 refine zAq (fun i=>i≤l.length∧l.take i=m.take i) (fun i=>[(13,I (i:Nat))]) (fun i=>l.length-i) (0:Nat) (by simp) fun i ⟨hi,ha⟩=>?_
 refine zAd 1<|zAa<|zAf<|zCd ((↑i:Int)<(↑l.length:Int)) (fun k1=>(zAk<|zAf<|zAi 1<|zAd 2<|zAa<|zAd 2<|S_a [(2,.v (I (l.getD i 0)))] (ap (zBv (0) (by omega):(List.map I l)[i]? = some (I (l.getD i 0))) an)<|zAc 3<|S_a [(2,.v (I (m.getD i 0)))] (ap (zBv (0) (by omega):(List.map I m)[i]? = some (I (m.getD i 0))) an)<|zAc 2<|zAa<|zDc (l.getD i 0=m.getD i 0) (fun k2=>(zAd 1<|zAa<|zAm<|E_a [] an (PV.bool false) [] ?_ rfl)) (fun k2=>(zAk<|zAe<|S_a [(1,.v (I (↑(i+1):Int)))] (ap (wrN i) an)<|zAc 1<|zAa ?_)))) (fun k1=>(zAA 0<|zAd 1<|zAa<|zAm<|E_a [] an (PV.bool true) [] ?_ rfl))
 ·simp;intro h;subst h;omega
 ·refine ⟨i+1,⟨by omega,?_⟩,by omega,by kernel_rfl,by kernel_rfl⟩
  exact zEI (d:=0) (by omega) (by omega) ha (by assumption)
 ·rw [List.take_of_length_le (by omega),List.take_of_length_le (by omega)] at ha
  simp [ha]
theorem f28 (l m:List (Int)) (hl:l.length<4294967296):FG 28 [.sl (l.map I),.sl (m.map I)] (.bool (decide (l=m))):=by
 refine zAg Tryz.f28 ?_
 refine zAd 1<|zAa<|zAd 2<|S_a [(8,.ret (PV.bool (decide (l=m))) [])] (ap (f98 l m (by omega)) an)<|zAc 1<|zAa<|zAm<|E_a [] an (PV.bool (decide (l=m))) [] rfl rfl
theorem f166 (l m:List (Int×Int)) (hl:l.length<4294967296):FG 166 [.sl (l.map prV),.sl (m.map prV)] (.bool (decide (l=m))):=by
 refine zAg Tryz.f166 ?_
 refine zAd 1<|zAa<|zAf<|zAd 1<|S_a [(0,.n l.length)] (ap (lnS prV l) an)<|zAc 1<|S_a [(0,.n m.length)] (ap (lnS prV m) an)<|zAc 1<|zAa<|zDc ((↑l.length:Int)=(↑m.length:Int)) (fun k0=>(zAd 1<|zAa<|zAm<|E_a [] an (PV.bool false) [] ?_ rfl)) (fun k0=>(zAk<|zAf<|zAd 1<|S_a [(0,.n l.length)] (ap (lnS prV l) an)<|zAc 1<|zAa<|zAi 0 ?_))
 ·simp;intro h;subst h;simp at *
 refine zAq (fun i=>i≤l.length∧l.take i=m.take i) (fun i=>[(13,I (i:Nat))]) (fun i=>l.length-i) (0:Nat) (by simp) fun i ⟨hi,ha⟩=>?_
 refine zAd 1<|zAa<|zAf<|zCd ((↑i:Int)<(↑l.length:Int)) (fun k1=>(zAk<|zAf<|zAi 1<|zAd 2<|zAa<|zAd 2<|S_a [(2,.v (PV.agg [I (l.getD i default).fst,I (l.getD i default).snd]))] (ap (zBv default (by omega):(List.map prV l)[i]? = some (PV.agg [I (l.getD i default).fst,I (l.getD i default).snd])) an)<|zAc 3<|S_a [(2,.v (PV.agg [I (m.getD i default).fst,I (m.getD i default).snd]))] (ap (zBv default (by omega):(List.map prV m)[i]? = some (PV.agg [I (m.getD i default).fst,I (m.getD i default).snd])) an)<|zAc 1<|S_a [(0,.v (PV.bool !(decide ((l.getD i default).fst=(m.getD i default).fst)&&decide ((l.getD i default).snd=(m.getD i default).snd))))] (ap (zU1:zJV Tryz.prog BinOp.neq 87 (PV.agg [I (l.getD i default).fst,I (l.getD i default).snd]) (PV.agg [I (m.getD i default).fst,I (m.getD i default).snd])=some (PV.bool !(decide ((l.getD i default).fst=(m.getD i default).fst)&&decide ((l.getD i default).snd=(m.getD i default).snd)))) an)<|zAa<|zDt (!(decide ((l.getD i default).fst=(m.getD i default).fst)&&decide ((l.getD i default).snd=(m.getD i default).snd))) (fun k2=>(zAd 1<|zAa<|zAm<|E_a [] an (PV.bool false) [] ?_ rfl)) (fun k2=>(zAk<|zAe<|S_a [(1,.v (I (↑(i+1):Int)))] (ap (wrN i) an)<|zAc 1<|zAa ?_)))) (fun k1=>(zAA 0<|zAd 1<|zAa<|zAm<|E_a [] an (PV.bool true) [] ?_ rfl))
 ·simp;intro h;subst h;simp at *
 ·refine ⟨i+1,⟨by omega,?_⟩,by omega,by kernel_rfl,by kernel_rfl⟩
  exact zEI (d:=default) (by omega) (by omega) ha (by first | assumption | (simp only [Bool.not_eq_true,Bool.not_eq_false',Bool.and_eq_true,decide_eq_true_eq] at k2;exact Prod.ext k2.1 k2.2))
 ·rw [List.take_of_length_le (by omega),List.take_of_length_le (by omega)] at ha
  simp [ha]
theorem f103 (l m:List (Int×Int)) (hl:l.length<4294967296):FG 103 [.sl (l.map prV),.sl (m.map prV)] (.bool (decide (l=m))):=by
 refine zAg Tryz.f103 ?_
 refine zAd 1<|zAa<|zAd 2<|S_a [(8,.ret (PV.bool (decide (l=m))) [])] (ap (f166 l m (by omega)) an)<|zAc 1<|zAa<|zAm<|E_a [] an (PV.bool (decide (l=m))) [] rfl rfl
theorem f167 (l m:List (Int×Bool)) (hl:l.length<4294967296):FG 167 [.sl (l.map ntV),.sl (m.map ntV)] (.bool (decide (l=m))):=by
 refine zAg Tryz.f167 ?_
 refine zAd 1<|zAa<|zAf<|zAd 1<|S_a [(0,.n l.length)] (ap (lnS ntV l) an)<|zAc 1<|S_a [(0,.n m.length)] (ap (lnS ntV m) an)<|zAc 1<|zAa<|zDc ((↑l.length:Int)=(↑m.length:Int)) (fun k0=>(zAd 1<|zAa<|zAm<|E_a [] an (PV.bool false) [] ?_ rfl)) (fun k0=>(zAk<|zAf<|zAd 1<|S_a [(0,.n l.length)] (ap (lnS ntV l) an)<|zAc 1<|zAa<|zAi 0 ?_))
 ·simp;intro h;subst h;simp at *
 refine zAq (fun i=>i≤l.length∧l.take i=m.take i) (fun i=>[(13,I (i:Nat))]) (fun i=>l.length-i) (0:Nat) (by simp) fun i ⟨hi,ha⟩=>?_
 refine zAd 1<|zAa<|zAf<|zCd ((↑i:Int)<(↑l.length:Int)) (fun k1=>(zAk<|zAf<|zAi 1<|zAd 2<|zAa<|zAd 2<|S_a [(2,.v (PV.agg [I (l.getD i default).fst,PV.bool (l.getD i default).snd]))] (ap (zBv default (by omega):(List.map ntV l)[i]? = some (PV.agg [I (l.getD i default).fst,PV.bool (l.getD i default).snd])) an)<|zAc 3<|S_a [(2,.v (PV.agg [I (m.getD i default).fst,PV.bool (m.getD i default).snd]))] (ap (zBv default (by omega):(List.map ntV m)[i]? = some (PV.agg [I (m.getD i default).fst,PV.bool (m.getD i default).snd])) an)<|zAc 1<|S_a [(0,.v (PV.bool !(decide ((l.getD i default).fst=(m.getD i default).fst)&&decide ((l.getD i default).snd=(m.getD i default).snd))))] (ap (zTb:zJV Tryz.prog BinOp.neq 99 (PV.agg [I (l.getD i default).fst,PV.bool (l.getD i default).snd]) (PV.agg [I (m.getD i default).fst,PV.bool (m.getD i default).snd])=some (PV.bool !(decide ((l.getD i default).fst=(m.getD i default).fst)&&decide ((l.getD i default).snd=(m.getD i default).snd)))) an)<|zAa<|zDt (!(decide ((l.getD i default).fst=(m.getD i default).fst)&&decide ((l.getD i default).snd=(m.getD i default).snd))) (fun k2=>(zAd 1<|zAa<|zAm<|E_a [] an (PV.bool false) [] ?_ rfl)) (fun k2=>(zAk<|zAe<|S_a [(1,.v (I (↑(i+1):Int)))] (ap (wrN i) an)<|zAc 1<|zAa ?_)))) (fun k1=>(zAA 0<|zAd 1<|zAa<|zAm<|E_a [] an (PV.bool true) [] ?_ rfl))
 ·simp;intro h;subst h;simp at *
 ·refine ⟨i+1,⟨by omega,?_⟩,by omega,by kernel_rfl,by kernel_rfl⟩
  exact zEI (d:=default) (by omega) (by omega) ha (by first | assumption | (simp only [Bool.not_eq_true,Bool.not_eq_false',Bool.and_eq_true,decide_eq_true_eq] at k2;exact Prod.ext k2.1 k2.2))
 ·rw [List.take_of_length_le (by omega),List.take_of_length_le (by omega)] at ha
  simp [ha]
theorem f104 (l m:List (Int×Bool)) (hl:l.length<4294967296):FG 104 [.sl (l.map ntV),.sl (m.map ntV)] (.bool (decide (l=m))):=by
 refine zAg Tryz.f104 ?_
 refine zAd 1<|zAa<|zAd 2<|S_a [(8,.ret (PV.bool (decide (l=m))) [])] (ap (f167 l m (by omega)) an)<|zAc 1<|zAa<|zAm<|E_a [] an (PV.bool (decide (l=m))) [] rfl rfl
theorem f158 (l m:List (Int×Int)) (hl:l.length<4294967296):FG 158 [.sl (l.map prV),.sl (m.map prV)] (.bool (decide (l=m))):=by
 refine zAg Tryz.f158 ?_
 refine zAd 1<|zAa<|zAf<|zAd 1<|S_a [(0,.n l.length)] (ap (lnS prV l) an)<|zAc 1<|S_a [(0,.n m.length)] (ap (lnS prV m) an)<|zAc 1<|zAa<|zDc ((↑l.length:Int)=(↑m.length:Int)) (fun k0=>(zAd 1<|zAa<|zAm<|E_a [] an (PV.bool false) [] ?_ rfl)) (fun k0=>(zAk<|zAf<|zAd 1<|S_a [(0,.n l.length)] (ap (lnS prV l) an)<|zAc 1<|zAa<|zAi 0 ?_))
 ·simp;intro h;subst h;simp at *
 refine zAq (fun i=>i≤l.length∧l.take i=m.take i) (fun i=>[(13,I (i:Nat))]) (fun i=>l.length-i) (0:Nat) (by simp) fun i ⟨hi,ha⟩=>?_
 refine zAd 1<|zAa<|zAf<|zCd ((↑i:Int)<(↑l.length:Int)) (fun k1=>(zAk<|zAf<|zAi 1<|zAd 2<|zAa<|zAd 2<|S_a [(2,.v (PV.agg [I (l.getD i default).fst,I (l.getD i default).snd]))] (ap (zBv default (by omega):(List.map prV l)[i]? = some (PV.agg [I (l.getD i default).fst,I (l.getD i default).snd])) an)<|zAc 3<|S_a [(2,.v (PV.agg [I (m.getD i default).fst,I (m.getD i default).snd]))] (ap (zBv default (by omega):(List.map prV m)[i]? = some (PV.agg [I (m.getD i default).fst,I (m.getD i default).snd])) an)<|zAc 1<|S_a [(0,.v (PV.bool !(decide ((l.getD i default).fst=(m.getD i default).fst)&&decide ((l.getD i default).snd=(m.getD i default).snd))))] (ap (zRz:zJV Tryz.prog BinOp.neq 108 (PV.agg [I (l.getD i default).fst,I (l.getD i default).snd]) (PV.agg [I (m.getD i default).fst,I (m.getD i default).snd])=some (PV.bool !(decide ((l.getD i default).fst=(m.getD i default).fst)&&decide ((l.getD i default).snd=(m.getD i default).snd)))) an)<|zAa<|zDt (!(decide ((l.getD i default).fst=(m.getD i default).fst)&&decide ((l.getD i default).snd=(m.getD i default).snd))) (fun k2=>(zAd 1<|zAa<|zAm<|E_a [] an (PV.bool false) [] ?_ rfl)) (fun k2=>(zAk<|zAe<|S_a [(1,.v (I (↑(i+1):Int)))] (ap (wrN i) an)<|zAc 1<|zAa ?_)))) (fun k1=>(zAA 0<|zAd 1<|zAa<|zAm<|E_a [] an (PV.bool true) [] ?_ rfl))
 ·simp;intro h;subst h;simp at *
 ·refine ⟨i+1,⟨by omega,?_⟩,by omega,by kernel_rfl,by kernel_rfl⟩
  exact zEI (d:=default) (by omega) (by omega) ha (by first | assumption | (simp only [Bool.not_eq_true,Bool.not_eq_false',Bool.and_eq_true,decide_eq_true_eq] at k2;exact Prod.ext k2.1 k2.2))
 ·rw [List.take_of_length_le (by omega),List.take_of_length_le (by omega)] at ha
  simp [ha]
theorem f78 (l m:List (Int×Int)) (hl:l.length<4294967296):FG 78 [.sl (l.map prV),.sl (m.map prV)] (.bool (decide (l=m))):=by
 refine zAg Tryz.f78 ?_
 refine zAd 1<|zAa<|zAd 2<|S_a [(8,.ret (PV.bool (decide (l=m))) [])] (ap (f158 l m (by omega)) an)<|zAc 1<|zAa<|zAm<|E_a [] an (PV.bool (decide (l=m))) [] rfl rfl
theorem f105 (l m:List (Int×Int)) (hl:l.length<4294967296):FG 105 [.sl (l.map prV),.sl (m.map prV)] (.bool (decide (l=m))):=by
 refine zAg Tryz.f105 ?_
 refine zAd 1<|zAa<|zAf<|zAd 1<|S_a [(0,.n l.length)] (ap (lnS prV l) an)<|zAc 1<|S_a [(0,.n m.length)] (ap (lnS prV m) an)<|zAc 1<|zAa<|zDc ((↑l.length:Int)=(↑m.length:Int)) (fun k0=>(zAd 1<|zAa<|zAm<|E_a [] an (PV.bool false) [] ?_ rfl)) (fun k0=>(zAk<|zAf<|zAd 1<|S_a [(0,.n l.length)] (ap (lnS prV l) an)<|zAc 1<|zAa<|zAi 0 ?_))
 ·simp;intro h;subst h;simp at *
 refine zAq (fun i=>i≤l.length∧l.take i=m.take i) (fun i=>[(13,I (i:Nat))]) (fun i=>l.length-i) (0:Nat) (by simp) fun i ⟨hi,ha⟩=>?_
 refine zAd 1<|zAa<|zAf<|zCd ((↑i:Int)<(↑l.length:Int)) (fun k1=>(zAk<|zAf<|zAi 1<|zAd 2<|zAa<|zAd 2<|S_a [(2,.v (PV.agg [I (l.getD i default).fst,I (l.getD i default).snd]))] (ap (zBv default (by omega):(List.map prV l)[i]? = some (PV.agg [I (l.getD i default).fst,I (l.getD i default).snd])) an)<|zAc 3<|S_a [(2,.v (PV.agg [I (m.getD i default).fst,I (m.getD i default).snd]))] (ap (zBv default (by omega):(List.map prV m)[i]? = some (PV.agg [I (m.getD i default).fst,I (m.getD i default).snd])) an)<|zAc 1<|S_a [(0,.v (PV.bool !(decide ((l.getD i default).fst=(m.getD i default).fst)&&decide ((l.getD i default).snd=(m.getD i default).snd))))] (ap (zRz:zJV Tryz.prog BinOp.neq 37 (PV.agg [I (l.getD i default).fst,I (l.getD i default).snd]) (PV.agg [I (m.getD i default).fst,I (m.getD i default).snd])=some (PV.bool !(decide ((l.getD i default).fst=(m.getD i default).fst)&&decide ((l.getD i default).snd=(m.getD i default).snd)))) an)<|zAa<|zDt (!(decide ((l.getD i default).fst=(m.getD i default).fst)&&decide ((l.getD i default).snd=(m.getD i default).snd))) (fun k2=>(zAd 1<|zAa<|zAm<|E_a [] an (PV.bool false) [] ?_ rfl)) (fun k2=>(zAk<|zAe<|S_a [(1,.v (I (↑(i+1):Int)))] (ap (wrN i) an)<|zAc 1<|zAa ?_)))) (fun k1=>(zAA 0<|zAd 1<|zAa<|zAm<|E_a [] an (PV.bool true) [] ?_ rfl))
 ·simp;intro h;subst h;simp at *
 ·refine ⟨i+1,⟨by omega,?_⟩,by omega,by kernel_rfl,by kernel_rfl⟩
  exact zEI (d:=default) (by omega) (by omega) ha (by first | assumption | (simp only [Bool.not_eq_true,Bool.not_eq_false',Bool.and_eq_true,decide_eq_true_eq] at k2;exact Prod.ext k2.1 k2.2))
 ·rw [List.take_of_length_le (by omega),List.take_of_length_le (by omega)] at ha
  simp [ha]
theorem f34 (l m:List (Int×Int)) (hl:l.length<4294967296):FG 34 [.sl (l.map prV),.sl (m.map prV)] (.bool (decide (l=m))):=by
 refine zAg Tryz.f34 ?_
 refine zAd 1<|zAa<|zAd 2<|S_a [(8,.ret (PV.bool (decide (l=m))) [])] (ap (f105 l m (by omega)) an)<|zAc 1<|zAa<|zAm<|E_a [] an (PV.bool (decide (l=m))) [] rfl rfl
theorem f87 (l:List (Int×Int)) (hl:l.length<1000000):FG 87 [.sl (l.map prV)] (.own 2 (l.map prV)):=by
 refine zAg Tryz.f87 ?_
 refine zAd 1<|zAa<|zAd 1<|S_a [(0,.n l.length)] (ap (lnS prV l) an)<|S_a [(4,.ob),(0,.ob),(1,.v (PV.own 2 (List.map (fun x=>PV.agg [I 0,I 0]) (List.replicate l.length ()))))] (ap ((by exact zAp (by omega)):decide (l.length≤l.length)=true)<|ap ((by exact zAp (by simp [zA5]<;>omega)):decide (l.length≤zA5)=true)<|ap ((by simp):PV.own 2 (List.replicate l.length (PV.agg [I 0,I 0]))=PV.own 2 (List.map (fun x=>PV.agg [I 0,I 0]) (List.replicate l.length ()))) an)<|zAc 1<|zAa<|zAd 2<|zKI (fun q=>q) 3 2 (List.map (fun x=>PV.agg [I 0,I 0]) (List.replicate l.length ())) (List.map prV l) (List.map prV l) (zIv fun _ _=>(by first | exact zF3 | exact ⟨rfl,rfl,rfl,rfl,Nat.le_refl _,rfl⟩)) (by simp<;>omega) (zLb (by simp<;>omega)) zNr.nil (zAa<|zAd 1<|S_a [(2,.yes)] (ap ((by exact zBO (by simp<;>omega)):(Nat.beq 0 0&&(List.map prV l).length.beq (List.map prV l).length)=true) an)<|zAa<|zAm<|E_a [(1,.yes),(1,.v (PV.own 2 (List.map prV l)))] (ap (blz (List.map prV l))<|ap ((zA3 zAW):PV.own 2 (List.take (List.map prV l).length (List.drop 0 (List.map prV l)))=PV.own 2 (List.map prV l)) an) (PV.own 2 (List.map prV l)) [] rfl rfl)
theorem f20 (l:List (Int×Int)) (hl:l.length<1000000):FG 20 [.sl (l.map prV)] (.own 2 (l.map prV)):=by
 refine zAg Tryz.f20 ?_
 refine zAd 1<|zAa<|zAd 1<|S_a [(0,.n l.length)] (ap (lnS prV l) an)<|S_a [(4,.ob),(0,.ob),(1,.v (PV.own 2 (List.map (fun x=>PV.agg [I 0,I 0]) (List.replicate l.length ()))))] (ap ((by exact zAp (by omega)):decide (l.length≤l.length)=true)<|ap ((by exact zAp (by simp [zA5]<;>omega)):decide (l.length≤zA5)=true)<|ap ((by simp):PV.own 2 (List.replicate l.length (PV.agg [I 0,I 0]))=PV.own 2 (List.map (fun x=>PV.agg [I 0,I 0]) (List.replicate l.length ()))) an)<|zAc 1<|zAa<|zAd 2<|zKI (fun q=>q) 3 2 (List.map (fun x=>PV.agg [I 0,I 0]) (List.replicate l.length ())) (List.map prV l) (List.map prV l) (zIv fun _ _=>(by first | exact zF3 | exact ⟨rfl,rfl,rfl,rfl,Nat.le_refl _,rfl⟩)) (by simp<;>omega) (zLb (by simp<;>omega)) zNr.nil (zAa<|zAd 1<|S_a [(2,.yes)] (ap ((by exact zBO (by simp<;>omega)):(Nat.beq 0 0&&(List.map prV l).length.beq (List.map prV l).length)=true) an)<|zAa<|zAm<|E_a [(1,.yes),(1,.v (PV.own 2 (List.map prV l)))] (ap (blz (List.map prV l))<|ap ((zA3 zAW):PV.own 2 (List.take (List.map prV l).length (List.drop 0 (List.map prV l)))=PV.own 2 (List.map prV l)) an) (PV.own 2 (List.map prV l)) [] rfl rfl)
theorem f88 (l:List (Int×Bool)) (hl:l.length<1000000):FG 88 [.sl (l.map ntV)] (.own 2 (l.map ntV)):=by
 refine zAg Tryz.f88 ?_
 refine zAd 1<|zAa<|zAd 1<|S_a [(0,.n l.length)] (ap (lnS ntV l) an)<|S_a [(4,.ob),(0,.ob),(1,.v (PV.own 2 (List.map (fun x=>PV.agg [I 0,PV.bool false]) (List.replicate l.length ()))))] (ap ((by exact zAp (by omega)):decide (l.length≤l.length)=true)<|ap ((by exact zAp (by simp [zA5]<;>omega)):decide (l.length≤zA5)=true)<|ap ((by simp):PV.own 2 (List.replicate l.length (PV.agg [I 0,PV.bool false]))=PV.own 2 (List.map (fun x=>PV.agg [I 0,PV.bool false]) (List.replicate l.length ()))) an)<|zAc 1<|zAa<|zAd 2<|zKI (fun q=>q) 3 2 (List.map (fun x=>PV.agg [I 0,PV.bool false]) (List.replicate l.length ())) (List.map ntV l) (List.map ntV l) (zIv fun _ _=>(by first | exact zF3 | exact ⟨rfl,rfl,rfl,rfl,Nat.le_refl _,rfl⟩)) (by simp<;>omega) (zLb (by simp<;>omega)) zNr.nil (zAa<|zAd 1<|S_a [(2,.yes)] (ap ((by exact zBO (by simp<;>omega)):(Nat.beq 0 0&&(List.map ntV l).length.beq (List.map ntV l).length)=true) an)<|zAa<|zAm<|E_a [(1,.yes),(1,.v (PV.own 2 (List.map ntV l)))] (ap (blz (List.map ntV l))<|ap ((zA3 zAW):PV.own 2 (List.take (List.map ntV l).length (List.drop 0 (List.map ntV l)))=PV.own 2 (List.map ntV l)) an) (PV.own 2 (List.map ntV l)) [] rfl rfl)
theorem f35 (l:List (Int)) (hl:l.length<1000000):FG 35 [.sl (l.map I)] (.own 1 (l.map I)):=by
 refine zAg Tryz.f35 ?_
 refine zAd 1<|zAa<|zAd 1<|S_a [(0,.n l.length)] (ap (lnS I l) an)<|S_a [(4,.ob),(0,.ob),(1,.v (PV.own 1 (List.map I (List.replicate l.length 0))))] (ap ((by exact zAp (by omega)):decide (l.length≤l.length)=true)<|ap ((by exact zAp (by simp [zA5]<;>omega)):decide (l.length≤zA5)=true)<|ap ((by simp):PV.own 1 (List.replicate l.length (I 0))=PV.own 1 (List.map I (List.replicate l.length 0))) an)<|zAc 1<|zAa<|zAd 2<|zKI (fun q=>q) 3 1 (List.map I (List.replicate l.length 0)) (List.map I l) (List.map I l) (zIv fun _ _=>(by first | exact zF3 | exact ⟨rfl,rfl,rfl,rfl,Nat.le_refl _,rfl⟩)) (by simp<;>omega) (zLb (by simp<;>omega)) zNr.nil (zAa<|zAd 1<|S_a [(2,.yes)] (ap ((by exact zBO (by simp<;>omega)):(Nat.beq 0 0&&(List.map I l).length.beq (List.map I l).length)=true) an)<|zAa<|zAm<|E_a [(1,.yes),(1,.v (PV.own 1 (List.map I l)))] (ap (blz (List.map I l))<|ap ((zA3 zAW):PV.own 1 (List.take (List.map I l).length (List.drop 0 (List.map I l)))=PV.own 1 (List.map I l)) an) (PV.own 1 (List.map I l)) [] rfl rfl)
theorem f89 (l:List (List Int)) (hl:l.length<1000000) (hr:∀ r∈l,r.length<1000000):FG 89 [.sl (l.map zAB)] (.own 1 (l.map zBY)):=by
 refine zAg Tryz.f89 ?_
 refine zAd 1<|zAa<|zAd 1<|S_a [(0,.n l.length)] (ap (lnS zAB l) an)<|S_a [(4,.ob),(0,.ob),(1,.v (PV.own 1 (List.map (fun l=>PV.own 1 (List.map I l)) (List.replicate l.length []))))] (ap ((by exact zAp (by omega)):decide (l.length≤l.length)=true)<|ap ((by exact zAp (by simp [zA5]<;>omega)):decide (l.length≤zA5)=true)<|ap ((by simp):PV.own 1 (List.replicate l.length (PV.own 1 []))=PV.own 1 (List.map (fun l=>PV.own 1 (List.map I l)) (List.replicate l.length []))) an)<|zAc 1<|zAa<|zAf<|zAd 1<|S_a [(0,.n l.length)] (ap (lnS zAB l) an)<|zAc 1<|zAa<|zAi 0 ?_
 refine zAq (fun (i,q)=>i≤l.length∧q=l.take i++List.replicate (l.length-i) []) (fun (i,q)=>[(3,.own 1 (q.map zBY)),(11,I (i:Nat))]) (fun (i,_)=>l.length-i) ((0:Nat),List.replicate l.length []) ⟨Nat.zero_le _,by simp⟩ fun (i,q) ⟨hi,hq⟩=>?_
 have uf:q.length=l.length:=by rw [hq];simp;omega
 by_cases yH:i<l.length
 ·have gy:=zBB (d:=[]) hr i yH
  refine zAd 1<|zAa<|zAf<|zAI ((↑i:Int)<(↑l.length:Int)) (by omega)<|zAk<|zAf<|zAi 1<|zAd 1<|S_a [(2,.v (zAB (l.getD i [])))] (ap (zBv [] (by omega):(List.map zAB l)[i]? = some (zAB (l.getD i []))) an)<|zAc 3<|zAa<|zAe<|zAc 3<|S_a [(6,.ret (PV.own 1 (List.map I (l.getD i []))) [])] (ap (f35 (l.getD i []) (by omega)) an)<|S_a [(2,.ob),(1,.n i)] (ap ((by exact zAp (by simp only [List.length_map,zzLn]<;>omega)):decide (i<(List.map zBY q).length)=true)<|ap ((by simp):some (0+i)=some i) an)<|S_a [(8,.root (PV.own 1 (List.map zBY (q.set i (l.getD i [])))) true)] (ap (zPn (zBv [] (by omega)) zFV:zBx (PV.own 1 (List.map zBY q)) [] i 0 (PV.own 1 (List.map I (l.getD i []))).cells=some (PV.own 1 (List.map zBY (q.set i (l.getD i []))))∧zAF (PV.own 1 (List.map zBY q)) (PV.own 1 (List.map zBY (q.set i (l.getD i [])))) []=true) an)<|zAa<|zAe<|S_a [(1,.v (I (↑(i+1):Int)))] (ap (wrN i) an)<|zAc 1<|zAa ?_
  refine ⟨(i+1,q.set i (l.getD i [])),⟨by omega,?_⟩,by simp only;omega,by kernel_rfl,by kernel_rfl⟩
  rw [hq,zB9 (d:=[]) yH,zVt yH]
 ·refine zAd 1<|zAa<|zAf<|zAQ ((↑i:Int)<(↑l.length:Int)) (by omega)<|zAA 0<|zAd 1<|S_a [(2,.yes)] (ap ((by exact zBO (by simp<;>omega)):(Nat.beq 0 0&&(List.map zBY q).length.beq (List.map zBY q).length)=true) an)<|zAa<|zAm<|E_a [(1,.yes),(1,.v (PV.own 1 (List.map zBY q)))] (ap (blz (List.map zBY q))<|ap ((zA3 zAW):PV.own 1 (List.take (List.map zBY q).length (List.drop 0 (List.map zBY q)))=PV.own 1 (List.map zBY q)) an) (PV.own 1 (List.map zBY q)) [] ?_ rfl
  rw [hq,show l.length-i=0 by omega,List.take_of_length_le (by omega)];simp
theorem f136 (l:List (Int)) (x:Int) (hl:l.length<4294967296):FG 136 [.sl (l.map I),I x] (I (zEO (fun y=>decide (x=y)) l)):=by
 refine zAg Tryz.f136 ?_
 refine zAd 1<|zAa<|zAf<|zAd 1<|S_a [(0,.n l.length)] (ap (lnS I l) an)<|zAc 1<|zAa<|zAi 0 ?_
 refine zAq (fun i=>i≤l.length∧∀ j,j<i→decide (x=l.getD j 0)=false) (fun i=>[(8,I (i:Nat))]) (fun i=>l.length-i) (0:Nat) (by simp) fun i ⟨hi,ha⟩=>?_
 refine zAd 1<|zAa<|zAf<|zCd ((↑i:Int)<(↑l.length:Int)) (fun k0=>(zAk<|zAf<|zAi 1<|zAd 2<|zAa<|zAd 3<|S_a [(2,.v (I (l.getD i 0)))] (ap (zBv (0) (by omega):(List.map I l)[i]? = some (I (l.getD i 0))) an)<|zAc 2<|zAa<|zCd (x=l.getD i 0) (fun k1=>(zAd 2<|zAa<|zAm<|E_a [] an (I (↑i:Int)) [] ?_ rfl)) (fun k1=>(zAk<|zAe<|S_a [(1,.v (I (↑(i+1):Int)))] (ap (wrN i) an)<|zAc 1<|zAa ?_)))) (fun k0=>(zAA 0<|zAd 1<|zAa<|zAm<|E_a [] an (I (-1)) [] ?_ rfl))
 ·rw [zB0 (i:=i) (by omega) (fun j hj=>by rw [← zAt (d:=0)];exact ha j hj) (by rw [← zAt (d:=0)];simp only [decide_eq_true_eq,decide_eq_false_iff_not] at *;omega)]
 ·refine ⟨i+1,⟨by omega,fun j hj=>?_⟩,by omega,by kernel_rfl,by kernel_rfl⟩
  rcases Nat.lt_succ_iff_lt_or_eq.1 hj with h | rfl
  ·exact ha j h
  ·simp only [decide_eq_true_eq,decide_eq_false_iff_not] at *;omega
 ·rw [zCl fun j hj=>by rw [← zAt (d:=0)];exact ha j (by omega)]
theorem f58 (l:List (Int)) (x:Int) (hl:l.length<4294967296):FG 58 [.sl (l.map I),I x] (.bool (has l x)):=by
 refine zAg Tryz.f58 ?_
 refine zAd 1<|zAa<|zAd 2<|S_a [(8,.ret (I (zEO (fun y=>decide (x=y)) l)) [])] (ap (f136 l x (by omega)) an)<|zAc 2<|zAa<|zAm<|E_a [] an (PV.bool (decide (zEO (fun y=>decide (x=y)) l≥0))) [] ?_ rfl
 rw [zEf];rfl
theorem f65 (l:List (Int)) (hl:l.length<4294967296):FG 65 [.sl (l.map I)] (.own 1 (l.map I)):=zGB (fn:=Tryz.f65) I l (by omega)
theorem f123 (l:List (Int×Int)) (hl:l.length<4294967296):FG 123 [.sl (l.map prV)] (.own 2 (l.map prV)):=zGB (fn:=Tryz.f123) prV l (by omega)
theorem f61 (l:List (Int×Int)) (hl:l.length<4294967296):FG 61 [.sl (l.map prV)] (.own 2 (l.map prV)):=zGB (fn:=Tryz.f61) prV l (by omega)
theorem f210 (x:Int):FG 210 [I x] (.bool false):=by
 refine zAg Tryz.f210 ?_
 refine zAd 1<|zAa<|zAd 4<|zAa<|zAm<|E_a [] an (PV.bool (x != x)) [] (by simp [*]) rfl
theorem f182 (x y:Int):FG 182 [I x,I y] (.bool (decide (x<y))):=by
 refine zAg Tryz.f182 ?_
 refine zAd 1<|zAa<|zAd 1<|S_a [(6,.ret (PV.bool false) [])] (ap (f210 x) an)<|zAc 11<|zAa<|zAm<|E_a [] an (PV.bool (decide (x<y))) [] rfl rfl
end
end Go.Eng
set_option maxRecDepth 10000
set_option maxHeartbeats 4000000
namespace Go.Eng
open Go Go.Proofs
def zUU (o:List Int) (x:Int):List Int:=if o.getLast? = some x then o else o++[x]
def zGK (l:List Int):List Int:=l.foldl zUU []
theorem zRr (o:List Int) (x:Int):(zUU o x).getLast? = some x:=by
 unfold zUU;split
 ·assumption
 ·simp
theorem zHe {l:List Int} {i:Nat} (h:i<l.length):zGK (l.take (i+1))=zUU (zGK (l.take i)) (l.getD i 0):=zGA h
theorem zSd {l:List Int} {i:Nat} (h:i<l.length):(zGK (l.take (i+1))).getLast? = some (l.getD i 0):=by
 rw [zHe h];exact zRr _ _
theorem zGL {l:List Int} {i:Nat} (h0:0<i) (h:i<l.length):zGK (l.take (i+1))=if l.getD i 0=l.getD (i-1) 0 then zGK (l.take i) else zGK (l.take i)++[l.getD i 0]:=by
 obtain ⟨j,rfl⟩:∃ j,i=j+1:=⟨i-1,by omega⟩
 rw [zHe h,zUU,zSd (by omega)]
 simp only [Nat.add_sub_cancel,Option.some.injEq,eq_comm]
theorem zK1 {S:List Int} {p:Nat} {x:Int} (h:p<S.length):(S.set p x).take (p+1)=S.take p++[x]:=by
 rw [zB9 (d:=0) (by simpa using h),List.take_set_of_le (Nat.le_refl p),zDF,if_pos ⟨rfl,h⟩]
theorem zGQ {l:List Int}:∀ k,k≤l.length→(∀ j,1≤j→j<k→l.getD j 0≠l.getD (j-1) 0)→zGK (l.take k)=l.take k
 | 0,_,_=>rfl
 | k+1,hk,h=>by
  have ih:=zGQ k (by omega) fun j h1 h2=>h j h1 (by omega)
  cases k with
  | zero=>rw [zHe (by omega)];simp [zGK,zUU,zB9 (d:=0) (show 0<l.length by omega)]
  | succ k=>rw [zGL (by omega) (by omega),if_neg (h (k+1) (by omega) (by omega)),ih,← zB9 (by omega)]
def zTC (l:List Int):Bool:=(List.range (l.length-1)).all fun j=>decide (l.getD j 0<l.getD (j+1) 0)
def zFE (l:List Int):Bool:=(List.range (l.length-1)).all fun j=>decide (l.getD j 0≤l.getD (j+1) 0)
section
variable [Yo]
theorem f138 (l m:List (List Int)) (hl:l.length<4294967296) (hr:∀ r∈l,r.length<4294967296):FG 138 [.sl (l.map zAB),.sl (m.map zAB),.func 98 [] []] (.bool (decide (l=m))):=by
 refine zAg Tryz.f138 ?_
 refine zAd 1<|zAa<|zAf<|zAd 1<|S_a [(0,.n l.length)] (ap (lnS zAB l) an)<|zAc 1<|S_a [(0,.n m.length)] (ap (lnS zAB m) an)<|zAc 1<|zAa<|zDc ((↑l.length:Int)=(↑m.length:Int)) (fun k0=>(zAd 1<|zAa<|zAm<|E_a [] an (PV.bool false) [] ?_ rfl)) (fun k0=>(zAk<|zAf<|zAd 1<|S_a [(0,.n l.length)] (ap (lnS zAB l) an)<|zAc 1<|zAa<|zAi 0 ?_))
 ·simp;intro h;subst h;simp at *
 refine zAq (fun i=>i≤l.length∧l.take i=m.take i) (fun i=>[(17,I (i:Nat))]) (fun i=>l.length-i) (0:Nat) (by simp) fun i ⟨hi,ha⟩=>?_
 by_cases yH:i<l.length
 ·have gy:=zBB (d:=[]) hr i yH
  refine zAd 1<|zAa<|zAf<|zAI ((↑i:Int)<(↑l.length:Int)) (by omega)<|zAk<|zAf<|zAi 1<|zAd 1<|S_a [(2,.v (zAB (l.getD i [])))] (ap (zBv [] (by omega):(List.map zAB l)[i]? = some (zAB (l.getD i []))) an)<|zAc 3<|zAa<|zAd 2<|S_a [(2,.v (zAB (m.getD i [])))] (ap (zBv [] (by omega):(List.map zAB m)[i]? = some (zAB (m.getD i []))) an)<|zAc 2<|zAa<|zAd 3<|S_a [(8,.ret (PV.bool (decide (l.getD i []=m.getD i []))) [])] (ap (f98 (l.getD i []) (m.getD i []) (by omega)) an)<|zAc 1<|zAa<|zDc (l.getD i []=m.getD i []) (fun k1=>(zAd 1<|zAa<|zAm<|E_a [] an (PV.bool false) [] ?_ rfl)) (fun k1=>(zAk<|zAe<|S_a [(1,.v (I (↑(i+1):Int)))] (ap (wrN i) an)<|zAc 1<|zAa ?_))
  ·simp;intro h;subst h;simp at *
  ·refine ⟨i+1,⟨by omega,?_⟩,by omega,by kernel_rfl,by kernel_rfl⟩
   exact zEI (d:=[]) (by omega) (by omega) ha (by assumption)
 ·refine zAd 1<|zAa<|zAf<|zAQ ((↑i:Int)<(↑l.length:Int)) (by omega)<|zAA 0<|zAd 1<|zAa<|zAm<|E_a [] an (PV.bool true) [] ?_ rfl
  rw [List.take_of_length_le (by omega),List.take_of_length_le (by omega)] at ha
  simp [ha]
theorem f62 (l m:List (List Int)) (hl:l.length<4294967296) (hr:∀ r∈l,r.length<4294967296):FG 62 [.sl (l.map zAB),.sl (m.map zAB)] (.bool (decide (l=m))):=by
 refine zAg Tryz.f62 ?_
 refine zAd 1<|zAa<|zAd 2<|S_a [(9,.ret (PV.bool (decide (l=m))) [])] (ap (f138 l m (by omega) (by omega)) an)<|zAc 1<|zAa<|zAm<|E_a [] an (PV.bool (decide (l=m))) [] rfl rfl
theorem f155 (l:List Int) (hl:l.length<4294967296):FG 155 [zAB l] (.bool (zFE l)):=by
 refine zAg Tryz.f155 ?_
 refine zAd 1<|zAa<|zAf<|zAd 1<|S_a [(0,.n l.length)] (ap (lnS I l) an)<|S_a [(1,.v (I ((↑l.length:Int)-1)))] (ap ((zCj rfl (by omega)):I (IntKind.i64.wrap ((↑l.length:Int)-1))=I ((↑l.length:Int)-1)) an)<|zAc 1<|zAa<|zAi 0 ?_
 refine zAq (fun (x:Int)=>x<l.length∧∀ j:Nat,x<j→j<l.length→0<j→l.getD (j-1) 0≤l.getD j 0) (fun x=>[(3,I x)]) (fun x=>x.toNat) ((l.length:Int)-1) ⟨by omega,fun j h1 h2=>by omega⟩ fun x ⟨hi,ha⟩=>?_
 have e2:(x-1).toNat=x.toNat-1:=by omega
 by_cases h1:0<x
 ·refine zAf<|zAd 2<|zAa<|zAI (x>0) (by omega)<|zAk<|zAf<|zAi 1<|zAd 2<|S_a [(0,.ob),(1,.v (I (l.getD x.toNat 0)))] (ap ((by exact zAp (by omega)):decide (0≤x)=true)<|ap (zBv (0) (by omega):(List.map I l)[x.toNat]? = some (I (l.getD x.toNat 0))) an)<|zAc 3<|S_a [(1,.v (I (x-1)))] (ap ((zCj rfl (by omega)):I (IntKind.i64.wrap (x-1))=I (x-1)) an)<|S_a [(0,.ob),(1,.v (I (l.getD (x-1).toNat 0)))] (ap ((by exact zAp (by omega)):decide (0≤x-1)=true)<|ap (zBv (0) (by omega):(List.map I l)[(x-1).toNat]? = some (I (l.getD (x-1).toNat 0))) an)<|zAc 1<|S_a [(8,.ret (PV.bool (decide (l.getD x.toNat 0<l.getD (x-1).toNat 0))) [])] (ap (f182 (l.getD x.toNat 0) (l.getD (x-1).toNat 0)) an)<|zAa<|zCd (l.getD x.toNat 0<l.getD (x-1).toNat 0) (fun k0=>(zAd 1<|zAa<|zAm<|E_a [] an (PV.bool false) [] ?_ rfl)) (fun k0=>(zAk<|zAe<|zAc 1<|S_a [(1,.v (I (x-1)))] (ap ((zCj rfl (by omega)):I (IntKind.i64.wrap (x-1))=I (x-1)) an)<|zAc 1<|zAa ?_))
  ·rw [e2] at k0
   have:zFE l=false:=by
    simp only [zFE,List.all_eq_false]
    exact ⟨x.toNat-1,List.mem_range.2 (by omega),by rw [show x.toNat-1+1=x.toNat by omega];simp only [decide_eq_true_eq];omega⟩
   rw [this]
  ·rw [e2] at k0
   refine ⟨x-1,⟨by omega,fun j h3 h4 h5=>?_⟩,by omega,by kernel_rfl,by kernel_rfl⟩
   by_cases hj:j=x.toNat
   ·subst hj;omega
   ·exact ha j (by omega) h4 h5
 ·refine zAf<|zAd 2<|zAa<|zAQ (x>0) (by omega)<|zAA 0<|zAd 1<|zAa<|zAm<|E_a [] an (PV.bool true) [] ?_ rfl
  have:zFE l=true:=by
   simp only [zFE,List.all_eq_true,List.mem_range,decide_eq_true_eq]
   exact fun j hj=>by have:=ha (j+1) (by omega) (by omega) (by omega);simpa using this
  rw [this]
theorem f97 (l:List Int) (hl:l.length<4294967296):FG 97 [.own 1 (l.map I)] (.own 1 ((zGK l).map I)):=by
 refine zAg Tryz.f97 ?_
 refine zAd 1<|zAa<|zAf<|zAd 1<|S_a [(0,.n l.length)] (ap (lnS I l) an)<|zAc 1<|zAa<|zCd ((↑l.length:Int)<2) (fun k0=>(zAd 1<|S_a [(2,.yes)] (ap ((by exact zBO (by simp<;>omega)):(Nat.beq 0 0&&(List.map I l).length.beq (List.map I l).length)=true) an)<|zAa<|zAm<|E_a [(1,.yes),(1,.v (PV.own 1 (List.map I l)))] (ap (blz (List.map I l))<|ap ((zA3 zAW):PV.own 1 (List.take (List.map I l).length (List.drop 0 (List.map I l)))=PV.own 1 (List.map I l)) an) (PV.own 1 (List.map I l)) [] ?_ rfl)) (fun k0=>(zAk<|zAf<|zAd 1<|zAa<|zAi 0 ?_))
 ·have:=zGQ (l:=l) l.length (Nat.le_refl _) fun j h1 h2=>by omega
  rw [List.take_length] at this
  rw [this]
 ·refine zAq (fun k=>1≤k∧k≤l.length∧∀ j,1≤j→j<k→l.getD j 0≠l.getD (j-1) 0) (fun k=>[(3,I (k:Nat))]) (fun k=>l.length-k) (1:Nat) ⟨by omega,by omega,fun j h1 h2=>absurd h1 (by omega)⟩ fun k ⟨jM,hk,ha⟩=>?_
  have jp:=zGQ k hk ha
  refine zAf<|zAd 2<|S_a [(0,.n l.length)] (ap (lnS I l) an)<|zAc 1<|zAa<|zCd ((↑k:Int)<(↑l.length:Int)) (fun k2=>(zAk<|zAf<|zAi 1<|zAd 2<|S_a [(2,.ob),(1,.n k)] (ap ((by exact zAp (by simp only [List.length_map,zzLn]<;>omega)):decide (k<(List.map I l).length)=true)<|ap ((by simp):some (0+k)=some k) an)<|S_a [(0,.cs false ([I (l.getD k 0)]))] (ap (zC9 (q:=PV.own 1 (List.map I l)) (xs:=List.map I l) (x:=I (l.getD k 0)) rfl (zBv (0) (by omega)):zAs 0 (PV.own 1 (List.map I l)) [] k 0 1=some (false,[I (l.getD k 0)])) an)<|zAc 2<|S_a [(1,.v (I (↑(k-1):Int)))] (ap ((zCj (by omega) (by omega)):I (IntKind.i64.wrap ((↑k:Int)-1))=I (↑(k-1):Int)) an)<|S_a [(2,.ob),(1,.n (k-1))] (ap ((by exact zAp (by simp only [List.length_map,zzLn]<;>omega)):decide (k-1<(List.map I l).length)=true)<|ap ((by simp):some (0+(k-1))=some (k-1)) an)<|S_a [(0,.cs false ([I (l.getD (k-1) 0)]))] (ap (zC9 (q:=PV.own 1 (List.map I l)) (xs:=List.map I l) (x:=I (l.getD (k-1) 0)) rfl (zBv (0) (by omega)):zAs 0 (PV.own 1 (List.map I l)) [] (k-1) 0 1=some (false,[I (l.getD (k-1) 0)])) an)<|zAc 1<|zAa<|zCd (l.getD k 0=l.getD (k-1) 0) (fun k3=>(zAd 2<|S_a [(3,.ob),(0,.yes),(0,.yes),(0,.v (PV.bor 0 [] 1 k (l.length-k)))] (ap ((by exact zBz (by simp only [List.length_map,zzLn,zA5]<;>omega)):k.ble (List.map I l).length=true)<|ap ((by exact zBz (by simp only [List.length_map,zzLn,zA5]<;>omega)):(List.map I l).length.ble (List.map I l).length=true)<|ap ((by simp<;>omega):(k.beq 0||k.blt (List.map I l).length)=true)<|ap ((by simp):PV.bor 0 [] 1 (0+k) ((List.map I l).length-k)=PV.bor 0 [] 1 k (l.length-k)) an)<|zAc 1<|zAa<|zAf<|zAd 1<|zAa<|zAi 2 ?_)) (fun k3=>(zAk<|zAe<|zAc 1<|S_a [(1,.v (I (↑(k+1):Int)))] (ap (wrN k) an)<|zAc 1<|zAa ?_)))) (fun k2=>(zAA 0<|zAd 1<|S_a [(2,.yes)] (ap ((by exact zBO (by simp<;>omega)):(Nat.beq 0 0&&(List.map I l).length.beq (List.map I l).length)=true) an)<|zAa<|zAm<|E_a [(1,.yes),(1,.v (PV.own 1 (List.map I l)))] (ap (blz (List.map I l))<|ap ((zA3 zAW):PV.own 1 (List.take (List.map I l).length (List.drop 0 (List.map I l)))=PV.own 1 (List.map I l)) an) (PV.own 1 (List.map I l)) [] ?_ rfl))
  ·have e0:zGK (l.take (k+1))=l.take k:=by rw [zGL (by omega) (by omega),if_pos k3,jp]
   clear ha jp
   refine zAq (fun (p,q,S)=>1≤q∧k+q≤l.length∧p<k+q∧S.length=l.length∧S.take p=zGK (l.take (k+q))∧∀ j,k+q≤j+1→S.getD j 0=l.getD j 0) (fun (p,q,S)=>[(0,.own 1 (S.map I)),(3,I (p:Nat)),(5,I (q:Nat))]) (fun (p,q,S)=>l.length-(k+q)) (k,(1:Nat),l) ⟨by omega,by omega,by omega,rfl,e0.symm,fun _ _=>rfl⟩ fun (p,q,S) ⟨hq,hkq,hp,hS,hc,hd⟩=>?_
   have uz:(zGK (l.take (k+q))).length=p:=by rw [← hc,List.length_take];omega
   by_cases kf:k+q<l.length
   ·have hx:=hd (k+q) (by omega)
    have hy:=hd (k+q-1) (by omega)
    have yK:=zGL (l:=l) (i:=k+q) (by omega) kf
    have gN:=hd
    clear hd
    refine zAf<|zAd 4<|zAa<|zAI ((↑q:Int)<(↑(l.length-k):Int)) (by omega)<|zAk<|zAf<|zAi 3<|zAd 2<|S_a [(2,.ob)] (ap ((by exact zAp (by omega)):decide (q<l.length-k)=true) an)<|S_a [(0,.cs false ([I (S.getD (k+q) 0)]))] (ap (zC9 (q:=PV.own 1 (List.map I S)) (xs:=List.map I S) (x:=I (S.getD (k+q) 0)) rfl (zBv (0) (by omega)):zAs 0 (PV.own 1 (List.map I S)) [] (k+(↑q:Int).toNat) 0 1=some (false,[I (S.getD (k+q) 0)])) an)<|zAc 2<|S_a [(1,.v (I (↑(q-1):Int)))] (ap ((zCj (by omega) (by omega)):I (IntKind.i64.wrap ((↑q:Int)-1))=I (↑(q-1):Int)) an)<|S_a [(2,.ob)] (ap ((by exact zAp (by omega)):decide (q-1<l.length-k)=true) an)<|S_a [(0,.cs false ([I (S.getD (k+(q-1)) 0)]))] (ap (zC9 (q:=PV.own 1 (List.map I S)) (xs:=List.map I S) (x:=I (S.getD (k+(q-1)) 0)) rfl (zBv (0) (by omega)):zAs 0 (PV.own 1 (List.map I S)) [] (k+(↑(q-1):Int).toNat) 0 1=some (false,[I (S.getD (k+(q-1)) 0)])) an)<|zAc 1<|zAa<|zDc (S.getD (k+q) 0=S.getD (k+(q-1)) 0) (fun k4=>(zAd 4<|S_a [(2,.ob)] (ap ((by exact zAp (by omega)):decide (q<l.length-k)=true) an)<|S_a [(0,.cs false ([I (S.getD (k+q) 0)]))] (ap (zC9 (q:=PV.own 1 (List.map I S)) (xs:=List.map I S) (x:=I (S.getD (k+q) 0)) rfl (zBv (0) (by omega)):zAs 0 (PV.own 1 (List.map I S)) [] (k+(↑q:Int).toNat) 0 1=some (false,[I (S.getD (k+q) 0)])) an)<|S_a [(2,.ob),(1,.n p)] (ap ((by exact zAp (by simp only [List.length_map,zzLn]<;>omega)):decide (p<(List.map I S).length)=true)<|ap ((by simp):some (0+p)=some p) an)<|S_a [(8,.root (PV.own 1 (List.map I (S.set p (S.getD (k+q) 0)))) true)] (ap (zPn (zBv (0) (by omega)) zFV:zBx (PV.own 1 (List.map I S)) [] p 0 (I (S.getD (k+q) 0)).cells=some (PV.own 1 (List.map I (S.set p (S.getD (k+q) 0))))∧zAF (PV.own 1 (List.map I S)) (PV.own 1 (List.map I (S.set p (S.getD (k+q) 0)))) []=true) an)<|zAa<|zAe<|zAc 1<|S_a [(1,.v (I (↑(p+1):Int)))] (ap (wrN p) an)<|zAc 1<|zAa<|zAe<|zAc 1<|S_a [(1,.v (I (↑(q+1):Int)))] (ap (wrN q) an)<|zAc 1<|zAa ?_)) (fun k4=>(zAk<|zAe<|zAc 1<|S_a [(1,.v (I (↑(q+1):Int)))] (ap (wrN q) an)<|zAc 1<|zAa ?_))
    ·rw [show k+(q-1)=k+q-1 by omega,hx,hy] at k4
     rw [if_neg k4] at yK
     refine ⟨(p+1,q+1,S.set p (S.getD (k+q) 0)),⟨by omega,by omega,by omega,by simpa using hS,?_,fun j hj=>?_⟩,by simp only;omega,by kernel_rfl,by kernel_rfl⟩
     ·rw [← Nat.add_assoc,yK,← hc,hx,zK1 (by omega)]
     ·rw [zDF,if_neg (by omega)];exact gN j (by omega)
    ·rw [show k+(q-1)=k+q-1 by omega,hx,hy] at k4
     rw [if_pos k4] at yK
     exact ⟨(p,q+1,S),⟨by omega,by omega,by omega,hS,by rw [← Nat.add_assoc,yK,hc],fun j hj=>gN j (by omega)⟩,by simp only;omega,by kernel_rfl,by kernel_rfl⟩
   ·refine zAf<|zAd 4<|zAa<|zAQ ((↑q:Int)<(↑(l.length-k):Int)) (by omega)<|zAA 2<|zAd 2<|S_a [(3,.ob),(0,.yes),(0,.yes),(0,.v (PV.bor 0 [] 1 p (S.length-p)))] (ap ((by exact zBz (by simp only [List.length_map,zzLn,zA5]<;>omega)):p.ble (List.map I S).length=true)<|ap ((by exact zBz (by simp only [List.length_map,zzLn,zA5]<;>omega)):(List.map I S).length.ble (List.map I S).length=true)<|ap ((by simp<;>omega):(p.beq 0||p.blt (List.map I S).length)=true)<|ap ((by simp):PV.bor 0 [] 1 (0+p) ((List.map I S).length-p)=PV.bor 0 [] 1 p (S.length-p)) an)<|zQe (g:=I) (fun q=>q) 0 1 p (S.length-p) S (0) (by first | omega | (simp<;>omega)) ⟨rfl,rfl⟩ (fun _=>(by first | exact zF3 | exact ⟨rfl,rfl,rfl,rfl,Nat.le_refl _,rfl⟩)) zNr.nil (zAa<|zAd 2<|S_a [(4,.yes)] (ap ((by exact zBz (by simp<;>omega)):p.ble (List.map I (List.take p S++List.replicate (S.length-p) 0++List.drop (p+(S.length-p)) S)).length=true) an)<|zAc 1<|zAa<|zAm<|E_a [(1,.yes),(1,.v (PV.own 1 (List.map I (List.take p (List.take p S++List.replicate (S.length-p) 0++List.drop (p+(S.length-p)) S)))))] (ap ((by exact zBz (by simp<;>omega)):(0+((↑p:Int).toNat-0)).ble (List.map I (List.take p S++List.replicate (S.length-p) 0++List.drop (p+(S.length-p)) S)).length=true)<|ap ((by simp):PV.own 1 (List.take p (List.drop 0 (List.map I (List.take p S++List.replicate (S.length-p) 0++List.drop (p+(S.length-p)) S))))=PV.own 1 (List.map I (List.take p (List.take p S++List.replicate (S.length-p) 0++List.drop (p+(S.length-p)) S)))) an) (PV.own 1 (List.map I (List.take p (List.take p S++List.replicate (S.length-p) 0++List.drop (p+(S.length-p)) S)))) [] ?_ rfl)
    rw [show k+q=l.length by omega,List.take_length] at hc
    rw [← hc,List.append_assoc,List.take_append_of_le_length (by rw [List.length_take];omega),List.take_take,Nat.min_self]
  ·refine ⟨k+1,⟨by omega,by omega,fun j h1 h2=>?_⟩,by omega,by kernel_rfl,by kernel_rfl⟩
   by_cases hj:j=k
   ·subst hj;assumption
   ·exact ha j h1 (by omega)
  ·rw [show k=l.length by omega,List.take_length] at jp
   rw [jp]
end
end Go.Eng
