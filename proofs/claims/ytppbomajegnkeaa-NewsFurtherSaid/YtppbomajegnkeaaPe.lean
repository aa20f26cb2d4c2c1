/- For whatever bytes, the law NewsFurther returns true and changes no argument: with a zEP cry of the last notice of a chain no j9 is left that was not, and the gaps that any cry mends are those that are there no more with it. -/
import Derived.Test.YtppbomajegnkeaaPd
import Derived.ProofKit
import Derived.ChangeArms
import Derived.Test.YtppbomajegnkeaaProg
import Derived.Test.YtppbomajegnkeaaPa
import Derived.Test.YtppbomajegnkeaaRows
set_option linter.unusedVariables false
set_option linter.unusedSimpArgs false
set_option linter.unusedSectionVars false
namespace Go.Eng
open Go Go.ChangeShapes Go.WideShapes Go.ChangeAt Go.RowKit
section
variable {H:Type} {enc:TypeId×Value→H} {P:Program}
theorem zM2 {f:Func} {s:ChangeSpec} {apart fresh jP again:Bool} {W W':World} {args:Array Value} {v:Value} {ds gs:List (DataW H)} {before pa pv:List MemPlace}
  (hW:DataW.Whole enc P f.params.toList s.vars apart W args.toList ds gs before)
  (y6:∀ (b:Nat) (sp:Nat→Bool) (hd:Bool),DataW.TrodAll enc P W' b sp hd f.resultTypes.toList (v.resultList f.resultTypes.size) (s.fn H (ds++gs)).results [])
  (yK:∀ sp:Nat→Bool,(∀ p∈before,sp p.block=true)→DataW.TrodAll enc P W' 0 sp true f.params.toList args.toList (s.fn H (ds++gs)).args pa)
  (ji:∀ sp:Nat→Bool,(∀ p∈before,sp p.block=true)→DataW.TrodVars enc P W' sp s.vars (s.fn H (ds++gs)).vars pv)
  (y9:before=pa++pv) (hold':∀ b,b<W.heap.size→W'.heap[b]? = W.heap[b]?) (hk:W.keptBut W' (· ∈ before))
  (yH:∀ (j:Nat) (t:TypeId) (r:Value),f.resultTypes[j]? = some t→(v.resultList f.resultTypes.size)[j]? = some r→Value.okWide P W' .any 0 t r) :
  s.post enc P f apart fresh jP again W args v W':=by
 have yJ:=hW.lt
 have hold:∀ p∈before,(fun b=>decide (b<W.heap.size)) p.block=true:=fun p hp=>by simpa using yJ p hp
 refine ⟨ds,gs,before,[],pa,pv,hW,y6 _ _ _,yK _ hold,ji _ hold,World.keptBut_mono (fun p hp=>⟨hp,?_⟩) hk,fun _=>?_⟩
 ·rw [y9,List.mem_append] at hp
  exact Or.inr hp
 ·obtain ⟨_,_,_,_,_,hz,hn⟩:=hW
  refine ⟨yH,_,_,([]++pa)++pv,⟨[]++pa,pv,trodAll_append (yK _ (fun _ _=>rfl)) (y6 _ _ _),ji _ (fun _ _=>rfl),rfl,?_,?_⟩,?_⟩
  ·intro b off hp
   have jd:MemPlace.cell b off∈before:=by rw [y9];simpa using hp
   have h1:=hz b off jd
   have h2:=yJ _ jd
   unfold World.frozen? at h1 ⊢
   rw [hold' b h2];exact h1
  ·intro ha
   have:=hn ha
   rw [y9] at this
   simpa using this
  ·intro p hp _
   rw [y9]
   simpa using hp
theorem zHc {W W':World} {sp':Nat→Bool} (hl:laidOutB P=true) (hb:Below W.heap.size W W'):∀ {ts:List TypeId} {vs:List Value} {ds:List (DataW H)} {ps:List MemPlace},(∀ t∈ts,P.readableRec t=true∧t<P.types.size)→DataW.TrodAll enc P W 0 (fun _=>true) true ts vs ds ps→(∀ x∈ps,x.block<W.heap.size)→(∀ x∈ps,sp' x.block=true) →
  DataW.TrodAll enc P W' 0 sp' true ts vs ds ps
 | [],vs,ds,ps,_,h,_,_=>by
  obtain ⟨rfl,rfl,rfl⟩:=trodAll_nil h
  exact trodAll_mk0
 | t::ts,vs,ds,ps,ht,h,yJ,hs=>by
  obtain ⟨v,vs',d,ds',p,q,rfl,rfl,rfl,h1,h2⟩:=trodAll_cons h
  exact ⟨p,q,WideElems.Trod_stays hl (ht t (by simp)).1 (ht t (by simp)).2 h1 (fun x hx=>hb.same (yJ x (by simp [hx]))) (fun x hx=>hs x (by simp [hx])),zHc hl hb (fun t h=>ht t (by simp [h])) h2 (fun x hx=>yJ x (by simp [hx])) (fun x hx=>hs x (by simp [hx])),rfl⟩
theorem zTi {f:Func} {s:ChangeSpec} {apart fresh jP again:Bool} {W W':World} {args:Array Value} {ds:List (DataW H)} {before:List MemPlace} {tb:TypeId} (hl:laidOutB P=true) (ji:s.vars=[]) (htb:P.underlying tb=some .bool) (wQ:f.resultTypes=#[tb]) (uj:∀ t∈f.params.toList,P.readableRec t=true∧t<P.types.size)
  (uJ:s.fn H ds={results:=[.lit (.bool true)],args:=ds}) (hW:DataW.Whole enc P f.params.toList s.vars apart W args.toList ds [] before)
  (h1:W.heap.size≤W'.heap.size) (h2:∀ b,b<W.heap.size→W'.heap[b]? = W.heap[b]?) (h3:W'.os=W.os) (h4:W'.tape=W.tape) (h5:W'.output=W.output):s.post enc P f apart fresh jP again W args (.bool true) W':=by
 have yJ:=hW.lt
 have hb:Below W.heap.size W W':=⟨h3,h4,h5,h1,h2⟩
 obtain ⟨pa,pv,hA,hV,y9,hz,hn⟩:=id hW
 have hpv:pv=[]:=by
  rw [ji] at hV
  exact (trodVars_none hV).2
 subst hpv
 have hrl:(Value.bool true).resultList f.resultTypes.size=[.bool true]:=by rw [wQ];rfl
 have gV:s.fn H (ds++[])={results:=[.lit (.bool true)],args:=ds}:=by rw [List.append_nil];exact uJ
 have w7:∀ x∈pa,x.block<W.heap.size:=fun x hx=>yJ x (by rw [y9];simp [hx])
 refine zM2 (pa:=pa) (pv:=[]) hW (fun b sp hd=>?_) (fun sp y1=>?_) (fun sp y1=>?_) y9 h2 ?_ ?_
 ·rw [hrl,wQ,gV];exact trodAll_mk1 (shut_bool htb true)
 ·rw [gV];exact zHc hl hb uj hA w7 (fun x hx=>y1 x (by rw [y9];simp [hx]))
 ·rw [ji,gV];rfl
 ·refine ⟨h3,h5,fun i hi=>?_⟩
  rw [h2 i hi]
  cases W.heap[i]? with
  | none=>rfl
  | some o=>cases o<;>first | exact ⟨rfl,rfl,rfl,fun _ _=>rfl⟩ | exact .inr ⟨rfl,rfl⟩ | rfl
 ·exact ok_one wQ rfl (okWide_bool_mk htb true)
end
end Go.Eng
namespace Go.Eng
open Go
section
variable {w:World} {Φ:Nat→Prop} {A:Al}
end
end Go.Eng
namespace Go.Eng
open Go
section
variable {P:Program} {H:zBe}
theorem zPW {f:FuncId} {fn:Func} (h:P.funcs[f]? = some fn):fn∈P.funcs.toList:=by
 rw [← Array.getElem?_toList] at h
 exact List.mem_of_getElem? h
theorem zIl (h : (P.funcs.toList.all fun fn => !(fn.name == "runtime.NumGoroutine")) = true) : zEI P := fun f fn hf => by
  have:=List.all_eq_true.1 h fn (zPW hf)
  simpa using this
theorem zWx (h:((List.range P.funcs.size).all fun f=>bif Nat.beq (H f).intr 0 then (match P.funcs[f]? with
  | some fn=>zUh P fn
  | none=>true) else true)=true):Fit P H:=fun f fn hf hi=>by
 have yJ:=(Array.getElem?_eq_some_iff.1 hf).1
 have:=List.all_eq_true.1 h f (List.mem_range.2 yJ)
 rw [hi,hf] at this
 exact this
end
end Go.Eng
namespace Go.Eng
open Go Go.ChangeShapes Go.WideShapes Go.ChangeAt Go.RowKit
inductive Sh where
 | num (k:IntKind)
 | bool
 | list (ag:Bool) (parts:List Sh)
mutual
def zW3:Sh→PV→Prop
 | .num k,p=>∃ n,p = .int k n∧k.min≤n∧n≤k.max
 | .bool,p=>∃ b,p = .bool b
 | .list ag ss,p=>∃ xs,p = .sl xs∧xs.length≤maxLen∧∀ x∈xs,zD7 ss x.cells∧x.isAgg=ag
def zD7:List Sh→List PV→Prop
 | [],ps=>ps=[]
 | s::ss,ps=>∃ p qs,ps=p::qs∧zW3 s p∧zD7 ss qs
end
def zVu (P:Program) (t:TypeId):Bool :=
 match P.underlying t with
 | some (.struct _)=>true
 | some (.array ..)=>true
 | _=>false
def zWP (P:Program) (t:TypeId):Bool :=
 match P.underlying t with
 | some (.struct _)=>true
 | _=>false
def zGN (P:Program) (sh:TypeId→Option (List Sh)) (n:Nat):List Field→Nat→Option (List Sh)
 | [],off=>if off=n then some [] else none
 | f::fs,off=>if f.offset=off then match sh f.type with
  | some a=>if a.length=P.cellsOf f.type then (zGN P sh n fs (off+P.cellsOf f.type)).map (a++·) else none
  | none=>none else none
def zDj (P:Program):Nat→TypeId→Option (List Sh)
 | 0,_=>none
 | n + 1,t=>match P.underlying t with
  | some (.int k)=>some [.num k]
  | some .bool=>some [.bool]
  | some (.slice e)=>match zDj P n e with
   | some ss=>if ss.length=P.cellsOf e∧0<ss.length∧(zVu P e=true∨ss.length=1) then some [.list (zVu P e) ss] else none
   | none=>none
  | some (.struct fs)=>zGN P (zDj P n) (P.cellsOf t) fs.toList 0
  | some (.array m e)=>match zDj P n e with
   | some es=>if P.cellsOf t=m*P.cellsOf e then some (List.replicate m es).flatten else none
   | none=>none
  | _=>none
section
variable {H:Type} {enc:TypeId×Value→H} {P:Program} {w:World} {spare:Nat→Bool} {kz:Bool} {Φ:Nat→Prop} {base:Nat}
theorem zD7.app:∀ {a b:List Sh} {p q:List PV},zD7 a p→zD7 b q→zD7 (a++b) (p++q)
 | [],b,p,q,h1,h2=>by simp only [zD7] at h1;subst h1;exact h2
 | s::a,b,p,q,h1,h2=>by
  obtain ⟨x,xs,rfl,h3,h4⟩:=h1
  exact ⟨x,xs++q,rfl,h3,zD7.app h4 h2⟩
theorem zD7.length:∀ {a:List Sh} {p:List PV},zD7 a p→p.length=a.length
 | [],p,h=>by simp only [zD7] at h;subst h;rfl
 | s::a,p,h=>by
  obtain ⟨x,xs,rfl,_,h4⟩:=h
  simp [zD7.length h4]
theorem zML {sh:TypeId→Option (List Sh)} {N n:Nat} {cs:List Value} (jZ:cs.length=N) (ih:∀ t (vs:List Value) x ss,sh t=some ss→DataW.trod enc P w 0 spare kz n t vs=some x→∃ ps,zD7 ss ps∧zAV w Φ zCe ps vs []) :
  ∀ (fs:List Field) (off:Nat) (ss:List Sh),zGN P sh N fs off=some ss→(∀ f∈fs,∃ y,DataW.trod enc P w 0 spare kz n f.type ((cs.drop f.offset).take (P.cellsOf f.type))=some y)→off≤N→∃ ps,zD7 ss ps∧zAV w Φ zCe ps (cs.drop off) []
 | [],off,ss,h,_,yN=>by
  simp only [zGN] at h
  split at h
  ·rename_i he
   cases h
   exact ⟨[],rfl,by rw [List.drop_eq_nil_of_le (by omega)];exact ⟨rfl,rfl⟩⟩
  ·cases h
 | f :: fs,off,ss,h,hf,yN=>by
  simp only [zGN] at h
  split at h
  ·rename_i ho
   cases hs:sh f.type with
   | none=>rw [hs] at h;cases h
   | some a =>
    rw [hs] at h;simp only at h
    split at h
    ·rename_i uS
     obtain ⟨b,hb,rfl⟩:=Option.map_eq_some_iff.1 h
     obtain ⟨y,hy⟩:=hf f (by simp)
     rw [ho] at hy
     obtain ⟨ps,h1,h2⟩:=ih _ _ _ _ hs hy
     have hl:=h2.length
     have uk:=h1.length
     simp only [List.length_take,List.length_drop] at hl
     have qy:off+P.cellsOf f.type≤N:=by omega
     obtain ⟨qs,h3,h4⟩:=zML jZ ih fs _ b hb (fun g hg=>hf g (by simp [hg])) qy
     refine ⟨ps++qs,h1.app h3,?_⟩
     have:=h2.append h4
     rw [← List.drop_drop,List.take_append_drop] at this
     exact this
    ·cases h
  ·cases h
theorem zQH {s:Nat} {ag:Bool} {ss:List Sh} (hs:0<s) (j3:ag=true∨s=1):∀ (len:Nat) (c:List Value),c.length=len*s→(∀ i,i<len→∃ ps,zD7 ss ps∧ps.length=s∧zAV w Φ zCe ps ((c.drop (i*s)).take s) []) →
  ∃ (xs:List PV) (us:List Value),xs.length=len∧(∀ x∈xs,zD7 ss x.cells∧x.isAgg=ag∧x.cells.length=s)∧(∀ u∈us,u.cells.size=s)∧us.map zCn=xs.map PV.isAgg∧c=flat us∧zAV w Φ zCe xs us []
 | 0,c,hc,_=>⟨[],[],rfl,by simp,by simp,rfl,by rw [Nat.zero_mul] at hc;rw [List.eq_nil_of_length_eq_zero hc];rfl,rfl,rfl⟩
 | len + 1,c,hc,h=>by
  obtain ⟨ps,h1,h2,h3⟩:=h 0 (by omega)
  simp only [Nat.zero_mul,List.drop_zero] at h3
  have yO:(c.take s).length=s:=by simp;rw [hc,Nat.add_mul];omega
  obtain ⟨xs,us,g1,g2,g3,g4,g5,g6⟩:=zQH hs j3 len (c.drop s) (by simp [hc,Nat.add_mul]) (fun i hi=>by
   obtain ⟨ps,h1,h2,h3⟩:=h (i+1) (by omega)
   refine ⟨ps,h1,h2,?_⟩
   rw [List.drop_drop,show s+i*s=(i+1)*s by rw [Nat.add_mul];omega];exact h3)
  have jD:c=c.take s++c.drop s:=(List.take_append_drop s c).symm
  cases ag with
  | true =>
   refine ⟨.agg ps::xs,.agg (c.take s).toArray::us,by simp [g1],fun x hx=>?_,fun u hu=>?_,by simp [zCn,PV.isAgg,g4],?_,⟨_,us,[],[],rfl,rfl,⟨_,rfl,by simpa using h3⟩,g6⟩⟩
   ·rcases List.mem_cons.1 hx with rfl | hx
    ·exact ⟨h1,rfl,h2⟩
    ·exact g2 x hx
   ·rcases List.mem_cons.1 hu with rfl | hu
    ·simpa [Value.cells] using yO
    ·exact g3 u hu
   ·conv=>lhs;rw [jD]
    rw [g5];rfl
  | false =>
   have uc:s=1:=by
    rcases j3 with h | h
    ·cases h
    ·exact h
   subst uc
   obtain ⟨p,rfl⟩:=List.length_eq_one_iff.1 h2
   obtain ⟨u,hu⟩:=List.length_eq_one_iff.1 yO
   rw [hu] at h3 jD
   obtain ⟨u',us',L1,L2,he,hL,h4,h5⟩:=h3
   cases he
   obtain ⟨rfl,rfl⟩:=List.append_eq_nil_iff.1 hL.symm
   have yL:p.isAgg=false∧p.cells=[p]∧u.cells=#[u]∧zCn u=false:=by
    obtain ⟨p',qs,hp,hfp,_⟩:∃ p' qs,[p]=p'::qs∧(∃ s,zW3 s p')∧True:=by
     cases ss with
     | nil=>simp only [zD7] at h1;cases h1
     | cons s ss=>obtain ⟨x,xs,h6,h7,_⟩:=h1;exact ⟨x,xs,h6,⟨s,h7⟩,trivial⟩
    cases hp
    obtain ⟨s,hfp⟩:=hfp
    cases s with
    | num k=>obtain ⟨n,rfl,_⟩:=hfp;obtain ⟨rfl,_⟩:=h4;exact ⟨rfl,rfl,rfl,rfl⟩
    | bool=>obtain ⟨n,rfl⟩:=hfp;obtain ⟨rfl,_⟩:=h4;exact ⟨rfl,rfl,rfl,rfl⟩
    | list ag' ss' =>
     obtain ⟨ys,rfl,_⟩:=hfp
     obtain ⟨_,⟨_,a,n,rfl,_⟩ | ⟨a,n,c',us',sz,rfl,_⟩⟩:=h4<;>exact ⟨rfl,rfl,rfl,rfl⟩
   refine ⟨p::xs,u::us,by simp [g1],fun x hx=>?_,fun v hv=>?_,by simp [yL.1,yL.2.2.2,g4],?_,⟨u,us,[],[],rfl,rfl,h4,g6⟩⟩
   ·rcases List.mem_cons.1 hx with rfl | hx
    ·rw [yL.2.1];exact ⟨h1,yL.1,rfl⟩
    ·exact g2 x hx
   ·rcases List.mem_cons.1 hv with rfl | hv
    ·rw [yL.2.2.1];rfl
    ·exact g3 v hv
   ·conv=>lhs;rw [jD]
    rw [g5];simp only [flat,List.flatMap_cons,yL.2.2.1]
theorem zSt {n:Nat} {e t:TypeId} {fuel:Nat} {cs:List Value} {x:DataW H×List MemPlace} (ht:P.underlying t=some (.array n e)) (h:DataW.trod enc P w base spare kz fuel t cs=some x) :
  ∃ (xs:List (DataW H×List MemPlace)) (m:Nat),cs.length=P.cellsOf t∧xs.length=n∧∀ (i:Nat),i<n→DataW.trod enc P w base spare kz m e ((cs.drop (i*P.cellsOf e)).take (P.cellsOf e))=xs[i]?:=by
 cases fuel with
 | zero=>simp [DataW.trod] at h
 | succ m =>
  unfold DataW.trod at h
  rw [ht] at h
  split at h<;>simp_all
  obtain ⟨hl,xs,hp,hd⟩:=h
  exact ⟨xs,by simpa using mapM_some_length hp,m,fun i hi=>mapM_some_get hp i i (by simp [hi])⟩
theorem zT0 {s:Nat} {es:List Sh}:∀ (n:Nat) (c:List Value),c.length=n*s→(∀ i,i<n→∃ ps,zD7 es ps∧zAV w Φ zCe ps ((c.drop (i*s)).take s) [])→∃ ps,zD7 (List.replicate n es).flatten ps∧zAV w Φ zCe ps c []
 | 0,c,hc,_=>⟨[],rfl,by rw [Nat.zero_mul] at hc;rw [List.eq_nil_of_length_eq_zero hc];exact ⟨rfl,rfl⟩⟩
 | n + 1,c,hc,h=>by
  obtain ⟨ps,h1,h2⟩:=h 0 (by omega)
  simp only [Nat.zero_mul,List.drop_zero] at h2
  obtain ⟨qs,h3,h4⟩:=zT0 (s:=s) n (c.drop s) (by simp [hc,Nat.add_mul]) fun i hi=>by
   obtain ⟨ps,h1,h2⟩:=h (i+1) (by omega)
   refine ⟨ps,h1,?_⟩
   rw [List.drop_drop,show s+i*s=(i+1)*s by rw [Nat.add_mul];omega];exact h2
  refine ⟨ps++qs,?_,?_⟩
  ·rw [List.replicate_succ,List.flatten_cons];exact h1.app h3
  ·have:=h2.append h4
   rw [List.take_append_drop] at this
   exact this
theorem zKI : ∀ (n m:Nat) (t:TypeId) (vs:List Value) (x:DataW H×List MemPlace) (ss:List Sh),zDj P n t=some ss→DataW.trod enc P w 0 spare kz m t vs=some x→∃ ps,zD7 ss ps∧zAV w (fun b=>b<w.heap.size) zCe ps vs []
 | 0,m,t,vs,x,ss,h,_=>by cases h
 | n + 1, m, t,vs,x,ss,h,hx=>by
  simp only [zDj] at h
  split at h
  ·rename_i k ht
   cases h
   obtain ⟨i,rfl,_,hw⟩:=DataW.trod_int ht hx
   simp only [Lit.wf,Bool.and_eq_true,decide_eq_true_eq] at hw
   exact ⟨[.int k i],⟨_,[],rfl,⟨i,rfl,hw.1,hw.2⟩,rfl⟩,_,_,[],[],rfl,rfl,⟨rfl,rfl⟩,rfl,rfl⟩
  ·rename_i ht
   cases h
   obtain ⟨b,rfl,_⟩:=DataW.trod_bool ht hx
   exact ⟨[.bool b],⟨_,[],rfl,⟨b,rfl⟩,rfl⟩,_,_,[],[],rfl,rfl,⟨rfl,rfl⟩,rfl,rfl⟩
  ·rename_i e ht
   cases j4:zDj P n e with
   | none=>rw [j4] at h;cases h
   | some es =>
    rw [j4] at h;simp only at h
    split at h
    ·rename_i hc
     cases h
     obtain ⟨jV,jD,uU⟩:=hc
     rcases DataW.trod_slice ht hx with ⟨rfl,_⟩ | ⟨a,len,cap,zW0,rest,k,_,rfl,_,_,hlc,hcm,yy,kC,_⟩
     ·exact ⟨[.sl []],⟨_,[],rfl,⟨[],rfl,Nat.zero_le _,by simp⟩,rfl⟩,_,_,[],[],rfl,rfl,⟨rfl,.inl ⟨rfl,_,_,rfl,fun _=>rfl⟩⟩,rfl,rfl⟩
     ·by_cases h0:len=0
      ·subst h0
       exact ⟨[.sl []],⟨_,[],rfl,⟨[],rfl,Nat.zero_le _,by simp⟩,rfl⟩,_,_,[],[],rfl,rfl,⟨rfl,.inl ⟨rfl,_,_,rfl,fun h=>by cases h⟩⟩,rfl,rfl⟩
      have zBa:∀ i,i<len→∃ (cs:List Value) (y:DataW H×List MemPlace),cs.length=P.cellsOf e∧(∀ j,j<P.cellsOf e→w.cell? ((a.add (i*P.cellsOf e)).add j)=cs[j]?)∧DataW.trod enc P w 0 spare kz k e cs=some y:=by
       intro i hi
       have:=kC i hi
       rw [List.getElem?_eq_getElem (by omega)] at this
       obtain ⟨cs,h1,h2⟩:=Option.bind_eq_some_iff.1 this
       obtain ⟨_,h3,h4⟩:=World.cells?_some h1
       exact ⟨cs,_,h3,h4,h2⟩
      obtain ⟨cs0,_,h00,h01,_⟩:=zBa 0 (by omega)
      have yP:=h01 0 (by omega)
      rw [List.getElem?_eq_getElem (by omega)] at yP
      have y1:a.spot=none∧∃ row el fr,w.heap[a.block]? = some (.cells row el fr):=by
       simp only [Nat.zero_mul,Addr.add,if_true,World.cell?] at yP
       cases hb:w.heap[a.block]? with
       | none=>rw [hb] at yP;cases yP
       | some o =>
        cases o<;>rw [hb] at yP<;>simp only at yP<;>try (cases yP;done)
        rename_i row el fr
        cases hs:a.spot with
        | some s=>rw [hs] at yP;cases yP
        | none=>exact ⟨rfl,row,el,fr,rfl⟩
      obtain ⟨y4,row,el,fr,yE⟩:=y1
      have kY:∀ i j,i<len→j<P.cellsOf e→w.cell? ((a.add (i*P.cellsOf e)).add j)=row[a.off+(i*P.cellsOf e+j)]?:=by
       intro i j hi hj
       have key:∀ m:Nat,(a.add m).block=a.block∧(a.add m).off=a.off+m∧(a.add m).spot=none:=by
        intro m
        unfold Addr.add
        split
        ·rename_i h;subst h;exact ⟨rfl,rfl,y4⟩
        ·exact ⟨rfl,rfl,by simp⟩
       have key2:∀ m j:Nat,w.cell? ((a.add m).add j)=row[a.off+(m+j)]?:=by
        intro m j
        obtain ⟨k1,k2,k3⟩:=key m
        by_cases h:j=0
        ·subst h
         simp only [Addr.add,if_true,World.cell?] at *
         rw [k1,yE];simp only;rw [k3,k2];simp
        ·have:(a.add m).add j=⟨a.block,a.off+m+j,none⟩:=by
          generalize a.add m=a1 at k1 k2 k3
          unfold Addr.add
          rw [if_neg h,k1,k2]
         rw [this]
         simp only [World.cell?,yE]
         rw [Nat.add_assoc];rfl
       exact key2 _ _
      have jn:=zQH (w:=w) (Φ:=fun b=>b<w.heap.size) (ss:=es) jD (by rw [jV] at uU ⊢;exact uU) len (seg row a.off (len*P.cellsOf e)) ?_ ?_
      ·obtain ⟨xs,us,g1,g2,g3,g4,g5,g6⟩:=jn
       refine ⟨[.sl xs],⟨_,[],rfl,⟨xs,rfl,by omega,fun x hx=>⟨(g2 x hx).1,(g2 x hx).2.1⟩⟩,rfl⟩,_,_,[],[],rfl,rfl,⟨rfl,.inr ⟨a,cap,row,us,P.cellsOf e,by rw [g1],y4,by omega,(Array.getElem?_eq_some_iff.1 yE).1,⟨el,fr,yE⟩,?_,⟨?_,g4⟩,by rw [g1];exact g5,g6⟩⟩,rfl,rfl⟩
       ·intro x hx;rw [← jV];exact (g2 x hx).2.2
       ·intro u hu;rw [← jV];exact g3 u hu
      ·
       have:=zBa (len-1) (by omega)
       obtain ⟨cs,_,h1,h2,_⟩:=this
       have h3:=h2 (P.cellsOf e-1) (by omega)
       rw [kY _ _ (by omega) (by omega),List.getElem?_eq_getElem (by omega)] at h3
       have h4:=(Array.getElem?_eq_some_iff.1 h3).1
       have h5:(len-1)*P.cellsOf e+P.cellsOf e=len*P.cellsOf e:=by
        obtain ⟨l,rfl⟩:∃ l,len=l+1:=⟨len-1,by omega⟩
        rw [Nat.add_sub_cancel,Nat.add_mul];omega
       simp only [seg,List.length_take,List.length_drop,Array.length_toList,jV]
       omega
      ·intro i hi
       obtain ⟨cs,y,h1,h2,h3⟩:=zBa i hi
       obtain ⟨ps,h4,h5⟩:=zKI n k e cs y es j4 h3
       refine ⟨ps,h4,by rw [h4.length],?_⟩
       have:((seg row a.off (len*P.cellsOf e)).drop (i*es.length)).take es.length=cs:=by
        rw [jV]
        apply List.ext_getElem?
        intro j
        have w9:i*P.cellsOf e+P.cellsOf e≤len*P.cellsOf e:=by
         have:(i+1)*P.cellsOf e≤len*P.cellsOf e:=Nat.mul_le_mul_right _ (by omega)
         rw [Nat.add_mul] at this;omega
        simp only [seg,List.getElem?_take,List.getElem?_drop]
        split
        ·rename_i hj
         rw [if_pos (by omega),Array.getElem?_toList,← kY i j hi hj,h2 j hj]
        ·rw [List.getElem?_eq_none (by omega)]
       rw [this];exact h5
    ·cases h
  ·rename_i fs ht
   obtain ⟨xs,k,_,_,hl,vR,hf⟩:=DataW.trod_struct ht hx
   obtain ⟨ps,h1,h2⟩:=zML (Φ:=fun b=>b<w.heap.size) hl (fun t vs x ss h1 h2=>zKI n k t vs x ss h1 h2) fs.toList 0 ss h (fun f yg=>by
    obtain ⟨i,hi⟩:=List.getElem?_of_mem yg
    have qv:fs[i]? = some f:=by rw [← Array.getElem?_toList];exact hi
    have yJ:=(Array.getElem?_eq_some_iff.1 qv).1
    exact ⟨xs[i]'(by omega), by rw [hf i f qv, List.getElem?_eq_getElem (by omega)]⟩) (Nat.zero_le _)
   exact ⟨ps,h1,by simpa using h2⟩
  ·rename_i m' e ht
   cases j4:zDj P n e with
   | none=>rw [j4] at h;cases h
   | some es =>
    rw [j4] at h;simp only at h
    split at h
    ·rename_i hc
     cases h
     obtain ⟨xs,k,hl,vR,hf⟩:=zSt ht hx
     exact zT0 m' vs (by rw [hl,hc]) fun i hi=>zKI n k e _ _ es j4 (by rw [hf i hi,List.getElem?_eq_getElem (by omega)])
    ·cases h
  ·cases h
def zUK (x:Bool×List Sh) (p:PV):Prop:=if x.1 then ∃ cs,p = .agg cs∧zD7 x.2 cs else zD7 x.2 [p]
def zKX:List (Bool×List Sh)→List PV→Prop
 | [],ps=>ps=[]
 | s::ss,ps=>∃ p qs,ps=p::qs∧zUK s p∧zKX ss qs
def zE4 (P:Program):List TypeId→Option (List (Bool×List Sh))
 | []=>some []
 | t::ts=>match zDj P 20 t,zE4 P ts with
  | some ss,some rest=>if zWP P t=true∨zVu P t=false∧ss.length=1 then some ((zWP P t,ss)::rest) else none
  | _,_=>none
theorem zKX.length:∀ {ss:List (Bool×List Sh)} {ps:List PV},zKX ss ps→ps.length=ss.length
 | [],ps,h=>by simp only [zKX] at h;subst h;rfl
 | s::ss,ps,h=>by
  obtain ⟨p,qs,rfl,_,h2⟩:=h
  simp [zKX.length h2]
theorem zQJ {n:Nat} {t:TypeId} {ss:List Sh} (h:zDj P n t=some ss) (ha:zVu P t=false):(∃ k,P.underlying t=some (.int k))∨P.underlying t=some .bool∨∃ e,P.underlying t=some (.slice e):=by
 cases n with
 | zero=>cases h
 | succ n =>
  simp only [zDj] at h
  split at h
  ·exact .inl ⟨_,by assumption⟩
  ·exact .inr (.inl (by assumption))
  ·exact .inr (.inr ⟨_,by assumption⟩)
  ·rename_i fs ht
   simp only [zVu,ht] at ha;cases ha
  ·rename_i ht
   simp only [zVu,ht] at ha;cases ha
  ·cases h
theorem zQ7 : ∀ (ts:List TypeId) (vs:List Value) (ds:List (DataW H)) (ps:List MemPlace) (ss:List (Bool×List Sh)),zE4 P ts=some ss→DataW.TrodAll enc P w 0 spare kz ts vs ds ps→(∀ (j:Nat) t v,ts[j]? = some t→vs[j]? = some v→Value.okWide P w .any base t v) →
  ∃ qs,zKX ss qs∧zAV w (fun b=>b<w.heap.size) zCe qs vs []
 | [],vs,ds,ps,ss,hs,h,_=>by
  obtain ⟨rfl,_,_⟩:=trodAll_nil h
  cases hs
  exact ⟨[],rfl,rfl,rfl⟩
 | t :: ts,vs,ds,ps,ss,hs,h,hv=>by
  obtain ⟨v,vs',d,ds',p,q,rfl,rfl,rfl,⟨fuel,h1⟩,h2⟩:=trodAll_cons h
  simp only [zE4] at hs
  cases yM:zDj P 20 t with
  | none=>rw [yM] at hs;cases hs
  | some s =>
   cases ya:zE4 P ts with
   | none=>rw [yM,ya] at hs;cases hs
   | some rest =>
    rw [yM,ya] at hs
    simp only at hs
    split at hs
    ·rename_i hc
     cases hs
     obtain ⟨qs,g1,g2⟩:=zQ7 ts vs' ds' q rest ya h2 (fun j t v ht yD=>hv (j+1) t v (by simpa using ht) (by simpa using yD))
     obtain ⟨cs,g3,g4⟩:=zKI 20 fuel t v.cells.toList _ s yM h1
     have yH:=hv 0 t v rfl rfl
     cases ha:zWP P t with
     | true =>
      have ww:∃ fs,P.underlying t=some (.struct fs):=by
       simp only [zWP] at ha
       split at ha
       ·exact ⟨_,by assumption⟩
       ·cases ha
      obtain ⟨fs,ht⟩:=ww
      obtain ⟨row,rfl,_⟩:=okWide_struct ht yH
      exact ⟨.agg cs::qs,⟨_,_,rfl,by simp only [zUK,if_true];exact ⟨cs,rfl,g3⟩,g1⟩,_,_,[],[],rfl,rfl,⟨row,rfl,g4⟩,g2⟩
     | false =>
      have yL:v.cells.toList=[v]:=by
       rcases zQJ yM (hc.elim (fun h=>by rw [h] at ha;cases ha) fun h=>h.1) with ⟨k,ht⟩ | ht | ⟨e,ht⟩
       ·obtain ⟨n,rfl⟩:=okWide_int ht yH;rfl
       ·obtain ⟨n,rfl⟩:=okWide_bool ht yH;rfl
       ·obtain ⟨a,n,c,rfl⟩:=okWide_slice ht yH;rfl
      rw [yL] at g4
      obtain ⟨u,us,L1,L2,he,hL,g5,g6⟩:∃ u us L1 L2,cs=u::us∧([]:List Nat)=L1++L2∧Rep w (fun b=>b<w.heap.size) zCe u v L1∧zAV w (fun b=>b<w.heap.size) zCe us [] L2:=by
       cases cs with
       | nil=>have:=g4.length;simp at this
       | cons u us =>
        obtain ⟨v',vs'',L1,L2,he,hL,g5,g6⟩:=g4
        cases he
        exact ⟨u,us,L1,L2,rfl,hL,g5,g6⟩
      obtain ⟨rfl,rfl⟩:=List.append_eq_nil_iff.1 hL.symm
      have wK:us=[]:=List.eq_nil_of_length_eq_zero (by have:=g6.length;simp at this;omega)
      subst wK;subst he
      exact ⟨u::qs,⟨_,_,rfl,by simp only [zUK,Bool.false_eq_true,if_false];exact g3,g1⟩,_,_,[],[],rfl,rfl,g5,g2⟩
    ·cases hs
theorem zRf {α:Type} {R:α→Prop} {enc:α→PV}:∀ {xs:List PV},(∀ x∈xs,∃ a,x=enc a∧R a)→∃ l:List α,xs=l.map enc∧∀ a∈l,R a
 | [],_=>⟨[],rfl,by simp⟩
 | x :: xs,h=>by
  obtain ⟨a,rfl,ha⟩:=h x (by simp)
  obtain ⟨l,rfl,hl⟩:=zRf (xs:=xs) fun y hy=>h y (by simp [hy])
  exact ⟨a::l,rfl,fun b hb=>by
   rcases List.mem_cons.1 hb with rfl | hb
   ·exact ha
   ·exact hl b hb⟩
theorem zTt {k:IntKind} {p:PV} (h:zW3 (.list false [.num k]) p):∃ l:List Int,p = .sl (l.map (.int k))∧l.length≤maxLen∧∀ n∈l,k.min≤n∧n≤k.max:=by
 obtain ⟨xs,rfl,hl,hx⟩:=h
 obtain ⟨l,rfl,hb⟩:=zRf (α:=Int) (R:=fun n=>k.min≤n∧n≤k.max) (enc := .int k) (xs:=xs) fun x uL=>by
  obtain ⟨⟨q,qs,hc,⟨n,rfl,hn⟩,qE⟩,ha⟩:=hx x uL
  simp only [zD7] at qE;subst qE
  refine ⟨n,?_,hn⟩
  cases x<;>simp [PV.cells] at hc<;>first | exact hc | simp_all [PV.isAgg]
 exact ⟨l,rfl,by simpa using hl,hb⟩
theorem zJP:∀ {ts:List TypeId} {vs:List Value} {ds:List (DataW H)} {ps:List MemPlace},DataW.TrodAll enc P w 0 spare kz ts vs ds ps→ds.length=ts.length
 | [],vs,ds,ps,h=>by obtain ⟨_,rfl,_⟩:=trodAll_nil h;rfl
 | t::ts,vs,ds,ps,h=>by
  obtain ⟨_,_,_,_,_,_,rfl,rfl,_,_,h2⟩:=trodAll_cons h
  simp [zJP h2]
theorem zT8 {Hh:zBe} {f:FuncId} {fn:Func} {s:ChangeSpec} {apart fresh jP again:Bool} {W:World} {args:Array Value} {ds:List (DataW H)} {before:List MemPlace} {tb:TypeId} {ss:List (Bool×List Sh)} (zE9:P.follows .mixedOrders=true) (hnm:zEI P) (zMJ:Fit P Hh) (hin:zEw P Hh)
  (hl:laidOutB P=true) (ji:s.vars=[]) (htb:P.underlying tb=some .bool) (wQ:fn.resultTypes=#[tb]) (uj:fn.params.toList.all (fun t=>P.readableRec t&&Nat.blt t P.types.size)=true) (uJ:∀ ds,ds.length=fn.params.size→s.fn H ds={results:=[.lit (.bool true)],args:=ds}) (wM:zE4 P fn.params.toList=some ss) (hZ:ss.length≤1000)
  (hg:∀ qs,zKX ss qs→@zBC (yo1 P Hh) P Hh f qs [] (.bool true) [])
  (gT:∀ (j:Nat) t v,fn.params[j]? = some t→args[j]? = some v→Value.okWide P W .any base t v) (hW:DataW.Whole enc P fn.params.toList s.vars apart W args.toList ds [] before) :
  Calls P f args W fun e W'=>∃ v,e = .returned v∧s.post enc P fn apart fresh jP again W args v W':=by
 obtain ⟨pa,pv,hA,_,_,_,_⟩:=id hW
 obtain ⟨qs,kT,kR⟩:=zQ7 fn.params.toList args.toList ds pa ss wM hA (fun j t v ht hv=>gT j t v (by rw [← Array.getElem?_toList];exact ht) (by rw [← Array.getElem?_toList];exact hv))
 have qf:=kT.length
 refine (zQd (Φ:=fun b=>b<W.heap.size) zE9 hnm zMJ hin (hg qs kT) (fun b hb=>hb) kR (by rw [qf];exact Nat.le_trans hZ (by decide))).mono fun e W' ⟨he,g1,g2,g3,g4,g5⟩=>?_
 subst he
 refine ⟨_,rfl,zTi hl ji htb wQ (fun t ht=>?_) (uJ ds (by have:=zJP hA;simpa using this)) hW g1 g2 g3 g4 g5⟩
 have:=List.all_eq_true.1 uj t ht
 rw [Bool.and_eq_true] at this
 exact ⟨this.1,zB4 this.2⟩
end
end Go.Eng
namespace Go.Eng
open Go
section
variable {P:Program} {H:zBe}
def zEC (f:FuncId):zBe:=fun g=>bif Nat.beq g f then {} else {intr:=9}
theorem zPN (zE9:P.follows .mixedOrders=true) (hnm:zEI P) {f:FuncId} {fn:Func} (hf:P.funcs[f]? = some fn) (yH:zUh P fn=true) (n:Nat):zGa P (@zCZ P (zEC f) yo0 n):=by
 refine @zE2 P (zEC f) yo0 zE9 hnm (fun g gn hg hi=>?_) (fun g gn args hid v hX hg hi hr=>?_) (fun g first i caps k plan h=>by cases h) n
 ·cases hb:Nat.beq g f with
  | true =>
   rw [Nat.eq_of_beq_eq_true hb,hf] at hg
   cases hg;exact yH
  | false=>simp [zEC,hb] at hi
 ·cases hb:Nat.beq g f with
  | true=>exact absurd (by simp [zEC,hb]) hi
  | false =>
   have e:(zEC f g).intr=9:=by simp [zEC,hb]
   rw [e] at hr
   simp [zDG] at hr
theorem zOr {α:Type} {f:Nat→α} {s:Nat} {v:α} (h:f s=v):upd f s v=f:=by
 funext t
 by_cases ht:t=s
 ·subst ht;rw [zAi,h]
 ·rw [zAe ht]
theorem zK2 {f:FuncId} {p q v:PV} (hp:p.heavy=false) {w:World} {Φ:Nat→Prop} {rv:Nat→Value} {E:Nat→PV} {L:Nat→List Nat} {vs:Array Value} (hE:∀ s,s<zAb→E s=(zA5 [q] []).get s) (kV:∀ s,zAb≤s→E s = .bad)
  (C:Conf w (fun b=>∃ s,b∈L s) Φ w Φ rv E L) (yG:vs.size=1) (yj:∀ i,i<1→vs[i]? = some (rv i)) (j7:∀ s,1≤s→s<zAm→rv s=undef) (hL0:L 0=[]) (hr:Rep w Φ (zA1 w rv E) p (rv 0) []) (h:zFo P f [p] [] v []) :
  Calls P f vs w fun e w'=>∃ u Φ' rv' E' L',e = .returned u∧Conf w (fun b=>∃ s,b∈L s) Φ w' Φ' rv' E' L'∧([]:List PV).length=([]:List PV).length ∧
   (∀ j,j<([]:List PV).length→E' (zAm+j)=([]:List PV).getD j .bad∧rv' (zAm+j)=rv (zAm+j))∧Gave v u rv' E':=by
 have C1:=C.put (s:=0) hp hr
 rw [zOr hL0,zOr rfl] at C1
 have h1:(1:Nat)≤zAm:=by decide
 have hg:(0:Nat)<zAb:=by decide
 refine h w Φ rv (upd E 0 p) L vs (fun s hs=>?_) (fun s hs=>?_) C1 yG yj j7
 ·by_cases h:s=0
  ·subst h;rw [zAi];rfl
  ·rw [zAe h,hE s hs,zDh (args:=[q]) h1,zDh (args:=[p]) h1]
   simp [h,show ¬ s<1 by omega]
 ·rw [zAe (by omega)];exact kV s hs
theorem zQc {f:FuncId} {v:PV} (h1:zFo P f [.nils 0] [] v []) (h2:zFo P f [.nn] [] v []):zFo P f [.sl []] [] v []:=by
 intro w Φ rv E L vs hE kV C yG yj j7
 have h0:E 0 = .sl []:=by rw [hE 0 (by decide)];rfl
 have hr:=C.rep 0
 rw [h0] at hr
 obtain ⟨hL0,hc⟩:=hr
 have hc:∃ a n,rv 0 = .slice a 0 n∧(a=none→n=0):=by
  rcases hc with ⟨_,a,n,hv,ha⟩ | ⟨a,n,c,us,sz,hv,_⟩
  ·exact ⟨a,n,hv,ha⟩
  ·exact ⟨some a,n,hv,fun h=>by cases h⟩
 obtain ⟨a,n,hv,ha⟩:=hc
 cases a with
 | none =>
  rw [ha rfl] at hv
  exact zK2 (p := .nils 0) rfl hE kV C yG yj j7 hL0 ⟨hv,rfl⟩ h1
 | some a=>exact zK2 (p := .nn) rfl hE kV C yG yj j7 hL0 ⟨rfl,a,n,hv⟩ h2
theorem zPq {f:FuncId} {v:PV} {k:Nat} (h1:zFo P f [.nils 0] [] v []):zFo P f [.nils k] [] v []:=by
 intro w Φ rv E L vs hE kV C yG yj j7
 have h0:E 0 = .nils k:=by rw [hE 0 (by decide)];rfl
 have hr:=C.rep 0
 rw [h0] at hr
 exact zK2 (p := .nils 0) rfl hE kV C yG yj j7 hr.2 ⟨hr.1,rfl⟩ h1
theorem zKJ (zE9:P.follows .mixedOrders=true) (hnm:zEI P) {f:FuncId} {fn:Func} (hf:P.funcs[f]? = some fn) (hb:fn.body.isSome=true) (yH:zUh P fn=true) {sz:Nat} (yG:(fn.resultTypes[0]?).bind (fun t=>(zBR P t).bind (szT P))=some sz)
  (r1:∃ n,@zCZ P (zEC f) yo0 n f [.nils 0] []=some (.own sz [],[])) (r2:∃ n,@zCZ P (zEC f) yo0 n f [.nn] []=some (.own sz [],[]))
  (r3:∀ x xs,(∀ y∈x::xs,y.plain=true∧y.cells.length=sz)→(x::xs).length≤zAY→∃ n,@zCZ P (zEC f) yo0 n f [.sl (x::xs)] []=some (.own sz (x::xs),[])) :
  ∀ args hid v hX,zDG P fn 1 args hid=some (v,hX)→zCx P f∧zFo P f args hid v hX:=by
 have so:=zPN zE9 hnm hf yH
 have hc:zCx P f:=⟨fn,hf,by cases hx:fn.body with
  | none=>rw [hx] at hb;cases hb
  | some _=>rfl⟩
 obtain ⟨n1,r1⟩:=r1
 obtain ⟨n2,r2⟩:=r2
 have m1:zFo P f [.nils 0] [] (.own sz []) []:=(so n1 _ _ _ _ _ r1).2
 have m2:=(so n2 _ _ _ _ _ r2).2
 intro args hid v hX h
 refine ⟨hc,?_⟩
 rcases args with _ | ⟨p,_ | ⟨p2,ps⟩⟩
 ·simp [zDG] at h
 ·rcases hid with _ | ⟨q,qs⟩
  ·cases p<;>first | (simp [zDG] at h;done) | skip
   ·rename_i k
    simp only [zDG,yG,Option.some.injEq,Prod.mk.injEq] at h
    obtain ⟨rfl,rfl⟩:=h
    exact zPq m1
   ·rename_i xs
    simp only [zDG,yG] at h
    split at h
    ·rename_i hx
     simp only [Option.some.injEq,Prod.mk.injEq] at h
     obtain ⟨rfl,rfl⟩:=h
     simp only [Bool.and_eq_true,decide_eq_true_eq,List.all_eq_true] at hx
     cases xs with
     | nil=>exact zQc m1 m2
     | cons x xs =>
      obtain ⟨n3,r3⟩:=r3 x xs (fun y hy=>by simpa using hx.1 y hy) hx.2
      exact (so n3 _ _ _ _ _ r3).2
    ·cases h
  ·simp [zDG] at h
 ·simp [zDG] at h
theorem zGC [Yo] {f:FuncId} {fn:Func} {sz:Nat} {α:Type} (g:α→PV) (l:List α) (hl:l.length≤4294967296) (hg:∀ x,((g x).plain&&Nat.beq (g x).cells.length sz)=true:=by intro x;kernel_rfl) (hf:P.funcs[f]? = some fn:=by kernel_rfl) (hi:(H f).intr=1:=by kernel_rfl)
  (yG:(fn.resultTypes[0]?).bind (fun t=>(zBR P t).bind (szT P))=some sz:=by kernel_rfl):zBC P H f [.sl (l.map g)] [] (.own sz (l.map g)) []:=by
 refine ⟨1,fun n hn=>?_⟩
 obtain ⟨k,rfl⟩:∃ k,n=k+1:=⟨n-1,by omega⟩
 show zJz P H (zCZ P H k) Yo.yo zCf (k+1) f _ _=_
 have ka:((l.map g).all (fun x=>x.plain&&decide (x.cells.length=sz))&&decide ((l.map g).length≤zAY))=true:=by
  simp only [List.all_map,Bool.and_eq_true,List.all_eq_true,List.length_map,decide_eq_true_eq,Function.comp]
  refine ⟨fun x _=>?_,hl⟩
  have:=hg x
  simp only [Bool.and_eq_true] at this
  exact ⟨this.1,Nat.eq_of_beq_eq_true this.2⟩
 simp only [Bool.and_eq_true,decide_eq_true_eq] at ka
 simp only [zJz,hf,hi,zDG,yG]
 rw [if_pos (by decide),if_pos (by simpa using ka)]
theorem zG7 {f:FuncId} {args:List PV} {v:PV} (h:@zBC yo0 P (zEC f) f args [] v []):∃ n,@zCZ P (zEC f) yo0 n f args []=some (v,[]):=by
 obtain ⟨n,h⟩:=h
 exact ⟨n,h n (Nat.le_refl _)⟩
theorem zSv (cl:List FuncId) (h:((List.range P.funcs.size).all fun f=>Nat.beq (H f).intr 0||Nat.beq (H f).intr 9||(Nat.beq (H f).intr 1&&cl.any (Nat.beq f)))=true)
  (hc:∀ f∈cl,∀ fn,P.funcs[f]? = some fn→∀ args hid v hX,zDG P fn 1 args hid=some (v,hX)→zCx P f∧zFo P f args hid v hX):zEw P H:=fun f fn args hid v hX hf hi hr=>by
 have yJ:=(Array.getElem?_eq_some_iff.1 hf).1
 have:=List.all_eq_true.1 h f (List.mem_range.2 yJ)
 rw [Bool.or_eq_true,Bool.or_eq_true,Bool.and_eq_true] at this
 rcases this with (h1 | h1) | ⟨h1,h2⟩
 ·exact absurd (Nat.eq_of_beq_eq_true h1) hi
 ·rw [Nat.eq_of_beq_eq_true h1] at hr
  simp [zDG] at hr
 ·rw [Nat.eq_of_beq_eq_true h1] at hr
  obtain ⟨g,hg,hb⟩:=List.any_eq_true.1 h2
  rw [Nat.eq_of_beq_eq_true hb] at hf ⊢
  exact hc g hg fn hf args hid v hX hr
end
end Go.Eng
set_option maxRecDepth 100000
namespace Go.Eng
open Go Go.Proofs
def idV (p:PV):PV:=p
theorem zHT (xs:List PV):xs.map idV=xs:=by
 induction xs with
 | nil=>rfl
 | cons x xs ih=>rw [List.map_cons,ih];rfl
theorem zEQ:∀ {l:List PV},(∀ y∈l,y.plain=true)→zBx l=[]
 | [],_=>rfl
 | p::ps,h=>by
  rw [zBx,(zKM (h p (by simp))).2,zEQ fun y hy=>h y (by simp [hy])];rfl
theorem zRj {xs:List PV} {sz n:Nat} (h:∀ y∈xs,y.plain=true∧y.cells.length=sz) (hn:Nat.beq sz n=true):((xs.map idV).all fun y=>y.cells.length.beq n&&y.cells.all fun q=>q.oneCell)=true:=by
 rw [zHT,List.all_eq_true]
 intro y hy
 rw [Bool.and_eq_true]
 exact ⟨by rw [(h y hy).2];exact hn,List.all_eq_true.2 fun q hq=>zJn (h y hy).1 q hq⟩
theorem zUl {xs:List PV} {sz:Nat} (h:∀ y∈xs,y.plain=true∧y.cells.length=sz):((xs.map idV).all fun x=>x.plain)=true:=by
 rw [zHT,List.all_eq_true];exact fun y hy=>(h y hy).1
section
variable [Yo]
theorem zXr:zBC Try.prog (zEC 71) 71 [.nils 0] [] (.own 1 []) []:=zBC.closed 50
theorem zXv:zBC Try.prog (zEC 71) 71 [.nn] [] (.own 1 []) []:=zBC.closed 50
theorem zXl (xs:List PV) (h:∀ y∈xs,y.plain=true∧y.cells.length=1) (hI:0<xs.length) (hl:xs.length≤4294967296):zBC Try.prog (zEC 71) 71 [.sl (xs.map idV)] [] (.own 1 (xs.map idV)) []:=by
 refine zAf Try.f71 ?_
 refine zAd 1<|zAa<|zAh<|zAd 1<|S_a [(0,.v (PV.bool false))] (ap (zNs (by omega):zGI Try.prog BinOp.eql 47 (PV.sl (List.map idV xs)) (zEr (Value.slice none 0 0))=some (PV.bool false)) an)<|zAa<|zAK<|zAl<|zAd 2<|S_a [(0,.ob),(0,.ob),(0,.ob),(3,.ob)] (ap (zUl h:((List.map idV xs).all fun x=>x.plain)=true)<|ap (zRj h (by kernel_rfl):((List.map idV xs).all fun y=>y.cells.length.beq ((fun x=>x.size) Try.prog.types[3])&&y.cells.all fun q=>q.oneCell)=true)<|ap (?_:(zBx (List.map idV xs)).isEmpty=true)<|ap ((by exact zA8 (by simp only [List.length_map,zzLn,zAY]<;>omega)):(0+(List.map idV xs).length).ble zAY=true) an)<|zAc 1<|zAa<|zAn<|E_a [(1,.yes),(1,.v (PV.own 1 (List.map idV (List.take ([]++List.map idV xs).length xs))))] (ap (blz ([]++List.map idV xs))<|ap ((by simp [zC9]):PV.own 1 (List.take ([]++List.map idV xs).length (List.drop 0 ([]++List.map idV xs)))=PV.own 1 (List.map idV (List.take ([]++List.map idV xs).length xs))) an) (PV.own 1 (List.map idV (List.take ([]++List.map idV xs).length xs))) [] (by simp [*]) rfl
 rw [zHT,zEQ fun y hy=>(h y hy).1];rfl
theorem zWv:zBC Try.prog (zEC 115) 115 [.nils 0] [] (.own 2 []) []:=zBC.closed 50
theorem zVX:zBC Try.prog (zEC 115) 115 [.nn] [] (.own 2 []) []:=zBC.closed 50
theorem zWc (xs:List PV) (h:∀ y∈xs,y.plain=true∧y.cells.length=2) (hI:0<xs.length) (hl:xs.length≤4294967296):zBC Try.prog (zEC 115) 115 [.sl (xs.map idV)] [] (.own 2 (xs.map idV)) []:=by
 refine zAf Try.f115 ?_
 refine zAd 1<|zAa<|zAh<|zAd 1<|S_a [(0,.v (PV.bool false))] (ap (zNs (by omega):zGI Try.prog BinOp.eql 31 (PV.sl (List.map idV xs)) (zEr (Value.slice none 0 0))=some (PV.bool false)) an)<|zAa<|zAK<|zAl<|zAd 2<|S_a [(0,.ob),(0,.ob),(0,.ob),(3,.ob)] (ap (zUl h:((List.map idV xs).all fun x=>x.plain)=true)<|ap (zRj h (by kernel_rfl):((List.map idV xs).all fun y=>y.cells.length.beq ((fun x=>x.size) Try.prog.types[34])&&y.cells.all fun q=>q.oneCell)=true)<|ap (?_:(zBx (List.map idV xs)).isEmpty=true)<|ap ((by exact zA8 (by simp only [List.length_map,zzLn,zAY]<;>omega)):(0+(List.map idV xs).length).ble zAY=true) an)<|zAc 1<|zAa<|zAn<|E_a [(1,.yes),(1,.v (PV.own 2 (List.map idV (List.take ([]++List.map idV xs).length xs))))] (ap (blz ([]++List.map idV xs))<|ap ((by simp [zC9]):PV.own 2 (List.take ([]++List.map idV xs).length (List.drop 0 ([]++List.map idV xs)))=PV.own 2 (List.map idV (List.take ([]++List.map idV xs).length xs))) an) (PV.own 2 (List.map idV (List.take ([]++List.map idV xs).length xs))) [] (by simp [*]) rfl
 rw [zHT,zEQ fun y hy=>(h y hy).1];rfl
theorem zVU:zBC Try.prog (zEC 117) 117 [.nils 0] [] (.own 2 []) []:=zBC.closed 50
theorem zWr:zBC Try.prog (zEC 117) 117 [.nn] [] (.own 2 []) []:=zBC.closed 50
theorem zWG (xs:List PV) (h:∀ y∈xs,y.plain=true∧y.cells.length=2) (hI:0<xs.length) (hl:xs.length≤4294967296):zBC Try.prog (zEC 117) 117 [.sl (xs.map idV)] [] (.own 2 (xs.map idV)) []:=by
 refine zAf Try.f117 ?_
 refine zAd 1<|zAa<|zAh<|zAd 1<|S_a [(0,.v (PV.bool false))] (ap (zNs (by omega):zGI Try.prog BinOp.eql 35 (PV.sl (List.map idV xs)) (zEr (Value.slice none 0 0))=some (PV.bool false)) an)<|zAa<|zAK<|zAl<|zAd 2<|S_a [(0,.ob),(0,.ob),(0,.ob),(3,.ob)] (ap (zUl h:((List.map idV xs).all fun x=>x.plain)=true)<|ap (zRj h (by kernel_rfl):((List.map idV xs).all fun y=>y.cells.length.beq ((fun x=>x.size) Try.prog.types[42])&&y.cells.all fun q=>q.oneCell)=true)<|ap (?_:(zBx (List.map idV xs)).isEmpty=true)<|ap ((by exact zA8 (by simp only [List.length_map,zzLn,zAY]<;>omega)):(0+(List.map idV xs).length).ble zAY=true) an)<|zAc 1<|zAa<|zAn<|E_a [(1,.yes),(1,.v (PV.own 2 (List.map idV (List.take ([]++List.map idV xs).length xs))))] (ap (blz ([]++List.map idV xs))<|ap ((by simp [zC9]):PV.own 2 (List.take ([]++List.map idV xs).length (List.drop 0 ([]++List.map idV xs)))=PV.own 2 (List.map idV (List.take ([]++List.map idV xs).length xs))) an) (PV.own 2 (List.map idV (List.take ([]++List.map idV xs).length xs))) [] (by simp [*]) rfl
 rw [zHT,zEQ fun y hy=>(h y hy).1];rfl
end
theorem zUm:∀ args hid v hX,zDG Try.prog Try.f71 1 args hid=some (v,hX)→zCx Try.prog 71∧zFo Try.prog 71 args hid v hX :=
 zKJ (f:=71) (fn:=Try.f71) (sz:=1) (by kernel_rfl) (zIl (by kernel_rfl)) (by kernel_rfl) (by kernel_rfl) (by kernel_rfl) (by kernel_rfl) (zG7 (@zXr yo0)) (zG7 (@zXv yo0)) fun x xs h hl=>by
  have:=zG7 (@zXl yo0 (x::xs) h (by simp) hl)
  rw [zHT] at this
  exact this
theorem zTy:∀ args hid v hX,zDG Try.prog Try.f115 1 args hid=some (v,hX)→zCx Try.prog 115∧zFo Try.prog 115 args hid v hX :=
 zKJ (f:=115) (fn:=Try.f115) (sz:=2) (by kernel_rfl) (zIl (by kernel_rfl)) (by kernel_rfl) (by kernel_rfl) (by kernel_rfl) (by kernel_rfl) (zG7 (@zWv yo0)) (zG7 (@zVX yo0)) fun x xs h hl=>by
  have:=zG7 (@zWc yo0 (x::xs) h (by simp) hl)
  rw [zHT] at this
  exact this
theorem zSF:∀ args hid v hX,zDG Try.prog Try.f117 1 args hid=some (v,hX)→zCx Try.prog 117∧zFo Try.prog 117 args hid v hX :=
 zKJ (f:=117) (fn:=Try.f117) (sz:=2) (by kernel_rfl) (zIl (by kernel_rfl)) (by kernel_rfl) (by kernel_rfl) (by kernel_rfl) (by kernel_rfl) (zG7 (@zVU yo0)) (zG7 (@zWr yo0)) fun x xs h hl=>by
  have:=zG7 (@zWG yo0 (x::xs) h (by simp) hl)
  rw [zHT] at this
  exact this
theorem zV1:∀ f∈[71,115,117],∀ fn,Try.prog.funcs[f]? = some fn→∀ args hid v hX,zDG Try.prog fn 1 args hid=some (v,hX)→zCx Try.prog f∧zFo Try.prog f args hid v hX:=by
 intro f hf fn uJ
 simp only [List.mem_cons,List.not_mem_nil,or_false] at hf
 rcases hf with rfl | rfl | rfl
 ·have e:Try.prog.funcs[71]? = some Try.f71:=by kernel_rfl
  rw [e] at uJ;cases uJ
  exact zUm
 ·have e:Try.prog.funcs[115]? = some Try.f115:=by kernel_rfl
  rw [e] at uJ;cases uJ
  exact zTy
 ·have e:Try.prog.funcs[117]? = some Try.f117:=by kernel_rfl
  rw [e] at uJ;cases uJ
  exact zSF
end Go.Eng
namespace Go.Proofs.Ytppbomajegnkeaa
open Go.ChangeShapes Go.WideShapes Go.ChangeAt Go.RowKit Go.Eng
theorem Try.own:ownKnob Try.prog.godebug=none:=by kernel_rfl
theorem Try.laidOut:laidOutB Try.prog=true:=by kernel_rfl
theorem zE9:Try.prog.follows .mixedOrders=true:=by kernel_rfl
theorem hnm:zEI Try.prog:=zIl (by kernel_rfl)
theorem zMJ:Fit Try.prog zBN:=zWx (by kernel_rfl)
theorem hin:zEw Try.prog zBN:=zSv [71,115,117] (by kernel_rfl) zV1
end Go.Proofs.Ytppbomajegnkeaa
namespace Go.Eng
open Go
theorem zPV {k:IntKind} {p:PV} (h:zUK (false,[.num k]) p):∃ n,p = .int k n∧k.min≤n∧n≤k.max:=by
 simp only [zUK,Bool.false_eq_true,if_false] at h
 obtain ⟨q,qs,hc,⟨n,rfl,hn⟩,qE⟩:=h
 cases hc
 exact ⟨n,rfl,hn⟩
theorem zQL {k:IntKind} {p:PV} (h:zUK (false,[.list false [.num k]]) p):∃ l:List Int,p = .sl (l.map (.int k))∧l.length≤maxLen∧∀ n∈l,k.min≤n∧n≤k.max:=by
 simp only [zUK,Bool.false_eq_true,if_false] at h
 obtain ⟨q,qs,hc,h,qE⟩:=h
 cases hc
 exact zTt h
end Go.Eng
set_option maxRecDepth 10000
set_option maxHeartbeats 4000000
namespace Go.Eng
open Go Go.Proofs
theorem zAH {α:Type} {l:List α} {i:Nat} {d:α} (h:i<l.length):l.getD i d=l[i]:=by simp [List.getD,List.getElem?_eq_getElem h]
theorem zGz {α β:Type} {f:β→α→β} {b:β} {l:List α} {i:Nat} {d:α} (h:i<l.length):(l.take (i+1)).foldl f b=f ((l.take i).foldl f b) (l.getD i d):=by
 rw [zAH h];exact zPD h
theorem zIX {α:Type} {l m:List α} {i:Nat} {d:α} (h:i<l.length) (h':i<m.length) (ha:l.take i=m.take i) (he:l.getD i d=m.getD i d):l.take (i+1)=m.take (i+1):=by
 rw [zAH h,zAH h'] at he
 rw [List.take_add_one,List.take_add_one,ha,List.getElem?_eq_getElem h,List.getElem?_eq_getElem h',he]
theorem zDk {α:Type} {l:List α} {i:Nat} {d:α} (h:i<l.length):l.take (i+1)=l.take i++[l.getD i d]:=by
 rw [List.take_add_one,List.getElem?_eq_getElem h,zAH h];rfl
theorem zCu {α:Type} {l:List α} {d:α} {p:α→Prop} (h:∀ x∈l,p x) (i:Nat) (hi:i<l.length):p (l.getD i d):=by
 rw [zAH hi];exact h _ (List.getElem_mem hi)
theorem zCS {l:List Int} {i j:Nat} {v:Int}:(l.set i v).getD j 0=if i=j∧j<l.length then v else l.getD j 0:=by
 simp only [List.getD_eq_getElem?_getD,List.getElem?_set]
 by_cases h:i=j
 ·subst h
  by_cases h2:i<l.length
  ·simp [h2]
  ·simp [h2]
 ·simp [h]
def zEg {α:Type} (φ:α→Bool) (l:List α):Int:=if l.findIdx φ<l.length then (l.findIdx φ:Int) else -1
theorem zBS {α : Type} {φ : α → Bool} {l : List α} {i : Nat} (h : i < l.length) (h0 : ∀ j (hj : j < i), φ (l[j]'(by omega)) = false) (hi : φ l[i] = true) : zEg φ l = i := by
 have:l.findIdx φ=i:=by
  rw [List.findIdx_eq h]
  exact ⟨hi,fun j hj=>by simpa using h0 j hj⟩
 simp [zEg,this,h]
theorem zCc {α : Type} {φ : α → Bool} {l : List α} (h0 : ∀ j (hj : j < l.length), φ (l[j]'hj) = false) : zEg φ l = -1 := by
 have:¬ l.findIdx φ<l.length:=by
  intro h
  have:=List.findIdx_getElem (w:=h)
  rw [h0 _ h] at this;cases this
 simp [zEg,this]
theorem zDP {α:Type} (φ:α→Bool) (l:List α):decide (zEg φ l≥0)=l.any φ:=by
 unfold zEg
 split
 ·rename_i h
  have:=List.findIdx_getElem (w:=h)
  have h2:l.any φ=true:=List.any_eq_true.2 ⟨_,List.getElem_mem h,this⟩
  rw [h2];simp
 ·rename_i h
  have h2:l.any φ=false:=by
   rw [List.any_eq_false]
   intro x hx hp
   exact h (List.findIdx_lt_length_of_exists ⟨x,hx,hp⟩)
  rw [h2];simp
structure Nw where
 h:Int
 l:List (Int×Int)
 n:List (Int×Bool)
 s:List (List Int)
abbrev prV (x:Int×Int):PV := .agg [I x.1,I x.2]
abbrev ntV (x:Int×Bool):PV := .agg [I x.1,.bool x.2]
abbrev prs (l:List (Int×Int)):PV := .sl (l.map prV)
abbrev zKr (l:List Int):PV := .own 1 (l.map I)
abbrev nwV (n:Nw):PV := .agg [I n.h,.sl (n.l.map prV),.sl (n.n.map ntV),.sl (n.s.map zBp)]
abbrev nwO (n:Nw):PV := .agg [I n.h,.own 2 (n.l.map prV),.own 2 (n.n.map ntV),.own 1 (n.s.map zKr)]
instance:FrzOf zKr zBp:=⟨fun x=>by simp only [zAR,zFz]⟩
def inB (n lo hi:Int):Bool:=decide (lo≤n)&&decide (n≤hi)
def pr2 (x:Int×Int):Int×Int:=(if x.2<x.1 then x.2 else x.1,if x.2>x.1 then x.2 else x.1)
abbrev FG [Yo] (f:FuncId) (args:List PV) (v:PV):Prop:=zBC Try.prog zBN f args [] v []
section
variable [Yo]
theorem f63 (n lo hi:Int):FG 63 [I n,I lo,I hi] (.bool (inB n lo hi)):=by
 refine zAf Try.f63 ?_
 refine zAd 1<|zAa<|zAd 4<|zLr 10 (n≥lo) (fun k0=>(zAc 5<|zAa<|zAn<|E_a [] an (PV.bool (decide (n≤hi))) [] ?_ rfl)) (fun k0=>(zAc 5<|zAa<|zAn<|E_a [] an (PV.bool false) [] ?_ rfl))
 ·simp only [inB,decide_eq_true k0,Bool.true_and]
 ·simp only [inB,decide_eq_false k0,Bool.false_and]
theorem f94 (n k:Int):FG 94 [I n,.sl [I k]] (I (max n k)):=by
 refine zAf Try.f94 ?_
 refine zAd 1<|zAa<|zAh<|zAd 1<|zAc 1<|zAc 1<|zAa<|zAk 0 ?_
 refine zAD (fun (i,v)=>i=0∧v=n∨i=1∧v=if k>n then k else n) (fun (i,v)=>[(0,I v),(9,I (i:Nat))]) (fun (i,_)=>1-i) ((0:Nat),n) (.inl ⟨rfl,rfl⟩) fun (i,v) hi=>?_
 rcases hi with ⟨rfl,rfl⟩ | ⟨rfl,rfl⟩
 ·refine zAd 1<|zAa<|zAh<|zEb<|zAl<|zAh<|zAk 1<|zAd 3<|zAa<|zAg<|zAc 4<|zAa<|zAg<|zAc 2<|zAa ?_
  exact ⟨(1,if k>v then k else v),.inr ⟨rfl,rfl⟩,by simp only;omega,by kernel_rfl,by kernel_rfl⟩
 ·refine zAd 1<|zAa<|zAh<|zAK<|zAS 0<|zAd 2<|zAa<|zAn<|E_a [] an (I (if k>n then k else n)) [] ?_ rfl
  rw [Int.max_def]
  by_cases h:k>n
  ·rw [if_pos h,if_pos (by omega)]
  ·rw [if_neg h];split
   ·have:n=k:=by omega
    rw [this]
   ·rfl
theorem f93 (x:Int×Int):FG 93 [prV x] (prV (pr2 x)):=by
 refine zAf Try.f93 ?_
 refine zAd 2<|zAa<|zAd 1<|zAc 1<|zAc 1<|zAc 2<|zAc 1<|zAc 1<|zAc 1<|zAc 4<|zAa<|zAn<|E_a [] an (PV.agg [I (if x.snd<x.fst then x.snd else x.fst),I (if x.snd>x.fst then x.snd else x.fst)]) [] rfl rfl
theorem f69 (n:Nw) (x:Int) (hb:1≤n.h∧n.h≤10):FG 69 [nwV n,I x] (.bool (inB x 0 (n.h-1))):=by
 refine zAf Try.f69 ?_
 refine zAd 2<|zAa<|zAd 3<|S_a [(1,.v (I (n.h-1)))] (ap ((zCo rfl (by omega)):I (IntKind.i64.wrap (n.h-1))=I (n.h-1)) an)<|S_a [(10,.ret (PV.bool (inB x 0 (n.h-1))) [])] (ap (f63 x (0) (n.h-1)) an)<|zAc 1<|zAa<|zAn<|E_a [] an (PV.bool (inB x 0 (n.h-1))) [] rfl rfl
theorem f73 (n:Nw) (x:Int) (hb:n.n.length≤8):FG 73 [nwV n,I x] (.bool (inB x 0 (n.n.length-1))):=by
 refine zAf Try.f73 ?_
 refine zAd 2<|zAa<|zAd 3<|S_a [(0,.n n.n.length)] (ap (lnS ntV n.n) an)<|S_a [(1,.v (I ((↑n.n.length:Int)-1)))] (ap ((zCo rfl (by omega)):I (IntKind.i64.wrap ((↑n.n.length:Int)-1))=I ((↑n.n.length:Int)-1)) an)<|S_a [(10,.ret (PV.bool (inB x 0 ((↑n.n.length:Int)-1))) [])] (ap (f63 x (0) ((↑n.n.length:Int)-1)) an)<|zAc 1<|zAa<|zAn<|E_a [] an (PV.bool (inB x 0 ((↑n.n.length:Int)-1))) [] rfl rfl
end
end Go.Eng
namespace Go.Eng
open Go
end Go.Eng
namespace Go.Eng
open Go Go.Proofs
abbrev u8 (n:Int):PV := .int .u8 n
abbrev u32 (n:Int):PV := .int .u32 n
abbrev zB3 (l:List Int) (a:Nat) (t:Int):PV := .box (.agg [.sl (l.map u8),I a,u32 t])
abbrev zO5:PV := .addr 50000000 [] 0 0 (some 3)
def zDU (l:List Int) (a:Nat):Prop:=a≤l.length∧l.length<9223372036854775808
def zGm (l:List Int) (a:Nat):Nat:=if a=l.length then 0 else a
def zAI (l:List Int) (a:Nat) (t:Int):Int:=if a=l.length then IntKind.u32.wrap (t+1) else t
def zAB (l:List Int) (a:Nat):Nat:=if 0<l.length then zGm l a+1 else zGm l a
theorem zCv {l:List Int} {a:Nat} (h:zDU l a):zDU l (zAB l a):=by
 obtain ⟨h1,h2⟩:=h
 refine ⟨?_,h2⟩
 unfold zAB zGm
 repeat' split
 all_goals omega
def zPJ (n:Int):Int:=IntKind.u32.wrap ↑(BitVec.ofInt IntKind.u32.bits (IntKind.u32.wrap ↑(BitVec.ofInt IntKind.u32.bits n ^^^ BitVec.ofInt IntKind.u32.bits (n.fdiv (2 ^ min (Int.toNat 7) IntKind.u32.bits))).toNat) &&& BitVec.ofInt IntKind.u32.bits 65535).toNat
theorem zOa (n:Int):0≤zPJ n∧zPJ n≤65535:=by
 unfold zPJ
 generalize BitVec.ofInt IntKind.u32.bits (IntKind.u32.wrap ↑(BitVec.ofInt IntKind.u32.bits n ^^^ BitVec.ofInt IntKind.u32.bits (n.fdiv (2 ^ min (Int.toNat 7) IntKind.u32.bits))).toNat)=x
 have h:(x &&& BitVec.ofInt IntKind.u32.bits 65535).toNat≤65535:=by
  rw [BitVec.toNat_and]
  exact Nat.le_trans Nat.and_le_right (by decide)
 generalize (x &&& BitVec.ofInt IntKind.u32.bits 65535).toNat=m at h
 have:IntKind.u32.wrap (m:Int)=m:=by
  simp only [IntKind.wrap]
  simp [IntKind.signed,IntKind.bits]
  omega
 rw [this];omega
def zHt (l:List Int) (a:Nat) (t:Int):Int:=zPJ (if 0<l.length then IntKind.u32.wrap (IntKind.u32.wrap (30011*zAI l a t)+IntKind.u32.wrap (263*IntKind.u32.wrap (l.getD (zGm l a) 0))) else IntKind.u32.wrap (30011*zAI l a t))
theorem zSK (l:List Int) (a:Nat) (t:Int):0≤zHt l a t∧zHt l a t≤65535:=zOa _
def zAp (l:List Int) (a:Nat) (t:Int) (n:Int):Int:=(zHt l a t).tmod (max 1 (n+1))
theorem zCw (l:List Int) (a:Nat) (t:Int) (n:Int):0≤zAp l a t n∧zAp l a t n≤max 0 n:=by
 have h1:=zSK l a t
 have h2:0<max 1 (n+1):=by omega
 have h3:=Int.tmod_nonneg (max 1 (n+1)) h1.1
 have h4:=Int.tmod_lt_of_pos (zHt l a t) h2
 unfold zAp
 omega
section
variable [Yo]
theorem f7 (l:List Int):FG 7 [.sl (l.map u8)] (zB3 l 0 0):=by
 refine zAf Try.f7 ?_
 refine zAd 1<|zAa<|zAd 4<|zAa<|zAn<|E_a [] an ((PV.agg [PV.sl (List.map u8 l),I 0,PV.int IntKind.u32 0]).box) [] rfl rfl
theorem f79 (l:List Int) (a:Nat) (t:Int) (h:zDU l a):zBC Try.prog zBN 79 [zO5] [zB3 l a t] (I (zHt l a t)) [zB3 l (zAB l a) (zAI l a t)]:=by
 refine zAf Try.f79 ?_
 have h1:=h.1
 have h2:=h.2
 have hb:∀ n,-9223372036854775808≤zPJ n∧zPJ n<9223372036854775808:=fun n=>by have:=zOa n;omega
 refine zAd 1<|zAa<|zAh<|zAd 8<|S_a [(0,.n l.length)] (ap (lnS u8 l) an)<|zAc 1<|zAa<|zDo ((↑a:Int)=(↑l.length:Int)) (fun k0=>(zAg<|zAc 6<|zAc 1<|zAc 6<|zAa<|zAd 3<|zAc 1<|zAc 1<|zAc 1<|zAa<|zAh<|zAd 4<|S_a [(0,.n l.length)] (ap (lnS u8 l) an)<|zAc 1<|zAa<|zDo ((↑l.length:Int)>0) (fun k1=>(zAd 9<|S_a [(2,.v (PV.int IntKind.u8 (l.getD 0 0)))] (ap (zDn (0) (by omega):(List.map u8 l)[0]? = some (PV.int IntKind.u8 (l.getD 0 0))) an)<|zAc 1<|zAc 1<|zAc 1<|zAc 1<|zAc 1<|zAa<|zAg<|zAc 8<|zAa<|zAd 2<|zAc 1<|zAc 1<|zAc 1<|S_a [(0,.v (I (IntKind.u32.wrap (↑(BitVec.ofInt IntKind.u32.bits (IntKind.u32.wrap (↑(BitVec.ofInt IntKind.u32.bits (IntKind.u32.wrap (IntKind.u32.wrap (30011*IntKind.u32.wrap (t+1))+IntKind.u32.wrap (263*IntKind.u32.wrap (l.getD 0 0)))) ^^^ BitVec.ofInt IntKind.u32.bits ((IntKind.u32.wrap (IntKind.u32.wrap (30011*IntKind.u32.wrap (t+1))+IntKind.u32.wrap (263*IntKind.u32.wrap (l.getD 0 0)))).fdiv (2 ^ min (Int.toNat 7) IntKind.u32.bits))).toNat:Int)) &&& BitVec.ofInt IntKind.u32.bits 65535).toNat:Int))))] (ap ((zCo rfl ?_):I (IntKind.i64.wrap (IntKind.u32.wrap (↑(BitVec.ofInt IntKind.u32.bits (IntKind.u32.wrap (↑(BitVec.ofInt IntKind.u32.bits (IntKind.u32.wrap (IntKind.u32.wrap (30011*IntKind.u32.wrap (t+1))+IntKind.u32.wrap (263*IntKind.u32.wrap (l.getD 0 0)))) ^^^ BitVec.ofInt IntKind.u32.bits ((IntKind.u32.wrap (IntKind.u32.wrap (30011*IntKind.u32.wrap (t+1))+IntKind.u32.wrap (263*IntKind.u32.wrap (l.getD 0 0)))).fdiv (2 ^ min (Int.toNat 7) IntKind.u32.bits))).toNat:Int)) &&& BitVec.ofInt IntKind.u32.bits 65535).toNat:Int)))=I (IntKind.u32.wrap (↑(BitVec.ofInt IntKind.u32.bits (IntKind.u32.wrap (↑(BitVec.ofInt IntKind.u32.bits (IntKind.u32.wrap (IntKind.u32.wrap (30011*IntKind.u32.wrap (t+1))+IntKind.u32.wrap (263*IntKind.u32.wrap (l.getD 0 0)))) ^^^ BitVec.ofInt IntKind.u32.bits ((IntKind.u32.wrap (IntKind.u32.wrap (30011*IntKind.u32.wrap (t+1))+IntKind.u32.wrap (263*IntKind.u32.wrap (l.getD 0 0)))).fdiv (2 ^ min (Int.toNat 7) IntKind.u32.bits))).toNat:Int)) &&& BitVec.ofInt IntKind.u32.bits 65535).toNat:Int))) an)<|zAc 1<|zAa<|zAn<|E_a [] an (I (IntKind.u32.wrap (↑(BitVec.ofInt IntKind.u32.bits (IntKind.u32.wrap (↑(BitVec.ofInt IntKind.u32.bits (IntKind.u32.wrap (IntKind.u32.wrap (30011*IntKind.u32.wrap (t+1))+IntKind.u32.wrap (263*IntKind.u32.wrap (l.getD 0 0)))) ^^^ BitVec.ofInt IntKind.u32.bits ((IntKind.u32.wrap (IntKind.u32.wrap (30011*IntKind.u32.wrap (t+1))+IntKind.u32.wrap (263*IntKind.u32.wrap (l.getD 0 0)))).fdiv (2 ^ min (Int.toNat 7) IntKind.u32.bits))).toNat:Int)) &&& BitVec.ofInt IntKind.u32.bits 65535).toNat:Int))) ([(PV.agg [PV.sl (List.map u8 l),I (IntKind.i64.wrap (0+1)),PV.int IntKind.u32 (IntKind.u32.wrap (t+1))]).box]) ?_ ?_)) (fun k1=>(zAl<|zAd 2<|zAc 1<|zAc 1<|zAc 1<|S_a [(0,.v (I (IntKind.u32.wrap (↑(BitVec.ofInt IntKind.u32.bits (IntKind.u32.wrap (↑(BitVec.ofInt IntKind.u32.bits (IntKind.u32.wrap (30011*IntKind.u32.wrap (t+1))) ^^^ BitVec.ofInt IntKind.u32.bits ((IntKind.u32.wrap (30011*IntKind.u32.wrap (t+1))).fdiv (2 ^ min (Int.toNat 7) IntKind.u32.bits))).toNat:Int)) &&& BitVec.ofInt IntKind.u32.bits 65535).toNat:Int))))] (ap ((zCo rfl ?_):I (IntKind.i64.wrap (IntKind.u32.wrap (↑(BitVec.ofInt IntKind.u32.bits (IntKind.u32.wrap (↑(BitVec.ofInt IntKind.u32.bits (IntKind.u32.wrap (30011*IntKind.u32.wrap (t+1))) ^^^ BitVec.ofInt IntKind.u32.bits ((IntKind.u32.wrap (30011*IntKind.u32.wrap (t+1))).fdiv (2 ^ min (Int.toNat 7) IntKind.u32.bits))).toNat:Int)) &&& BitVec.ofInt IntKind.u32.bits 65535).toNat:Int)))=I (IntKind.u32.wrap (↑(BitVec.ofInt IntKind.u32.bits (IntKind.u32.wrap (↑(BitVec.ofInt IntKind.u32.bits (IntKind.u32.wrap (30011*IntKind.u32.wrap (t+1))) ^^^ BitVec.ofInt IntKind.u32.bits ((IntKind.u32.wrap (30011*IntKind.u32.wrap (t+1))).fdiv (2 ^ min (Int.toNat 7) IntKind.u32.bits))).toNat:Int)) &&& BitVec.ofInt IntKind.u32.bits 65535).toNat:Int))) an)<|zAc 1<|zAa<|zAn<|E_a [] an (I (IntKind.u32.wrap (↑(BitVec.ofInt IntKind.u32.bits (IntKind.u32.wrap (↑(BitVec.ofInt IntKind.u32.bits (IntKind.u32.wrap (30011*IntKind.u32.wrap (t+1))) ^^^ BitVec.ofInt IntKind.u32.bits ((IntKind.u32.wrap (30011*IntKind.u32.wrap (t+1))).fdiv (2 ^ min (Int.toNat 7) IntKind.u32.bits))).toNat:Int)) &&& BitVec.ofInt IntKind.u32.bits 65535).toNat:Int))) ([(PV.agg [PV.sl (List.map u8 l),I 0,PV.int IntKind.u32 (IntKind.u32.wrap (t+1))]).box]) ?_ ?_)))) (fun k0=>(zAl<|zAd 4<|zAc 1<|zAc 1<|zAa<|zAh<|zAd 4<|S_a [(0,.n l.length)] (ap (lnS u8 l) an)<|zAc 1<|zAa<|zBj ((↑l.length:Int)>0) (by omega)<|zAd 9<|S_a [(2,.v (PV.int IntKind.u8 (l.getD a 0)))] (ap (zDn (0) (by omega):(List.map u8 l)[a]? = some (PV.int IntKind.u8 (l.getD a 0))) an)<|zAc 1<|zAc 1<|zAc 1<|zAc 1<|zAc 1<|zAa<|zAg<|zAc 4<|S_a [(1,.v (I (↑(a+1):Int)))] (ap (wrN a) an)<|zAc 3<|zAa<|zAd 2<|zAc 1<|zAc 1<|zAc 1<|S_a [(0,.v (I (IntKind.u32.wrap (↑(BitVec.ofInt IntKind.u32.bits (IntKind.u32.wrap (↑(BitVec.ofInt IntKind.u32.bits (IntKind.u32.wrap (IntKind.u32.wrap (30011*t)+IntKind.u32.wrap (263*IntKind.u32.wrap (l.getD a 0)))) ^^^ BitVec.ofInt IntKind.u32.bits ((IntKind.u32.wrap (IntKind.u32.wrap (30011*t)+IntKind.u32.wrap (263*IntKind.u32.wrap (l.getD a 0)))).fdiv (2 ^ min (Int.toNat 7) IntKind.u32.bits))).toNat:Int)) &&& BitVec.ofInt IntKind.u32.bits 65535).toNat:Int))))] (ap ((zCo rfl ?_):I (IntKind.i64.wrap (IntKind.u32.wrap (↑(BitVec.ofInt IntKind.u32.bits (IntKind.u32.wrap (↑(BitVec.ofInt IntKind.u32.bits (IntKind.u32.wrap (IntKind.u32.wrap (30011*t)+IntKind.u32.wrap (263*IntKind.u32.wrap (l.getD a 0)))) ^^^ BitVec.ofInt IntKind.u32.bits ((IntKind.u32.wrap (IntKind.u32.wrap (30011*t)+IntKind.u32.wrap (263*IntKind.u32.wrap (l.getD a 0)))).fdiv (2 ^ min (Int.toNat 7) IntKind.u32.bits))).toNat:Int)) &&& BitVec.ofInt IntKind.u32.bits 65535).toNat:Int)))=I (IntKind.u32.wrap (↑(BitVec.ofInt IntKind.u32.bits (IntKind.u32.wrap (↑(BitVec.ofInt IntKind.u32.bits (IntKind.u32.wrap (IntKind.u32.wrap (30011*t)+IntKind.u32.wrap (263*IntKind.u32.wrap (l.getD a 0)))) ^^^ BitVec.ofInt IntKind.u32.bits ((IntKind.u32.wrap (IntKind.u32.wrap (30011*t)+IntKind.u32.wrap (263*IntKind.u32.wrap (l.getD a 0)))).fdiv (2 ^ min (Int.toNat 7) IntKind.u32.bits))).toNat:Int)) &&& BitVec.ofInt IntKind.u32.bits 65535).toNat:Int))) an)<|zAc 1<|zAa<|zAn<|E_a [] an (I (IntKind.u32.wrap (↑(BitVec.ofInt IntKind.u32.bits (IntKind.u32.wrap (↑(BitVec.ofInt IntKind.u32.bits (IntKind.u32.wrap (IntKind.u32.wrap (30011*t)+IntKind.u32.wrap (263*IntKind.u32.wrap (l.getD a 0)))) ^^^ BitVec.ofInt IntKind.u32.bits ((IntKind.u32.wrap (IntKind.u32.wrap (30011*t)+IntKind.u32.wrap (263*IntKind.u32.wrap (l.getD a 0)))).fdiv (2 ^ min (Int.toNat 7) IntKind.u32.bits))).toNat:Int)) &&& BitVec.ofInt IntKind.u32.bits 65535).toNat:Int))) ([(PV.agg [PV.sl (List.map u8 l),I (↑(a+1):Int),PV.int IntKind.u32 t]).box]) ?_ ?_))
 ·exact hb _
 ·have e1:a=l.length:=by omega
  have e2:0<l.length:=by omega
  simp only [zHt,zGm,zAI,e1,e2,if_true];rfl
 ·have e1:a=l.length:=by omega
  have e2:0<l.length:=by omega
  simp only [zAB,zGm,zAI,e1,e2,if_true];rfl
 ·exact hb _
 ·have e1:a=l.length:=by omega
  have e2:¬ 0<l.length:=by omega
  simp only [zHt,zGm,zAI,e1,e2,if_true,if_false];rfl
 ·have e1:a=l.length:=by omega
  have e2:¬ 0<l.length:=by omega
  simp only [zAB,zGm,zAI,e1,e2,if_true,if_false];rfl
 ·exact hb _
 ·have e1:¬ a=l.length:=by omega
  have e2:0<l.length:=by omega
  simp only [zHt,zGm,zAI,e1,e2,if_true,if_false];rfl
 ·have e1:¬ a=l.length:=by omega
  have e2:0<l.length:=by omega
  simp only [zAB,zGm,zAI,e1,e2,if_true,if_false]
theorem f38 (l:List Int) (a:Nat) (t:Int) (n:Int) (h:zDU l a) (hn : -9000000000000000000≤n∧n≤9000000000000000000):zBC Try.prog zBN 38 [zO5,I n] [zB3 l a t] (I (zAp l a t n)) [zB3 l (zAB l a) (zAI l a t)]:=by
 refine zAf Try.f38 ?_
 have e:(if n+1>1 then n+1 else 1)=max 1 (n+1):=by split<;>omega
 refine zAd 1<|zAa<|zAd 1<|S_a [(4,.ret (I (zHt l a t)) ([zB3 l (zAB l a) (zAI l a t)]))] (ap (f79 l a t (by omega)) an)<|zAc 1<|S_a [(1,.v (I (n+1)))] (ap ((zCo rfl (by omega)):I (IntKind.i64.wrap (n+1))=I (n+1)) an)<|zAc 1<|S_a [(0,.v (I ((zHt l a t).tmod (if n+1>1 then n+1 else 1))))] (ap (zQs (by omega) rfl:zGI Try.prog BinOp.rem 3 (I (zHt l a t)) (I (if n+1>1 then n+1 else 1))=some (I ((zHt l a t).tmod (if n+1>1 then n+1 else 1)))) an)<|zAc 1<|zAa<|zAn<|E_a [] an (I ((zHt l a t).tmod (if n+1>1 then n+1 else 1))) ([(PV.agg [PV.sl (List.map u8 l),I (↑(zAB l a):Int),PV.int IntKind.u32 (zAI l a t)]).box]) ?_ rfl
 rw [e];rfl
theorem f36 (l:List Int) (a:Nat) (t:Int) (lo hi:Int) (h:zDU l a) (hl:0≤lo∧lo≤1000000) (hn:0≤hi∧hi≤1000000):zBC Try.prog zBN 36 [zO5,I lo,I hi] [zB3 l a t] (I (lo+zAp l a t (hi-lo))) [zB3 l (zAB l a) (zAI l a t)]:=by
 refine zAf Try.f36 ?_
 have:=zCw l a t (hi-lo)
 refine zAd 1<|zAa<|zAd 4<|S_a [(1,.v (I (hi-lo)))] (ap ((zCo rfl (by omega)):I (IntKind.i64.wrap (hi-lo))=I (hi-lo)) an)<|S_a [(6,.ret (I (zAp l a t (hi-lo))) ([zB3 l (zAB l a) (zAI l a t)]))] (ap (f38 l a t (hi-lo) (by omega) (by omega)) an)<|S_a [(1,.v (I (lo+zAp l a t (hi-lo))))] (ap ((zCo rfl (by omega)):I (IntKind.i64.wrap (lo+zAp l a t (hi-lo)))=I (lo+zAp l a t (hi-lo))) an)<|zAc 1<|zAa<|zAn<|E_a [] an (I (lo+zAp l a t (hi-lo))) ([(PV.agg [PV.sl (List.map u8 l),I (↑(zAB l a):Int),PV.int IntKind.u32 (zAI l a t)]).box]) rfl rfl
theorem f37 (l:List Int) (a:Nat) (t:Int) (n:Int) (h:zDU l a) (hn:0≤n∧n≤1000000):zBC Try.prog zBN 37 [zO5,I n] [zB3 l a t] (.bool (decide (zAp l a t (n-1)=0))) [zB3 l (zAB l a) (zAI l a t)]:=by
 refine zAf Try.f37 ?_
 refine zAd 1<|zAa<|zAd 2<|S_a [(1,.v (I (n-1)))] (ap ((zCo rfl (by omega)):I (IntKind.i64.wrap (n-1))=I (n-1)) an)<|S_a [(6,.ret (I (zAp l a t (n-1))) ([zB3 l (zAB l a) (zAI l a t)]))] (ap (f38 l a t (n-1) (by omega) (by omega)) an)<|zAc 2<|zAa<|zAn<|E_a [] an (PV.bool (zAp l a t (n-1)==0)) ([(PV.agg [PV.sl (List.map u8 l),I (↑(zAB l a):Int),PV.int IntKind.u32 (zAI l a t)]).box]) rfl rfl
end
end Go.Eng
set_option maxRecDepth 10000
set_option maxHeartbeats 4000000
namespace Go.Eng
open Go Go.Proofs
def has {α:Type} [DecidableEq α] (l:List α) (x:α):Bool:=l.any fun y=>decide (x=y)
theorem zUS {α:Type} [DecidableEq α] {l:List α} {x:α}:has l x=decide (x∈l):=by
 rw [Bool.eq_iff_iff];simp [has]
theorem zPU {x y:Int×Int}:(decide (x.1=y.1)&&decide (x.2=y.2))=decide (x=y):=by
 rw [Bool.eq_iff_iff];simp [Prod.ext_iff]
section
variable [Yo]
theorem f75 (l m:List (Int)) (hl:l.length<4294967296):FG 75 [.sl (l.map I),.sl (m.map I)] (.bool (decide (l=m))):=by
 refine zAf Try.f75 ?_
 refine zAd 1<|zAa<|zAh<|zAd 1<|S_a [(0,.n l.length)] (ap (lnS I l) an)<|zAc 1<|S_a [(0,.n m.length)] (ap (lnS I m) an)<|zAc 1<|zAa<|zEc ((↑l.length:Int)=(↑m.length:Int)) (fun k0=>(zAd 1<|zAa<|zAn<|E_a [] an (PV.bool false) [] ?_ rfl)) (fun k0=>(zAl<|zAh<|zAd 1<|S_a [(0,.n l.length)] (ap (lnS I l) an)<|zAc 1<|zAa<|zAk 0 ?_))
 ·simp;intro h;subst h;simp at *
 refine zAD (fun i=>i≤l.length∧l.take i=m.take i) (fun i=>[(13,I (i:Nat))]) (fun i=>l.length-i) (0:Nat) (by simp) fun i ⟨hi,ha⟩=>?_
 refine zAd 1<|zAa<|zAh<|zDo ((↑i:Int)<(↑l.length:Int)) (fun k1=>(zAl<|zAh<|zAk 1<|zAd 2<|zAa<|zAd 2<|S_a [(2,.v (I (l.getD i 0)))] (ap (zDn (0) (by omega):(List.map I l)[i]? = some (I (l.getD i 0))) an)<|zAc 3<|S_a [(2,.v (I (m.getD i 0)))] (ap (zDn (0) (by omega):(List.map I m)[i]? = some (I (m.getD i 0))) an)<|zAc 2<|zAa<|zEc (l.getD i 0=m.getD i 0) (fun k2=>(zAd 1<|zAa<|zAn<|E_a [] an (PV.bool false) [] ?_ rfl)) (fun k2=>(zAl<|zAg<|S_a [(1,.v (I (↑(i+1):Int)))] (ap (wrN i) an)<|zAc 1<|zAa ?_)))) (fun k1=>(zAS 0<|zAd 1<|zAa<|zAn<|E_a [] an (PV.bool true) [] ?_ rfl))
 ·simp;intro h;subst h;omega
 ·refine ⟨i+1,⟨by omega,?_⟩,by omega,by kernel_rfl,by kernel_rfl⟩
  exact zIX (d:=0) (by omega) (by omega) ha (by assumption)
 ·rw [List.take_of_length_le (by omega),List.take_of_length_le (by omega)] at ha
  simp [ha]
theorem f33 (l m:List (Int)) (hl:l.length<4294967296):FG 33 [.sl (l.map I),.sl (m.map I)] (.bool (decide (l=m))):=by
 refine zAf Try.f33 ?_
 refine zAd 1<|zAa<|zAd 2<|S_a [(8,.ret (PV.bool (decide (l=m))) [])] (ap (f75 l m (by omega)) an)<|zAc 1<|zAa<|zAn<|E_a [] an (PV.bool (decide (l=m))) [] rfl rfl
theorem f88 (l m:List (Int×Int)) (hl:l.length<4294967296):FG 88 [.sl (l.map prV),.sl (m.map prV)] (.bool (decide (l=m))):=by
 refine zAf Try.f88 ?_
 refine zAd 1<|zAa<|zAh<|zAd 1<|S_a [(0,.n l.length)] (ap (lnS prV l) an)<|zAc 1<|S_a [(0,.n m.length)] (ap (lnS prV m) an)<|zAc 1<|zAa<|zEc ((↑l.length:Int)=(↑m.length:Int)) (fun k0=>(zAd 1<|zAa<|zAn<|E_a [] an (PV.bool false) [] ?_ rfl)) (fun k0=>(zAl<|zAh<|zAd 1<|S_a [(0,.n l.length)] (ap (lnS prV l) an)<|zAc 1<|zAa<|zAk 0 ?_))
 ·simp;intro h;subst h;simp at *
 refine zAD (fun i=>i≤l.length∧l.take i=m.take i) (fun i=>[(13,I (i:Nat))]) (fun i=>l.length-i) (0:Nat) (by simp) fun i ⟨hi,ha⟩=>?_
 refine zAd 1<|zAa<|zAh<|zDo ((↑i:Int)<(↑l.length:Int)) (fun k1=>(zAl<|zAh<|zAk 1<|zAd 2<|zAa<|zAd 2<|S_a [(2,.v (PV.agg [I (l.getD i default).fst,I (l.getD i default).snd]))] (ap (zDn default (by omega):(List.map prV l)[i]? = some (PV.agg [I (l.getD i default).fst,I (l.getD i default).snd])) an)<|zAc 3<|S_a [(2,.v (PV.agg [I (m.getD i default).fst,I (m.getD i default).snd]))] (ap (zDn default (by omega):(List.map prV m)[i]? = some (PV.agg [I (m.getD i default).fst,I (m.getD i default).snd])) an)<|zAc 1<|S_a [(0,.v (PV.bool !(decide ((l.getD i default).fst=(m.getD i default).fst)&&decide ((l.getD i default).snd=(m.getD i default).snd))))] (ap (zP5:zGI Try.prog BinOp.neq 42 (PV.agg [I (l.getD i default).fst,I (l.getD i default).snd]) (PV.agg [I (m.getD i default).fst,I (m.getD i default).snd])=some (PV.bool !(decide ((l.getD i default).fst=(m.getD i default).fst)&&decide ((l.getD i default).snd=(m.getD i default).snd)))) an)<|zAa<|zFh (!(decide ((l.getD i default).fst=(m.getD i default).fst)&&decide ((l.getD i default).snd=(m.getD i default).snd))) (fun k2=>(zAd 1<|zAa<|zAn<|E_a [] an (PV.bool false) [] ?_ rfl)) (fun k2=>(zAl<|zAg<|S_a [(1,.v (I (↑(i+1):Int)))] (ap (wrN i) an)<|zAc 1<|zAa ?_)))) (fun k1=>(zAS 0<|zAd 1<|zAa<|zAn<|E_a [] an (PV.bool true) [] ?_ rfl))
 ·simp;intro h;subst h;simp at *
 ·refine ⟨i+1,⟨by omega,?_⟩,by omega,by kernel_rfl,by kernel_rfl⟩
  exact zIX (d:=default) (by omega) (by omega) ha (by first | assumption | (simp only [Bool.not_eq_true,Bool.not_eq_false',Bool.and_eq_true,decide_eq_true_eq] at k2;exact Prod.ext k2.1 k2.2))
 ·rw [List.take_of_length_le (by omega),List.take_of_length_le (by omega)] at ha
  simp [ha]
theorem f50 (l m:List (Int×Int)) (hl:l.length<4294967296):FG 50 [.sl (l.map prV),.sl (m.map prV)] (.bool (decide (l=m))):=by
 refine zAf Try.f50 ?_
 refine zAd 1<|zAa<|zAd 2<|S_a [(8,.ret (PV.bool (decide (l=m))) [])] (ap (f88 l m (by omega)) an)<|zAc 1<|zAa<|zAn<|E_a [] an (PV.bool (decide (l=m))) [] rfl rfl
theorem f92 (l m:List (Int×Int)) (hl:l.length<4294967296):FG 92 [.sl (l.map prV),.sl (m.map prV)] (.bool (decide (l=m))):=by
 refine zAf Try.f92 ?_
 refine zAd 1<|zAa<|zAh<|zAd 1<|S_a [(0,.n l.length)] (ap (lnS prV l) an)<|zAc 1<|S_a [(0,.n m.length)] (ap (lnS prV m) an)<|zAc 1<|zAa<|zEc ((↑l.length:Int)=(↑m.length:Int)) (fun k0=>(zAd 1<|zAa<|zAn<|E_a [] an (PV.bool false) [] ?_ rfl)) (fun k0=>(zAl<|zAh<|zAd 1<|S_a [(0,.n l.length)] (ap (lnS prV l) an)<|zAc 1<|zAa<|zAk 0 ?_))
 ·simp;intro h;subst h;simp at *
 refine zAD (fun i=>i≤l.length∧l.take i=m.take i) (fun i=>[(13,I (i:Nat))]) (fun i=>l.length-i) (0:Nat) (by simp) fun i ⟨hi,ha⟩=>?_
 refine zAd 1<|zAa<|zAh<|zDo ((↑i:Int)<(↑l.length:Int)) (fun k1=>(zAl<|zAh<|zAk 1<|zAd 2<|zAa<|zAd 2<|S_a [(2,.v (PV.agg [I (l.getD i default).fst,I (l.getD i default).snd]))] (ap (zDn default (by omega):(List.map prV l)[i]? = some (PV.agg [I (l.getD i default).fst,I (l.getD i default).snd])) an)<|zAc 3<|S_a [(2,.v (PV.agg [I (m.getD i default).fst,I (m.getD i default).snd]))] (ap (zDn default (by omega):(List.map prV m)[i]? = some (PV.agg [I (m.getD i default).fst,I (m.getD i default).snd])) an)<|zAc 1<|S_a [(0,.v (PV.bool !(decide ((l.getD i default).fst=(m.getD i default).fst)&&decide ((l.getD i default).snd=(m.getD i default).snd))))] (ap (zP5:zGI Try.prog BinOp.neq 34 (PV.agg [I (l.getD i default).fst,I (l.getD i default).snd]) (PV.agg [I (m.getD i default).fst,I (m.getD i default).snd])=some (PV.bool !(decide ((l.getD i default).fst=(m.getD i default).fst)&&decide ((l.getD i default).snd=(m.getD i default).snd)))) an)<|zAa<|zFh (!(decide ((l.getD i default).fst=(m.getD i default).fst)&&decide ((l.getD i default).snd=(m.getD i default).snd))) (fun k2=>(zAd 1<|zAa<|zAn<|E_a [] an (PV.bool false) [] ?_ rfl)) (fun k2=>(zAl<|zAg<|S_a [(1,.v (I (↑(i+1):Int)))] (ap (wrN i) an)<|zAc 1<|zAa ?_)))) (fun k1=>(zAS 0<|zAd 1<|zAa<|zAn<|E_a [] an (PV.bool true) [] ?_ rfl))
 ·simp;intro h;subst h;simp at *
 ·refine ⟨i+1,⟨by omega,?_⟩,by omega,by kernel_rfl,by kernel_rfl⟩
  exact zIX (d:=default) (by omega) (by omega) ha (by first | assumption | (simp only [Bool.not_eq_true,Bool.not_eq_false',Bool.and_eq_true,decide_eq_true_eq] at k2;exact Prod.ext k2.1 k2.2))
 ·rw [List.take_of_length_le (by omega),List.take_of_length_le (by omega)] at ha
  simp [ha]
theorem f53 (l m:List (Int×Int)) (hl:l.length<4294967296):FG 53 [.sl (l.map prV),.sl (m.map prV)] (.bool (decide (l=m))):=by
 refine zAf Try.f53 ?_
 refine zAd 1<|zAa<|zAd 2<|S_a [(8,.ret (PV.bool (decide (l=m))) [])] (ap (f92 l m (by omega)) an)<|zAc 1<|zAa<|zAn<|E_a [] an (PV.bool (decide (l=m))) [] rfl rfl
theorem f10 (l:List (Int×Int)) (hl:l.length<1000000):FG 10 [.sl (l.map prV)] (.own 2 (l.map prV)):=by
 refine zAf Try.f10 ?_
 refine zAd 1<|zAa<|zAd 1<|S_a [(0,.n l.length)] (ap (lnS prV l) an)<|S_a [(4,.ob),(0,.ob),(1,.v (PV.own 2 (List.map (fun x=>PV.agg [I 0,I 0]) (List.replicate l.length ()))))] (ap ((by exact zAv (by omega)):decide (l.length≤l.length)=true)<|ap ((by exact zAv (by simp [zAY]<;>omega)):decide (l.length≤zAY)=true)<|ap ((by simp):PV.own 2 (List.replicate l.length (PV.agg [I 0,I 0]))=PV.own 2 (List.map (fun x=>PV.agg [I 0,I 0]) (List.replicate l.length ()))) an)<|zAc 1<|zAa<|zAd 2<|zUO (fun q=>q) 3 2 (List.map (fun x=>PV.agg [I 0,I 0]) (List.replicate l.length ())) (List.map prV l) (List.map prV l) (zTv fun _ _=>(by first | exact zLa | exact ⟨rfl,rfl,rfl,rfl,Nat.le_refl _,rfl⟩)) (by simp<;>omega) (zUq (by simp<;>omega)) zPQ.nil (zAa<|zAd 1<|S_a [(2,.yes)] (ap ((by exact zBL (by simp<;>omega)):(Nat.beq 0 0&&(List.map prV l).length.beq (List.map prV l).length)=true) an)<|zAa<|zAn<|E_a [(1,.yes),(1,.v (PV.own 2 (List.map prV l)))] (ap (blz (List.map prV l))<|ap ((zA6 zBt):PV.own 2 (List.take (List.map prV l).length (List.drop 0 (List.map prV l)))=PV.own 2 (List.map prV l)) an) (PV.own 2 (List.map prV l)) [] rfl rfl)
theorem f58 (l:List (Int)) (x:Int) (hl:l.length<4294967296):FG 58 [.sl (l.map I),I x] (I (zEg (fun y=>decide (x=y)) l)):=by
 refine zAf Try.f58 ?_
 refine zAd 1<|zAa<|zAh<|zAd 1<|S_a [(0,.n l.length)] (ap (lnS I l) an)<|zAc 1<|zAa<|zAk 0 ?_
 refine zAD (fun i=>i≤l.length∧∀ j,j<i→decide (x=l.getD j 0)=false) (fun i=>[(8,I (i:Nat))]) (fun i=>l.length-i) (0:Nat) (by simp) fun i ⟨hi,ha⟩=>?_
 refine zAd 1<|zAa<|zAh<|zDo ((↑i:Int)<(↑l.length:Int)) (fun k0=>(zAl<|zAh<|zAk 1<|zAd 2<|zAa<|zAd 3<|S_a [(2,.v (I (l.getD i 0)))] (ap (zDn (0) (by omega):(List.map I l)[i]? = some (I (l.getD i 0))) an)<|zAc 2<|zAa<|zDo (x=l.getD i 0) (fun k1=>(zAd 2<|zAa<|zAn<|E_a [] an (I (↑i:Int)) [] ?_ rfl)) (fun k1=>(zAl<|zAg<|S_a [(1,.v (I (↑(i+1):Int)))] (ap (wrN i) an)<|zAc 1<|zAa ?_)))) (fun k0=>(zAS 0<|zAd 1<|zAa<|zAn<|E_a [] an (I (-1)) [] ?_ rfl))
 ·rw [zBS (i:=i) (by omega) (fun j hj=>by rw [← zAH (d:=0)];exact ha j hj) (by rw [← zAH (d:=0)];simp only [decide_eq_true_eq,decide_eq_false_iff_not] at *;omega)]
 ·refine ⟨i+1,⟨by omega,fun j hj=>?_⟩,by omega,by kernel_rfl,by kernel_rfl⟩
  rcases Nat.lt_succ_iff_lt_or_eq.1 hj with h | rfl
  ·exact ha j h
  ·simp only [decide_eq_true_eq,decide_eq_false_iff_not] at *;omega
 ·rw [zCc fun j hj=>by rw [← zAH (d:=0)];exact ha j (by omega)]
theorem f20 (l:List (Int)) (x:Int) (hl:l.length<4294967296):FG 20 [.sl (l.map I),I x] (.bool (has l x)):=by
 refine zAf Try.f20 ?_
 refine zAd 1<|zAa<|zAd 2<|S_a [(8,.ret (I (zEg (fun y=>decide (x=y)) l)) [])] (ap (f58 l x (by omega)) an)<|zAc 2<|zAa<|zAn<|E_a [] an (PV.bool (decide (zEg (fun y=>decide (x=y)) l≥0))) [] ?_ rfl
 rw [zDP];rfl
theorem f46 (l:List (Int×Int)) (x:Int×Int) (hl:l.length<4294967296):FG 46 [.sl (l.map prV),prV x] (I (zEg (fun y=>decide (x=y)) l)):=by
 refine zAf Try.f46 ?_
 refine zAd 2<|zAa<|zAh<|zAd 1<|S_a [(0,.n l.length)] (ap (lnS prV l) an)<|zAc 1<|zAa<|zAk 0 ?_
 refine zAD (fun i=>i≤l.length∧∀ j,j<i→decide (x=l.getD j default)=false) (fun i=>[(8,I (i:Nat))]) (fun i=>l.length-i) (0:Nat) (by simp) fun i ⟨hi,ha⟩=>?_
 refine zAd 1<|zAa<|zAh<|zDo ((↑i:Int)<(↑l.length:Int)) (fun k0=>(zAl<|zAh<|zAk 1<|zAd 2<|zAa<|zAd 3<|S_a [(2,.v (PV.agg [I (l.getD i default).fst,I (l.getD i default).snd]))] (ap (zDn default (by omega):(List.map prV l)[i]? = some (PV.agg [I (l.getD i default).fst,I (l.getD i default).snd])) an)<|zAc 1<|S_a [(0,.v (PV.bool (decide (x.fst=(l.getD i default).fst)&&decide (x.snd=(l.getD i default).snd))))] (ap (zUV:zGI Try.prog BinOp.eql 42 (PV.agg [I x.fst,I x.snd]) (PV.agg [I (l.getD i default).fst,I (l.getD i default).snd])=some (PV.bool (decide (x.fst=(l.getD i default).fst)&&decide (x.snd=(l.getD i default).snd)))) an)<|zAa<|zFh (decide (x.fst=(l.getD i default).fst)&&decide (x.snd=(l.getD i default).snd)) (fun k1=>(zAd 2<|zAa<|zAn<|E_a [] an (I (↑i:Int)) [] ?_ rfl)) (fun k1=>(zAl<|zAg<|S_a [(1,.v (I (↑(i+1):Int)))] (ap (wrN i) an)<|zAc 1<|zAa ?_)))) (fun k0=>(zAS 0<|zAd 1<|zAa<|zAn<|E_a [] an (I (-1)) [] ?_ rfl))
 ·rw [zBS (i:=i) (by omega) (fun j hj=>by rw [← zAH (d:=default)];exact ha j hj) (by rw [← zAH (d:=default)];rw [← zPU];assumption)]
 ·refine ⟨i+1,⟨by omega,fun j hj=>?_⟩,by omega,by kernel_rfl,by kernel_rfl⟩
  rcases Nat.lt_succ_iff_lt_or_eq.1 hj with h | rfl
  ·exact ha j h
  ·rw [← zPU];assumption
 ·rw [zCc fun j hj=>by rw [← zAH (d:=default)];exact ha j (by omega)]
theorem f12 (l:List (Int×Int)) (x:Int×Int) (hl:l.length<4294967296):FG 12 [.sl (l.map prV),prV x] (.bool (has l x)):=by
 refine zAf Try.f12 ?_
 refine zAd 2<|zAa<|zAd 2<|S_a [(8,.ret (I (zEg (fun y=>decide (x=y)) l)) [])] (ap (f46 l x (by omega)) an)<|zAc 2<|zAa<|zAn<|E_a [] an (PV.bool (decide (zEg (fun y=>decide (x=y)) l≥0))) [] ?_ rfl
 rw [zDP];rfl
theorem f71 (l:List (Int)) (hl:l.length<4294967296):FG 71 [.sl (l.map I)] (.own 1 (l.map I)):=zGC (fn:=Try.f71) I l (by omega)
theorem f117 (l:List (Int×Int)) (hl:l.length<4294967296):FG 117 [.sl (l.map prV)] (.own 2 (l.map prV)):=zGC (fn:=Try.f117) prV l (by omega)
theorem f115 (l:List (Int×Int)) (hl:l.length<4294967296):FG 115 [.sl (l.map prV)] (.own 2 (l.map prV)):=zGC (fn:=Try.f115) prV l (by omega)
theorem f95 (x:Int):FG 95 [I x] (.bool false):=by
 refine zAf Try.f95 ?_
 refine zAd 1<|zAa<|zAd 4<|zAa<|zAn<|E_a [] an (PV.bool (x != x)) [] (by simp [*]) rfl
theorem f56 (x y:Int):FG 56 [I x,I y] (.bool (decide (x<y))):=by
 refine zAf Try.f56 ?_
 refine zAd 1<|zAa<|zAd 1<|S_a [(6,.ret (PV.bool false) [])] (ap (f95 x) an)<|zAc 11<|zAa<|zAn<|E_a [] an (PV.bool (decide (x<y))) [] rfl rfl
end
end Go.Eng
set_option maxRecDepth 10000
set_option maxHeartbeats 4000000
namespace Go.Eng
open Go Go.Proofs
def zUd (o:List Int) (x:Int):List Int:=if o.getLast? = some x then o else o++[x]
def zGK (l:List Int):List Int:=l.foldl zUd []
theorem zQa (o:List Int) (x:Int):(zUd o x).getLast? = some x:=by
 unfold zUd;split
 ·assumption
 ·simp
theorem zGU {l:List Int} {i:Nat} (h:i<l.length):zGK (l.take (i+1))=zUd (zGK (l.take i)) (l.getD i 0):=zGz h
theorem zQ3 {l:List Int} {i:Nat} (h:i<l.length):(zGK (l.take (i+1))).getLast? = some (l.getD i 0):=by
 rw [zGU h];exact zQa _ _
theorem zGV {l:List Int} {i:Nat} (h0:0<i) (h:i<l.length):zGK (l.take (i+1))=if l.getD i 0=l.getD (i-1) 0 then zGK (l.take i) else zGK (l.take i)++[l.getD i 0]:=by
 obtain ⟨j,rfl⟩:∃ j,i=j+1:=⟨i-1,by omega⟩
 rw [zGU h,zUd,zQ3 (by omega)]
 simp only [Nat.add_sub_cancel,Option.some.injEq,eq_comm]
theorem zLk {S:List Int} {p:Nat} {x:Int} (h:p<S.length):(S.set p x).take (p+1)=S.take p++[x]:=by
 rw [zDk (d:=0) (by simpa using h),List.take_set_of_le (Nat.le_refl p),zCS,if_pos ⟨rfl,h⟩]
theorem zHh {l:List Int}:∀ k,k≤l.length→(∀ j,1≤j→j<k→l.getD j 0≠l.getD (j-1) 0)→zGK (l.take k)=l.take k
 | 0,_,_=>rfl
 | k+1,hk,h=>by
  have ih:=zHh k (by omega) fun j h1 h2=>h j h1 (by omega)
  cases k with
  | zero=>rw [zGU (by omega)];simp [zGK,zUd,zDk (d:=0) (show 0<l.length by omega)]
  | succ k=>rw [zGV (by omega) (by omega),if_neg (h (k+1) (by omega) (by omega)),ih,← zDk (by omega)]
def zQp (l:List Int):Bool:=(List.range (l.length-1)).all fun j=>decide (l.getD j 0<l.getD (j+1) 0)
def zFC (l:List Int):Bool:=(List.range (l.length-1)).all fun j=>decide (l.getD j 0≤l.getD (j+1) 0)
section
variable [Yo]
theorem f17 (l:List Int) (hl:l.length<4294967296):FG 17 [zBp l] (.bool (zFC l)):=by
 refine zAf Try.f17 ?_
 refine zAd 1<|zAa<|zAh<|zAd 1<|S_a [(0,.n l.length)] (ap (lnS I l) an)<|S_a [(1,.v (I ((↑l.length:Int)-1)))] (ap ((zCo rfl (by omega)):I (IntKind.i64.wrap ((↑l.length:Int)-1))=I ((↑l.length:Int)-1)) an)<|zAc 1<|zAa<|zAk 0 ?_
 refine zAD (fun (x:Int)=>x<l.length∧∀ j:Nat,x<j→j<l.length→0<j→l.getD (j-1) 0≤l.getD j 0) (fun x=>[(3,I x)]) (fun x=>x.toNat) ((l.length:Int)-1) ⟨by omega,fun j h1 h2=>by omega⟩ fun x ⟨hi,ha⟩=>?_
 have e2:(x-1).toNat=x.toNat-1:=by omega
 by_cases h1:0<x
 ·refine zAh<|zAd 2<|zAa<|zBj (x>0) (by omega)<|zAl<|zAh<|zAk 1<|zAd 2<|S_a [(0,.ob),(1,.v (I (l.getD x.toNat 0)))] (ap ((by exact zAv (by omega)):decide (0≤x)=true)<|ap (zDn (0) (by omega):(List.map I l)[x.toNat]? = some (I (l.getD x.toNat 0))) an)<|zAc 3<|S_a [(1,.v (I (x-1)))] (ap ((zCo rfl (by omega)):I (IntKind.i64.wrap (x-1))=I (x-1)) an)<|S_a [(0,.ob),(1,.v (I (l.getD (x-1).toNat 0)))] (ap ((by exact zAv (by omega)):decide (0≤x-1)=true)<|ap (zDn (0) (by omega):(List.map I l)[(x-1).toNat]? = some (I (l.getD (x-1).toNat 0))) an)<|zAc 1<|S_a [(8,.ret (PV.bool (decide (l.getD x.toNat 0<l.getD (x-1).toNat 0))) [])] (ap (f56 (l.getD x.toNat 0) (l.getD (x-1).toNat 0)) an)<|zAa<|zDo (l.getD x.toNat 0<l.getD (x-1).toNat 0) (fun k0=>(zAd 1<|zAa<|zAn<|E_a [] an (PV.bool false) [] ?_ rfl)) (fun k0=>(zAl<|zAg<|zAc 1<|S_a [(1,.v (I (x-1)))] (ap ((zCo rfl (by omega)):I (IntKind.i64.wrap (x-1))=I (x-1)) an)<|zAc 1<|zAa ?_))
  ·rw [e2] at k0
   have:zFC l=false:=by
    simp only [zFC,List.all_eq_false]
    exact ⟨x.toNat-1,List.mem_range.2 (by omega),by rw [show x.toNat-1+1=x.toNat by omega];simp only [decide_eq_true_eq];omega⟩
   rw [this]
  ·rw [e2] at k0
   refine ⟨x-1,⟨by omega,fun j h3 h4 h5=>?_⟩,by omega,by kernel_rfl,by kernel_rfl⟩
   by_cases hj:j=x.toNat
   ·subst hj;omega
   ·exact ha j (by omega) h4 h5
 ·refine zAh<|zAd 2<|zAa<|zBv (x>0) (by omega)<|zAS 0<|zAd 1<|zAa<|zAn<|E_a [] an (PV.bool true) [] ?_ rfl
  have:zFC l=true:=by
   simp only [zFC,List.all_eq_true,List.mem_range,decide_eq_true_eq]
   exact fun j hj=>by have:=ha (j+1) (by omega) (by omega) (by omega);simpa using this
  rw [this]
theorem f54 (l:List Int) (hl:l.length<4294967296):FG 54 [.own 1 (l.map I)] (.own 1 ((zGK l).map I)):=by
 refine zAf Try.f54 ?_
 refine zAd 1<|zAa<|zAh<|zAd 1<|S_a [(0,.n l.length)] (ap (lnS I l) an)<|zAc 1<|zAa<|zDo ((↑l.length:Int)<2) (fun k0=>(zAd 1<|S_a [(2,.yes)] (ap ((by exact zBL (by simp<;>omega)):(Nat.beq 0 0&&(List.map I l).length.beq (List.map I l).length)=true) an)<|zAa<|zAn<|E_a [(1,.yes),(1,.v (PV.own 1 (List.map I l)))] (ap (blz (List.map I l))<|ap ((zA6 zBt):PV.own 1 (List.take (List.map I l).length (List.drop 0 (List.map I l)))=PV.own 1 (List.map I l)) an) (PV.own 1 (List.map I l)) [] ?_ rfl)) (fun k0=>(zAl<|zAh<|zAd 1<|zAa<|zAk 0 ?_))
 ·have:=zHh (l:=l) l.length (Nat.le_refl _) fun j h1 h2=>by omega
  rw [List.take_length] at this
  rw [this]
 ·refine zAD (fun k=>1≤k∧k≤l.length∧∀ j,1≤j→j<k→l.getD j 0≠l.getD (j-1) 0) (fun k=>[(3,I (k:Nat))]) (fun k=>l.length-k) (1:Nat) ⟨by omega,by omega,fun j h1 h2=>absurd h1 (by omega)⟩ fun k ⟨jM,hk,ha⟩=>?_
  have jv:=zHh k hk ha
  refine zAh<|zAd 2<|S_a [(0,.n l.length)] (ap (lnS I l) an)<|zAc 1<|zAa<|zDo ((↑k:Int)<(↑l.length:Int)) (fun k2=>(zAl<|zAh<|zAk 1<|zAd 2<|S_a [(2,.ob),(1,.n k)] (ap ((by exact zAv (by simp only [List.length_map,zzLn]<;>omega)):decide (k<(List.map I l).length)=true)<|ap ((by simp):some (0+k)=some k) an)<|S_a [(0,.cs false ([I (l.getD k 0)]))] (ap (zDd (q:=PV.own 1 (List.map I l)) (xs:=List.map I l) (x:=I (l.getD k 0)) rfl (zDn (0) (by omega)):zAr 0 (PV.own 1 (List.map I l)) [] k 0 1=some (false,[I (l.getD k 0)])) an)<|zAc 2<|S_a [(1,.v (I (↑(k-1):Int)))] (ap ((zCo (by omega) (by omega)):I (IntKind.i64.wrap ((↑k:Int)-1))=I (↑(k-1):Int)) an)<|S_a [(2,.ob),(1,.n (k-1))] (ap ((by exact zAv (by simp only [List.length_map,zzLn]<;>omega)):decide (k-1<(List.map I l).length)=true)<|ap ((by simp):some (0+(k-1))=some (k-1)) an)<|S_a [(0,.cs false ([I (l.getD (k-1) 0)]))] (ap (zDd (q:=PV.own 1 (List.map I l)) (xs:=List.map I l) (x:=I (l.getD (k-1) 0)) rfl (zDn (0) (by omega)):zAr 0 (PV.own 1 (List.map I l)) [] (k-1) 0 1=some (false,[I (l.getD (k-1) 0)])) an)<|zAc 1<|zAa<|zDo (l.getD k 0=l.getD (k-1) 0) (fun k3=>(zAd 2<|S_a [(3,.ob),(0,.yes),(0,.yes),(0,.v (PV.bor 0 [] 1 k (l.length-k)))] (ap ((by exact zA8 (by simp only [List.length_map,zzLn,zAY]<;>omega)):k.ble (List.map I l).length=true)<|ap ((by exact zA8 (by simp only [List.length_map,zzLn,zAY]<;>omega)):(List.map I l).length.ble (List.map I l).length=true)<|ap ((by simp<;>omega):(k.beq 0||k.blt (List.map I l).length)=true)<|ap ((by simp):PV.bor 0 [] 1 (0+k) ((List.map I l).length-k)=PV.bor 0 [] 1 k (l.length-k)) an)<|zAc 1<|zAa<|zAh<|zAd 1<|zAa<|zAk 2 ?_)) (fun k3=>(zAl<|zAg<|zAc 1<|S_a [(1,.v (I (↑(k+1):Int)))] (ap (wrN k) an)<|zAc 1<|zAa ?_)))) (fun k2=>(zAS 0<|zAd 1<|S_a [(2,.yes)] (ap ((by exact zBL (by simp<;>omega)):(Nat.beq 0 0&&(List.map I l).length.beq (List.map I l).length)=true) an)<|zAa<|zAn<|E_a [(1,.yes),(1,.v (PV.own 1 (List.map I l)))] (ap (blz (List.map I l))<|ap ((zA6 zBt):PV.own 1 (List.take (List.map I l).length (List.drop 0 (List.map I l)))=PV.own 1 (List.map I l)) an) (PV.own 1 (List.map I l)) [] ?_ rfl))
  ·have e0:zGK (l.take (k+1))=l.take k:=by rw [zGV (by omega) (by omega),if_pos k3,jv]
   clear ha jv
   refine zAD (fun (p,q,S)=>1≤q∧k+q≤l.length∧p<k+q∧S.length=l.length∧S.take p=zGK (l.take (k+q))∧∀ j,k+q≤j+1→S.getD j 0=l.getD j 0) (fun (p,q,S)=>[(0,.own 1 (S.map I)),(3,I (p:Nat)),(5,I (q:Nat))]) (fun (p,q,S)=>l.length-(k+q)) (k,(1:Nat),l) ⟨by omega,by omega,by omega,rfl,e0.symm,fun _ _=>rfl⟩ fun (p,q,S) ⟨hq,hkq,hp,hS,hc,hd⟩=>?_
   have uk:(zGK (l.take (k+q))).length=p:=by rw [← hc,List.length_take];omega
   by_cases vW:k+q<l.length
   ·have hx:=hd (k+q) (by omega)
    have hy:=hd (k+q-1) (by omega)
    have yM:=zGV (l:=l) (i:=k+q) (by omega) vW
    have gK:=hd
    clear hd
    refine zAh<|zAd 4<|zAa<|zBj ((↑q:Int)<(↑(l.length-k):Int)) (by omega)<|zAl<|zAh<|zAk 3<|zAd 2<|S_a [(2,.ob)] (ap ((by exact zAv (by omega)):decide (q<l.length-k)=true) an)<|S_a [(0,.cs false ([I (S.getD (k+q) 0)]))] (ap (zDd (q:=PV.own 1 (List.map I S)) (xs:=List.map I S) (x:=I (S.getD (k+q) 0)) rfl (zDn (0) (by omega)):zAr 0 (PV.own 1 (List.map I S)) [] (k+(↑q:Int).toNat) 0 1=some (false,[I (S.getD (k+q) 0)])) an)<|zAc 2<|S_a [(1,.v (I (↑(q-1):Int)))] (ap ((zCo (by omega) (by omega)):I (IntKind.i64.wrap ((↑q:Int)-1))=I (↑(q-1):Int)) an)<|S_a [(2,.ob)] (ap ((by exact zAv (by omega)):decide (q-1<l.length-k)=true) an)<|S_a [(0,.cs false ([I (S.getD (k+(q-1)) 0)]))] (ap (zDd (q:=PV.own 1 (List.map I S)) (xs:=List.map I S) (x:=I (S.getD (k+(q-1)) 0)) rfl (zDn (0) (by omega)):zAr 0 (PV.own 1 (List.map I S)) [] (k+(↑(q-1):Int).toNat) 0 1=some (false,[I (S.getD (k+(q-1)) 0)])) an)<|zAc 1<|zAa<|zEc (S.getD (k+q) 0=S.getD (k+(q-1)) 0) (fun k4=>(zAd 4<|S_a [(2,.ob)] (ap ((by exact zAv (by omega)):decide (q<l.length-k)=true) an)<|S_a [(0,.cs false ([I (S.getD (k+q) 0)]))] (ap (zDd (q:=PV.own 1 (List.map I S)) (xs:=List.map I S) (x:=I (S.getD (k+q) 0)) rfl (zDn (0) (by omega)):zAr 0 (PV.own 1 (List.map I S)) [] (k+(↑q:Int).toNat) 0 1=some (false,[I (S.getD (k+q) 0)])) an)<|S_a [(2,.ob),(1,.n p)] (ap ((by exact zAv (by simp only [List.length_map,zzLn]<;>omega)):decide (p<(List.map I S).length)=true)<|ap ((by simp):some (0+p)=some p) an)<|S_a [(8,.root (PV.own 1 (List.map I (S.set p (S.getD (k+q) 0)))) true)] (ap (zV9 (zDn (0) (by omega)) zN1:zBQ (PV.own 1 (List.map I S)) [] p 0 (I (S.getD (k+q) 0)).cells=some (PV.own 1 (List.map I (S.set p (S.getD (k+q) 0))))∧zAN (PV.own 1 (List.map I S)) (PV.own 1 (List.map I (S.set p (S.getD (k+q) 0)))) []=true) an)<|zAa<|zAg<|zAc 1<|S_a [(1,.v (I (↑(p+1):Int)))] (ap (wrN p) an)<|zAc 1<|zAa<|zAg<|zAc 1<|S_a [(1,.v (I (↑(q+1):Int)))] (ap (wrN q) an)<|zAc 1<|zAa ?_)) (fun k4=>(zAl<|zAg<|zAc 1<|S_a [(1,.v (I (↑(q+1):Int)))] (ap (wrN q) an)<|zAc 1<|zAa ?_))
    ·rw [show k+(q-1)=k+q-1 by omega,hx,hy] at k4
     rw [if_neg k4] at yM
     refine ⟨(p+1,q+1,S.set p (S.getD (k+q) 0)),⟨by omega,by omega,by omega,by simpa using hS,?_,fun j hj=>?_⟩,by simp only;omega,by kernel_rfl,by kernel_rfl⟩
     ·rw [← Nat.add_assoc,yM,← hc,hx,zLk (by omega)]
     ·rw [zCS,if_neg (by omega)];exact gK j (by omega)
    ·rw [show k+(q-1)=k+q-1 by omega,hx,hy] at k4
     rw [if_pos k4] at yM
     exact ⟨(p,q+1,S),⟨by omega,by omega,by omega,hS,by rw [← Nat.add_assoc,yM,hc],fun j hj=>gK j (by omega)⟩,by simp only;omega,by kernel_rfl,by kernel_rfl⟩
   ·refine zAh<|zAd 4<|zAa<|zBv ((↑q:Int)<(↑(l.length-k):Int)) (by omega)<|zAS 2<|zAd 2<|S_a [(3,.ob),(0,.yes),(0,.yes),(0,.v (PV.bor 0 [] 1 p (S.length-p)))] (ap ((by exact zA8 (by simp only [List.length_map,zzLn,zAY]<;>omega)):p.ble (List.map I S).length=true)<|ap ((by exact zA8 (by simp only [List.length_map,zzLn,zAY]<;>omega)):(List.map I S).length.ble (List.map I S).length=true)<|ap ((by simp<;>omega):(p.beq 0||p.blt (List.map I S).length)=true)<|ap ((by simp):PV.bor 0 [] 1 (0+p) ((List.map I S).length-p)=PV.bor 0 [] 1 p (S.length-p)) an)<|zRo (g:=I) (fun q=>q) 0 1 p (S.length-p) S (0) (by first | omega | (simp<;>omega)) ⟨rfl,rfl⟩ (fun _=>(by first | exact zLa | exact ⟨rfl,rfl,rfl,rfl,Nat.le_refl _,rfl⟩)) zPQ.nil (zAa<|zAd 2<|S_a [(4,.yes)] (ap ((by exact zA8 (by simp<;>omega)):p.ble (List.map I (List.take p S++List.replicate (S.length-p) 0++List.drop (p+(S.length-p)) S)).length=true) an)<|zAc 1<|zAa<|zAn<|E_a [(1,.yes),(1,.v (PV.own 1 (List.map I (List.take p (List.take p S++List.replicate (S.length-p) 0++List.drop (p+(S.length-p)) S)))))] (ap ((by exact zA8 (by simp<;>omega)):(0+((↑p:Int).toNat-0)).ble (List.map I (List.take p S++List.replicate (S.length-p) 0++List.drop (p+(S.length-p)) S)).length=true)<|ap ((by simp):PV.own 1 (List.take p (List.drop 0 (List.map I (List.take p S++List.replicate (S.length-p) 0++List.drop (p+(S.length-p)) S))))=PV.own 1 (List.map I (List.take p (List.take p S++List.replicate (S.length-p) 0++List.drop (p+(S.length-p)) S)))) an) (PV.own 1 (List.map I (List.take p (List.take p S++List.replicate (S.length-p) 0++List.drop (p+(S.length-p)) S)))) [] ?_ rfl)
    rw [show k+q=l.length by omega,List.take_length] at hc
    rw [← hc,List.append_assoc,List.take_append_of_le_length (by rw [List.length_take];omega),List.take_take,Nat.min_self]
  ·refine ⟨k+1,⟨by omega,by omega,fun j h1 h2=>?_⟩,by omega,by kernel_rfl,by kernel_rfl⟩
   by_cases hj:j=k
   ·subst hj;assumption
   ·exact ha j h1 (by omega)
  ·rw [show k=l.length by omega,List.take_length] at jv
   rw [jv]
end
end Go.Eng
