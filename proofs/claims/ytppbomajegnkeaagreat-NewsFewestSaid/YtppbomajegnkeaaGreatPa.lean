/- The statement NewsFewest jQ for all arguments: further cries that are returned leave none and are as few as can be, and the gaps that are apart, or the errors, are as specified; arguments are not modified. -/
import Derived.Calls
import Derived.Below
import Derived.CallsIn
import Derived.Laws.StructEq
import Derived.Laws.Cover3
import Derived.Laws.Slices
import Derived.Laws.MakeOwn
import Derived.Laws.CopyRow
set_option linter.unusedVariables false
set_option linter.unusedSimpArgs false
set_option linter.unusedSectionVars false
namespace Go
abbrev LP:=List (Int×Int)
abbrev LN:=List Nat
abbrev LI:=List Int
abbrev ON:=Option Nat
abbrev d0{α:Type}[Inhabited α]:α:=default
abbrev ba:=@Option.some.injEq
abbrev bb:=@Bool.and_eq_true
abbrev bc:=@Option.bind_some
abbrev bd:=@Nat.eq_of_beq_eq_true
abbrev bf:=@List.length_map
abbrev bg:=@List.getElem?_eq_some_iff
abbrev bh:=@Result.andThen_ok
abbrev bi:=@Nat.le_refl
abbrev bj:=@List.all_eq_true
abbrev bk:=@List.mem_append
abbrev bl:=@Option.map_eq_some_iff
abbrev bm:=@List.getElem?_eq_getElem
abbrev bn:=@List.mem_append_right
abbrev bo:=@Sem.run_bind
abbrev bp:=@List.take_of_length_le
abbrev bq:=@Bool.false_eq_true
abbrev br:=@List.eq_nil_of_length_eq_zero
abbrev bt:=@List.length_append
abbrev bu:=@Nat.le_of_ble_eq_true
abbrev bv:=@List.mem_append_left
abbrev bw:=@List.mem_singleton
abbrev bx:=@List.mem_range
abbrev bz:=@Option.map_some
abbrev bA:=@Sem.run_pure
abbrev bB:=@Prod.mk.injEq
abbrev bC:=@Nat.lt_succ_iff_lt_or_eq
abbrev bD:=@List.mem_cons
abbrev bE:=@List.length_cons
abbrev bF:=@Bool.not_eq_true'
abbrev bG:=@Nat.zero_le
abbrev bH:=@Nat.not_lt_zero
abbrev bI:=@Bool.not_eq_false'
abbrev bJ:=@List.length_filter_le
abbrev bK:=@List.mem_of_getElem?
abbrev bL:=@Nat.lt_of_lt_of_le
abbrev bM:=@List.getElem?_cons_zero
abbrev bN:=@Nat.le_trans
abbrev bO:=@List.map_cons
abbrev bP:=@List.any_eq_true
abbrev bQ:=@List.mem_map
abbrev bR:=@Nat.add_zero
abbrev bS:=@Bool.or_eq_true
abbrev bT:=@List.mem_filter
abbrev bU:=@Array.getElem?_toList
abbrev bV:=@List.range_succ
abbrev bW:=@List.nodup_append
abbrev bX:=@List.length_singleton
abbrev bY:=@List.foldl_cons
abbrev bZ:=@List.length_take
abbrev b4:=@List.filter_cons_of_neg
abbrev b6:=@Array.getElem?_eq_some_iff
abbrev b7:=@Int.toNat_natCast
abbrev b8:=@List.length_nil
abbrev b9:=@List.drop_eq_getElem_cons
abbrev ce:=@Bool.not_eq_true
abbrev cf:=@List.eq_of_mem_replicate
abbrev cg:=@Nat.add_assoc
abbrev ci:=@Bool.true_and
abbrev cj:=@List.nodup_nil
abbrev ck:=@List.getElem?_drop
abbrev cm:=@List.set_eq_take_append_cons_drop
abbrev cn:=@List.getElem?_set_self
abbrev co:=@Bool.false_or
abbrev cq:=@List.getElem?_of_mem
abbrev cu:=@List.getElem_mem
abbrev cv:=@List.foldl_append
abbrev cw:=@List.getElem?_take
abbrev cx:=@Bool.or_eq_false_iff
abbrev cy:=@List.mem_of_mem_drop
abbrev cz:=@List.nodup_cons
abbrev cA:=@Bool.eq_iff_iff
abbrev cB:=@List.foldl_nil
abbrev cC:=@List.getElem?_map
abbrev cD:=@List.any_eq_false
abbrev cE:=@List.getD_eq_getElem?_getD
abbrev cF:=@List.take_append_drop
abbrev cG:=@List.filter_cons_of_pos
abbrev cH:=@Nat.beq_refl
abbrev cI:=@Classical.byContradiction
abbrev cJ:=@List.map_append
abbrev cK:=@List.append_assoc
abbrev cL:=@List.mem_of_mem_take
abbrev cM:=@List.mem_cons_of_mem
abbrev cN:=@List.set_cons_zero
abbrev cO:=@List.all_cons
abbrev cP:=@Array.getElem?_eq_getElem
abbrev cQ:=@Nat.add_mul
abbrev cR:=@List.filter_append
abbrev cS:=@List.mem_flatMap
abbrev cT:=@Int.toNat_of_nonneg
abbrev cU:=@Nat.ble_eq_true_of_le
abbrev cV:=@List.getElem?_eq_none
abbrev cW:=@List.ext_getElem?
abbrev cX:=@List.not_any_eq_all_not
abbrev cY:=@Nat.succ_mul
abbrev cZ:=@Nat.mul_le_mul_right
abbrev da:=@List.nil_append
abbrev db:=@Decidable.of_not_not
abbrev dc:=@List.isEmpty_iff
abbrev dd:=@List.getElem?_append_left
abbrev de:=@List.map_congr_left
abbrev dg:=@List.getElem_of_mem
abbrev dh:=@Nat.zero_add
abbrev di:=@Bool.false_and
abbrev dj:=@List.findIdx?_eq_some_iff_getElem
abbrev dk:=@Array.getD_eq_getD_getElem?
abbrev dl:=@List.pairwise_cons
abbrev dm:=@List.getElem?_set_ne
abbrev dn:=@Option.getD_some
abbrev dp:=@List.take_length
abbrev dq:=@MapKept.run_getObj_map
abbrev dt:=@List.drop_eq_nil_of_le
abbrev du:=@Value.slice.injEq
abbrev dv:=@List.filter_congr
abbrev dw:=@List.findIdx?_eq_none_iff
abbrev dx:=@List.pairwise_iff_getElem
abbrev dy:=@List.contains_iff_mem
abbrev dz:=@List.take_append_of_le_length
abbrev dA:=@List.filter_cons
abbrev dB:=@List.getElem_map
abbrev dC:=@Bool.and_false
abbrev dD:=@List.flatMap_append
abbrev dE:=@Nat.sub_zero
abbrev dF:=@List.append_eq_nil_iff
abbrev dG:=@List.getElem?_append_right
abbrev dH:=@Bool.not_true
abbrev dI:=@List.length_drop
abbrev dJ:=@List.drop_drop
abbrev dK:=@List.mem_or_eq_of_mem_set
abbrev dM:=@Option.isNone_iff_eq_none
abbrev dN:=@List.length_set
abbrev dO:=@List.append_nil
abbrev dP:=@List.eq_nil_iff_forall_not_mem
abbrev dQ:=@List.all_eq_false
abbrev dR:=@Bool.and_self
abbrev dS:=@List.getElem?_cons_succ
abbrev dT:=@Nat.add_sub_cancel_left
abbrev dU:=@List.filter_sublist
abbrev dV:=@Option.bind_none
abbrev dW:=@Ne.symm
abbrev dX:=@Array.getElem?_setIfInBounds
abbrev dY:=@MapKept.run_setObj_map
abbrev dZ:=@Option.isSome_none
abbrev d4:=@Nat.add_sub_cancel
abbrev d5:=@List.map_nil
abbrev d6:=@List.mem_cons_self
abbrev d7:=@Array.getElem?_modify
abbrev d8:=@List.flatMap_cons
abbrev d9:=@List.getElem?_set
abbrev fa:=@List.pairwise_append
abbrev fb:=@List.findIdx_getElem
abbrev fc:=@List.drop_zero
abbrev fd:=@Option.isSome_iff_exists
abbrev fe:=@List.take_succ_cons
abbrev ff:=@Array.getElem?_push
abbrev fg:=@List.cons.injEq
abbrev fh:=@List.getElem_range
abbrev fi:=@List.filter_filter
abbrev fj:=@List.length_range
abbrev fk:=@List.take_add_one
abbrev fl:=@Nat.zero_mul
abbrev fm:=@Bool.and_eq_false_iff
abbrev fo:=@Nat.mul_le_mul
abbrev fp:=@Classical.choose_spec
abbrev fq:=@Iff.rfl
abbrev fu:=@Prod.ext
abbrev fv:=@List.range'_succ
abbrev fw:=@List.map_toArray
abbrev fx:=@Nat.le_of_not_lt
abbrev fy:=@List.map_take
abbrev fA:=@List.map_drop
abbrev fB:=@List.isPrefixOf_iff_prefix
abbrev fC:=@Nat.lt_irrefl
abbrev fD:=@List.any_cons
abbrev fE:=@Int.le_refl
abbrev fF:=@Std.Legacy.Range.forIn_eq_forIn_range'
abbrev fG:=@List.replicate_succ
abbrev fH:=@Array.length_toList
abbrev fI:=@List.filter_eq_self
abbrev fJ:=@List.getElem?_zip_eq_some
abbrev fK:=@List.mem_take_iff_getElem
abbrev fL:=@Bool.true_or
abbrev fM:=@List.findIdx?_cons
abbrev fN:=@Nat.ble_eq
abbrev fO:=@Decidable.not_not
abbrev fP:=@List.drop_of_length_le
abbrev fQ:=@Array.getElem?_eq_none
abbrev fR:=@Nat.mul_one
abbrev fS:=@List.getElem_replicate
abbrev fT:=@List.length_pos_of_mem
abbrev fU:=@Bool.or_false
abbrev fV:=@Bool.and_true
abbrev fW:=@List.drop_append
abbrev fX:=@List.zipIdx_cons
abbrev fY:=@List.prefix_refl
abbrev fZ:=@Eq.trans
abbrev f0:=@List.flatMap_def
abbrev f5:=@List.length_replicate
abbrev f7:=@List.set_append_right
abbrev f8:=@List.map_map
abbrev f9:=@Nat.min_eq_left
abbrev ia:=@Array.ext'
abbrev ib:=@Option.map_none
abbrev ie:=@List.all_append
abbrev ig:=@Int.max_eq_left
abbrev ii:=@Nat.pow_succ
abbrev ij:=@List.drop_left
abbrev il:=@Bool.not_false
abbrev im:=@List.take_take
abbrev io:=@List.mapM_cons
abbrev ip:=@Option.isSome_some
abbrev iq:=@Array.ext_getElem?
abbrev ir:=@List.getElem_take
abbrev iu:=@List.pairwise_map
abbrev iv:=@Array.mapM_eq_mapM_toList
abbrev iw:=@List.rel_of_pairwise_cons
abbrev iy:=@List.cons_append
abbrev iz:=@List.take_append
abbrev iA:=@Array.size_setIfInBounds
abbrev iB:=@Array.toList_map
abbrev iC:=@List.ext_getElem
abbrev iD:=@Array.getElem?_replicate
abbrev iE:=@Int.max_eq_right
abbrev iG:=@Bool.or_true
abbrev iH:=@List.length_erase_of_mem
abbrev iI:=@List.Pairwise.imp_of_mem
abbrev iJ:=@List.append_cancel_left
abbrev iK:=@Option.bind_eq_some_iff
abbrev iL:=@List.forIn_cons
abbrev iM:=@List.filter_nil
abbrev iN:=@List.any_append
abbrev iO:=@List.foldr_cons
abbrev iP:=@Sem.run_ite
abbrev iQ:=@Nat.ne_of_beq_eq_false
abbrev iR:=@List.length_eq_one_iff
abbrev iS:=@List.filter_eq_nil_iff
abbrev iU:=@List.pairwise_lt_range
abbrev iV:=@Nat.add_comm
abbrev iW:=@List.any_nil
abbrev iX:=@Nat.sub_self
abbrev iY:=@Nat.min_self
end Go
open Nat (beq ble blt)
open List (map replicate take drop range length filter)
namespace Go.Eng
open Go
theorem zzLn{α:Type}:(∀ (l:List α) (i:Nat) (a:α),(l.set i a).length=l.length) /\ (∀ a b:List α,(a++b).length=a.length+b.length) /\ (∀ (a:α) (l:List α),(a::l).length=l.length+1) /\ ([]:List α).length=0:=⟨fun _ _ _=>dN,fun _ _=>bt,fun _ _=>rfl,rfl⟩
inductive PV where
 |bad|und
 |int (k:IntKind) (n:Int)|bool (b:Bool)
 |nilp|nilf|nilm|nn|nils (sz:Nat)
 |agg (cs:List PV)|tup (vs:List PV)
 |sl (xs:List PV)|own (sz:Nat) (xs:List PV)
 |ref (p:PV)|box (p:PV)
 |map (es:List (PV×PV))|omap (es:List (PV×PV))
 |func (f:FuncId) (first caps:List PV)
 |addr (r:Nat) (pre:List (Nat×Nat)) (i c:Nat) (sh:ON)
 |bor (r:Nat) (pre:List (Nat×Nat)) (sz lo n:Nat)
 |bsl (r:Nat) (pre:List (Nat×Nat)) (i c:Nat) (sz:Nat) (ag:Bool) (n:Nat)
 |bmap (r:Nat) (pre:List (Nat×Nat))
 |lock (p:PV)
 |yld (h:Nat)|log (xs:List PV) (k:Int)
 deriving Inhabited
abbrev zA2:=List (Nat×Nat)
def zAm:Nat:=50000000
def zAG:Nat:=60000000
def zAa:Nat:=1000000000
def depth:Nat:=6
abbrev Env:=List (Nat×PV)
def Env.get:Env->Nat->PV
 |[],_=>.bad|(k,v)::e,s=>bif beq k s then v else Env.get e s
def Env.set:Env->Nat->PV->Env
 |[],s,p=>[(s,p)]|(k,v)::e,s,p=>bif beq k s then(s,p)::e else bif ble s k then(s,p)::(k,v)::e else(k,v)::Env.set e s p
def PV.cells:PV->List PV
 |.agg cs=>cs|p=>[p]
def zOi:ON->List PV->PV
 |some _,cs=>.agg cs|none,c::_=>c|none,[]=>.bad
def PV.isAgg:PV->Bool
 |.agg _=>true|_=>false
def PV.oneCell:PV->Bool
 |.int ..|.bool _|.nilp|.nilf|.nilm|.nn|.nils _|.sl _|.own ..|.ref _|.box _|.map _|.omap _|.func ..|.addr ..|.bor ..|.bsl ..|.bmap .. => true|_=>false
def PV.whole(p:PV):Bool:=p.isAgg||p.oneCell
def PV.isTup:PV->Bool
 |.tup _=>true|_=>false
def PV.heavy0:PV->Bool
 |.own ..|.box ..|.omap .. => true|_=>false
mutual
def PV.heavy:PV->Bool
 |.own .. => true|.box _=>true|.omap _=>true|.lock _=>true|.agg cs=>zDb cs|.tup vs=>zDb vs|_=>false
def zDb:List PV->Bool
 |[]=>false|p::ps=>p.heavy||zDb ps
end
def zHi(r:Nat)(pre:zA2):PV->PV
 |.agg _|.tup _|.lock _=>.bad|.own sz xs=>.bor r pre sz 0 xs.length|.box p=>.addr r pre 0 0 (match p with|.agg cs=>some cs.length|_=>none)
 |.omap _=>.bmap r pre|p=>p
def zBJ(r:Nat)(pre:zA2)(i:Nat):Nat->List PV->List PV
 |_,[]=>[]|c,p::ps=>zHi r (pre++[(i,c)]) p::zBJ r pre i (c+1) ps
def zVn(r:Nat):PV->PV
 |.agg cs=>.agg (zBJ r [] 0 0 cs)|.tup _=>.bad|p=>zHi r [] p
def view(r:Nat):PV->PV
 |.lock p=>zVn r p|p=>zVn r p
def PV.unlock:PV->PV
 |.lock p=>p|p=>p
def zZ2:PV->Option (List PV)
 |.own _ xs=>some xs|.sl xs=>some xs|.box p=>some [p]|.ref p=>some [p]|.agg cs=>some [.agg cs]|_=>none
def zBh:PV->Option (List PV)
 |.own _ xs=>some xs|.box p=>some [p]|_=>none
def zAN:PV->List PV->Option PV
 |.own sz _,xs=>some (.own sz xs)|.box _,[p]=>some (.box p)|.agg _,[.agg cs]=>some (.agg cs)|_,_=>none
def zA6:PV->Option (List PV)
 |.own _ xs=>some xs|.box p=>some [p]|.agg cs=>some [.agg cs]|_=>none
def zAH:PV->Nat->List PV->PV
 |.agg cs,c,qs=>.agg (cs.take c++qs++cs.drop (c+qs.length))|_,_,q::_=>q|p,_,[]=>p
def zAF:PV->zA2->Option PV
 |p,[]=>some p
 | p,(i,c)::rest =>
  match zA6 p with
  | some xs=>match xs[i]? with
   |some x=>match x.cells[c]? with
    |some q=>zAF q rest|none=>none
   |none=>none
  |none=>none
def zAA (f:PV->Option PV):PV->zA2->Option PV
 |p,[]=>f p
 | p,(i,c)::rest =>
  match zA6 p with
  | some xs=>match xs[i]? with
   | some x=>match x.cells[c]? with
    |some q=>match zAA f q rest with
     |some q'=>zAN p (xs.set i (zAH x c [q']))|none=>none
    |none=>none
   |none=>none
  |none=>none
mutual
def zAY:PV->PV
 |.own _ xs=>.sl (zAv xs)|.box q=>.ref (zAY q)|.omap es=>.map es|.agg cs=>.agg (zAv cs)|.tup _=>.bad|.lock _=>.bad|p=>p
def zAv:List PV->List PV
 |[]=>[]|p::ps=>zAY p::zAv ps
end
mutual
def PV.free:PV->Bool
 |.int ..|.bool ..|.nilp|.nilf|.nilm|.nn|.nils _|.und=>true|.sl []=>true|.agg cs=>zDu cs|.tup vs=>zDu vs|.own _ xs=>zDu xs|.box q=>q.free|.omap es=>zQM es|_=>false
def zDu:List PV->Bool
 |[]=>true|p::ps=>p.free&&zDu ps
def zQM:List (PV×PV)->Bool
 |[]=>true|(k,v)::es=>k.free&&v.free&&zQM es
end
inductive PM where
 |ok|fail
 |view (s:Nat) (k:PV->PM)
 |get (s:Nat) (k:PV->PM)
 |set (s:Nat) (p:PV) (k:PM)
 |cells (r:Nat) (pre:zA2) (i c n:Nat) (k:Bool->List PV->PM)
 |deep (r:Nat) (pre:zA2) (k:PV->PM)
 |wcells (r:Nat) (pre:zA2) (i c:Nat) (qs:List PV) (k:PM)
 |wnode (r:Nat) (pre:zA2) (q:PV) (k:PM)
 |kill (r:Nat) (pre:zA2) (k:PM)
 |frz (r:Nat) (pre:zA2) (k:PM)
 |killEx (r:Nat) (keep:List zA2) (k:PM)
 |forget (h:Nat) (k:PM)
 |call (f:FuncId) (args hid:List PV) (k:PV->List PV->PM)
abbrev zAO:=FuncId->List PV->List PV->Option (PV×List PV)
mutual
def PV.mapW(f:PV->PV):PV->PV
 |.addr r pre i c sh=>f (.addr r pre i c sh)|.bor r pre z lo n=>f (.bor r pre z lo n)|.bsl r pre i c sz ag n=>f (.bsl r pre i c sz ag n)|.bmap r pre=>f (.bmap r pre)|.log xs k=>f (.log xs k)|.agg cs=>.agg (zCR f cs)|.tup cs=>.tup (zCR f cs)|.func g a b=>.func g (zCR f a) (zCR f b)|.ref q=>.ref (q.mapW f)|.box q=>.box (q.mapW f)|.lock q=>.lock (q.mapW f)|p=>p
def zCR(f:PV->PV):List PV->List PV
 |[]=>[]|p::ps=>p.mapW f::zCR f ps
end
mutual
def PV.ways:PV->List (Nat×zA2)
 |.addr r pre .. => [(r,pre)]|.bor r pre .. => [(r,pre)]|.bsl r pre .. => [(r,pre)]|.bmap r pre=>[(r,pre)]|.agg cs=>zBq cs|.tup cs=>zBq cs|.func _ a b=>zBq a++zBq b|.ref q=>q.ways|.box q=>q.ways|.lock q=>q.ways|_=>[]
def zBq:List PV->List (Nat×zA2)
 |[]=>[]|p::ps=>p.ways++zBq ps
end
def PV.plain0:PV->Bool
 |.int ..|.bool ..|.nilp|.nilf|.nilm|.nn|.nils _|.sl ..|.map .. => true|.ref q=>q.ways.isEmpty|_=>false
def PV.plain:PV->Bool
 |.agg cs=>cs.all PV.plain0|p=>p.plain0
def lose(r:Nat)(pre:zA2):PV->PV
 |.addr r' q i c sh=>bif beq r' r&&pre.isPrefixOf q then .bad else .addr r' q i c sh|.bor r' q z lo n=>bif beq r' r&&pre.isPrefixOf q then .bad else .bor r' q z lo n|.bsl r' q i c sz ag n=>bif beq r' r&&pre.isPrefixOf q then .bad else .bsl r' q i c sz ag n|.bmap r' q=>bif beq r' r&&pre.isPrefixOf q then .bad else .bmap r' q|p=>p
def zBU(r:Nat)(keep:List zA2):PV->PV
 |.addr r' q i c sh=>bif beq r' r && !(q.isEmpty||keep.any q.isPrefixOf) then .bad else .addr r' q i c sh|.bor r' q z lo n=>bif beq r' r && !(q.isEmpty||keep.any q.isPrefixOf) then .bad else .bor r' q z lo n|.bsl r' q i c sz ag n=>bif beq r' r && !(q.isEmpty||keep.any q.isPrefixOf) then .bad else .bsl r' q i c sz ag n|.bmap r' q=>bif beq r' r && !(q.isEmpty||keep.any q.isPrefixOf) then .bad else .bmap r' q|p=>p
def Env.killEx(e:Env)(r:Nat)(keep:List zA2):Env:=e.map fun x=>(x.1,x.2.mapW (zBU r keep))
def zAT(r:Nat)(pre:zA2)(r':Nat)(q:zA2):Bool:=beq r' r&&pre.isPrefixOf q
def zDQ (i c:Nat) (sh:ON) (q:PV):PV :=
 match zBh q with
 | some xs=>match xs[i]? with
  | some x=>match sh with
   |some m=>bif ble (c+m) x.cells.length&&x.isAgg then .ref (.agg (zAv ((x.cells.drop c).take m))) else .bad|none=>match x.cells[c]? with
    |some q=>bif q.oneCell then .ref (zAY q) else .bad|none=>.bad
  |none=>.bad
 |none=>.bad
def zCh(lo n:Nat):PV->PV
 |.own _ xs=>bif ble (lo+n) xs.length then .sl (zAv ((xs.drop lo).take n)) else .bad|_=>.bad
def zCt(ag:Bool)(sz:Nat):Nat->List PV->List PV
 |0,_=>[]|m+1,cs=>(bif ag then .agg (cs.take sz) else cs.headD .bad)::zCt ag sz m (cs.drop sz)
def zCs(ag:Bool)(sz m:Nat)(cs:List PV):Bool:=beq cs.length (m*sz)&&(ag||beq sz 1&&cs.all (fun q=>q.oneCell))
def zCA(i c sz:Nat)(ag:Bool)(m:Nat)(q:PV):PV :=
 match zBh q with
 |some xs=>match xs[i]? with
  |some x=>bif zCs ag sz m ((x.cells.drop c).take (m*sz))&&(zBq x.cells).isEmpty then .sl (zCt ag sz m (zAv ((x.cells.drop c).take (m*sz)))) else .bad|none=>.bad
 |none=>.bad
def zFa:PV->PV
 |.omap es=>.map es|_=>.bad
def zFN(q:Option PV)(f:PV->PV):PV :=
 match q with
 |some x=>f x|none=>.bad
def inl(r:Nat)(pre:zA2)(q0:PV):PV->PV
 |.addr r' q i c sh=>bif zAT r pre r' q then zFN (zAF q0 (q.drop pre.length)) (zDQ i c sh) else .addr r' q i c sh|.bor r' q z lo n=>bif zAT r pre r' q then zFN (zAF q0 (q.drop pre.length)) (zCh lo n) else .bor r' q z lo n|.bsl r' q i c sz ag n=>bif zAT r pre r' q then zFN (zAF q0 (q.drop pre.length)) (zCA i c sz ag n) else .bsl r' q i c sz ag n|.bmap r' q=>bif zAT r pre r' q then zFN (zAF q0 (q.drop pre.length)) zFa else .bmap r' q|p=>p
def PV.isLock:PV->Bool
 |.lock _=>true|_=>false
def Env.frz(e:Env)(r:Nat)(pre:zA2):Option Env :=
 bif (e.get r).isLock then none else match zAF (e.get r) pre with
 |some q=>match zAA (fun _=>some (zAY q)) (e.get r) pre with
  |some root=>some ((e.set r root).map fun x=>(x.1,x.2.mapW (inl r pre q)))
  |none=>none
 |none=>none
def Env.kill(e:Env)(r:Nat)(pre:zA2):Env:=e.map fun x=>(x.1,x.2.mapW (lose r pre))
def PV.num:PV->Bool
 |.int .. => true|.bool _=>true|_=>false
def PV.isWay:PV->Bool
 |.addr ..|.bor ..|.bsl ..|.bmap ..|.log .. => true|_=>false
def Env.forget(e:Env)(h:Nat):Env:=e.map fun x=>bif beq x.1 h||x.2.num then x else(x.1,.bad)
def zAy(r:Nat)(root:PV)(pre:zA2)(i c n:Nat):Option (Bool×List PV) :=
 match zAF root.unlock pre with
 | some q=>match zBh q with
  |some xs=>match xs[i]? with
   |some x=>bif ble (c+n) x.cells.length then some (x.isAgg,zBJ r pre i c ((x.cells.drop c).take n)) else none|none=>none
  |none=>none
 |none=>none
def zDN:PV->zA2->Bool
 |.own ..,_=>true|_,[]=>false
 | p,(i,c)::rest =>
  match zA6 p with
  | some xs=>match xs[i]? with
   |some x=>match x.cells[c]? with
    |some q=>zDN q rest|none=>false
   |none=>false
  |none=>false
def zBG(root:PV)(pre:zA2)(i c:Nat)(qs:List PV):Option PV :=
 bif zDN root pre && !(zBq qs).isEmpty then none else zAA (fun q=>match zBh q with
  |some xs=>match xs[i]? with
   |some x=>bif ble (c+qs.length) x.cells.length then zAN q (xs.set i (zAH x c qs)) else none|none=>none
  |none=>none) root pre
def PM.run(o:zAO):PM->Env->Option Env
 |.ok,e=>some e|.fail,_=>none|.view s k,e=>(k (Eng.view s (e.get s))).run o e|.get s k,e=>match e.get s with
  |.lock _=>none|p=>(k p).run o e
 |.set s p k,e=>k.run o (e.set s p)|.cells r pre i c n k,e=>match zAy r (e.get r) pre i c n with
  |some (a,qs)=>(k a qs).run o e|none=>none
 |.deep r pre k,e=>match zAF (e.get r).unlock pre with
  |some q=>(k q).run o e|none=>none
 |.wcells r pre i c qs k,e=>match zBG (e.get r) pre i c qs with
  |some root=>k.run o (e.set r root)|none=>none
 |.wnode r pre q k,e=>bif (e.get r).isLock then none else match zAA (fun _=>some q) (e.get r) pre with
  |some root=>k.run o (e.set r root)|none=>none
 |.kill r pre k,e=>k.run o (e.kill r pre)|.frz r pre k,e=>match e.frz r pre with
  |some e'=>k.run o e'|none=>none
 |.killEx r keep k,e=>k.run o (e.killEx r keep)|.forget h k,e=>k.run o (e.forget h)|.call f args hid k,e=>match o f args hid with
  |some (v,hX)=>(k v hX).run o e|none=>none
structure Tok where
 look:LN:=[]
 rd:LN:=[]
 cel:List (Nat×zA2):=[]
 wr:LN:=[]
 inn:List (Nat×zA2):=[]
 ways:List (Nat×zA2):=[]
 kills:LN:=[]
 killsIn:LN:=[]
 all:Bool:=false
 deriving Inhabited
def Tok.join(a b:Tok):Tok:=⟨a.look++b.look,a.rd++b.rd,a.cel++b.cel,a.wr++b.wr,a.inn++b.inn,a.ways++b.ways,a.kills++b.kills,a.killsIn++b.killsIn,a.all||b.all⟩
def zCI:PV->PV->Bool
 |.box p,.box q=>p.isAgg==q.isAgg&&beq p.cells.length q.cells.length|.own sz xs,.own sz' ys=>beq sz sz'&&beq xs.length ys.length|.omap _,.omap _=>true|_,_=>false
def zAP:PV->PV->zA2->Bool
 |.agg cs,.agg ds,(_,c)::_=>match cs[c]?,ds[c]? with
  |some p,some q=>zCI p q|_,_=>false
 |p,q,_=>zCI p q
def zS2(a b:LN):Bool:=a.any fun x=>b.any (beq x)
def zN9(l:List (Nat×zA2)):LN:=l.map (·.1)
def zQg(a b:Tok):Bool :=
 a.all||zS2 a.wr b.look||zS2 a.wr b.rd||zS2 a.wr (zN9 b.cel)||zS2 a.wr b.wr||zS2 a.wr (zN9 b.inn)||zS2 (zN9 a.inn) b.rd||zS2 (zN9 a.inn) (zN9 b.inn) ||
  a.inn.any (fun w=>b.cel.any fun c=>beq w.1 c.1&&w.2.isPrefixOf c.2)||zS2 a.kills (zN9 b.ways) ||
  zS2 a.killsIn (zN9 (b.ways.filter fun w=>!w.2.isEmpty))
def zQU(a b:Tok):Bool:=zQg a b||zQg b a
def zFO(s:Nat)(p q:PV):Tok:={wr:=[s],ways:=p.ways++q.ways}
def zAV(D:LN)(g g':Nat->PV)(ks ki:LN):Tok:={wr:=D,ways:=D.flatMap fun s=>(g s).ways++(g' s).ways,kills:=ks,killsIn:=ki}
def zDo(e:Env)(h:Nat×zA2->Bool):LN:=(e.filter fun x=>x.2.ways.any h).map (·.1)
def zBj(r:Nat)(w:zA2)(b:Bool)(p q:PV):Tok:={inn:=bif b then[(r,w)] else[],wr:=bif b then[] else[r],ways:=p.ways++q.ways}
def PM.runT(o:zAO):PM->Env->Option (Env×Tok)
 |.ok,e=>some (e,{})|.fail,_=>none|.view s k,e=>((k (Eng.view s (e.get s))).runT o e).map fun x=>(x.1,Tok.join {look:=[s]} x.2)
 |.get s k,e=>match e.get s with
  |.lock _=>none|p=>((k p).runT o e).map fun x=>(x.1,Tok.join {rd:=[s]} x.2)
 |.set s p k,e=>(k.runT o (e.set s p)).map fun x=>(x.1,Tok.join (zFO s (e.get s) p) x.2)
 |.cells r pre i c n k,e=>match zAy r (e.get r) pre i c n with
  |some (a,qs)=>((k a qs).runT o e).map fun x=>(x.1,Tok.join {cel:=[(r,pre)]} x.2)
  |none=>none
 |.deep r pre k,e=>match zAF (e.get r).unlock pre with
  |some q=>((k q).runT o e).map fun x=>(x.1,Tok.join {rd:=[r]} x.2)
  |none=>none
 |.wcells r pre i c qs k,e=>match zBG (e.get r) pre i c qs with
  |some root=>(k.runT o (e.set r root)).map fun x=>(x.1,Tok.join (zBj r [] (zAP (e.get r) root pre) (e.get r) root) x.2)
  |none=>none
 |.wnode r pre q k,e=>bif (e.get r).isLock then none else match zAA (fun _=>some q) (e.get r) pre with
  |some root=>(k.runT o (e.set r root)).map fun x=>(x.1,Tok.join (zBj r pre.dropLast (zAP (e.get r) root pre&&(pre.isEmpty || !q.isAgg)) (e.get r) root) x.2)
  |none=>none
 |.kill r pre k,e=>(k.runT o (e.kill r pre)).map fun x=>(x.1,Tok.join (zAV (zDo e fun z=>zAT r pre z.1 z.2) e.get (e.kill r pre).get [r] []) x.2)
 |.frz r pre k,e=>match e.frz r pre with
  |some e'=>(k.runT o e').map fun x=>(x.1,Tok.join (zAV (r::zDo e fun z=>zAT r pre z.1 z.2) e.get e'.get [r] []) x.2)
  |none=>none
 |.killEx r keep k,e=>(k.runT o (e.killEx r keep)).map fun x=>(x.1,Tok.join (zAV (zDo e fun z=>beq z.1 r && !z.2.isEmpty) e.get (e.killEx r keep).get [] [r]) x.2)
 |.forget h k,e=>(k.runT o (e.forget h)).map fun x=>(x.1,{all:=true})
 |.call f args hid k,e=>match o f args hid with
  |some (v,hX)=>(k v hX).runT o e|none=>none
variable (P:Program)
def szT(t:TypeId):ON:=(P.info? t).map (·.size)
def zIt(t:TypeId):ON:=(P.info? t).map (·.bytes)
def shT(t:TypeId):Option ON :=
 match P.underlying t,P.info? t with
 |some (.struct _),some i=>some (some i.size)|some (.array _ _),some i=>some (some i.size)|some _,some i=>if i.size=1 then some none else none
 |_,_=>none
def zB1(t:TypeId):Option TypeId :=
 match P.underlying t with
 |some (.slice e)=>some e|_=>none
def zeroCells:Nat->TypeId->Option (List PV)
 |0,_=>none|n+1,t=>match P.underlying t with
  |some (.int k)=>some [.int k 0]|some .bool=>some [.bool false]|some (.pointer _)=>some [.nilp]|some (.func ..)=>some [.nilf]|some (.map ..)=>some [.nilm]|some (.slice e)=>(szT P e).map fun s=>[.own s []]
  |some (.array m e)=>(zeroCells n e).map fun z=>(replicate m z).flatten
  |some (.struct fs)=>(fs.toList.mapM fun f=>zeroCells n f.type).map List.flatten
  |_=>none
def zK0:PV->Value->Bool
 |.int k n,.int k' m=>decide (k=k')&&decide (n=m)|.bool a,.bool b=>a==b|.nilp,.pointer none=>true|.nilf,.nilFunc=>true|.nilm,.map none=>true|.own _ [],.slice none 0 0=>true|_,_=>false
def zV5:List PV->List Value->Bool
 |[],[]=>true|p::ps,v::vs=>zK0 p v&&zV5 ps vs|_,_=>false
def zMV:PV->Value->Bool
 |.agg cs,.agg vs=>zV5 cs vs.toList|.agg _,_=>false|p,v=>zK0 p v
def zCM(t:TypeId):Option PV :=
 match zeroCells P 20 t,shT P t,(P.info? t).bind (·.zero) with
 |some cs,some sh,some v=>bif zMV (zOi sh cs) v then some (zOi sh cs) else none|_,_,_=>none
def zER:Value->PV
 |.int k n=>.int k n|.bool b=>.bool b|.slice none 0 0=>.nils 0|.pointer none=>.nilp|.nilFunc=>.nilf|.map none=>.nilm|.agg cs=>.agg (cs.toList.map fun|.int k n=>.int k n|.bool b=>.bool b|_=>.bad)
 |_=>.bad
def opd(x:Operand)(k:PV->PM):PM :=
 match x with
 |.tmp t=>.view t k|.const v=>k (zER v)|.func f=>k (.func f [] [])|.global _=>.fail
def zOK(x:Operand)(k:PV->PM):PM :=
 match x with
 |.tmp t=>.get t fun p=>if p.heavy then .set t .bad (k p) else k p
 |.const v=>k (zER v)|.func f=>k (.func f [] [])|.global _=>.fail
def zWd:List Operand->(List PV->PM)->PM
 |[],k=>k []|x::xs,k=>opd x fun p=>zWd xs fun ps=>k (p::ps)
def zVT:List Operand->(List PV->PM)->PM
 |[],k=>k []|x::xs,k=>zOK x fun p=>zVT xs fun ps=>k (p::ps)
def lay(d:Nat)(p:PV)(k:PM):PM:=bif p.heavy then .kill d [] (.set d (p.mapW (lose d [])) k) else .set d p k
def put(d:ON)(p:PV):PM :=
 match d with
 |none=>.ok|some d=>bif p.isTup then .fail else lay d p .ok
def zBA(d i:Nat):Nat:=2000000+16*d+i
def zFs(d:Nat):Nat->List PV->PM->PM
 |n,[],k=>.set d (.tup (replicate n .bad)) k|i,p::ps,k=>lay (zBA d i) p (zFs d (i+1) ps k)
def zKB(d s:Nat):Bool:=ble (zBA d 0) s&&blt s (zBA d 16)
def zDy(d:ON)(v:PV):PM :=
 match d,v with
 |some d,.tup vs=>bif ble vs.length 16&&(zBq vs).all (fun w=>!zKB d w.1) then .set d .bad (zFs d 0 vs .ok) else .fail
 |d,v=>put d v
def zGl(s d:Nat):Nat->Nat->PM
 |n,0=>.set d (.tup (replicate n .bad)) .ok|i,n+1=>.get (zBA s i) fun p=>.set (zBA s i) .bad (lay (zBA d i) p (zGl s d (i+1) n))
def zZM:PV->PV->Option Bool
 |.int k a,.int k' b=>if k=k' then some (a==b) else none
 |.bool a,.bool b=>some (a==b)|.nilp,.nilp=>some true|_,_=>none
def zET:List PV->List PV->Option Bool
 |[],[]=>some true|p::ps,q::qs=>match zZM p q,zET ps qs with
  |some a,some b=>some (a&&b)|_,_=>none
 |_,_=>none
def zFB:PV->Bool
 |.sl (_::_)=>true|.nn=>true|.own _ (_::_)=>true|.bor _ _ _ _ (_+1)=>true|_=>false
def sub(p:PV)(off:Nat)(sh:ON):Option PV :=
 match p,sh with
 |.agg cs,some n=>if off+n<=cs.length then some (.agg ((cs.drop off).take n)) else none
 |.agg cs,none=>cs[off]?|_,_=>none
def zRL (eq:TypeId->PV->PV->Option Bool) (sh:TypeId->Option ON) (p q:PV):List Field->Option Bool
  |[]=>some true
  | f :: fs =>
    if f.name = "_" then zRL eq sh p q fs else
    match sh f.type with
    | some s=>match sub p f.offset s,sub q f.offset s with
      | some a,some b=>match eq f.type a b with
        |some true=>zRL eq sh p q fs|r=>r
      |_,_=>none
    |none=>none
def zUF(eq:PV->PV->Option Bool)(sh:ON)(sz:Nat)(p q:PV):Nat->Nat->Option Bool
 |_,0=>some true
 | i,n+1 =>
  match sub p (i*sz) sh,sub q (i*sz) sh with
  |some a,some b=>match eq a b with
   |some true=>zUF eq sh sz p q (i+1) n|r=>r
  |_,_=>none
def eqT:Nat->TypeId->PV->PV->Option Bool
 |0,_,_,_=>none
 | n + 1,t,p,q =>
  match P.underlying t,p,q with
  |some (.int _),.int k a,.int k' b=>if k=k' then some (a==b) else none
  |some .bool,.bool a,.bool b=>some (a==b)|some (.pointer _),.nilp,.nilp=>some true|some (.struct fs),.agg xs,.agg ys=>bif P.stoodInHeld t then none else zRL (eqT n) (shT P) (.agg xs) (.agg ys) fs.toList|some (.array len e),.agg xs,.agg ys=>match szT P e,shT P e with
   |some sz,some sh=>zUF (eqT n e) sh sz (.agg xs) (.agg ys) 0 len|_,_=>none
  |_,_,_=>none
def eqV(t:TypeId)(p q:PV):Option Bool :=
 match q with
 |.nils _=>match P.underlying t,p with
  |some (.slice _),.nils _=>some true|some (.slice _),p=>bif zFB p then some false else none|_,_=>none
 |.agg ys=>match p with
  |.agg xs=>bif P.eqGuardType P.depth t then none else eqT P 20 t (.agg xs) (.agg ys)|_=>none
 |q=>bif p.isAgg then none else eqT P 20 t p q
def zXk(op:BinOp)(k:IntKind)(a b:Int):Option PV :=
 match op with
 |.add=>some (.int k (k.wrap (a+b)))|.sub=>some (.int k (k.wrap (a-b)))|.mul=>some (.int k (k.wrap (a*b)))|.quo=>if b=0 then none else some (.int k (k.wrap (a.tdiv b)))
 |.rem=>if b=0 then none else some (.int k (a.tmod b))
 |.and=>some (.int k (k.wrap (BitVec.ofInt k.bits a &&& BitVec.ofInt k.bits b).toNat))|.or=>some (.int k (k.wrap (BitVec.ofInt k.bits a ||| BitVec.ofInt k.bits b).toNat))|.xor=>some (.int k (k.wrap (BitVec.ofInt k.bits a ^^^ BitVec.ofInt k.bits b).toNat))|.eql=>some (.bool (a==b))|.neq=>some (.bool (a != b))|.lss=>some (.bool (decide (a<b)))|.leq=>some (.bool (decide (a<=b)))|.gtr=>some (.bool (decide (a>b)))|.geq=>some (.bool (decide (a>=b)))|_=>none
def zHJ(op:BinOp)(t:TypeId)(p q:PV):Option PV :=
 match op,p,q with
 |.shl,.int k a,.int _ b=>if b<0 then none else some (.int k (k.wrap (a*2 ^ (min b.toNat k.bits))))
 |.shr,.int k a,.int _ b=>if b<0 then none else some (.int k (a.fdiv (2 ^ (min b.toNat k.bits))))
 |op,.int k a,.int k' b=>if k=k' then zXk op k a b else none
 |.eql,p,q=>(eqV P t p q).map .bool|.neq,p,q=>(eqV P t p q).map fun b=>.bool (!b)
 |_,_,_=>none
def lenOf:PV->ON
 |.nils _=>some 0|.nn=>some 0|.sl xs=>some xs.length|.bor _ _ _ _ n=>some n|.bsl _ _ _ _ _ _ n=>some n|_=>none
def zNE(r:Nat)(pre:zA2)(i c:Nat)(sh:ON)(k:PV->PM):PM :=
 match sh with
 |some n=>.cells r pre i c n fun a qs=>bif a then k (.agg qs) else .fail
 |none=>.cells r pre i c 1 fun _ qs=>k (qs.headD .bad)
def zD8(r:Nat)(pre:zA2)(i:Nat):Nat->List PV->PM->PM
 |_,[],k=>k|c,q::qs,k=>bif q.heavy then .kill r (pre++[(i,c)]) (zD8 r pre i (c+1) qs k) else zD8 r pre i (c+1) qs k
def zEF(res:PV->(PV->List (Nat×zA2)->PM)->PM):List PV->(List PV->List (Nat×zA2)->PM)->PM
 |[],k=>k [] []|p::ps,k=>res p fun q l=>zEF res ps fun qs m=>k (q::qs) (l++m)
def resolve (hb:Nat):Nat->PV->(PV->List (Nat×zA2)->PM)->PM
 |0,_,_=>.fail
 | n + 1,p,k =>
  match p with
  | .addr r pre i c sh=>bif ble hb r then k p [] else .deep r pre fun q=>match zBh q with
   | some xs=>match xs[i]? with
    | some x=>match sh with
     |some m=>bif ble (c+m) x.cells.length&&x.isAgg then resolve hb n (.agg ((x.cells.drop c).take m)) fun q l=>k (.ref q) ((r,pre)::l) else .fail
     |none=>match x.cells[c]? with
      |some q=>bif q.oneCell then resolve hb n q fun q l=>k (.ref q) ((r,pre)::l) else .fail
      |none=>.fail
    |none=>.fail
   |none=>.fail
  |.bor r pre _ lo m=>bif ble hb r then k p [] else .deep r pre fun q=>match q with
   |.own _ xs=>bif ble (lo+m) xs.length then k (.sl (zAv ((xs.drop lo).take m))) [(r,pre)] else .fail|_=>.fail
  | .bsl r pre i c sz ag m=>bif ble hb r then k p [] else .deep r pre fun q=>match zBh q with
   |some xs=>match xs[i]? with
    |some x=>bif zCs ag sz m ((x.cells.drop c).take (m*sz))&&(zBq x.cells).isEmpty then k (.sl (zCt ag sz m (zAv ((x.cells.drop c).take (m*sz))))) [(r,pre)] else .fail|none=>.fail
   |none=>.fail
  |.bmap r pre=>bif ble hb r then k p [] else .deep r pre fun q=>match q with
   |.omap es=>k (.map es) [(r,pre)]|_=>.fail
  |.agg cs=>bif (p.ways).isEmpty then k (zAY p) [] else zEF (resolve hb n) cs fun qs l=>k (.agg qs) l
  |.func f a b=>bif (p.ways).isEmpty then k p [] else zEF (resolve hb n) a fun as l=>zEF (resolve hb n) b fun bs m=>k (.func f as bs) (l++m)
  |.ref q=>bif (q.ways).isEmpty then k p [] else resolve hb n q fun q l=>k (.ref q) l
  |.bad=>k .bad []|p=>bif p.ways.all (fun w=>ble hb w.1) then k (zAY p) [] else .fail
def zHI(p:PV)(k:List PV->PM):PM :=
 match p with
 |.nils _=>k []|.nn=>k []|.sl xs=>k xs|.bor r pre z lo n=>.deep r pre fun q=>match q with
  |.own _ xs=>bif ble (lo+n) xs.length then k ((xs.drop lo).take n) else .fail|_=>.fail
 |.bsl r pre i c sz ag n=>.cells r pre i c (n*sz) fun _ cs=>bif zCs ag sz n cs&&cs.all (fun q=>q.plain0) then k (zCt ag sz n cs) else .fail
 |_=>.fail
def zRC(p:PV)(k:PV->List (Nat×zA2)->PM):PM:=resolve zAa depth p k
def zMh(hb:Nat):Nat->PV->(PV->PM)->PM
 |0,_,_=>.fail|n+1,p,k=>match p.ways.find? (fun w=>blt w.1 hb) with
  |none=>k p|some (r,pre)=>.deep r pre fun q=>.frz r pre (zMh hb n (p.mapW (inl r pre q)) k)
def zDf:Nat:=64
end Go.Eng
namespace Go.Eng
open Go
structure FHint where
 drop:Nat->LN:=fun _=>[]
 loopDrop:Nat->LN:=fun _=>[]
 mode:LN:=[]
 frz:Bool:=false
 intr:Nat:=0
 take:Nat->LN:=fun _=>[]
 nils:Bool:=false
 frzs:Nat->LN:=fun _=>[]
 ices:Nat->LN:=fun _=>[]
abbrev zBd:=FuncId->FHint
instance:Inhabited FHint:=⟨{}⟩
def zEM(m:List (Nat×Nat)):PV->PV
 |.addr r pre i c sh=>match m.lookup r with
  |some h=>.addr h pre i c sh|none=>.bad
 |.bor r pre z lo n=>match m.lookup r with
  |some h=>.bor h pre z lo n|none=>.bad
 |.bsl r pre i c sz ag n=>match m.lookup r with
  |some h=>.bsl h pre i c sz ag n|none=>.bad
 |.bmap r pre=>match m.lookup r with
  |some h=>.bmap h pre|none=>.bad
 |p=>p
def zGY(m:List (Nat×Nat))(p:PV):PV:=p.mapW (zEM m)
def zOL(p:PV):LN:=(p.ways).map (·.1)
structure Arg where
 p:PV
 shared:List (Nat×zA2):=[]
 byref:Bool:=false
def zEh:LN->List PV->(List (Bool×PV)->PM)->PM
 |_,[],k=>k []
 | ms,p::ps,k =>
  match ms.headD 0,p with
  |2,.bor r pre _ 0 n=>.deep r pre fun q=>match q with
   |.own sz xs=>bif ble n xs.length then .wnode r pre .bad (zEh ms.tail ps fun as=>k ((true,.own sz ((xs.drop 0).take n))::as)) else .fail
   |_=>.fail
  |_,p=>zEh ms.tail ps fun as=>k ((false,p)::as)
def zCw:LN->List (Bool×PV)->(List Arg->PM)->PM
 |_,[],k=>k []|ms,(true,p)::ps,k=>zCw ms.tail ps fun as=>k ({p:=p}::as)
 |ms,(false,p)::ps,k=>
  bif beq (ms.headD 0) 1 then zCw ms.tail ps fun as=>k ({p:=p,byref:=true}::as)
  else zRC p fun q l=>zCw ms.tail ps fun as=>k ({p:=q,shared:=l}::as)
def zEp:LN->List (Bool×PV)->(List Arg->PM)->PM
 |_,[],k=>k []|ms,(true,p)::ps,k=>zEp ms.tail ps fun as=>k ({p:=p}::as)
 |ms,(false,p)::ps,k=>
  bif beq (ms.headD 0) 1 then zEp ms.tail ps fun as=>k ({p:=p,byref:=true}::as)
  else zMh zAa zDf p fun q=>zEp ms.tail ps fun as=>k ({p:=q}::as)
def zOR:LN->(List PV->PM)->PM
 |[],k=>k []|r::rs,k=>.get r fun p=>zOR rs fun ps=>k (p::ps)
def zGO(old new:PV):Bool :=
 match new,old with
 |.own sz _,.own sz' _=>beq sz sz'|.own ..,_=>false|.box _,.box _=>true|.box _,_=>false|.omap _,.omap _=>true|.omap _,_=>false|.lock _,_=>false|.tup _,_=>false|_,_=>true
def zOt:LN->List PV->List PV->PM->PM
 |r::rs,o::os,p::ps,k=>bif zGO o p then .wnode r [] p (zOt rs os ps k) else .fail|[],[],[],k=>k|_,_,_,_=>.fail
def zLr:Nat->LN->(LN->PM)->PM
 |0,R,k=>k R|n+1,R,k=>zOR R fun ts=>let R':=(R++ts.flatMap zOL).eraseDups;bif beq R'.length R.length then k R else zLr n R' k
def zLB:LN->PM->PM
 |[],k=>k|r::rs,k=>.killEx r [] (zLB rs k)
def zPF(as:List Arg):LN:=(as.flatMap fun a=>if a.byref then zOL a.p else[]).eraseDups
def zHT:LN->Bool
 |[]=>true|r::rs=>!rs.contains r&&zHT rs
variable (P:Program) (H:zBd)
def zDC(R:LN):List (Nat×Nat):=R.zipIdx.map fun(r,j)=>(r,zAm+j)
def zCj(R:LN):List (Nat×Nat):=R.zipIdx.map fun(r,j)=>(zAm+j,r)
def zR4 (d:ON) (f:FuncId) (as:List Arg) (again:PM):PM :=
 zLr 3 (zPF as) fun R=>
 bif zHT R&&R.all (fun r=>blt r zAa)&&ble R.length 1000&&ble as.length 1000&&(as.flatMap (·.shared)).all (fun x=>!R.contains x.1) then
  zOR R fun hid=>.call f (as.map fun a=>if a.byref then zGY (zDC R) a.p else a.p) (hid.map (zGY (zDC R))) fun v hX=>
   bif (as.flatMap (·.shared)).isEmpty||v.free&&zDu hX then
    zLB R<|zOt R hid (hX.map (zGY (zCj R))) (zDy d (zGY (zCj R) v))
   else again
 else .fail
def zOy(d:ON)(f:FuncId)(args:List PV):PM :=
 zEh (H f).mode args fun bs=>zCw (H f).mode bs fun as=>zR4 d f as (zEp (H f).mode bs fun as=>zR4 d f as .fail)
def zYI:List PV->Option PV
 |.int k a::r=>(r.foldl (fun m p=>match m,p with
  |some m,.int k' b=>if k=k' then some (if b>m then b else m) else none
  |_,_=>none) (some a)).map (.int k)
 |_=>none
def zZC:List PV->Option PV
 |.int k a::r=>(r.foldl (fun m p=>match m,p with
  |some m,.int k' b=>if k=k' then some (if b<m then b else m) else none
  |_,_=>none) (some a)).map (.int k)
 |_=>none
def zIV{α:Type}(x:Option α)(k:α->PM):PM :=
 match x with
 |some a=>k a|none=>.fail
def zWJ:PV->(Bool->PM)->PM
 |.bool b,k=>k b|_,_=>.fail
def zGQ:PV->(Nat->PM)->PM
 |.int _ n,k=>if 0<=n then k n.toNat else .fail
 |_,_=>.fail
def zAJ:Nat:=4294967296
def zGN(r:Nat)(pre:zA2):Nat->List PV->PM->PM
 |_,[],k=>k|i,y::ys,k=>zD8 r pre i 0 y.cells (.wcells r pre i 0 y.cells (zGN r pre (i+1) ys k))
def zLW(d:ON)(r:Nat)(pre:zA2)(z lo n s:Nat)(xs ys:List PV):PM :=
 bif blt 0 z&&beq z s&&ble (lo+n+ys.length) xs.length&&ys.all (fun y=>y.plain) then zGN r pre (lo+n) ys (put d (.bor r pre z lo (n+ys.length))) else .fail
def zMl (d:ON) (sz:Nat) (base:PV) (ys:List PV):PM :=
 bif ys.all (fun y=>beq y.cells.length sz&&y.cells.all fun q=>q.oneCell)&&(zBq ys).isEmpty then
 match base with
 | .bor r pre z lo n => .deep r pre fun q=>match q with
  | .own s xs =>
   bif beq s sz&&ble (lo+n) xs.length&&ble (xs.length+ys.length) zAJ then
    bif beq (lo+n) xs.length then
     bif beq lo 0 then .wnode r pre .bad (put d (.own sz (xs++ys))) else .fail
    else zLW d r pre z lo n s xs ys
   else .fail
  |_=>.fail
 |.nils _=>bif ble ys.length zAJ then put d (.own sz ys) else .fail|_=>.fail
 else .fail
def zOv(x:Operand)(k:List PV->PM):PM :=
 match x with
 |.tmp t=>.get t fun p=>match p with
  |.own _ xs=>.set t .bad (k xs)|_=>.view t fun p=>zHI p fun xs=>if xs.all (fun x=>x.plain) then k xs else .fail
 |x=>opd x fun p=>zHI p fun xs=>if xs.all (fun x=>x.plain) then k xs else .fail
def zTs(d:ON)(z:Option PV×ON)(p:PV):PM :=
 match p,d,z.1,z.2 with
 |.bor r pre z lo n,none,some q,some s=>bif blt 0 z&&beq z s&&beq q.cells.length s&&q.plain then zGN r pre lo (replicate n q) .ok else .fail|.sl [],none,some _,some _=>.ok|.nils _,none,some _,some _=>.ok|_,_,_,_=>.fail
def zBy(d:ON)(b:Builtin)(ts:List TypeId)(args:List Operand):PM :=
 match b,args,ts with
 | .len,[x],t::_=>opd x fun p=>match P.underlying t with
  |some (.array n _)=>put d (.int .i64 n)|some (.slice _)=>match lenOf p with
   |some n=>put d (.int .i64 n)|none=>.fail
  |_=>.fail
 |.append,[x,y],[t,t2]=>bif (zB1 P t2).isNone then .fail else match(zB1 P t).bind (szT P),(zB1 P t).bind (zIt P),(zB1 P t).bind (zCM P) with
  |some sz,some by_,some z=>if by_<=16384/\z.cells.length=sz then opd x fun base=>zOv y fun ys=>zMl d sz base ys else .fail
  |_,_,_=>.fail
 |.copy,[x,y],t::_=>zIV ((zB1 P t).bind (szT P)) fun s=>opd x fun p=>opd y fun q=>zHI q fun ys=>match p with
  |.bor r pre z lo n=>bif beq z s&&blt 0 z&&ble ys.length n&&ys.all (fun y=>y.plain&&beq y.cells.length s) then zGN r pre lo ys (put d (.int .i64 ys.length)) else .fail
  |_=>.fail
 |.clear,[x],t::_=>opd x fun p=>zTs d ((zB1 P t).bind (zCM P),(zB1 P t).bind (szT P)) p
 |.max,xs,_=>zWd xs fun ps=>match zYI ps with
  |some v=>put d v|none=>.fail
 |.min,xs,_=>zWd xs fun ps=>match zZC ps with
  |some v=>put d v|none=>.fail
 |_,_,_=>.fail
def zF8(place:Nat->Option (Nat×Nat)):List PV->List (Nat×PV)->Option (List PV)
 |z,[]=>some z|z,(i,v)::r=>match place i with
  |some (off,n)=>if v.cells.length=n/\off+n<=z.length/\v.whole=true then zF8 place (z.take off++v.cells++z.drop (off+n)) r else none
  |none=>none
def zPJ(place:Nat->Option (Nat×Nat))(z:List PV)(ps:List (Nat×Operand))(k:List PV->PM):PM :=
 zVT (ps.map (·.2)) fun vs=>match zF8 place z ((ps.map (·.1)).zip vs) with
  |some cs=>k cs|none=>.fail
def zM0(n:Nat)(z:PV)(ps:List (Nat×PV)):List PV :=
 ps.foldl (fun xs (i,v)=>xs.set i v) (replicate n z)
def zLF(t:TypeId)(i:Nat):Option Field :=
 match P.underlying t with
 |some (.struct fs)=>fs[i]?|_=>none
def zPD(p:PV)(off:Nat)(sh:ON):Option PV :=
 match p with
 |.ref q=>match sub q off sh with
  |some x=>bif sh.isSome||x.oneCell then some (.ref x) else none
  |none=>none
 |.addr r pre i c (some _)=>some (.addr r pre i (c+off) sh)|_=>none
def zBO(p:PV)(off:Nat)(sh:ON):Option PV :=
 match sh with
 |some 0=>none|sh=>zPD p off sh
def zUC(x:Option Operand)(n:Nat)(k:Nat->PM):PM :=
 match x with
 |some x=>opd x fun p=>zGQ p k
 |none=>k n
def zPk (d:ON) (s:Nat) (p:PV) (l h:Nat):PM :=
 match p with
 |.sl xs=>bif ble l h&&ble h xs.length&&xs.all (fun x=>beq x.cells.length s) then put d (.sl ((xs.drop l).take (h-l))) else .fail
 | .bor r pre z a n =>
  bif beq z s&&ble l h then
   bif ble h n then put d (bif beq l 0||blt l h then .bor r pre z (a+l) (h-l) else .sl [])
   else .deep r pre fun q=>match q with
    |.own _ xs=>bif ble (a+h) xs.length then put d (bif beq l 0||blt l h then .bor r pre z (a+l) (h-l) else .sl []) else .fail|_=>.fail
  else .fail
 |_=>.fail
def zST(d:ON)(n s:Nat)(sh:ON)(p:PV)(l h:Nat):PM :=
 bif ble l h&&ble h n&&(beq l 0||blt l n) then
  match p with
  |.addr r pre i c _=>put d (.bsl r pre i (c+l*s) s sh.isSome (h-l))|.ref (.agg cs)=>bif ble (n*s) cs.length&&zCs sh.isSome s (h-l) ((cs.drop (l*s)).take ((h-l)*s))&&(zBq cs).isEmpty then put d (.sl (zCt sh.isSome s (h-l) ((cs.drop (l*s)).take ((h-l)*s)))) else .fail|_=>.fail
 else .fail
def zJV(d:ON)(t:TypeId)(x:Operand)(lo hi mx:Option Operand):PM :=
 match mx with
 | some m=>opd x fun p=>match p,P.underlying t with
  |.bor _ _ _ _ n,some (.slice e)=>zIV (szT P e) fun _=>zUC (some m) n fun m=>match hi with
   |some hi=>zUC (some hi) n fun h=>zUC lo 0 fun l=>bif ble l h&&ble h m&&ble m n then put d .bad else .fail
   |none=>.fail
  |_,_=>.fail
 | none=>opd x fun p=>match P.underlying t with
  |some (.array n e)=>match szT P e,shT P e with
   |some s,some sh=>zUC hi n fun h=>zUC lo 0 fun l=>zST d n s sh p l h
   |_,_=>.fail
  |some (.slice e)=>match szT P e,lenOf p with
   |some s,some n=>zUC hi n fun h=>zUC lo 0 fun l=>zPk d s p l h
   |_,_=>.fail
  |_=>.fail
def zO3(p:PV)(k:PV->PM)(k2:PM):PM :=
 match p with
 |.bor r pre _ lo n=>.deep r pre fun q=>match q with
  |.own sz xs=>bif beq lo 0&&beq n xs.length then .wnode r pre .bad (k (.own sz xs)) else k2|_=>k2
 |.bmap r pre=>.deep r pre fun q=>match q with
  |.omap es=>.wnode r pre .bad (k (.omap es))|_=>k2
 |p=>k p
def zM3(p:PV)(k:PV->PM):PM:=zO3 p k (zMh zAa zDf p k)
def zJL:List PV->(List PV->PM)->PM
 |[],k=>k []|p::ps,k=>zO3 p (fun q=>zJL ps fun qs=>k (q::qs)) .fail
def zF4(tk:Bool)(p:PV)(k:PV->PM):PM :=
 match p with
 |.agg cs=>bif tk then zJL cs fun cs=>k (.agg cs) else bif cs.any (fun c=>match c with|.bor ..|.bmap ..|.bsl .. => true|_=>false) then zMh zAa zDf p k else k p
 |.bsl .. => zMh zAa zDf p k|.bor ..|.bmap .. => bif tk then zM3 p k else zMh zAa zDf p k|p=>k p
def zGv(tk:Bool):List PV->(List PV->PM)->PM
 |[],k=>k []|p::ps,k=>zF4 tk p fun q=>zGv tk ps fun qs=>k (q::qs)
def zTF(r:Nat)(pre:zA2)(i c:Nat):PV->ON
 |.bor r' q z 0 n=>if r'=r&&q=pre++[(i,c)] then some n else none
 |_=>none
def zIs(r:Nat)(pre:zA2)(i c:Nat)(v:PV):PM :=
 bif (!v.heavy||v.ways.all (fun w=>!(zAT r pre w.1 w.2&&blt pre.length w.2.length)))&&v.cells.all (fun q=>q.oneCell) && !v.cells.isEmpty then zD8 r pre i c v.cells (.wcells r pre i c v.cells .ok) else .fail
def zI9(tk:Bool)(r:Nat)(pre:zA2)(v:PV)(k:PV->PM):PM :=
 bif pre.isEmpty && !tk then .view r fun q=>(match q with|.addr .. => k v|_=>zF4 tk v k) else zF4 tk v k
def zIN(tk:Bool)(r:Nat)(pre:zA2)(i c:Nat)(v:PV):PM :=
 match zTF r pre i c v with
 |some m=>.deep r (pre++[(i,c)]) fun q=>match q with
  |.own s xs=>bif ble m xs.length then .wnode r (pre++[(i,c)]) .bad (zIs r pre i c (.own s ((xs.drop 0).take m))) else .fail|_=>.fail
 |none=>zI9 tk r pre v fun v=>zIs r pre i c v
def zQt(fz tk:Bool)(t:TypeId)(a x:Operand):PM :=
 opd a fun pa=>match pa,x with
 |.addr r pre i c _,.const (.slice none 0 0)=>zIV ((zB1 P t).bind (szT P)) fun s=>if szT P t=some 1 then zIN tk r pre i c (.own s []) else .fail
 |pa,x=>match pa,shT P t,szT P t with
 |.addr r pre i c _,some sh,some n=>(bif fz&&tk then opd x else zOK x) fun v=>
  bif beq v.cells.length n&&v.isAgg==sh.isSome then zIN (tk && !fz) r pre i c (bif fz && !tk then zAY v else v) else .fail
 |_,_,_=>.fail
def zVU(d:ON)(t:TypeId):PM :=
 match(zB1 P t).bind (szT P) with
 |some s=>put d (.own s [])|none=>.fail
def zN5(d:ON)(t:TypeId)(s:Nat):PM :=
 match P.underlying t,d with
 |some (.tuple ts),some d'=>.get s fun m=>match m with
  |.tup ps=>if ps.length=ts.size/\ts.size<=16 then .set d' .bad (zGl s d' 0 ts.size) else .fail
  |_=>.fail
 |_,_=>opd (.tmp s) (put d)
def zTQ(d:ON)(t:TypeId)(x:Operand):PM :=
 match x with
 |.const (.slice none 0 0)=>zVU P d t|.tmp s=>zN5 P d t s|x=>opd x (put d)
def zFj(d:ON)(p:PV):PM :=
 match d,p with
 | some d',.bor r [] z lo n=>if r=d' then .get r fun root=>match root with
   |.own sz xs=>bif ble (lo+n) xs.length then .kill r [] (.set r (.own sz ((xs.drop lo).take n)) .ok) else .fail|_=>.fail
  else put d p
 |_,_=>put d p
def zGp(tk nl:Bool)(d:ON)(t:TypeId)(x:Operand):PM :=
 match x with
 |.const (.slice none 0 0)=>bif nl then zIV ((zB1 P t).bind (szT P)) fun s=>put d (.nils s) else zVU P d t
 |x=>zOK x fun p=>bif tk then zM3 p (zFj d) else zFj d p
def zVQ(d:ON)(x:Operand):PM:=zOK x fun p=>zMh zAa zDf p (zFj d)
def zWA(d:ON)(c a b:Operand):PM:=opd c fun p=>zWJ p fun t=>opd (if t then a else b) (put d)
def zUi(t:TypeId):PV->PV
 |.nils k=>match(zB1 P t).bind (szT P) with
  |some s=>.own s []|none=>.nils k
 |z=>z
def zUw(d:ON)(t:TypeId):PM:=zIV (zCM P t) fun z=>put d (.box (zUi P t z))
def zUQ(d:ON)(t:TypeId)(x:Operand):PM:=zOK x fun p=>match shT P t,szT P t with
 |some sh,some n=>if p.cells.length=n&&p.isAgg=sh.isSome&&p.whole then put d (.box p) else .fail
 |_,_=>.fail
def zOP(d:ON)(t:TypeId)(ps:List (Nat×Operand)):PM :=
 match P.underlying t,(zCM P t).map PV.cells with
 |some (.struct fs),some z=>bif fs.all (fun f=>(szT P f.type).isSome) then zPJ (fun i=>(fs[i]?).bind fun f=>(szT P f.type).map fun n=>(f.offset,n)) z ps (fun cs=>put d (.agg cs)) else .fail
 |some (.array _ e),some z=>zIV (szT P e) fun n=>zPJ (fun i=>some (i*n,n)) z ps fun cs=>put d (.agg cs)
 |_,_=>.fail
def zYT:Option PV->ON
 |some (.own s [])=>some s|_=>none
def zZa(nz:ON)(x:Operand)(k:PV->PM):PM :=
 match nz,x with
 |some s,.const (.slice none 0 0)=>k (.own s [])|_,x=>zOK x k
def zQS(nz:ON):List Operand->(List PV->PM)->PM
 |[],k=>k []|x::xs,k=>zZa nz x fun p=>zQS nz xs fun ps=>k (p::ps)
def zD4 (tk:Bool) (d:ON) (t:TypeId) (n:Nat) (ps:List (Nat×Operand)):PM :=
 match zB1 P t with
 | some e=>match szT P e,zCM P e with
  | some s,some z=>if n*s<=65536&&beq z.cells.length s&&ps.all (fun x=>x.1<n) then zQS (zYT (zCM P e)) (ps.map (·.2)) fun vs=>zGv tk vs fun vs =>
    if (zBq vs).isEmpty&&vs.all (fun v=>v.cells.length=s&&v.isAgg=z.isAgg&&v.whole) then put d (.own s (zM0 n z ((ps.map (·.1)).zip vs))) else .fail
   else .fail
  |_,_=>.fail
 |none=>.fail
def zQV(d:ON)(sh:ON)(p:PV):PM :=
 match p with
 |.ref q=>if q.isAgg=sh.isSome&&q.cells.length=sh.getD 1 then put d q else .fail
 |.addr r pre i c _=>zNE r pre i c sh (put d)|_=>.fail
def zQA(tk:Bool)(d:ON)(t:TypeId)(a:Operand):PM:=zIV (shT P t) fun sh=>opd a fun p=>
 bif tk then(match p with
  |.addr r pre i c _=>zNE r pre i c sh fun v=>zMh zAa zDf v (put d)
  |p=>zQV d sh p) else zQV d sh p
def zac(d:ON)(p:PV):PM :=
 match p with
 |.addr ..|.ref _|.func ..|.yld _=>put d p|_=>.fail
def zUU(d:ON)(op:BinOp)(t:TypeId)(x y:Operand):PM:=opd x fun p=>opd y fun q=>zIV (zHJ P op t p q) (put d)
def unV(d:ON)(op:UnOp)(p:PV):PM :=
 match op,p with
 |.not,.bool b=>put d (.bool !b)|.neg,.int k n=>put d (.int k (k.wrap (0-n)))|_,_=>.fail
def zSG(d:ON)(t:TypeId)(p:PV):PM :=
 match P.underlying t,p with
 |some (.int k),.int _ n=>put d (.int k (k.wrap n))|_,_=>.fail
def zLu(d:ON)(f:FuncId)(first caps:List Operand):PM:=zWd first fun a=>zWd caps fun b=>put d (.func f a b)
def zFE(d:ON)(t:TypeId)(l c:Operand):PM :=
 opd l fun l=>zGQ l fun l=>opd c fun c=>zGQ c fun c=>match zB1 P t with
 |some e=>match zCM P e,szT P e,zIt P e with
  |some z,some s,some b=>if l<=c/\c<=zAJ/\b<=16384/\z.cells.length=s then put d (.own s (replicate l z)) else .fail
  |_,_,_=>.fail
 |none=>.fail
def zJv(d:ON)(t:TypeId)(x:Operand)(i:Nat):PM :=
 opd x fun p=>zIV (zLF P t i) fun f=>zIV (shT P f.type) fun sh=>zIV (zBO p f.offset sh) (put d)
def zRZ(d:ON)(t:TypeId)(x:Operand)(i:Nat):PM :=
 opd x fun p=>zIV (zLF P t i) fun f=>zIV (shT P f.type) fun sh=>zIV (sub p f.offset sh) (put d)
def zQr(d:ON)(n:Nat)(e:TypeId)(p:PV)(i:Nat):PM :=
 match szT P e,shT P e with
 |some s,some sh=>if i<n then zIV (zBO p (i*s) sh) (put d) else .fail
 |_,_=>.fail
def zS8(d:ON)(e:TypeId)(p:PV)(i:Nat):PM :=
 match p with
 |.sl xs=>zIV (xs[i]?) fun x=>if szT P e=some x.cells.length then put d (.ref x) else .fail
 |.bor r pre z lo n=>match shT P e with
  |some sh=>if i<n/\szT P e=some z then put d (.addr r pre (lo+i) 0 sh) else .fail
  |none=>.fail
 |.bsl r pre j c s ag n=>if i<n/\szT P e=some s then put d (.addr r pre j (c+i*s) (if ag then some s else none)) else .fail
 |_=>.fail
def zFw(d:ON)(t:TypeId)(x i:Operand):PM :=
 opd x fun p=>opd i fun i=>zGQ i fun i=>match P.underlying t with
 |some (.array n e)=>zQr P d n e p i|some (.slice e)=>zS8 P d e p i|_=>.fail
def zMm(d:ON)(t:TypeId)(x i:Operand):PM :=
 opd x fun p=>opd i fun i=>zGQ i fun i=>match P.underlying t with
 |some (.array n e)=>match szT P e,shT P e with
  |some s,some sh=>if i<n then zIV (sub p (i*s) sh) (put d) else .fail
  |_,_=>.fail
 |_=>.fail
def PV.flat:PV->Bool
 |.agg cs=>cs.all PV.num|p=>p.num
def PV.lone0:PV->Bool
 |.int ..|.bool ..|.nilp|.nilf|.nilm|.nn|.nils _|.sl ..|.map .. => true|_=>false
def PV.lone:PV->Bool
 |.agg cs=>cs.all PV.lone0|p=>p.lone0
def zKF:PV->PV
 |.own _ []=>.sl []|p=>p
def zVF (ok:TypeId->PV->Bool) (sh:TypeId->Option ON) (p:PV):List Field->Bool
  |[]=>true
  | f :: fs => (if f.name = "_" then true else match sh f.type with
    | some s=>match sub p f.offset s with
      |some a=>ok f.type a|none=>false
    |none=>false)&&zVF ok sh p fs
def zWf(ok:PV->Bool)(sh:ON)(sz:Nat)(p:PV):Nat->Nat->Bool
 |_,0=>true|i,n+1=>(match sub p (i*sz) sh with
  |some a=>ok a|none=>false)&&zWf ok sh sz p (i+1) n
def zQB:Nat->TypeId->PV->Bool
 |0,_,_=>false
 | n + 1,t,p =>
  match P.underlying t,p with
  |some (.int _),.int .. => true|some .bool,.bool _=>true|some (.struct fs),.agg xs=>zVF (zQB n) (shT P) (.agg xs) fs.toList|some (.array len e),.agg xs=>match szT P e,shT P e with
   |some sz,some sh=>zWf (zQB n e) sh sz (.agg xs) 0 len|_,_=>false
  |_,_=>false
def zCk(kt:TypeId)(key:PV):List (PV×PV)->Nat->Option ON
 |[],_=>some none
 | (k,_)::es,i=>match eqT P 20 kt key k with
  |some true=>match zET key.cells k.cells with
   |some true=>some (some i)|_=>none
  |some false=>zCk kt key es (i+1)|none=>none
def zJx(d:ON)(kt:TypeId)(z key:PV)(ok:Bool)(es:List (PV×PV)):PM :=
 match zCk P kt key es 0 with
 |some (some i)=>match es[i]? with
  |some (_,v)=>bif v.lone then zDy d (if ok then .tup [v,.bool true] else v) else .fail
  |none=>.fail
 |some none=>zDy d (if ok then .tup [z,.bool false] else z)
 |none=>.fail
def zUX(d:ON)(kt:TypeId)(z key:PV)(ok:Bool)(m:PV):PM :=
 match m with
 |.nilm=>zJx P d kt z key ok []|.map es=>zJx P d kt z key ok es|.bmap r pre=>.deep r pre fun q=>match q with
  |.omap es=>zJx P d kt z key ok es|_=>.fail
 |_=>.fail
def zJj(d:ON)(t:TypeId)(m x:Operand)(ok:Bool):PM :=
 opd m fun m=>opd x fun key=>match P.underlying t with
 |some (.map kt e)=>bif zQB P 20 kt key then zIV (zCM P e) fun z=>bif (zKF z).lone then zUX P d kt (zKF z) key ok m else .fail else .fail
 |_=>.fail
def zMW(kt:TypeId)(key v m:PV):PM :=
 match m with
 | .bmap r pre=>bif v.lone then .deep r pre fun q=>match q with
  |.omap es=>match zCk P kt key es 0 with
   |some (some i)=>.wnode r pre (.omap (es.modify i fun _=>(key,v))) .ok
   |some none=>.wnode r pre (.omap (es++[(key,v)])) .ok|none=>.fail
  |_=>.fail else .fail
 |_=>.fail
def zFn(t:TypeId)(m x y:Operand):PM:=opd m fun m=>opd x fun key=>match P.underlying t with
 |some (.map kt _)=>bif zQB P 20 kt key&&key.flat then zOK y fun v=>zMh zAa zDf v fun v=>zMW P kt key (zAY v) m else .fail
 |_=>.fail
def zPB (d:ON) (kt:TypeId) (z key m:PV):PM :=
 match m with
 | .bmap r pre => .deep r pre fun q=>match q with
  | .omap es=>match zCk P kt key es 0 with
   |some (some i)=>match es[i]? with
    |some (_,v)=>bif v.lone then .wnode r pre (.omap (es.modify i fun _=>(key,v))) (zDy d (.tup [v,.int .i64 i])) else .fail
    |none=>.fail
   |some none=>.wnode r pre (.omap (es++[(key,z)])) (zDy d (.tup [z,.int .i64 es.length]))|none=>.fail
  |_=>.fail
 |_=>.fail
def zGx(d:ON)(t:TypeId)(m x:Operand):PM:=opd m fun m=>opd x fun key=>match P.underlying t with
 |some (.map kt el)=>bif zQB P 20 kt key&&key.flat then zIV (zCM P el) fun z=>bif (zKF z).lone then zPB P d kt (zKF z) key m else .fail else .fail
 |_=>.fail
def zJi(i:Nat)(v m:PV):PM :=
 match m with
 | .bmap r pre=>bif v.lone then .deep r pre fun q=>match q with
  |.omap es=>match es[i]? with
   |some (k,_)=>.wnode r pre (.omap (es.modify i fun _=>(k,v))) .ok
   |none=>.fail
  |_=>.fail else .fail
 |_=>.fail
def zEI(m s y:Operand):PM:=opd m fun m=>opd s fun s=>zGQ s fun i=>zOK y fun v=>zMh zAa zDf v fun v=>zJi i (zAY v) m
def zKI(d:ON)(s i:Nat):PM := .get s fun m=>match m with
 |.tup ps=>bif blt i ps.length then .get (zBA s i) fun p=>bif p.heavy then .set (zBA s i) .bad (put d p) else put d p else .fail
 |_=>.fail
def zVo(d:ON)(args:List Operand)(g:PV):PM :=
 match g with
 |.func g first caps=>zWd args fun as=>zOy H d g (first++as++caps)
 |_=>.fail
def zJA(d:ON)(c:Call):PM :=
 match c.callee with
 |.builtin b=>zBy P d b c.argTypes.toList c.args.toList|.value f=>opd f (zVo H d c.args.toList)|_=>.fail
def opM(fz tk nl:Bool)(o:Oper):PM :=
 match o.op with
 |.move x=>zTQ P o.dst o.type x|.assign x=>bif fz&&tk then zVQ o.dst x else zGp P tk nl o.dst o.type x|.pick c a b=>zWA o.dst c a b|.alloc t=>zUw P o.dst t|.box t x=>zUQ P o.dst t x|.build t ps=>zOP P o.dst t ps.toList|.buildSlice t n ps=>zD4 P tk o.dst t n ps.toList|.load t a=>zQA P tk o.dst t a|.store t a x=>zQt P fz tk t a x|.nilCheck x=>opd x (zac o.dst)|.binOp op t x y _=>zUU P o.dst op t x y|.unOp op _ x=>opd x (unV o.dst op)|.convert _ t x=>opd x (zSG P o.dst t)|.makeFunc (.func f) first caps=>zLu o.dst f first.toList caps.toList
 |.makeMap _ none=>put o.dst (.omap [])|.makeSlice t l c=>zFE P o.dst t l c|.slice t x lo hi mx=>zJV P o.dst t x lo hi mx|.fieldAddr t x i=>zJv P o.dst t x i|.field t x i=>zRZ P o.dst t x i|.indexAddr t x i=>zFw P o.dst t x i|.index t x i=>zMm P o.dst t x i|.lookup t m x ok=>zJj P o.dst t m x ok|.mapUpdate t m x y=>zFn P t m x y|.mapEntry t m x=>zGx P o.dst t m x|.entryStore _ m s x=>zEI m s x|.extract (.tmp s) i=>zKI o.dst s i|.call c=>zJA P H o.dst c|_=>.fail
def zFV(ops:Array Oper)(fz tk nl:Bool)(o:Oper):PM :=
 match o.guard with
 |none=>opM P H fz tk nl o
 | some (j,want)=>match (ops[j]?).bind (·.dst) with
  |some t=>.get t fun p=>match p with
   |.bool b=>if b=want then opM P H fz tk nl o else put o.dst .und
   |.und=>put o.dst .und|_=>.fail
  |none=>.fail
structure Log where
 xs:List (List PV)
 k:Int
 at_:Nat
 deriving Inhabited
def zQX(e:Env):Operand->PV
 |.tmp t=>view t (e.get t)|.const v=>zER v|_=>.bad
def zCl(e:Env)(o:Oper):Option (Nat×List PV) :=
 match o.op with
 | .call c=>match c.callee with
  |.value (.tmp t)=>match e.get t with
   |.yld h=>some (h,c.args.toList.map (zQX e))|_=>none
  |_=>none
 |_=>none
def zMv(ops:Array Oper)(e:Env)(o:Oper):Option Bool :=
 match o.guard with
 |none=>some true
 | some (j,want)=>match (ops[j]?).bind (·.dst) with
  |some t=>match e.get t with
   |.bool b=>some (b==want)|.und=>some false|_=>none
  |none=>none
def zB0(orc:zAO)(ops:Array Oper)(o:Oper)(h:Nat)(args:List PV)(l:Log)(e:Env):Option (Env×Option Log) :=
 match zMv ops e o with
 | some true=>bif args.all PV.flat&&l.k != 0&&beq h l.at_ then
   (bif l.k==1 then(put o.dst (.bool false)).run orc (e.forget zAa) else(put o.dst (.bool true)).run orc e).map fun e'=>(e',some ⟨l.xs++[args],l.k-1,l.at_⟩)
  else none
 |some false=>((put o.dst .und).run orc e).map fun e'=>(e',some l)
 |none=>none
def zCS(orc:zAO)(fz tk nl:Bool)(ops:Array Oper)(o:Oper)(e:Env)(lg:Option Log):Option (Env×Option Log) :=
 match lg with
 |none=>((zFV P H ops fz tk nl o).run orc e).map fun e'=>(e',none)
 |some l=>match zCl e o with
  |some (h,args)=>zB0 orc ops o h args l e|none=>((zFV P H ops fz tk nl o).run orc e).map fun e'=>(e',some l)
def zEA(orc:zAO)(fz tk nl:Bool)(ops:Array Oper)(o:Oper)(e:Env)(lg:Option Log):Option (Env×Option Log×Tok) :=
 match lg with
 |none=>((zFV P H ops fz tk nl o).runT orc e).map fun x=>(x.1,none,x.2)
 |some l=>match zCl e o with
  |some (h,args)=>(zB0 orc ops o h args l e).map fun x=>(x.1,x.2,{all:=true})
  |none=>((zFV P H ops fz tk nl o).runT orc e).map fun x=>(x.1,some l,x.2)
def zBg(orc:zAO)(fzs tks:LN)(nl:Bool)(ops:Array Oper):List Oper->Nat->Env->Option Log->Option (Env×Option Log)
 |[],_,e,lg=>some (e,lg)|o::l,i,e,lg=>match zCS P H orc (fzs.contains i) (tks.contains i) nl ops o e lg with
  |some (e',lg')=>zBg orc fzs tks nl ops l (i+1) e' lg'|none=>none
def zIG(acc:LN)(o:Oper):Nat:=o.after.toList.foldl (fun s e=>if Region.binds .any e then s ||| 2 ^ e.on ||| acc.getD e.on 0 else s) 0
def zGs(b:Nat)(t:Tok):Nat->List Tok->Bool
 |_,[]=>true|j,u::us=>(b.testBit j || !zQU u t)&&zGs b t (j+1) us
def zCB(orc:zAO)(fzs tks:LN)(nl:Bool)(ops:Array Oper):List Oper->Nat->LN->List Tok->Env->Option Log->Option (Env×Option Log)
 |[],_,_,_,e,lg=>some (e,lg)
 | o :: l,i,acc,ts,e,lg =>
  match zEA P H orc (fzs.contains i) (tks.contains i) nl ops o e lg with
  |some (e',lg',t)=>
   bif o.after.toList.all (fun e=>!Region.binds .any e||blt e.on i)&&zGs (zIG acc o) t 0 ts then zCB orc fzs tks nl ops l (i+1) (acc++[zIG acc o]) (ts++[t]) e' lg' else none
  |none=>none
inductive X where
 |norm|ex (id:Nat)|ret
 deriving DecidableEq
def zNR(l:LN)(s:Nat):Bool:=l.contains (if 2000000<=s then(s-2000000) / 16 else s)
def Env.drop(e:Env)(l:LN):Env :=
 e.filter fun x=>!zNR l x.1
def Env.put(e:Env)(k:Nat)(v:PV):Env :=
 match v with
 |.bad=>e.filter fun x=>!Nat.beq x.1 k
 |v=>e.set k v
def Env.norm:Env->Env
 |[]=>[]|(k,v)::e=>(Env.norm e).put k v
def zA0:Code->Nat
 |.region id _ _=>id|.seq a _=>zA0 a|.block _ b=>zA0 b|.loop b=>zA0 b|_=>0
def zBW:Code->LN
 |.region _ ops _=>ops.toList.filterMap (·.dst)|.seq a b=>zBW a++zBW b|.cond _ a b=>zBW a++zBW b|.block _ b=>zBW b|.loop b=>zBW b|.scope b=>zBW b|_=>[]
def zCx:List Tmp->List PV->Env->Option Env
 |[],[],e=>some e|t::ts,v::vs,e=>if (e.get t).heavy then none else zCx ts vs (e.set t v)
 |_,_,_=>none
def zEC:LN->Env->Option Env
 |[],e=>some e|r::R,e=>bif blt r zAa then match e.frz r [] with
  |some e'=>zEC R e'|none=>none
  else none
def zYa(R:LN)(e:Env):Env :=
 match zEC R e with
 |some e'=>e'|none=>e
def zCX(e:Env)(R:LN):LN:=R++(e.filter fun x=>x.2.heavy && !R.contains x.1&&x.2.ways.any fun w=>R.contains w.1).map (·.1)
def zGr(e:Env)(R:LN):Bool:=R.all fun r=>(e.get r).ways.all fun w=>R.contains w.1
def after(nt:Nat)(R ds:LN)(e0 e:Env):Env:=e0.map fun x=>
 (x.1,bif R.contains x.1 || !x.2.heavy&&x.2.ways.all (fun w=>R.contains w.1) then x.2 else bif !(blt x.1 nt && !ds.contains x.1||ble zAm x.1&&blt x.1 zAG) then .bad else bif (R.isEmpty||(e.get x.1).free) && !(e.get x.1).isTup then e.get x.1 else .bad)
def zC7 (nt:Nat) (run:Code->Env->Option (X×Env)) (ps:List Tmp) (assign body:Code) (R ds:LN):List (List PV)->Env->Nat->Option (Option (Nat×X)×Env)
 |[],e,_=>some (none,e)
 | x :: xs,e,j =>
  let round (e:Env):Option (X×Env):=match zCx ps x e with
   |some e1=>match run assign e1 with
    |some (.norm,e2)=>run body e2|_=>none
   |none=>none
  match round e with
  | some (.norm,e3)=>match R with
   |[]=>zC7 nt run ps assign body R ds xs (after nt [] ds e e3) (j+1)
   | r :: R=>match (bif zGr e (zCX e (r::R)) then zEC (zCX e (r::R)) e else none) with
    |some e1=>match round e1 with
     |some (.norm,e3)=>zC7 nt run ps assign body (r::R) ds xs (after nt (zCX e (r::R)) ds e e3) (j+1)|_=>none
    |none=>none
  |some (r,e3)=>some (some (j+1,r),after nt [] ds e e3)|none=>none
def zDV(e:Env)(t:Nat):Option (FuncId×List PV×List PV×LN) :=
 match(zRC (view t (e.get t)) fun q l=>.set 0 (.tup [q]) (.set 1 (.tup (l.map fun x=>.int .i64 x.1)) .ok)).run (fun _ _ _=>none) e with
 |some e'=>match e'.get 0,e'.get 1 with
  |.tup [.func g first caps],.tup l=>some (g,first,caps,(l.filterMap fun|.int _ n=>some n.toNat|_=>none).eraseDups)
  |_,_=>none
 |none=>none
abbrev zCV:=FuncId->List PV->Nat->List PV->Int->Option (List (List PV))
abbrev All:=(Nat->Option (List (List PV)))->Option (List (List PV))
def zHL (nt:Nat) (yo:zCV) (al:All) (run:Code->Env->Option (X×Env)) (t:Tmp) (ps:List Tmp) (assign body:Code) (e:Env):Option (X×Env) :=
 match zDV e t with
 | some (g,first,caps,R) =>
  match al (fun i=>yo g first i caps (-1)) with
  | some xs=>match zC7 nt run ps assign body R (ps++zBW assign++zBW body) xs e 0 with
   |some (none,e')=>some (.norm,e')
   | some (some (j,_),_)=>match al (fun i=>yo g first i caps j) with
    |some ys=>match zC7 nt run ps assign body R (ps++zBW assign++zBW body) ys e 0 with
     |some (some (j',r),e')=>if j'=j/\ys.length=j then some (r,e') else none
     |_=>none
    |none=>none
   |none=>none
  |none=>none
 |none=>none
def exec (orc:zAO) (yo:zCV) (al:All) (nt:Nat) (h:FHint):Nat->Code->Env->Option Log->Option (X×Env×Option Log)
 |0,_,_,_=>none
 | n + 1,c,e,lg=>match c with
  |.skip=>some (.norm,e,lg)|.region id ops draw=>match(if draw then zCB P H orc (h.frzs id) (h.take id) h.nils ops ops.toList 0 [] [] e lg else zBg P H orc (h.frzs id) (h.take id) h.nils ops ops.toList 0 e lg) with
   |some (e',lg')=>some (.norm,(e'.drop (h.drop id)).norm,lg')|none=>none
  |.seq a b=>match exec orc yo al nt h n a e lg with
   |some (.norm,e',lg')=>exec orc yo al nt h n b e' lg'|r=>r
  | .cond c a b=>match c with
   |.tmp t=>match e.get t with
    |.bool true=>exec orc yo al nt h n a e lg|.bool false=>exec orc yo al nt h n b e lg|_=>none
   |.const (.bool true)=>exec orc yo al nt h n a e lg|.const (.bool false)=>exec orc yo al nt h n b e lg|_=>none
  |.block id b=>match exec orc yo al nt h n b e lg with
   |some (.ex id',e')=>some (if id'=id then .norm else .ex id',e')
   |r=>r
  |.loop b=>match exec orc yo al nt h n b (e.drop (h.loopDrop (zA0 b))) lg with
   |some (.norm,e',lg')=>exec orc yo al nt h n (.loop b) e' lg'|r=>r
  |.exit id=>some (.ex id,zYa (h.ices id) e,lg)|.ret=>some (.ret,e,lg)|.label _=>some (.norm,e,lg)|.scope b=>exec orc yo al nt h n b e lg|.rangeFunc (.tmp t) ps assign body=>match lg with
   |none=>(zHL nt yo al (fun c e=>match exec orc yo al nt h n c e none with|some (x,e',none)=>some (x,e')|_=>none) t ps.toList assign body e).map fun x=>(x.1,x.2,none)
   |some _=>none
  |_=>none
def zSs(p:PV)(k:PV->PM)(k2:PM):PM :=
 match p with
 |.bor r pre _ lo n=>.deep r pre fun q=>match q with
  |.own sz xs=>bif ble (lo+n) xs.length then .wnode r pre .bad (k (.own sz ((xs.drop lo).take n))) else k2|_=>k2
 |.addr r pre 0 0 _=>.deep r pre fun q=>match q with
  |.box q=>.wnode r pre .bad (k (.box q))|_=>k2
 |.bmap r pre=>.deep r pre fun q=>match q with
  |.omap es=>.wnode r pre .bad (k (.omap es))|_=>k2
 |_=>k2
def zGc(frz:Bool)(p:PV)(k:PV->PM):PM :=
 bif frz||p.ways.any (fun w=>ble zAm w.1) then zMh zAm zDf p k else zSs p k (zMh zAm zDf p k)
def zCz(frz:Bool):List PV->(List PV->PM)->PM
 |[],k=>k []|p::ps,k=>zGc frz p fun q=>zCz frz ps fun qs=>k (q::qs)
def zHb(frz:Bool)(p:PV)(k:PV->PM):PM :=
 match p with
 |.agg cs=>zCz frz cs fun qs=>k (.agg qs)
 |p=>zGc frz p k
def zCO(frz:Bool):Nat->List ResultVar->PM
 |_,[]=>.ok|j,.tmp t::rs=>.view t fun p=>zHb frz p fun q=>lay (zAG+j) q (zCO frz (j+1) rs)
 |j,.cell a t::rs=>zIV (shT P t) fun sh=>.view a fun p=>match p with
  |.addr r pre i c _=>zNE r pre i c sh fun v=>zHb frz v fun q=>lay (zAG+j) q (zCO frz (j+1) rs)
  |_=>.fail
def zYb(e:Env)(n:Nat):PV :=
 if n=1 then e.get zAG else .tup ((range n).map fun j=>e.get (zAG+j))
def zBe(args hid:List PV):Env :=
 (args.zipIdx.map fun(p,i)=>(i,p))++hid.zipIdx.map fun(p,j)=>(zAm+j,p)
def zLv(x y:Int×Int):Bool:=decide (x.1<y.1)||decide (x.1=y.1)&&decide (x.2<=y.2)
def zXR(p:Int×Int):Bool:=decide (0<=p.1)&&decide (p.1<1000000)&&decide (0<=p.2)&&decide (p.2<1000000)
def zYA:PV->Option (Int×Int)
 |.agg [.int .i64 a,.int .i64 b]=>some (a,b)|_=>none
def zSK(g:Nat)(args hid:List PV):Option (PV×List PV):=match args,hid with
 |[.bor r [] 2 0 n,.func f [] []],[.own 2 xs]=>match xs.mapM zYA with
  |some ps=>if r=zAm/\n=ps.length/\ps.length<=zAJ/\f=g/\ps.all zXR=true then some (.tup [],[.own 2 ((ps.mergeSort zLv).map fun p=>.agg [.int .i64 p.1,.int .i64 p.2])]) else none
  |none=>none
 |_,_=>none
def zWH(xs:List PV):Option LI:=xs.mapM fun|.int .i64 n=>some n|_=>none
def intrin(fn:Func)(w:Nat)(args hid:List PV):Option (PV×List PV) :=
 match w,args,hid with
 |1,[.sl xs],[]=>match(fn.resultTypes[0]?).bind (fun t=>(zB1 P t).bind (szT P)) with
  |some sz=>if xs.all (fun x=>x.plain&&x.cells.length=sz)&&xs.length<=zAJ then some (.own sz xs,[]) else none
  |none=>none
 |1,[.nils _],[]=>match(fn.resultTypes[0]?).bind (fun t=>(zB1 P t).bind (szT P)) with
  |some sz=>some (.own sz [],[])|none=>none
 |2,[.bor r [] 1 0 n],[.own 1 xs]=>match zWH xs with
  |some is=>if r=zAm/\n=is.length/\is.length<=zAJ then some (.tup [],[.own 1 ((is.mergeSort (fun a b=>decide (a<=b))).map (.int .i64))]) else none
  |none=>none
 | 2,[.bor r [(i,0)] 1 0 n],[.own 1 rows]=>match rows[i]? with
  |some (.own 1 xs)=>match zWH xs with
   |some is=>if r=zAm/\n=is.length/\is.length<=zAJ then some (.tup [],[.own 1 (rows.set i (.own 1 ((is.mergeSort (fun a b=>decide (a<=b))).map (.int .i64))))]) else none
   |none=>none
  |_=>none
 |3,[.own sz xs,.int _ i,.int _ j],[]=>
  bif decide (0<=i)&&decide (i<=j)&&ble j.toNat xs.length then some (.own sz (xs.take i.toNat++xs.drop j.toNat),[]) else none
 |5,[.int .u64 n],[]=>some (.int .i64 (if n<=0 then 0 else Nat.log2 n.toNat+1),[])
 |w,args,hid=>if 100<=w then zSK (w-100) args hid else none
def zJz(orc:zAO)(yo:zCV)(al:All)(n:Nat)(f:FuncId)(fn:Func)(body:Code)(args hid:List PV):Option (PV×List PV) :=
 bif ble args.length fn.ntmps&&ble hid.length 1000&&args.all (fun p=>!p.isTup) then
  match exec P H orc yo al fn.ntmps (H f) n body (zBe args hid) none with
  |some (.norm,e,none)|some (.ret,e,none)=>
   match(zCO P (H f).frz 0 fn.results.toList).run orc e with
   |some e'=>bif beq fn.results.size 1&&(e'.get zAG).isTup then none else some (zYb e' fn.results.size,(range hid.length).map fun j=>e'.get (zAm+j))
   |none=>none
  |_=>none
 else none
def zG2(orc:zAO)(yo:zCV)(al:All)(n:Nat)(f:FuncId)(args hid:List PV):Option (PV×List PV) :=
 match P.funcs[f]? with
  |some fn=>if (H f).intr≠0 then intrin P fn (H f).intr args hid else match fn.body with
   |some body=>zJz P H orc yo al n f fn body args hid|none=>none
  |none=>none
def zZl (orc:zAO) (yo:zCV) (al:All) (n:Nat) (f:FuncId) (first:List PV) (i:Nat) (caps:List PV) (k:Int):Option (List (List PV)) :=
 match P.funcs[f]? with
  | some fn=>match fn.body with
   | some body=>bif ble (first++PV.yld i::caps).length fn.ntmps&&fn.results.isEmpty&&(first++caps).all (fun p => !p.isTup)&&k != 0&&beq (H f).intr 0 then
     match exec P H orc yo al fn.ntmps (H f) n body (zBe (first++PV.yld i::caps) []) (some ⟨[],k,i⟩) with
     |some (.norm,_,some l)|some (.ret,_,some l)=>some l.xs|_=>none
    else none
   |none=>none
  |none=>none
def zTr(al:All):Nat->zAO×zCV
 |0=>(fun _ _ _=>none,fun _ _ _ _ _=>none)
 |n+1=>(fun f args hid=>zG2 P H (zTr al n).1 (zTr al n).2 al (n+1) f args hid,fun f first i caps k=>zZl P H (zTr al n).1 (zTr al n).2 al (n+1) f first i caps k)
open Classical in
noncomputable def zCc:All:=fun x=>if h:∃ r,∀ i,x i=some r then some (Classical.choose h) else none
class Yo where
 yo:zCV
noncomputable def zCN[Yo]:Nat->zAO
 |0=>fun _ _ _=>none
 |n+1=>fun f args hid=>zG2 P H (zCN n) Yo.yo zCc (n+1) f args hid
end Go.Eng
namespace Go.Eng
def zEG:List (Nat×LN)->Nat->LN
 |[],_=>[]|(k,l)::r,i=>bif beq k i then l else zEG r i
def zYX:List (Nat×FHint)->Nat->FHint
 |[],_=>{}|(k,h)::r,i=>bif beq k i then h else zYX r i
end Go.Eng
namespace Go.Eng
open Go
def rg(a:Nat):Nat->LN
 |0=>[]|n+1=>a::rg (a+1) n
def hh(d l t:List (Nat×LN)):FHint:={drop:=zEG d,loopDrop:=zEG l,take:=zEG t}
def zHk:zBd:=fun f=>zYX [(12,hh [(0,[0,8]),(1,rg 25 12),(2,[38]),(3,rg 39 5++[45]),(4,[47]),(5,rg 50 4++[56]),(6,rg 57 8),(7,[16,17]++rg 65 8),(11,[78,79]),(12,rg 80 17),(14,[98]),(15,[14,15]++rg 99 10),(17,rg 111 4++[117]),(18,rg 118 5),(19,[17]++rg 123 11),(21,[22,136,137,138,141]),(22,[15,21]++rg 142 6),(23,[2,13]++rg 150 4++[156]),(24,[20,23,24]++rg 157 8),(26,[1,3,11,12]++rg 166 16)] [(10,[8,19]++rg 77 22)] []),(16,hh [(0,[0,4]),(1,[1]++rg 7 20),(6,[6,35,36]),(8,[38])] [(4,[4,6]++rg 32 7)] []),(17,hh [(0,[0]),(1,[17]),(2,[20,21,24]),(3,rg 25 6),(4,[32,33,36]),(5,[9]++rg 37 6),(6,rg 3 6++[10]++rg 43 31),(8,[76,77,78,81]),(9,rg 82 6),(10,[2,89,90,93]),(11,[95,98]),(12,[4,6,8]++rg 10 5++rg 99 34)] [] []),(18,hh [(0,[0]),(1,rg 3 12)] [] []),(19,hh [(0,[0]),(1,rg 6 9),(4,[20,21]),(5,rg 22 6),(6,[28]),(7,[29])] [(3,[5]++rg 19 10)] [(5,[3]),(7,[1])]),(20,hh [(0,[2]),(1,[4,5]),(2,[0,7,8,9])] [] [(3,[1])]),(21,hh [(0,[2]),(4,[10,11]),(5,[12,13,14]),(6,[16])] [(3,[5]++rg 9 6++[16])] [(5,[2]),(7,[1])]),(22,hh [(0,[0,6,7]),(1,[1,11,12,13,16]),(2,[17]),(3,[9,19]),(4,[2,8]++rg 20 4)] [] [(3,[2])]),(23,hh [(0,[0,6,7]),(1,rg 9 4),(2,[13]),(3,[8,15]),(4,[1,2]++rg 16 5)] [] [(3,[2])]),(24,hh [(0,[4]),(1,[0,1,5,6,7])] [] []),(25,hh [(0,[2]),(4,[10,11]),(5,[12,13,14]),(6,[16])] [(3,[5]++rg 9 6++[16])] [(5,[2]),(7,[1])]),(26,hh [(0,[0,6,7]),(1,[1,2,14,15,16,19]),(2,[20]),(3,[9,22]),(7,[27,28]),(8,rg 29 7),(9,rg 37 4),(10,[42]),(11,[10,43])] [(6,[12]++rg 26 15++[42])] [(3,[2])]),(28,hh [(0,[4]),(1,[0,1,5,6,7])] [] []),(29,hh [(0,[0,4,5]),(1,[1,12,13,16]),(2,[17]),(3,[7,19]),(4,[20,21]),(5,[22,23,24]),(6,[25,26]),(7,[28,29,30]),(8,[31]),(9,[32,33]),(11,[34]),(12,[8,35])] [(6,rg 25 10)] []),(31,hh [(0,[0,4,5]),(1,[1,12,13,16]),(2,[17]),(3,[7,19]),(4,[20,21]),(7,[24]),(8,rg 25 4),(9,[10,30,31]),(10,[32,33,34]),(11,[35]),(12,[6]++rg 36 4),(14,[8,41])] [(6,[10]++rg 23 13)] []),(33,hh [(0,[0,1,4]),(1,rg 5 26)] [] []),(34,hh [(0,[4]),(1,[0,1,5,6,7])] [] []),(35,hh [(0,[2]),(1,[4,5]),(2,[0,7,8,9])] [] [(3,[1])]),(38,hh [(0,[0,3,8,9]),(1,[1,18,19,22]),(2,[24,25]),(3,[11,26]),(4,rg 28 10),(6,rg 38 6),(7,[44,45,46]),(8,rg 47 11),(9,[59,60]),(11,rg 62 11),(12,[2,73,74]),(13,[75,76,77]),(14,[78]),(15,[80,81]),(16,rg 82 4),(18,rg 88 9),(19,[16]++rg 98 4),(21,[102])] [(8,[8,9]++rg 47 26),(14,[16]++rg 78 25)] [(3,[2]),(12,[1]),(19,[1]),(22,[1])]),(39,hh [(0,[0,4]),(1,[7,8]),(2,[9]),(3,[5,11]),(4,[12,13]),(7,[15,16,17]),(8,[19,20]),(9,rg 21 21)] [(7,[4]++rg 15 28)] [(3,[1])]),(41,hh [(0,[0,4]),(1,[1]++rg 5 28)] [] []),(52,hh [(0,[4]),(1,[0,1,5,6,7,8])] [] []),(57,hh [(0,[0,8,9]),(1,[1,2,19,20,21,22,26,27]),(2,[28]),(3,[13,30]),(5,[31,32]),(7,[36]),(8,rg 37 7),(9,[15]++rg 46 8++[56]),(10,[17,57]),(12,[16,59,60]),(13,[62])] [(6,[8,9,15,16,17]++rg 35 26++[62])] [(3,[2]),(14,[1])]),(58,hh [(0,[4]),(1,[0,1,5,6,7,8])] [] []),(61,{drop:=zEG [(0,[2]),(1,[3]),(3,[0,5,6])],intr:=1}),(62,hh [(0,[4]),(1,[0,1,5,6,7])] [] []),(65,{drop:=zEG [(0,[2]),(1,[3]),(3,[0,5,6])],intr:=1}),(71,hh [(0,[0,8,9]),(1,rg 14 5),(2,[19]),(3,[10,21]),(6,rg 22 4),(7,[27,28]),(8,[29,30,31]),(9,rg 33 6),(10,[39]),(12,[13,41,42,43]),(13,[11,44])] [(6,[8,9,13]++rg 22 22)] [(3,[2]),(13,[1])]),(72,hh [(0,[0,8]),(1,[1,2,3]++rg 9 12)] [] []),(73,hh [(0,[0,8,9]),(1,[1,2,26,27,28,29,33,34]),(2,[35]),(3,[13,37]),(5,[39,40]),(7,[44]),(10,[49,50]),(11,[17]++rg 51 5),(14,[61,62]),(17,[67,68]),(18,rg 69 7),(19,[76]),(20,[77]),(21,[78]),(22,[79]),(24,[80,81]),(26,[85]),(27,rg 86 7),(28,[24]++rg 94 7),(29,[102]),(30,[103,104])] [(6,[15,17,18,20,22]++rg 43 37),(9,[17,18,20,22]++rg 48 31),(13,[20,22]++rg 60 18),(16,[22]++rg 66 11),(25,[24]++rg 84 17++[102])] [(3,[2]),(31,[1])]),(74,hh [(0,[0,8]),(1,[1,2]++rg 13 4),(2,[17]),(3,[9,19]),(5,[20,21,22]),(6,[24,25]),(7,rg 26 8),(10,[35,36,37]),(11,[39,40]),(13,[41,42]),(14,[44,45]),(15,rg 46 8)] [(5,[8]++rg 20 15),(10,[8,12]++rg 35 20),(13,[8]++rg 41 14)] [(3,[1])]),(75,{drop:=zEG [(0,[0,8,9]),(1,rg 18 5),(2,[23]),(3,[10,25]),(4,[12,27,28,29,32]),(5,[1,2,3]++rg 33 5),(8,[40,41]),(9,[43,44,45]),(10,rg 46 4),(11,rg 51 7),(12,[59,60,61])],loopDrop:=zEG [(8,[16,17]++rg 39 11++rg 51 11++[63,64,65])],take:=zEG [(3,[2]),(7,[1]),(12,[2]),(13,[1]),(15,[1])],frzs:=zEG [(7,[1]),(13,[1])]}),(76,hh [(0,[0,2]),(1,rg 5 23),(3,[29,30]),(4,[31]),(5,[3,33]),(6,[34,35]),(7,[36]),(8,[4,38]),(9,rg 40 5),(11,rg 46 4)] [] [(5,[1]),(8,[1])]),(78,hh [(0,[4]),(1,[0,1,5,6,7])] [] []),(81,hh [(0,[1,4]),(1,[0,5,6,7,8])] [] []),(83,hh [(0,[1]),(1,rg 3 11),(2,[14,15,16])] [] [(2,[4])]),(86,hh [(0,[0,2,3]),(1,[10,13]),(2,[14]),(3,[5,16]),(7,[22,23,24]),(8,rg 25 12),(9,[7,38,39,40]),(10,[42])] [(6,[7,8]++rg 21 20++[42])] [(3,[2]),(9,[2]),(11,[1])]),(87,hh [(0,[2]),(1,[4,5]),(2,[0,7,8,9])] [] [(3,[1])]),(88,hh [(0,[2]),(1,[4,5]),(2,[0,7,8,9])] [] [(3,[1])]),(89,hh [(0,[2]),(1,[6,7]),(4,[13]),(5,[4,5]++rg 16 5),(6,[21])] [(3,[4,5]++rg 12 10)] [(7,[1])]),(90,{drop:=zEG [(0,[0,6,7]),(1,[1,11,12,15]),(2,[2]++rg 16 6),(4,[23]),(5,[9,25])],take:=zEG [(5,[2]),(6,[1])],frz:=true}),(91,hh [(0,[1,4]),(2,rg 8 4),(4,[15]),(5,rg 16 5),(7,[24]),(8,rg 25 21),(9,[7]++rg 47 5),(10,[53]),(11,[54])] [(3,[6,7]++rg 14 38++[53,54]),(6,[7]++rg 23 29++[53])] [(12,[1])]),(92,hh [(1,[6,7]),(2,[1]),(4,[11,12,13]),(5,[14]),(6,[15])] [(3,rg 10 5)] []),(93,hh [(0,[0,6]),(1,[1,8,9,10]),(2,[11]),(3,[7,13]),(4,[2,14])] [] [(3,[1])]),(94,hh [(0,[0,4]),(3,[8,9,10]),(4,[12,13]),(6,rg 14 4),(7,[19,20]),(8,rg 21 10),(9,rg 32 5)] [(3,rg 7 30),(6,rg 14 23)] [(10,[1])]),(95,hh [(0,[0,6]),(1,[1,9,10]),(3,[12,13]),(4,[15,16]),(5,[17,18])] [(3,rg 12 7)] [(6,[1])]),(96,hh [(0,[4]),(1,rg 6 4),(3,[11]),(5,[15]),(6,[5]++rg 16 8),(8,[25])] [(4,[4,5]++rg 14 12)] []),(97,{drop:=zEG [(0,[2]),(1,[6,7]),(4,[10,11,12]),(5,[14,15]),(6,rg 16 9),(9,[29,30,31]),(10,[33,34]),(11,rg 35 9),(12,rg 45 7),(13,[52,53]),(14,[54,55,56]),(15,[3])],loopDrop:=zEG [(4,[2,4,5]++rg 10 50),(9,rg 29 25)],take:=zEG [(2,[1]),(16,[1])],mode:=[2]}),(98,hh [(0,[4]),(1,rg 6 4),(3,[11]),(5,[15]),(6,[5]++rg 16 8),(8,[25])] [(4,[4,5]++rg 14 12)] []),(99,{drop:=zEG [(0,[0,4,5]),(1,[9,12]),(2,[14,15]),(3,[7,16]),(4,[18,19,20]),(6,rg 22 5),(8,[1]++rg 27 4)],take:=zEG [(3,[2]),(8,[4]),(9,[1])],frz:=true}),(100,hh [(4,[13]),(7,[16]),(8,[5]++rg 17 4),(9,[21]),(10,[22]),(12,rg 25 4),(14,[32]),(17,[40,41]),(18,rg 42 4),(19,rg 47 7),(20,[10]++rg 54 13),(21,[67]),(22,[68]),(23,[69])] [(3,[4,5]++rg 12 11),(6,[5]++rg 15 7),(13,[7,9,10]++rg 31 38),(16,[9,10]++rg 39 29)] []),(101,hh [(0,[1]),(1,[10]),(2,rg 11 4),(4,[18]),(5,[19,20]),(7,[7]),(9,[28,29]),(10,[8,9]++rg 30 12),(11,[42]),(12,[43]),(13,[44])] [(3,rg 6 4++rg 17 27),(8,[8,9]++rg 27 16)] []),(103,hh [(0,[4]),(1,[0,1,5,6,7])] [] []),(104,hh [(0,[4]),(1,[0,1,5,6,7])] [] []),(105,hh [(0,[4]),(1,rg 6 4),(3,[11]),(5,[15]),(6,[5]++rg 16 8),(8,[25])] [(4,[4,5]++rg 14 12)] []),(106,hh [(0,[0,4]),(1,[1]++rg 5 6)] [] []),(107,hh [(0,[6]),(1,[0,1,2]++rg 7 8)] [] []),(108,hh [(0,[1,4]),(1,[0,5,6,7,8])] [] []),(109,hh [(0,[0,4]),(1,[1]++rg 5 5)] [] []),(110,hh [(0,[0]),(1,rg 3 11)] [] []),(111,hh [(0,[6]),(1,[0,1,2]++rg 7 8)] [] []),(112,hh [(0,[0,4]),(3,[9,10,11]),(4,[13,14]),(5,[15,16,17]),(7,[19,20,21]),(8,[23,24]),(9,rg 25 8),(10,[7,33,34,35])] [(3,rg 7 29),(7,rg 19 14)] [(10,[2]),(11,[1])]),(113,hh [(0,[0,8]),(1,rg 9 7),(3,[17,18,19]),(4,[20]),(5,[22,23,24]),(6,rg 25 6)] [(4,[8]++rg 20 12)] []),(114,hh [(0,[0,6]),(2,rg 9 4),(3,[14,15]),(4,rg 16 5),(5,rg 21 21)] [(2,[6]++rg 8 35)] []),(115,hh [(0,[0,4]),(3,[10,11,12]),(4,[14,15]),(5,rg 16 5),(7,[22,23,24]),(8,[26,27]),(10,rg 28 9),(11,[38,39]),(12,rg 40 14),(13,[7,54,55,56])] [(3,rg 7 50),(7,[9]++rg 22 32),(10,rg 28 26)] [(13,[2]),(14,[1])]),(116,hh [(0,[0,1,4])] [] []),(117,hh [(0,[0,2]),(1,rg 16 20),(4,rg 37 4),(5,[42,43]),(6,rg 44 21),(9,rg 66 4),(10,[71,72]),(11,rg 73 12),(14,rg 86 4),(15,[91,92]),(17,[93,94]),(18,[96,97]),(19,rg 98 10),(20,rg 108 25),(23,rg 134 4),(24,[139,140]),(25,rg 141 8),(28,rg 150 4),(29,[155,156]),(31,[157,158]),(32,[160,161]),(33,rg 162 21),(36,rg 184 4),(37,[189,190]),(39,rg 191 7),(40,[199,200]),(41,rg 201 11),(44,rg 213 4),(45,[218,219]),(47,rg 220 7),(48,[228,229]),(49,rg 230 17)] [(4,[2]++rg 37 29),(9,[2]++rg 66 20),(14,[2,6,7,8]++rg 86 48),(17,[2,7,8]++rg 93 41),(23,[2]++rg 134 16),(28,[2,11]++rg 150 34),(31,[2]++rg 157 27),(36,[2,13]++rg 184 29),(39,[2]++rg 191 22),(44,[2,15]++rg 213 35),(47,[2]++rg 220 28)] []),(118,hh [(0,[1,4]),(1,[0]++rg 5 16)] [] []),(119,hh [(0,[3,8]),(1,[2]++rg 13 5),(5,[22,23]),(6,rg 24 14),(7,[39,40,41]),(8,[43])] [(4,[12]++rg 21 21++[43])] [(7,[2]),(9,[1])]),(120,hh [(0,[0,3,10]),(1,[1,2]++rg 14 5),(4,[20,21,22]),(5,[24,25]),(6,rg 26 13),(7,rg 40 6)] [(4,rg 20 26)] [(8,[1])]),(121,{drop:=zEG [(0,[0,2,8,9,11]),(1,[1]++rg 17 7),(2,[25,26]),(3,[13,27,28]),(4,rg 30 5),(5,[35]),(8,[40,41,42]),(9,[14,15]++rg 43 4),(10,[48]),(11,[49]),(12,rg 50 5),(13,[57,58])],loopDrop:=zEG [(7,[8,9,11,14,15]++rg 39 11)],take:=zEG [(3,[5])],frzs:=zEG [(12,[6])],frz:=true}),(122,{drop:=zEG [(0,[4]),(1,[8,9,10]),(2,[11]),(4,[14,15]),(5,[16,17,18]),(6,[20,21]),(7,rg 22 4),(8,[26,27,28]),(9,rg 30 4),(10,[34,35]),(11,[36,37,38]),(12,[5])],loopDrop:=zEG [(5,[7]++rg 16 20)],take:=zEG [(3,[1]),(9,[4])],mode:=[2,0]}),(123,{drop:=zEG [(0,[2]),(1,[3]),(3,[0,5,6])],intr:=1}),(125,hh [(0,[0,10]),(3,rg 14 4),(4,[19,20]),(6,[21,22,23]),(7,[25,26]),(8,rg 27 13)] [(3,rg 13 27),(6,rg 21 19)] [(9,[1])]),(126,hh [(0,[1,4]),(2,[6,7,8]),(3,[10,11]),(4,rg 12 5)] [(2,[4]++rg 6 12)] []),(131,hh [(0,[4]),(1,[6]),(3,[10]),(4,rg 11 5),(5,[5,17]),(6,[18])] [(2,[4,5]++rg 9 10)] [(5,[1])]),(133,{drop:=zEG [(0,[2]),(1,[0,3,4,5]),(2,[0,6,7])],intr:=9}),(134,{drop:=zEG [(0,[1,10,11]),(1,[20]),(5,[25,26]),(6,[15]++rg 27 8),(7,rg 35 12),(8,[47]),(12,[48]),(13,[2,49,50,51]),(14,[53])],loopDrop:=zEG [(4,[15,16]++rg 24 24)],take:=zEG [(7,[4])],ices:=zEG [(0,[13,12])]}),(135,hh [(0,[0,2,6]),(1,[1,7,8,9])] [] []),(136,hh [(0,[4]),(1,[6]),(3,[10]),(4,rg 11 5),(5,[5,17]),(6,[18])] [(2,[4,5]++rg 9 10)] [(5,[1])]),(138,hh [(0,[6]),(1,rg 10 4),(5,[19]),(6,[7]),(7,[8,9]++rg 26 4),(9,[31])] [(4,rg 6 4++rg 18 14)] []),(139,hh [(0,[0,2,3]),(1,[12,13]),(2,[14]),(3,[4,16]),(4,[17,18,19]),(7,[26,27]),(8,rg 28 6),(9,[34]),(12,[40,41,42]),(13,rg 43 6),(14,[49,50]),(15,[8]++rg 52 12),(16,[64]),(17,[65,66]),(19,[70]),(20,[71,72]),(22,[76]),(23,rg 77 12),(24,[11]++rg 90 14),(25,[104]),(26,[105])] [(6,[7]++rg 25 10),(11,[8,9]++rg 39 26),(18,[10,11]++rg 69 37),(21,[11]++rg 75 30)] [(3,[2]),(24,[9]),(27,[1])]),(140,hh [(0,[6]),(1,[0,1,2]++rg 7 10)] [] []),(141,hh [(0,[0,8]),(2,[12,13,14]),(3,[16,17]),(4,rg 18 6),(5,rg 27 4),(7,[34,35,36]),(8,[38,39]),(9,rg 40 5)] [(2,[8]++rg 10 36),(7,[8]++rg 34 12)] []),(143,hh [(0,[0,4]),(2,rg 6 4),(3,[11,12]),(4,rg 13 7),(5,[5,21])] [(2,[4]++rg 6 16)] [(5,[1])]),(144,hh [(0,[0,10]),(4,[22,23,24]),(5,[26,27]),(6,[28,29]),(8,[30,31]),(9,[33,34]),(10,[35,36]),(11,[38]),(13,[39,40,41]),(14,[43,44]),(15,[45,46]),(16,[48,49]),(17,rg 50 8),(18,[59,60]),(19,rg 61 6),(20,[15]++rg 68 5),(23,[74,75,76]),(24,[78,79]),(25,rg 80 12),(26,[20,92]),(27,[16,94]),(28,[11,95])] [(4,rg 22 8),(8,rg 15 7++rg 30 65),(13,rg 39 19++[59,60]),(23,rg 74 18)] [(27,[1]),(28,[1])]),(145,hh [(0,[0,1,4]),(3,[7]),(4,[8,9])] [] []),(146,{drop:=zEG [(0,[5,6]),(1,[0,1,4]++rg 7 7)],mode:=[1,0],intr:=247}),(147,hh [(0,[0,1,4]),(1,rg 5 4),(2,rg 10 5),(3,rg 15 5)] [] []),(148,hh [(0,[2,6]),(3,[11,12,13]),(4,[15,16]),(7,[17,18,19]),(8,[21,22]),(9,rg 23 20),(10,[9,43]),(11,rg 45 6)] [(3,rg 9 42),(7,rg 17 26)] [(12,[1])]),(149,hh [(0,[4]),(1,[6,7]),(3,rg 9 6),(4,rg 16 5),(5,[0,5]++rg 22 4),(6,[0,1,5]++rg 26 9)] [] []),(150,hh [(0,[0,2]),(1,rg 7 5),(3,rg 13 4),(8,[23,24]),(9,[25,26,27]),(11,[29,30,31]),(12,[32])] [(7,[2,5]++rg 22 11)] []),(151,hh [(0,[0,2]),(3,[12,13,14]),(4,[3]++rg 15 5),(6,[21]),(9,[27,28,29]),(10,[5]++rg 30 10),(12,[41])] [(2,[2,3,4]++rg 11 11),(8,[2,5,6]++rg 26 16)] []),(152,hh [(0,[1,4]),(1,[0,5,6,7,8])] [] []),(153,hh [(0,[3]),(1,[0,1,4,5,6,7])] [] []),(154,hh [(0,[2]),(1,[0]++rg 3 11)] [] []),(155,hh [(0,[2]),(1,[4,5,6]),(2,[7]),(3,[9,10]),(4,rg 11 9)] [(2,[2]++rg 7 14)] []),(156,hh [(0,[4]),(1,[0,1,5,6,7,8])] [] []),(158,hh [(0,[4]),(1,rg 6 4),(3,[11]),(5,[15]),(6,[5]++rg 16 8),(8,[25])] [(4,[4,5]++rg 14 12)] []),(159,hh [(0,[4]),(1,[0,1,5,6,7,8])] [] []),(161,hh [(0,[1,4]),(1,[6]),(3,[10]),(4,rg 11 5),(5,[5,17]),(6,[18])] [(2,[4,5]++rg 9 10)] [(5,[1])]),(164,hh [(0,[1,4]),(1,[0,5,6,7,8])] [] []),(165,hh [(0,[4]),(3,[11,12]),(4,[6,13,14,15]),(5,[16]),(6,[0,17])] [(2,[6]++rg 10 7)] [(6,[1])]),(166,hh [(0,[4]),(1,rg 6 4),(3,[11]),(5,[15]),(6,[5]++rg 16 8),(8,[25])] [(4,[4,5]++rg 14 12)] []),(167,hh [(0,[4]),(1,rg 6 4),(3,[11]),(5,[15]),(6,[5]++rg 16 8),(8,[25])] [(4,[4,5]++rg 14 12)] []),(168,hh [(0,[3]),(1,[0,1,4,5,6,7])] [] []),(169,hh [(0,rg 5 4),(2,[12]),(3,[4]++rg 13 14),(4,[28])] [(1,[4]++rg 11 18)] []),(170,hh [(0,[0,4]),(1,[1]++rg 5 6)] [] []),(171,hh [(0,[1,4]),(1,[6,7,8]),(2,rg 9 13),(3,[0]++rg 22 7),(4,rg 29 6)] [] [(4,[3])]),(172,hh [(0,[1,4]),(1,[0]++rg 5 5)] [] [(1,[4])]),(173,{drop:=zEG [(0,[0,5]),(1,[1,2,3,6,7,8,9])],frz:=true}),(174,hh [(0,[4]),(1,[6]),(3,[10]),(4,rg 11 5),(5,[5,17]),(6,[18])] [(2,[4,5]++rg 9 10)] [(5,[1])]),(182,hh [(0,[4]),(1,[0,1]++rg 5 12)] [] []),(185,{drop:=zEG [(1,[3]),(2,[5,6]),(4,[7]),(5,[9,10]),(6,[11,12]),(7,[0]++rg 13 6)],intr:=9}),(186,{drop:=zEG [(1,[3]),(2,[5,6]),(4,[7]),(5,[9,10]),(6,[11,12]),(7,[13]),(8,[15,16]),(9,[17,18]),(10,[0]++rg 19 6)],intr:=9}),(187,{drop:=zEG [(0,rg 11 7),(1,[19,20]),(2,[0,2,3,22,23]),(5,[28,29]),(6,rg 30 6),(7,rg 37 11),(8,[48])],loopDrop:=zEG [(4,[10]++rg 27 22)],mode:=[0,0,1,1,0,0,1]}),(188,hh [(0,[0,4]),(1,[1,2]++rg 5 5)] [] []),(189,hh [(0,[0,4]),(1,[1,2]++rg 5 9)] [] []),(190,hh [(0,[0,4]),(1,[5,6,7]),(2,[9,10,11]),(3,[1,12])] [(1,rg 5 7)] [(3,[1])]),(191,{drop:=zEG [(0,rg 9 4),(1,[14,15]),(2,[1,16]),(3,rg 17 15),(4,[33,34]),(5,[35,36]),(6,rg 38 12),(8,[50])],loopDrop:=zEG [(3,rg 17 34)],take:=zEG [(2,[2])],mode:=[0,0,1,1,1,1]}),(192,hh [(0,[1,4]),(1,[0,5,6,7,8])] [] []),(193,hh [(0,[0,5]),(1,[1,2,3]++rg 6 9)] [] []),(194,{drop:=zEG [(2,[21,22,23]),(3,[24]),(4,[0,1,2,4]++rg 26 5),(5,[31]),(6,[0,1,2,4]++rg 33 5),(7,[38]),(8,rg 40 5),(9,[45,46]),(10,rg 47 8),(11,[55]),(12,rg 57 5),(13,rg 62 6),(15,[14]++rg 68 7),(16,rg 76 4),(17,rg 81 16),(18,[1,13]++rg 98 6),(19,[15,104]),(20,[13]++rg 105 9),(21,[17,114]),(22,rg 115 6),(23,[12,121,122]),(24,[123,124]),(25,[18,20,126,127,128]),(26,[1]++rg 129 6),(27,[16,135,136]),(28,[19,20,137,138,139]),(29,[2]++rg 140 7),(30,[16,147])],loopDrop:=zEG [(2,rg 12 136)],take:=zEG [(19,[1]),(21,[1]),(30,[1])],mode:=[1]}),(195,hh [(0,[1,4]),(1,[0,5,6,7,8])] [] []),(196,hh [(0,[0,3]),(1,[1]++rg 4 10)] [] []),(197,hh [(0,[0,2]),(1,rg 3 5)] [] []),(198,hh [(0,[4]),(1,[0,1,5,6,7,8])] [] []),(199,hh [(0,[0,3]),(1,[1]++rg 4 5)] [] []),(200,hh [(0,[4]),(1,[0,1,5,6,7,8])] [] []),(201,hh [(0,[3]),(1,[0,1,4,5,6,7])] [] []),(202,hh [(0,[4]),(1,[6]),(3,[10]),(4,rg 11 5),(5,[5,17]),(6,[18])] [(2,[4,5]++rg 9 10)] [(5,[1])]),(203,hh [(0,[4]),(1,[6]),(3,[10]),(4,rg 11 5),(5,[5,17]),(6,[18])] [(2,[4,5]++rg 9 10)] [(5,[1])]),(204,hh [(0,[0,3]),(1,[1,4,5,6,7])] [] []),(206,hh [(0,[2]),(1,[0,3,4,5,6])] [] []),(207,hh [(0,[2]),(1,rg 3 9),(2,rg 12 9),(3,rg 21 9),(4,[0,30,31,32])] [] []),(210,hh [(0,[2]),(1,[0,3,4,5])] [] []),(211,hh [(0,[4]),(1,[0,1,5,6,7,8])] [] []),(212,hh [(0,[0,3]),(1,[1,4,5,6,7])] [] []),(213,{drop:=zEG [(0,[10,11]),(1,[12,13]),(2,[15,16]),(3,[17]),(4,rg 18 16),(5,[35,36]),(6,rg 37 16)],loopDrop:=zEG [(1,[9]++rg 12 41),(4,rg 18 35)],mode:=[1,0,0,0]}),(214,hh [(0,[13]),(2,[1,2,14,15,16]),(3,[17,18,19]),(4,[20]),(5,[22,23]),(6,rg 24 6),(7,[10,30,31]),(8,[32]),(9,[34,35]),(10,rg 36 18),(11,rg 54 6)] [(4,rg 20 10),(8,rg 32 28)] []),(215,hh [(0,[2,13,14,15]),(1,[16]),(2,[18,19]),(3,[20,21]),(4,rg 22 6),(5,rg 28 7),(6,[36,37]),(7,rg 38 5),(8,[43,44]),(9,[46,47,48]),(10,[12]++rg 49 18)] [(5,[12]++rg 28 39)] []),(216,hh [(0,[8,9]),(1,[2,15,16,17]),(3,rg 18 5),(4,rg 23 5),(5,[1]++rg 28 5),(6,[33]),(7,[10,35]),(8,rg 37 4),(9,rg 41 4),(10,rg 45 4),(11,[0,3,12,14]++rg 49 6),(13,[13,56]),(14,[58]),(15,[13,59]),(16,[55,61]),(17,[13,62])] [] [(13,[1]),(15,[1]),(17,[1])]),(217,hh [(0,[1,10]),(1,[2,11,12]),(2,[13,14]),(3,rg 16 14),(4,[30,31]),(5,[32,33])] [(2,rg 13 21)] [(0,[1])]),(218,hh [(0,[8]),(1,[13,14]),(3,[15]),(4,[17,18]),(5,rg 19 17),(6,[37,38]),(7,[39,40]),(9,[42,43,44]),(11,rg 46 16),(12,[62,63,64]),(13,[66,67]),(14,[68]),(15,[70,71]),(16,rg 72 12),(17,rg 85 16),(18,[101,102,103]),(19,[105,106]),(20,[107,108]),(21,[110,111]),(22,rg 112 12),(23,rg 125 16)] [(3,[8,11,12]++rg 15 126),(5,rg 19 20),(14,rg 68 33),(20,rg 107 34)] []),(219,hh [(0,[10]),(1,[3]++rg 13 14),(2,[2]++rg 27 4),(3,rg 31 16),(4,[48,49]),(5,rg 50 15),(6,[66,67]),(7,[68,69]),(8,rg 71 14),(9,[85,86]),(10,[87,88]),(11,[11,89])] [(3,rg 31 58),(5,rg 50 18)] [(11,[1])]),(220,hh [(0,[10,11]),(1,[3]++rg 14 14),(2,[2]++rg 28 4),(3,rg 32 15),(4,[48,49]),(5,rg 50 16),(6,[67,68]),(7,[69,70]),(8,[0,1]++rg 72 14),(9,[13,86]),(10,rg 87 14),(11,[101,102]),(12,[103,104]),(13,rg 105 15),(14,[121,122]),(15,rg 123 16),(16,[140,141]),(17,[142,143]),(18,rg 145 14),(19,[159,160]),(20,[161,162]),(21,[0,1]++rg 163 14),(22,[13,177])] [(3,rg 32 18),(5,rg 50 19),(13,rg 105 58),(15,rg 123 19)] [(9,[1]),(22,[1])]),(221,hh [(0,[0,3]),(1,[1,4,5,6,7])] [] []),(222,hh [(0,[4]),(1,[6]),(3,[10]),(4,rg 11 5),(5,[5,17]),(6,[18])] [(2,[4,5]++rg 9 10)] [(5,[1])]),(223,hh [(0,[4]),(1,[6]),(3,[10]),(4,rg 11 5),(5,[5,17]),(6,[18])] [(2,[4,5]++rg 9 10)] [(5,[1])]),(225,hh [(0,[1,12]),(1,[13,14,15]),(2,[16,17]),(3,rg 19 21),(4,[41,42]),(5,rg 43 15),(6,[10]++rg 59 22),(7,[11,81])] [(1,[11]++rg 13 69)] [(0,[1]),(7,[1])]),(226,hh [(0,[8]),(1,rg 0 4++rg 9 9)] [] []),(227,hh [(0,[12]),(1,rg 13 9),(2,[3]++rg 22 9),(3,[0,1,4,5]++rg 31 9),(4,[2,40])] [] [(4,[1])]),(228,hh [(0,[10,11]),(1,[0,4]++rg 12 10),(2,[3]++rg 23 5),(3,[1,2,28,29]),(4,[1,2,30,31])] [] [(3,[2,3]),(4,[2,3])])] f
end Go.Eng
namespace Go.Eng
open Go
abbrev Al:=PV->Value->Prop
def zCm:Al:=fun _ _=>False
def zEY(w:World)(b:Nat)(c:Array Value):Prop:=∃ e,w.heap[b]? = some (.cells c e (0,0))
def zKH(w:World)(b:Nat)(c:Array Value):Prop:=∃ e fz,w.heap[b]? = some (.cells c e fz)
def seg(c:Array Value)(o n:Nat):List Value:=(c.toList.drop o).take n
def zCr:Value->Bool
 |.agg _=>true|_=>false
def flat(us:List Value):List Value:=us.flatMap fun u=>u.cells.toList
mutual
def Rep(w:World)(Φ:Nat->Prop)(A:Al):PV->Value->LN->Prop
 |.bad,_,L=>L=[]|.und,v,L=>v=undef/\L=[]|.int k n,v,L=>v = .int k n/\L=[]|.bool b,v,L=>v = .bool b/\L=[]|.nilp,v,L=>v = .pointer none/\L=[]|.nilf,v,L=>v = .nilFunc/\L=[]|.nilm,v,L=>v = .map none/\L=[]|.nn,v,L=>L=[]/\∃ a n,v = .slice (some a) 0 n|.nils _,v,L=>v = .slice none 0 0/\L=[]|.agg cs,v,L=>∃ vs:Array Value,v = .agg vs/\zA5 w Φ A cs vs.toList L|.tup cs,v,L=>∃ vs:Array Value,v = .tuple vs/\zA5 w Φ A cs vs.toList L
 | .sl xs,v,L=>L=[]/\((xs=[]/\∃ a n,v = .slice a 0 n/\(a=none->n=0))\/∃ a n c us sz,v = .slice (some a) xs.length n/\a.spot=none/\xs.length<=n/\Φ a.block/\zKH w a.block c /\
   (∀ x∈xs,x.cells.length=sz)/\((∀ u∈us,u.cells.size=sz)/\us.map zCr=xs.map PV.isAgg)/\seg c a.off (xs.length*sz)=flat us/\zA5 w Φ zCm xs us [])
 | .own sz xs,v,L=>(xs=[]/\L=[]/\v = .slice none 0 0)\/∃ a n c us L',L=a.block::L'/\v = .slice (some a) xs.length n/\a.spot=none/\xs.length<=n/\zEY w a.block c/\a.off+n*sz<=c.size /\
   (∀ x∈xs,x.cells.length=sz)/\((∀ u∈us,u.cells.size=sz)/\us.map zCr=xs.map PV.isAgg)/\seg c a.off (xs.length*sz)=flat us/\zA5 w Φ zCm xs us L'
 |.ref q,v,L=>L=[]/\∃ a c u,v = .pointer (some a)/\a.spot=none/\Φ a.block/\zKH w a.block c/\seg c a.off q.cells.length=u.cells.toList/\(u.cells.size=q.cells.length/\zCr u=q.isAgg)/\Rep w Φ A q u []|.box q,v,L=>∃ a c u L',L=a.block::L'/\v = .pointer (some a)/\a.spot=none/\zEY w a.block c/\seg c a.off q.cells.length=u.cells.toList/\(u.cells.size=q.cells.length/\zCr u=q.isAgg)/\Rep w Φ A q u L'|.map es,v,L=>L=[]/\∃ b ents,v = .map (some b)/\Φ b/\w.heap[b]? = some (.map ents es.length)/\zEa w Φ es ents.toList 0|.omap es,v,L=>∃ b ents,L=[b]/\v = .map (some b)/\w.heap[b]? = some (.map ents es.length)/\zEa w Φ es ents.toList 0|.func f first caps,v,L=>L=[]/\∃ fs cs:Array Value,v = .func (.func f) fs cs/\zA5 w Φ A first fs.toList []/\zA5 w Φ A caps cs.toList []
 |.addr r pre i c sh,v,L=>L=[]/\A (.addr r pre i c sh) v|.bor r pre z lo n,v,L=>L=[]/\A (.bor r pre z lo n) v|.bsl r pre i c sz ag n,v,L=>L=[]/\A (.bsl r pre i c sz ag n) v|.bmap r pre,v,L=>L=[]/\A (.bmap r pre) v|.lock q,v,L=>Rep w Φ A q v L|.yld h,v,L=>L=[]/\v = .func (.yield h) #[] #[]|.log xs k,v,L=>L=[]/\A (.log xs k) v
def zA5(w:World)(Φ:Nat->Prop)(A:Al):List PV->List Value->LN->Prop
 |[],vs,L=>vs=[]/\L=[]|p::ps,vs,L=>∃ v vs' L1 L2,vs=v::vs'/\L=L1++L2/\Rep w Φ A p v L1/\zA5 w Φ A ps vs' L2
def zEa(w:World)(Φ:Nat->Prop):List (PV×PV)->List MapEntry->Nat->Prop
 |[],es,_=>es=[]|(k,p)::ps,es,i=>∃ e es',es=e::es'/\e.born=i/\Rep w Φ zCm k e.key []/\Rep w Φ zCm p e.val []/\zEa w Φ ps es' (i+1)
end
section
variable {w w':World} {Φ Φ':Nat->Prop}
theorem zH4{f:PV->PV}(hf:∀ p,(f p).isAgg=p.isAgg)(p:PV):(p.mapW f).cells.length=p.cells.length:=by
 have one:∀ p:PV,p.isAgg=false->p.cells.length=1:=by intro p h;cases p<;>simp_all[PV.isAgg,PV.cells]
 have len:∀ ps:List PV,(zCR f ps).length=ps.length:=by
  intro ps;induction ps with
  |nil=>rfl|cons p ps ih=>simp[zCR,ih]
 cases p with
 |agg cs=>simp[PV.mapW,PV.cells,len]|addr r pre i c sh=>rw[PV.mapW,one _ (by rw[hf];rfl),one _ rfl]|bor r pre z lo n=>rw[PV.mapW,one _ (by rw[hf];rfl),one _ rfl]|bsl r pre i c z ag n=>rw[PV.mapW,one _ (by rw[hf];rfl),one _ rfl]|bmap r pre=>rw[PV.mapW,one _ (by rw[hf];rfl),one _ rfl]|log xs k=>rw[PV.mapW,one _ (by rw[hf];rfl),one _ rfl]|_=>rfl
theorem zGC{f:PV->PV}(hf:∀ p,(f p).isAgg=p.isAgg)(p:PV):(p.mapW f).isAgg=p.isAgg:=by
 cases p<;>first|rfl|exact hf _
mutual
theorem Rep.map{A A':Al}{f:PV->PV}(hf:∀ p,(f p).isAgg=p.isAgg)(hΦ:∀ b,Φ b->Φ' b/\w'.heap[b]? = w.heap[b]?)(hA:∀ a v,a.isWay=true->A a v->Rep w' Φ' A' (f a) v []) :
  ∀ (p:PV) (v:Value) (L:LN),(∀ b∈L,w'.heap[b]? = w.heap[b]?)->Rep w Φ A p v L->Rep w' Φ' A' (p.mapW f) v L
 |.bad,_,_,_,h=>by simpa[Rep,PV.mapW] using h|.und,_,_,_,h=>by simpa[Rep,PV.mapW] using h|.int ..,_,_,_,h=>by simpa[Rep,PV.mapW] using h|.bool _,_,_,_,h=>by simpa[Rep,PV.mapW] using h|.nilp,_,_,_,h=>by simpa[Rep,PV.mapW] using h|.nilf,_,_,_,h=>by simpa[Rep,PV.mapW] using h|.nilm,_,_,_,h=>by simpa[Rep,PV.mapW] using h|.nn,_,_,_,h=>by simpa[Rep,PV.mapW] using h|.nils _,_,_,_,h=>by simpa[Rep,PV.mapW] using h|.agg cs,v,L,hw,h=>by
  obtain⟨vs,rfl,h⟩:=h;exact⟨vs,rfl,zA5.map hf hΦ hA cs _ L hw h⟩
 |.tup cs,v,L,hw,h=>by
  obtain⟨vs,rfl,h⟩:=h;exact⟨vs,rfl,zA5.map hf hΦ hA cs _ L hw h⟩
 |.sl xs,v,L,hw,h=>by
  obtain⟨rfl,h|⟨a,n,c,us,sz,h1,h2,h3,h4,⟨e,fz,h5⟩,h6,h7,h8,h9⟩⟩:=h
  ·exact⟨rfl,.inl h⟩
  ·have:=zA5.same (A:=zCm) hΦ xs us [] (by simp) h9;exact⟨rfl,.inr ⟨a,n,c,us,sz,h1,h2,h3,(hΦ _ h4).1,⟨e,fz,(hΦ _ h4).2.trans h5⟩,h6,h7,h8,this⟩⟩
 |.own sz xs,v,L,hw,h=>by
  obtain h|⟨a,n,c,us,L',rfl,h1,h2,h3,⟨e,h5⟩,h6,h7,h8,h9,j5⟩:=h
  ·exact .inl h
  ·have:=zA5.same (A:=zCm) hΦ xs us L' (fun b hb=>hw b (by simp[hb])) j5;exact .inr ⟨a,n,c,us,L',rfl,h1,h2,h3,⟨e,(hw _ (by simp)).trans h5⟩,h6,h7,h8,h9,this⟩
 |.ref q,v,L,hw,h=>by
  obtain⟨rfl,a,c,u,h1,h2,h3,⟨e,fz,h4⟩,h5,h6,h7⟩:=h;have hc:(q.mapW f).cells.length=q.cells.length:=zH4 hf q;exact⟨rfl,a,c,u,h1,h2,(hΦ _ h3).1,⟨e,fz,(hΦ _ h3).2.trans h4⟩,by rw[hc];exact h5,by rw[hc,zGC hf];exact h6,Rep.map hf hΦ hA q u [] (by simp) h7⟩
 |.box q,v,L,hw,h=>by
  obtain⟨a,c,u,L',rfl,h1,h2,⟨e,h4⟩,h5,h6,h7⟩:=h;have hc:(q.mapW f).cells.length=q.cells.length:=zH4 hf q;exact⟨a,c,u,L',rfl,h1,h2,⟨e,(hw _ (by simp)).trans h4⟩,by rw[hc];exact h5,by rw[hc,zGC hf];exact h6,Rep.map hf hΦ hA q u L' (fun b hb=>hw b (by simp[hb])) h7⟩
 |.map es,v,L,hw,h=>by
  obtain⟨rfl,b,ents,h1,h2,h3,h4⟩:=h;exact⟨rfl,b,ents,h1,(hΦ _ h2).1,(hΦ _ h2).2.trans h3,zEa.same hΦ es _ _ h4⟩
 |.omap es,v,L,hw,h=>by
  obtain⟨b,ents,rfl,h1,h3,h4⟩:=h;exact⟨b,ents,rfl,h1,(hw _ (by simp)).trans h3,zEa.same hΦ es _ _ h4⟩
 |.func g a b,v,L,hw,h=>by
  obtain⟨rfl,fs,cs,h1,h2,h3⟩:=h;exact⟨rfl,fs,cs,h1,zA5.map hf hΦ hA a _ [] (by simp) h2,zA5.map hf hΦ hA b _ [] (by simp) h3⟩
 |.addr ..,v,L,hw,h=>by obtain⟨rfl,h⟩:=h;exact hA _ _ rfl h
 |.bor ..,v,L,hw,h=>by obtain⟨rfl,h⟩:=h;exact hA _ _ rfl h
 |.bsl ..,v,L,hw,h=>by obtain⟨rfl,h⟩:=h;exact hA _ _ rfl h
 |.bmap ..,v,L,hw,h=>by obtain⟨rfl,h⟩:=h;exact hA _ _ rfl h
 |.lock q,v,L,hw,h=>Rep.map hf hΦ hA q v L hw h|.yld _,v,L,hw,h=>h|.log ..,v,L,hw,h=>by obtain⟨rfl,h⟩:=h;exact hA _ _ rfl h
theorem zA5.map{A A':Al}{f:PV->PV}(hf:∀ p,(f p).isAgg=p.isAgg)(hΦ:∀ b,Φ b->Φ' b/\w'.heap[b]? = w.heap[b]?)(hA:∀ a v,a.isWay=true->A a v->Rep w' Φ' A' (f a) v []) :
  ∀ (ps:List PV) (vs:List Value) (L:LN),(∀ b∈L,w'.heap[b]? = w.heap[b]?)->zA5 w Φ A ps vs L->zA5 w' Φ' A' (zCR f ps) vs L
 |[],_,_,_,h=>h|p::ps,vs,L,hw,h=>by
  obtain⟨v,vs',L1,L2,rfl,rfl,h1,h2⟩:=h;exact⟨v,vs',L1,L2,rfl,rfl,Rep.map hf hΦ hA p v L1 (fun b hb=>hw b (by simp[hb])) h1,zA5.map hf hΦ hA ps vs' L2 (fun b hb=>hw b (by simp[hb])) h2⟩
theorem Rep.same{A:Al}(hΦ:∀ b,Φ b->Φ' b/\w'.heap[b]? = w.heap[b]?) :
  ∀ (p:PV) (v:Value) (L:LN),(∀ b∈L,w'.heap[b]? = w.heap[b]?)->Rep w Φ zCm p v L->Rep w' Φ' A p v L
 |.bad,_,_,_,h=>h|.und,_,_,_,h=>h|.int ..,_,_,_,h=>h|.bool _,_,_,_,h=>h|.nilp,_,_,_,h=>h|.nilf,_,_,_,h=>h|.nilm,_,_,_,h=>h|.nn,_,_,_,h=>h|.nils _,_,_,_,h=>h|.agg cs,v,L,hw,h=>by
  obtain⟨vs,rfl,h⟩:=h;exact⟨vs,rfl,zA5.same hΦ cs _ L hw h⟩
 |.tup cs,v,L,hw,h=>by
  obtain⟨vs,rfl,h⟩:=h;exact⟨vs,rfl,zA5.same hΦ cs _ L hw h⟩
 |.sl xs,v,L,hw,h=>by
  obtain⟨rfl,h|⟨a,n,c,us,sz,h1,h2,h3,h4,⟨e,fz,h5⟩,h6,h7,h8,h9⟩⟩:=h
  ·exact⟨rfl,.inl h⟩
  ·have:=zA5.same (A:=zCm) hΦ xs us [] (by simp) h9;exact⟨rfl,.inr ⟨a,n,c,us,sz,h1,h2,h3,(hΦ _ h4).1,⟨e,fz,(hΦ _ h4).2.trans h5⟩,h6,h7,h8,this⟩⟩
 |.own sz xs,v,L,hw,h=>by
  obtain h|⟨a,n,c,us,L',rfl,h1,h2,h3,⟨e,h5⟩,h6,h7,h8,h9,j5⟩:=h
  ·exact .inl h
  ·have:=zA5.same (A:=zCm) hΦ xs us L' (fun b hb=>hw b (by simp[hb])) j5;exact .inr ⟨a,n,c,us,L',rfl,h1,h2,h3,⟨e,(hw _ (by simp)).trans h5⟩,h6,h7,h8,h9,this⟩
 |.ref q,v,L,hw,h=>by
  obtain⟨rfl,a,c,u,h1,h2,h3,⟨e,fz,h4⟩,h5,h6,h7⟩:=h;exact⟨rfl,a,c,u,h1,h2,(hΦ _ h3).1,⟨e,fz,(hΦ _ h3).2.trans h4⟩,h5,h6,Rep.same hΦ q u [] (by simp) h7⟩
 |.box q,v,L,hw,h=>by
  obtain⟨a,c,u,L',rfl,h1,h2,⟨e,h4⟩,h5,h6,h7⟩:=h;exact⟨a,c,u,L',rfl,h1,h2,⟨e,(hw _ (by simp)).trans h4⟩,h5,h6,Rep.same hΦ q u L' (fun b hb=>hw b (by simp[hb])) h7⟩
 |.map es,v,L,hw,h=>by
  obtain⟨rfl,b,ents,h1,h2,h3,h4⟩:=h;exact⟨rfl,b,ents,h1,(hΦ _ h2).1,(hΦ _ h2).2.trans h3,zEa.same hΦ es _ _ h4⟩
 |.omap es,v,L,hw,h=>by
  obtain⟨b,ents,rfl,h1,h3,h4⟩:=h;exact⟨b,ents,rfl,h1,(hw _ (by simp)).trans h3,zEa.same hΦ es _ _ h4⟩
 |.func g a b,v,L,hw,h=>by
  obtain⟨rfl,fs,cs,h1,h2,h3⟩:=h;exact⟨rfl,fs,cs,h1,zA5.same hΦ a _ [] (by simp) h2,zA5.same hΦ b _ [] (by simp) h3⟩
 |.addr ..,v,L,hw,h=>h.2.elim|.bor ..,v,L,hw,h=>h.2.elim|.bsl ..,v,L,hw,h=>h.2.elim|.bmap ..,v,L,hw,h=>h.2.elim|.lock q,v,L,hw,h=>Rep.same hΦ q v L hw h|.yld _,v,L,hw,h=>h|.log ..,v,L,hw,h=>h.2.elim
theorem zA5.same{A:Al}(hΦ:∀ b,Φ b->Φ' b/\w'.heap[b]? = w.heap[b]?) :
  ∀ (ps:List PV) (vs:List Value) (L:LN),(∀ b∈L,w'.heap[b]? = w.heap[b]?)->zA5 w Φ zCm ps vs L->zA5 w' Φ' A ps vs L
 |[],_,_,_,h=>h|p::ps,vs,L,hw,h=>by
  obtain⟨v,vs',L1,L2,rfl,rfl,h1,h2⟩:=h;exact⟨v,vs',L1,L2,rfl,rfl,Rep.same hΦ p v L1 (fun b hb=>hw b (by simp[hb])) h1,zA5.same hΦ ps vs' L2 (fun b hb=>hw b (by simp[hb])) h2⟩
theorem zEa.same(hΦ:∀ b,Φ b->Φ' b/\w'.heap[b]? = w.heap[b]?):∀ (ps:List (PV×PV)) (es:List MapEntry) (i:Nat),zEa w Φ ps es i->zEa w' Φ' ps es i
 |[],_,_,h=>h|(k,p)::ps,es,i,h=>by
  obtain⟨e,es',rfl,h0,h1,h2,h3⟩:=h;exact⟨e,es',rfl,h0,Rep.same hΦ k _ [] (by simp) h1,Rep.same hΦ p _ [] (by simp) h2,zEa.same hΦ ps es' (i+1) h3⟩
end
end
mutual
theorem zBl:∀ p:PV,p.mapW (fun x=>x)=p
 |.agg cs=>by rw[PV.mapW,zGw]|.tup cs=>by rw[PV.mapW,zGw]|.func g a b=>by rw[PV.mapW,zGw,zGw]|.ref q=>by rw[PV.mapW,zBl]|.box q=>by rw[PV.mapW,zBl]|.lock q=>by rw[PV.mapW,zBl]|.addr .. => rfl|.bor .. => rfl|.bsl .. => rfl|.bmap .. => rfl|.yld .. => rfl|.log .. => rfl|.bad=>rfl|.und=>rfl|.int .. => rfl|.bool .. => rfl|.nilp=>rfl|.nilf=>rfl|.nilm=>rfl|.nn=>rfl|.nils _=>rfl|.sl _=>rfl|.own .. => rfl|.map _=>rfl|.omap _=>rfl
theorem zGw:∀ ps:List PV,zCR (fun x=>x) ps=ps
 |[]=>rfl|p::ps=>by rw[zCR,zBl,zGw]
end
def zDt(w w':World)(Φ Φ':Nat->Prop):Prop:=∀ b,Φ b->Φ' b/\w'.heap[b]? = w.heap[b]?
theorem zC1{w:World}{Φ:Nat->Prop}{A:Al}{a:PV}{v:Value}(hw:a.isWay=true)(h:A a v):Rep w Φ A a v []:=by
 cases a<;>first|exact⟨rfl,h⟩|exact absurd hw (by simp[PV.isWay])
section
variable {w w':World} {Φ Φ':Nat->Prop} {A A':Al}
theorem Rep.mono(hΦ:zDt w w' Φ Φ')(hA:∀ a v,a.isWay=true->A a v->A' a v){p:PV}{v:Value}{L:LN}(hw:∀ b∈L,w'.heap[b]? = w.heap[b]?)(h:Rep w Φ A p v L):Rep w' Φ' A' p v L:=by
 have:=Rep.map (f:=fun x=>x) (fun _=>rfl) hΦ (fun a v hw h=>zC1 hw (hA a v hw h)) p v L hw h;rwa[zBl] at this
theorem zA5.mono(hΦ:zDt w w' Φ Φ')(hA:∀ a v,a.isWay=true->A a v->A' a v){p:List PV}{v:List Value}{L:LN}(hw:∀ b∈L,w'.heap[b]? = w.heap[b]?)(h:zA5 w Φ A p v L):zA5 w' Φ' A' p v L:=by
 have:=zA5.map (f:=fun x=>x) (fun _=>rfl) hΦ (fun a v hw h=>zC1 hw (hA a v hw h)) p v L hw h;rwa[zGw] at this
theorem zDt.refl:zDt w w Φ Φ:=fun _ h=>⟨h,rfl⟩
theorem zA5.split:∀ {ps:List PV} {vs:List Value} {L:LN},zA5 w Φ A ps vs L->∀ {i:Nat} {p:PV},ps[i]? = some p ->
  ∃ v La Li Lb,vs[i]? = some v/\L=La++Li++Lb/\Rep w Φ A p v Li /\
   (∀ w' Φ' (A':Al) p' Li',(∀ a v,a.isWay=true->A a v->A' a v)->zDt w w' Φ Φ'->(∀ b∈La++Lb,w'.heap[b]? = w.heap[b]?)->Rep w' Φ' A' p' v Li'->zA5 w' Φ' A' (ps.set i p') vs (La++Li'++Lb)) /\
   ∀ j p2,j≠i->ps[j]? = some p2->∃ v2 L2,vs[j]? = some v2/\Rep w Φ A p2 v2 L2/\∀ b∈L2,b∈La++Lb
 |[],_,_,_,_,_,hp=>by simp at hp
 | q :: ps,vs,L,h,0,p,hp=>by
  obtain⟨v,vs',L1,L2,rfl,rfl,h1,h2⟩:=h;simp at hp;subst hp;refine⟨v,[],L1,L2,rfl,by simp,h1,?_,?_⟩
  ·intro w' Φ' A' p' Li' hA hs hb hr;exact⟨v,vs',Li',L2,rfl,by simp,hr,h2.mono hs hA (by simpa using hb)⟩
  ·intro j p2 hj qQ
   cases j with
   |zero=>exact absurd rfl hj|succ j=>
    obtain⟨v2,La,Li,Lb,kh,rfl,qR,_⟩:=h2.split (i:=j) (p:=p2) (by simpa using qQ);exact⟨v2,Li,by simpa using kh,qR,fun b hb=>by simp[hb]⟩
 | q :: ps,vs,L,h,i+1,p,hp=>by
  obtain⟨v,vs',L1,L2,rfl,rfl,h1,h2⟩:=h;obtain⟨u,La,Li,Lb,hu,rfl,hr,hk,ho⟩:=h2.split (i:=i) (by simpa using hp);refine⟨u,L1++La,Li,Lb,by simpa using hu,by simp,hr,?_,?_⟩
  rotate_left
  ·intro j p2 hj qQ
   cases j with
   |zero=>simp at qQ;subst qQ;exact⟨v,L1,rfl,h1,fun b hb=>by simp[hb]⟩
   |succ j=>
    obtain⟨v2,L2,ji,ju,wy⟩:=ho j p2 (by omega) (by simpa using qQ);exact⟨v2,L2,by simpa using ji,ju,fun b hb=>by have:=wy b hb;simp at this ⊢;rcases this with h|h<;>simp[h]⟩
  intro w' Φ' A' p' Li' hA hs hb jj;exact⟨v,vs',L1,La++Li'++Lb,rfl,by simp,h1.mono hs hA (fun b h=>hb b (by simp[h])),hk w' Φ' A' p' Li' hA hs (fun b h=>hb b (by rcases bk.1 h with h|h<;>simp[h])) jj⟩
theorem zA5.length:∀ {ps:List PV} {vs:List Value} {L:LN},zA5 w Φ A ps vs L->vs.length=ps.length
 |[],_,_,h=>by simp[h.1]|_::_,_,_,h=>by
  obtain⟨v,vs',L1,L2,rfl,rfl,h1,h2⟩:=h;simp[h2.length]
end
def zAw(a:Addr)(k:Nat):Addr:=⟨a.block,a.off+k,none⟩
def kid(w:World):Value->PV->Nat->Nat->Option Value
 |.slice (some a) _ _,.own sz _,i,c=>w.cell? (zAw a (i*sz+c))|.pointer (some a),.box _,_,c=>w.cell? (zAw a c)|.agg vs,.agg _,_,c=>vs[c]?|_,_,_,_=>none
def zAZ (w:World):Value->PV->zA2->Option (Value×PV)
 |v,p,[]=>some (v,p)
 | v, p, (i,c)::rest =>
  match zA6 p with
  | some xs=>match xs[i]? with
   | some x=>match x.cells[c]? with
    |some q=>match kid w v p i c with
     |some u=>zAZ w u q rest|none=>none
    |none=>none
   |none=>none
  |none=>none
def zBc:Value->PV->Nat->Nat->Option Addr
 |.slice (some a) _ _,.own sz _,i,c=>some (zAw a (i*sz+c))|.pointer (some a),.box _,0,c=>some (zAw a c)|_,_,_,_=>none
def zBZ(v nv:Value)(sz lo n:Nat):Prop :=
 match nv with
 |.slice none _ _=>v = .slice none 0 0/\n=0|.slice (some a) _ cap=>v = .slice (some (zAw a (lo*sz))) n (cap-lo)/\lo+n<=cap|_=>False
def zA9(w:World)(rv:Nat->Value)(E:Nat->PV):Al
 |.addr r pre i c _,v=>r<zAa/\∃ a,v = .pointer (some a)/\a.spot=none/\∀ nv np,zAZ w (rv r) (E r).unlock pre=some (nv,np)->∀ a',zBc nv np i c=some a'->a=a'
 | .bor r pre z lo n,v=>r<zAa/\(∃ a cap,v = .slice a n cap/\n<=cap/\(a=none->cap=0)/\∀ b,a=some b->b.spot=none) /\
   ∀ nv np,zAZ w (rv r) (E r).unlock pre=some (nv,np)->np.heavy0=true->∃ sz xs,np = .own sz xs/\z=sz/\zBZ v nv sz lo n
 | .bsl r pre i c _ _ n,v=>r<zAa/\∃ a cap,v = .slice (some a) n cap/\n<=cap/\a.spot=none /\
   ∀ nv np,zAZ w (rv r) (E r).unlock pre=some (nv,np)->∀ a',zBc nv np i c=some a'->a=a'
 |.bmap r pre,v=>r<zAa/\(∃ b,v = .map (some b))/\∀ nv np,zAZ w (rv r) (E r).unlock pre=some (nv,np)->∀ es,np = .omap es->v=nv|_,_=>False
def child(p:PV)(i c:Nat):Option PV:=(zA6 p).bind fun xs=>(xs[i]?).bind fun x=>x.cells[c]?
theorem zCe(p:PV)(i c:Nat)(rest:zA2):zAF p ((i,c)::rest)=(child p i c).bind (zAF · rest):=by
 simp only[zAF,child];split
 ·rename_i xs h;rw[h];simp only[bc];split
  ·rename_i x h;rw[h];simp only[bc];split
   ·rename_i q h;rw[h];rfl
   ·rename_i h;rw[h];rfl
  ·rename_i h;rw[h];rfl
 ·rename_i h;rw[h];rfl
theorem zA8(w:World)(v:Value)(p:PV)(i c:Nat)(rest:zA2):zAZ w v p ((i,c)::rest)=(child p i c).bind fun q=>(kid w v p i c).bind fun u=>zAZ w u q rest:=by
 simp only[zAZ,child];split
 ·rename_i xs h;rw[h];simp only[bc];split
  ·rename_i x h;rw[h];simp only[bc];split
   ·rename_i q h;rw[h];simp only[bc];split
    ·rename_i h;rw[h];rfl
    ·rename_i h;rw[h];rfl
   ·rename_i h;rw[h];rfl
  ·rename_i h;rw[h];rfl
 ·rename_i h;rw[h];rfl
def zB7(p:PV)(i c:Nat)(q':PV):Option PV:=(zA6 p).bind fun xs=>(xs[i]?).bind fun x=>zAN p (xs.set i (zAH x c [q']))
theorem zBx(f:PV->Option PV)(p:PV)(i c:Nat)(rest:zA2):zAA f p ((i,c)::rest)=(child p i c).bind fun q=>(zAA f q rest).bind fun q'=>zB7 p i c q':=by
 simp only[zAA,child,zB7];split
 ·rename_i xs h;rw[h];simp only[bc];split
  ·rename_i x h;rw[h];simp only[bc];split
   ·rename_i q h;rw[h];simp only[bc];split
    ·rename_i h;rw[h];rfl
    ·rename_i h;rw[h];rfl
   ·rename_i h;rw[h];rfl
  ·rename_i h;rw[h];rfl
 ·rename_i h;rw[h];rfl
section
variable {w w':World} {Φ Φ':Nat->Prop} {A:Al}
theorem Rep.cell{p:PV}{v:Value}{L:LN}(h:Rep w Φ A p v L){c:Nat}{q:PV}(hq:p.cells[c]? = some q)(hn:zCr v=p.isAgg) :
  ∃ u La Li Lb,v.cells.toList[c]? = some u/\L=La++Li++Lb/\Rep w Φ A q u Li /\
   (∀ w' Φ' (A':Al) q' Li',(∀ a v,a.isWay=true->A a v->A' a v)->zDt w w' Φ Φ'->(∀ b∈La++Lb,w'.heap[b]? = w.heap[b]?)->q'.isAgg=q.isAgg->Rep w' Φ' A' q' u Li'->Rep w' Φ' A' (zAH p c [q']) v (La++Li'++Lb)/\(zAH p c [q']).cells.length=p.cells.length/\(zAH p c [q']).isAgg=p.isAgg) /\
   ∀ c2 q2,c2≠c->p.cells[c2]? = some q2->∃ u2 L2,v.cells.toList[c2]? = some u2/\Rep w Φ A q2 u2 L2/\∀ b∈L2,b∈La++Lb:=by
 cases hp:p.isAgg with
 | true =>
  cases p<;>simp[PV.isAgg] at hp;rename_i cs;obtain⟨vs,rfl,h⟩:=h;obtain⟨u,La,Li,Lb,hu,rfl,hr,hk,ho⟩:=h.split hq;have hc:c<cs.length:=(bg.1 hq).1;refine⟨u,La,Li,Lb,hu,rfl,hr,fun w' Φ' A' q' Li' hA hs hb _ jj=>?_,fun c2 q2 hI h2=>ho c2 q2 hI h2⟩;have he:cs.take c++[q']++cs.drop (c+1)=cs.set c q':=by
   rw[cm,if_pos hc];simp
  refine⟨⟨vs,rfl,?_⟩,?_,rfl⟩
  ·show zA5 w' Φ' A' (cs.take c++[q']++cs.drop (c+1)) _ _
   rw[he];exact hk w' Φ' A' q' Li' hA hs hb jj
  ·show(cs.take c++[q']++cs.drop (c+1)).length=cs.length
   rw[he];simp
 | false =>
  have ja:p.cells=[p]:=by cases p<;>first|rfl|simp[PV.isAgg] at hp
  have hv:v.cells=#[v]:=by rw[hp] at hn;cases v<;>first|rfl|simp[zCr] at hn
  rw[ja] at hq;have hc:c=0:=by
   have:=(bg.1 hq).1;simp at this;exact this
  subst hc;simp at hq;subst hq;refine⟨v,[],L,[],by simp[hv],by simp,h,fun w' Φ' A' q' Li' hA hs hb jv jj=>?_,fun c2 q2 hI h2=>?_⟩
  rotate_left
  ·rw[ja] at h2;have:=(bg.1 h2).1;simp at this;omega
  replace jv:q'.isAgg=false:=jv.trans hp;have he:zAH p 0 [q']=q':=by cases p<;>first|rfl|simp[PV.isAgg] at hp
  rw[he];refine⟨by simpa using jj,?_,jv⟩;rw[ja];cases q'<;>first|rfl|simp[PV.isAgg] at jv
end
theorem zEL{α β:Type}{f:α->β}:∀ {xs:List α} {i:Nat} {x y:α},xs[i]? = some x->f y=f x->(xs.set i y).map f=xs.map f
 |[],_,_,_,h,_=>by simp at h|z::xs,0,x,y,h,e=>by simp at h;subst h;simp[e]|z::xs,i+1,x,y,h,e=>by
  have:=zEL (xs:=xs) (i:=i) (by simpa using h) e;simpa using this
theorem zEj{sz:Nat}:∀ {us:List Value},(∀ u∈us,u.cells.size=sz)->∀ {i c:Nat} {x u:Value},us[i]? = some x->x.cells.toList[c]? = some u->(flat us)[i*sz+c]? = some u
 |[],_,_,_,_,_,h,_=>by simp at h|y::us,hs,0,c,x,u,h,hc=>by
  simp at h;subst h;have:c<y.cells.toList.length:=(bg.1 hc).1;simp only[flat,d8,fl,dh];rw[dd this];exact hc
 |y::us,hs,i+1,c,x,u,h,hc=>by
  have ih:=zEj (us:=us) (fun u hu=>hs u (by simp[hu])) (i:=i) (by simpa using h) hc;have hy:y.cells.toList.length=sz:=by simpa using hs y (by simp)
  simp only[flat,d8];rw[dG (by rw[hy,cY];omega),hy];rw[show(i+1)*sz+c-sz=i*sz+c by rw[cY];omega];exact ih
theorem zDq{c:Array Value}{o n k:Nat}{u:Value}(h:(seg c o n)[k]? = some u):c[o+k]? = some u:=by
 simp only[seg,cw,ck] at h;split at h
 ·simpa using h
 ·cases h
theorem zCW{w:World}{b:Nat}{c:Array Value}(h:zKH w b c)(k:Nat):w.cell? ⟨b,k,none⟩=c[k]?:=by
 obtain⟨e,fz,h⟩:=h;simp[World.cell?,h]
theorem zEY.any{w:World}{b:Nat}{c:Array Value}(h:zEY w b c):zKH w b c:=by
 obtain⟨e,h⟩:=h;exact⟨e,_,h⟩
def zGV(A:Al):PV->Al
 |.own .. => zCm|_=>A
theorem zLb{A A':Al}{p:PV}(hA:∀ a v,a.isWay=true->A a v->A' a v):∀ a v,a.isWay=true->zGV A p a v->zGV A' p a v:=by
 intro a v hw h;cases p<;>first|exact hA a v hw h|exact h.elim
section
variable {w w':World} {Φ Φ':Nat->Prop} {A:Al}
theorem Rep.child {p:PV} {v:Value} {L:LN} (h:Rep w Φ A p v L) {i c:Nat} {q:PV} (hq:child p i c=some q) :
  ∃ u La Li Lb,kid w v p i c=some u/\L=La++Li++Lb/\Rep w Φ (zGV A p) q u Li /\
   (∀ w' Φ' (A':Al) q' Li' p',(∀ a v,a.isWay=true->A a v->A' a v)->zDt w w' Φ Φ'->(∀ b∈La++Lb,w'.heap[b]? = w.heap[b]?)->q'.isAgg=q.isAgg->Rep w' Φ' (zGV A' p) q' u Li'->zB7 p i c q'=some p'->Rep w' Φ' A' p' v (La++Li'++Lb)) /\
   (∀ w',(∀ b∈La++Lb,w'.heap[b]? = w.heap[b]?)->∀ q' p',zB7 p i c q'=some p'->∀ i2 c2,kid w' v p' i2 c2=kid w v p i2 c2) /\
   ∀ i2 c2 q2,(i2,c2)≠(i,c)->Eng.child p i2 c2=some q2->∃ u2 L2,kid w v p i2 c2=some u2/\Rep w Φ (zGV A p) q2 u2 L2/\∀ b∈L2,b∈La++Lb:=by
 cases p<;>simp only[Eng.child,zA6,dV,bc] at hq<;>try cases hq
 case agg cs=>
  obtain⟨vs,rfl,h⟩:=h;have hi:i=0:=by
   cases i with
   |zero=>rfl|succ i=>simp at hq
  subst hi;simp[PV.cells] at hq;obtain⟨u,La,Li,Lb,hu,rfl,hr,hk,ho⟩:=h.split (i:=c) (p:=q) (by simpa using hq);refine⟨u,La,Li,Lb,by simpa[kid] using hu,rfl,hr,fun w' Φ' A' q' Li' p' hA hs hb _ jj hp=>?_,?_,?_⟩
  rotate_left
  ·intro w' hb q' p' hp i2 c2;simp only[zB7,zA6,zAN,zAH,bc,bM,cN] at hp;cases hp;rfl
  ·intro i2 c2 q2 hI h2;have uZ:i2=0:=by
    cases i2 with
    |zero=>rfl|succ i=>simp[Eng.child,zA6] at h2
   subst uZ;simp[Eng.child,zA6,PV.cells] at h2;obtain⟨u2,L2,h3,h4,h5⟩:=ho c2 q2 (fun e=>hI (by rw[e])) h2;exact⟨u2,L2,by simpa[kid] using h3,h4,h5⟩
  have hc:c<cs.length:=(bg.1 hq).1;have he:cs.take c++[q']++cs.drop (c+1)=cs.set c q':=by
   rw[cm,if_pos hc];simp
  simp only[zB7,zA6,zAN,zAH,bc,bM,cN,bX,he] at hp;cases hp;exact⟨vs,rfl,hk w' Φ' A' q' Li' hA hs hb jj⟩
 case box q0=>
  obtain⟨a,r,u0,L',rfl,h1,h2,h4,h5,⟨h6,vG⟩,h7⟩:=h;have hi:i=0:=by
   cases i with
   |zero=>rfl|succ i=>simp at hq
  subst hi;simp at hq;obtain⟨u,La,Li,Lb,hu,rfl,hr,hk,ho⟩:=h7.cell hq vG;have kO:∀ c2 u2,u0.cells.toList[c2]? = some u2->kid w v (.box q0) 0 c2=some u2:=by
   intro c2 u2 h;subst h1;have:=zDq (c:=r) (o:=a.off) (n:=q0.cells.length) (k:=c2) (u:=u2) (by rw[h5];exact h);simp only[kid,zAw];rw[zCW h4.any];exact this
  refine⟨u,a.block::La,Li,Lb,?_,by simp,hr,fun w' Φ' A' q' Li' p' hA hs hb jv jj hp=>?_,?_,?_⟩
  rotate_left 2
  ·intro w' hb q' p' hp i2 c2;simp only[zB7,zA6,zAN,bc,bM,cN] at hp;cases hp;subst h1;simp only[kid,World.cell?,zAw];rw[hb a.block (by simp)]
  ·intro i2 c2 q2 hI h2;have uZ:i2=0:=by
    cases i2 with
    |zero=>rfl|succ i=>simp[Eng.child,zA6] at h2
   subst uZ;simp[Eng.child,zA6] at h2;obtain⟨u2,L2,h3,gc,h5'⟩:=ho c2 q2 (fun e=>hI (by rw[e])) h2;exact⟨u2,L2,kO c2 u2 h3,gc,fun b hb=>by have:=h5' b hb;simp at this ⊢;rcases this with h|h<;>simp[h]⟩
  ·subst h1;have:c<q0.cells.length:=(bg.1 hq).1;have:=zDq (c:=r) (o:=a.off) (n:=q0.cells.length) (k:=c) (u:=u) (by rw[h5];exact hu);simp only[kid,zAw];rw[zCW h4.any];exact this
  ·obtain⟨hx,hl,hg⟩:=hk w' Φ' A' q' Li' hA hs (fun b h=>hb b (by simp at h ⊢;rcases h with h|h<;>simp[h])) jv jj;simp only[zB7,zA6,zAN,bc,bM,cN] at hp;cases hp;obtain⟨e,h4⟩:=h4;refine⟨a,r,u0,La++Li'++Lb,by simp,h1,h2,⟨e,?_⟩,by rw[hl];exact h5,⟨by rw[hl];exact h6,by rw[hg];exact vG⟩,hx⟩;rw[hb a.block (by simp)];exact h4
 case own sz xs =>
  obtain⟨h1,h2,h3⟩|⟨a,n,r,us,L',rfl,h1,h2,h3,h4,h5,h6,⟨h7,u3⟩,h8,h9⟩:=h
  ·subst h1;simp at hq
  ·cases hx:xs[i]? with
   |none=>rw[hx] at hq;simp at hq
   | some x =>
    rw[hx] at hq;simp at hq;obtain⟨ux,La,Li,Lb,hu,rfl,hr,hk,ho⟩:=h9.split hx;have hg:zCr ux=x.isAgg:=by
     have h1:(us.map zCr)[i]? = some (zCr ux):=by simp[hu]
     have h2:(xs.map PV.isAgg)[i]? = some x.isAgg:=by simp[hx]
     rw[u3] at h1;rw[h1] at h2;simpa using h2
    obtain⟨u,La',Li',Lb',hu',rfl,jj,qA,ho'⟩:=hr.cell hq hg;have kO:∀ i2 c2 x2 u2,us[i2]? = some x2->x2.cells.toList[c2]? = some u2->kid w v (.own sz xs) i2 c2=some u2:=by
     intro i2 c2 x2 u2 jX wE;subst h1;have hf:=zEj h7 jX wE;rw[<- h8] at hf;have:=zDq hf;simp only[kid,zAw];rw[zCW h4.any];exact this
    refine⟨u,a.block::(La++La'),Li',Lb'++Lb,?_,by simp,jj,fun w' Φ' A' q' Lj p' hA hs hb jv hrq hp=>?_,?_,?_⟩
    rotate_left 2
    ·intro w' hb q' p' hp i2 c2;simp only[zB7,zA6,zAN,bc,hx] at hp;cases hp;subst h1;simp only[kid,World.cell?,zAw];rw[hb a.block (by simp)]
    ·intro i2 c2 q2 hI h2;simp only[Eng.child,zA6,bc] at h2
     cases jX:xs[i2]? with
     |none=>rw[jX] at h2;cases h2
     | some x2 =>
      rw[jX] at h2;simp only[bc] at h2;by_cases uF:i2=i
      ·subst uF;rw[hx] at jX;cases jX;obtain⟨u2,L2,h3,gc,h5'⟩:=ho' c2 q2 (fun e=>hI (by rw[e])) h2;exact⟨u2,L2,kO _ _ _ _ hu h3,gc,fun b hb=>by have:=h5' b hb;simp at this ⊢;rcases this with h|h<;>simp[h]⟩
      ·obtain⟨ux2,L2,h3,gc,h5'⟩:=ho i2 x2 uF jX;have wF:zCr ux2=x2.isAgg:=by
        have h1:(us.map zCr)[i2]? = some (zCr ux2):=by simp[h3]
        have h2:(xs.map PV.isAgg)[i2]? = some x2.isAgg:=by simp[jX]
        rw[u3] at h1;rw[h1] at h2;simpa using h2
       obtain⟨u2,Ma,Mi,Mb,vG,rfl,h7'',_⟩:=gc.cell h2 wF;exact⟨u2,Mi,kO _ _ _ _ h3 vG,h7'',fun b hb=>by have:=h5' b (by simp[hb]);simp at this ⊢;rcases this with h|h<;>simp[h]⟩
    ·subst h1;have hf:=zEj h7 hu hu';rw[<- h8] at hf;have:=zDq hf;simp only[kid,zAw];rw[zCW h4.any];exact this
    ·obtain⟨kP,hl,hg'⟩:=qA w' Φ' zCm q' Lj (fun _ _ _ h=>h) hs (fun b h=>hb b (by simp at h ⊢;rcases h with h|h<;>simp[h])) jv hrq;have hk:=hk w' Φ' zCm _ _ (fun _ _ _ h=>h) hs (fun b h=>hb b (by simp at h ⊢;rcases h with h|h<;>simp[h])) kP;simp only[zB7,zA6,zAN,bc,hx] at hp;cases hp;obtain⟨e,h4⟩:=h4;refine .inr ⟨a,n,r,us,La++(La'++Lj++Lb')++Lb,by simp,by simpa using h1,h2,by simpa using h3,⟨e,?_⟩,h5,?_,⟨h7,?_⟩,by simpa using h8,hk⟩
     ·rw[hb a.block (by simp)];exact h4
     ·intro y hy;rcases dK hy with hy|hy
      ·exact h6 y hy
      ·rw[hy,hl];exact h6 x (bK hx)
     ·rw[u3,zEL hx hg']
end
def zJc:Al->PV->zA2->Al
 |A,_,[]=>A|A,p,(i,c)::rest=>match child p i c with
  |some q=>zJc (zGV A p) q rest|none=>zCm
theorem zEg{p:PV}{i c:Nat}{q' p':PV}(h:zB7 p i c q'=some p'):p'.isAgg=p.isAgg:=by
 simp only[zB7] at h;cases p<;>simp only[zA6,dV,bc] at h<;>try cases h
 case own sz xs=>
  cases hx:xs[i]?<;>rw[hx] at h<;>simp[zAN] at h;subst h;rfl
 case box q=>
  cases i with
  |zero=>simp[zAN] at h;subst h;rfl|succ i=>simp at h
 case agg cs=>
  cases i with
  |zero=>simp[zAN,zAH] at h;subst h;rfl|succ i=>simp at h
def zCo:PV->PV->Prop
 |.own sz _,.own sz' _=>sz=sz'|.box _,.box _=>True|.omap _,.omap _=>True|_,_=>False
theorem zCo.refl{p:PV}(h:p.heavy0=true):zCo p p:=by
 cases p<;>simp_all[PV.heavy0,zCo]
theorem zNs{x q q':PV}{c:Nat}(hq:x.cells[c]? = some q)(hg:q'.isAgg=q.isAgg):(zAH x c [q']).cells=x.cells.set c q':=by
 cases hx:x.isAgg with
 |true=>
  cases x<;>simp[PV.isAgg] at hx;rename_i cs;have hc:c<cs.length:=(bg.1 hq).1;show cs.take c++[q']++cs.drop (c+1)=cs.set c q'
  rw[cm,if_pos hc];simp
 |false=>
  have ja:x.cells=[x]:=by cases x<;>first|rfl|simp[PV.isAgg] at hx
  rw[ja] at hq ⊢;have hc:c=0:=by have:=(bg.1 hq).1;simp at this;exact this
  subst hc;simp at hq;subst hq;have he:zAH x 0 [q']=q':=by cases x<;>first|rfl|simp[PV.isAgg] at hx
  rw[he];rw[hx] at hg;cases q'<;>first|rfl|simp[PV.isAgg] at hg
theorem zUj{p q q' p':PV}{i c:Nat}(hc:Eng.child p i c=some q)(hg:q'.isAgg=q.isAgg)(hp:zB7 p i c q'=some p') :
  Eng.child p' i c=some q'/\∀ i2 c2,(i2,c2)≠(i,c)->Eng.child p' i2 c2=Eng.child p i2 c2:=by
 simp only[Eng.child] at hc;simp only[zB7] at hp
 cases hh:zA6 p with
 |none=>rw[hh] at hc;cases hc
 | some xs =>
  rw[hh] at hc hp;simp only[bc] at hc hp
  cases hx:xs[i]? with
  |none=>rw[hx] at hc;cases hc
  | some x =>
   rw[hx] at hc hp;simp only[bc] at hc hp;have yn:=zNs hc hg;have hi:i<xs.length:=(bg.1 hx).1;have yO:c<x.cells.length:=(bg.1 hc).1;have gd:zA6 p'=some (xs.set i (zAH x c [q'])):=by
    cases p<;>simp only[zA6] at hh<;>try cases hh
    case agg cs=>
     have jn:i=0:=by simpa using hi
     subst jn;simp only[bM,ba] at hx;subst hx;simp only[zAH,cN,zAN,ba] at hp ⊢;subst hp;rfl
    case own sz=>
     simp only[zAN,ba] at hp;subst hp;rfl
    case box q0=>
     have jn:i=0:=by simpa using hi
     subst jn;simp only[cN,zAN,ba] at hp ⊢;subst hp;rfl
   refine⟨?_,fun i2 c2 hI=>?_⟩
   ·simp only[Eng.child,gd,bc,cn hi,yn,cn yO]
   ·simp only[Eng.child,gd,hh,bc];by_cases uF:i2=i
    ·subst uF;rw[cn hi,hx];simp only[bc,yn];rw[dm (by intro e;exact hI (by rw[e]))]
    ·rw[dm (by omega)]
section
variable {w w':World} {Φ Φ':Nat->Prop}
theorem zFH{A:Al}:∀ {pre:zA2} {p:PV} {v:Value} {L:LN},Rep w Φ A p v L->(∀ b∈L,w'.heap[b]? = w.heap[b]?)->zAZ w' v p pre=zAZ w v p pre
 |[],_,_,_,_,_=>rfl
 | (i, c)::rest,p,v,L,h,hb=>by
  rw[zA8,zA8]
  cases hc:Eng.child p i c with
  |none=>rfl
  | some q =>
   simp only[bc];obtain⟨u,La,Li,Lb,hk,rfl,hr,_⟩:=h.child hc;have qA:kid w' v p i c=kid w v p i c:=by
    cases p<;>first|(simp[Eng.child,zA6] at hc;done)|skip
    ·obtain⟨vs,rfl,_⟩:=h;rfl
    ·obtain⟨h1,h2,h3⟩|⟨a,n,r,us,L',h0,h1,h2,_⟩:=h
     ·subst h1;simp[Eng.child,zA6] at hc
     ·subst h1;simp only[kid];exact World.cell?_of_block (w:=w) (hb _ (by rw[h0];simp[zAw]))
    ·obtain⟨a,r,u0,L',h0,h1,_⟩:=h;subst h1;simp only[kid];exact World.cell?_of_block (w:=w) (hb _ (by rw[h0];simp[zAw]))
   rw[qA,hk];simp only[bc];exact zFH hr fun b h=>hb b (by simp[h])
theorem zLU{p p' q':PV}{i c:Nat}(hp:zB7 p i c q'=some p')(hh:p'.heavy0=true):zCo p p':=by
 simp only[zB7] at hp;cases p<;>simp only[zA6,dV,bc] at hp<;>try cases hp
 case own sz xs=>
  cases hx:xs[i]?<;>rw[hx] at hp<;>simp[zAN] at hp;subst hp;rfl
 case box q=>
  cases i with
  |zero=>simp[zAN] at hp;subst hp;trivial|succ i=>simp at hp
 case agg cs=>
  cases i with
  |zero=>simp[zAN,zAH] at hp;subst hp;cases hh|succ i=>simp at hp
theorem Rep.zip : ∀ (pre:zA2) {A:Al} {p:PV} {v:Value} {L:LN} {q:PV},Rep w Φ A p v L->zAF p pre=some q ->
  ∃ nv La Li Lb,zAZ w v p pre=some (nv,q)/\L=La++Li++Lb/\Rep w Φ (zJc A p pre) q nv Li /\
   (∀ w' Φ' (A':Al) q' Li' p',(∀ a v,a.isWay=true->A a v->A' a v)->zDt w w' Φ Φ'->(∀ b∈La++Lb,w'.heap[b]? = w.heap[b]?)->(pre≠[]->q'.isAgg=q.isAgg)->Rep w' Φ' (zJc A' p pre) q' nv Li' ->
    zAA (fun _=>some q') p pre=some p'->Rep w' Φ' A' p' v (La++Li'++Lb)) /\
   ∀ w' q' p',(∀ b∈La++Lb,w'.heap[b]? = w.heap[b]?)->(pre≠[]->q'.isAgg=q.isAgg)->zAA (fun _=>some q') p pre=some p' ->
    ∀ pth nv2 np2,zAZ w' v p' pth=some (nv2,np2)->np2.heavy0=true ->
     (∃ rest,pth=pre++rest/\zAZ w' nv q' rest=some (nv2,np2))\/∃ np0,zAZ w v p pth=some (nv2,np0)/\zCo np0 np2
 |[],A,p,v,L,q,h,hq=>by
  simp only[zAF] at hq;cases hq;refine⟨v,[],L,[],rfl,by simp,h,fun w' Φ' A' q' Li' p' hA hs hb _ hr hp=>?_,fun w' q' p' hb _ hp pth nv2 np2 hf hh=>?_⟩
  ·simp only[zAA] at hp;cases hp;simpa[zJc] using hr
  ·simp only[zAA] at hp;cases hp;exact .inl ⟨pth,rfl,hf⟩
 | (i, c) :: rest,A,p,v,L,q,h,hq=>by
  rw[zCe] at hq
  cases hc:Eng.child p i c with
  |none=>rw[hc] at hq;cases hq
  | some q1 =>
   rw [hc] at hq;simp only [bc] at hq;obtain ⟨u,La,Li,Lb,hu,rfl,hr,hk,kO,v8⟩:=h.child hc;obtain ⟨nv,Ma,Mi,Mb,hf,rfl,qR,uh,ui⟩:=Rep.zip rest hr hq;have yz:∀ q' q1',zAA (fun _=>some q') q1 rest=some q1'->q'.isAgg=q.isAgg->q1'.isAgg=q1.isAgg:=by
    intro q' q1' hm jv
    cases rest with
    |nil=>
     simp only[zAA] at hm;cases hm;simp only[zAF] at hq;cases hq;exact jv
    | cons x rest =>
     obtain⟨i2,c2⟩:=x;rw[zBx] at hm
     cases jL:Eng.child q1 i2 c2 with
     |none=>rw[jL] at hm;cases hm|some q2=>
      rw[jL] at hm;simp only[bc] at hm
      cases vb:zAA (fun _=>some q') q2 rest with
      |none=>rw[vb] at hm;cases hm|some q2'=>rw[vb] at hm;exact zEg (by simpa using hm)
   refine⟨nv,La++Ma,Mi,Mb++Lb,?_,by simp,?_,fun w' Φ' A' q' Li' p' hA hs hb jv jj hp=>?_,fun w' q' p' hb jv hp pth nv2 np2 kQ hh=>?_⟩
   rotate_left 3
   ·rw [zBx,hc] at hp;simp only [bc] at hp
    cases hm:zAA (fun _=>some q') q1 rest with
    |none=>rw[hm] at hp;cases hp
    | some q1' =>
     rw[hm] at hp;simp only[bc] at hp;have yd:∀ b∈La++Lb,w'.heap[b]? = w.heap[b]?:=fun b h=>hb b (by simp at h ⊢;rcases h with h|h<;>simp[h]);have jR:∀ b∈Ma++Mb,w'.heap[b]? = w.heap[b]?:=fun b h=>hb b (by simp at h ⊢;rcases h with h|h<;>simp[h]);have hg:q1'.isAgg=q1.isAgg:=yz q' q1' hm (jv (by simp));obtain⟨y8,hoc⟩:=zUj hc hg hp
     cases pth with
     |nil=>
      simp only[zAZ,ba,bB] at kQ;obtain⟨rfl,rfl⟩:=kQ;exact .inr ⟨p,rfl,zLU hp hh⟩
     | cons x pth =>
      obtain⟨i2,c2⟩:=x;rw[zA8] at kQ;by_cases y4:(i2,c2)=(i,c)
      ·cases y4;rw[y8] at kQ;simp only[bc] at kQ;rw[kO w' yd q1' p' hp,hu] at kQ;simp only[bc] at kQ;rcases ui w' q' q1' jR (fun _=>jv (by simp)) hm pth nv2 np2 kQ hh with⟨rst,rfl,h3⟩|⟨np0,h3,h4⟩
       ·exact .inl ⟨rst,rfl,h3⟩
       ·refine .inr ⟨np0,?_,h4⟩;rw[zA8,hc];simp only[bc];rw[hu];exact h3
      ·rw[hoc i2 c2 y4] at kQ
       cases jL:Eng.child p i2 c2 with
       |none=>rw[jL] at kQ;cases kQ|some q2=>
        rw[jL] at kQ;simp only[bc] at kQ;obtain⟨u2,L2,h3,h4,h5⟩:=v8 i2 c2 q2 y4 jL;rw[kO w' yd q1' p' hp,h3] at kQ;simp only[bc] at kQ;rw[zFH h4 fun b yN=>yd b (h5 b yN)] at kQ;refine .inr ⟨np2,?_,zCo.refl hh⟩;rw[zA8,jL];simp only[bc];rw[h3];exact kQ
   ·rw[zA8,hc];simp only[bc];rw[hu];simpa using hf
   ·simpa only [zJc,hc] using qR
   ·rw[zBx,hc] at hp;simp only[bc] at hp
    cases hm:zAA (fun _=>some q') q1 rest with
    |none=>rw[hm] at hp;cases hp|some q1'=>
     rw[hm] at hp;simp only[bc] at hp;simp only[zJc,hc] at jj;have h2:=uh w' Φ' (zGV A' p) q' Li' q1' (zLb hA) hs (fun b h=>hb b (by simp at h ⊢;rcases h with h|h<;>simp[h])) (fun _=>jv (by simp)) jj hm;have hg:q1'.isAgg=q1.isAgg:=yz q' q1' hm (jv (by simp));have:=hk w' Φ' A' q1' _ p' hA hs (fun b h=>hb b (by simp at h ⊢;rcases h with h|h<;>simp[h])) hg h2 hp;simpa using this
end
section
variable {w:World} {Φ:Nat->Prop} {rv:Nat->Value} {E:Nat->PV}
theorem zMT{r:Nat}{pre:zA2}{p:PV}{v:Value}{L:LN}(hr:r<zAa)(hf:zAZ w (rv r) (E r).unlock pre=some (v,p))
  (h:Rep w Φ (zA9 w rv E) p v L):Rep w Φ (zA9 w rv E) (zHi r pre p) v []:=by
 cases p with
 | own sz xs =>
  refine⟨rfl,hr,?_,?_⟩
  ·obtain⟨h1,h2,h3⟩|⟨a,n,c,us,L',h0,h1,h2,h3,h4⟩:=h
   ·subst h1;exact⟨none,0,h3,by simp,by simp,by simp⟩
   ·exact⟨some a,n,h1,h3,by simp,fun b hb=>by cases hb;exact h2⟩
  ·intro nv np hn _;rw[hf] at hn;cases hn;refine⟨sz,xs,rfl,rfl,?_⟩;obtain⟨h1,h2,h3⟩|⟨a,n,c,us,L',h0,h1,h2,h3,h4⟩:=h
   ·subst h1;subst h3;exact⟨rfl,rfl⟩
   ·subst h1;have:zAw a (0*sz)=a:=by cases a;simp_all[zAw]
    exact⟨by rw[this];rfl,by simpa using h3⟩
 |box q=>
  obtain⟨a,c,u,L',h0,h1,h2,h4⟩:=h;refine⟨rfl,hr,a,h1,h2,?_⟩;intro nv np hn a' ha;rw[hf] at hn;cases hn;subst h1;have:zAw a 0=a:=by cases a;simp_all[zAw]
  simp only[zBc,this] at ha;cases ha;rfl
 |omap es=>
  obtain⟨b,ents,h0,h1,h4⟩:=h;refine⟨rfl,hr,⟨b,h1⟩,?_⟩;intro nv np hn es' he;rw[hf] at hn;cases hn;rfl
 |agg cs=>rfl|tup cs=>rfl|lock q=>rfl|_=>simp_all[zHi,Rep]
end
end Go.Eng
namespace Go.Eng
open Go
theorem zDY{p q:PV}(h:zCo p q):p.heavy0=true:=by cases p<;>cases q<;>first|rfl|cases h
def zBb:PV->Nat×zA2
 |.addr r pre .. => (r,pre)|.bor r pre .. => (r,pre)|.bsl r pre .. => (r,pre)|.bmap r pre=>(r,pre)|_=>(0,[])
theorem zEH{nv:Value}{p q:PV}{i c:Nat}(h:zCo p q):zBc nv p i c=zBc nv q i c:=by
 cases p<;>cases q<;>simp only[zCo] at h
 ·subst h;cases nv with
  |slice a _ _=>cases a<;>rfl
  |pointer a=>cases a<;>rfl
  |_=>rfl
 ·cases nv with
  |pointer a=>cases a<;>cases i<;>rfl
  |slice a _ _=>cases a<;>rfl
  |_=>rfl
 ·cases nv with
  |pointer a=>cases a<;>cases i<;>rfl
  |slice a _ _=>cases a<;>rfl
  |_=>rfl
section
variable {w w':World} {Φ Φ':Nat->Prop} {rv rv':Nat->Value} {E E':Nat->PV}
theorem zA9.mono{a:PV}{v:Value}(h:zA9 w rv E a v)
  (hf:∀ nv np,zAZ w' (rv' (zBb a).1) (E' (zBb a).1).unlock (zBb a).2=some (nv,np)->np.heavy0=true ->
   ∃ np0,zAZ w (rv (zBb a).1) (E (zBb a).1).unlock (zBb a).2=some (nv,np0)/\zCo np0 np):zA9 w' rv' E' a v:=by
 have key:∀ nv np i c a',zBc nv np i c=some a'->np.heavy0=true:=by
  intro nv np i c a' h;cases np<;>first|rfl|(simp[zBc] at h)
 have key2:∀ nv np np0 i c a',zBc nv np i c=some a'->zCo np0 np->zBc nv np0 i c=some a':=by
  intro nv np np0 i c a' h hl;rw[zEH hl];exact h
 cases a<;>simp only[zA9] at h ⊢
 case addr r pre i c sh=>
  obtain⟨hr,a,h1,h2,h3⟩:=h;refine⟨hr,a,h1,h2,fun nv np hn a' ha=>?_⟩;obtain⟨np0,kj,hl⟩:=hf nv np hn (key _ _ _ _ _ ha);exact h3 nv np0 kj a' (key2 _ _ _ _ _ _ ha hl)
 case bor r pre z lo n=>
  obtain⟨hr,h1,h3⟩:=h;refine⟨hr,h1,fun nv np hn hh=>?_⟩;obtain⟨np0,kj,hl⟩:=hf nv _ hn hh;obtain⟨sz,xs,he,hz,jE⟩:=h3 nv np0 kj (zDY hl);subst he;cases np<;>simp only[zCo] at hl;subst hl;exact⟨_,_,rfl,hz,jE⟩
 case bsl r pre i c sz ag n=>
  obtain⟨hr,a,cap,h1,h2,ju,h3⟩:=h;refine⟨hr,a,cap,h1,h2,ju,fun nv np hn a' ha=>?_⟩;obtain⟨np0,kj,hl⟩:=hf nv np hn (key _ _ _ _ _ ha);exact h3 nv np0 kj a' (key2 _ _ _ _ _ _ ha hl)
 case bmap r pre=>
  obtain⟨hr,h1,h3⟩:=h;refine⟨hr,h1,fun nv np hn es he=>?_⟩;subst he;obtain⟨np0,kj,hl⟩:=hf nv _ hn rfl;cases np0<;>simp only[zCo] at hl;exact h3 nv _ kj _ rfl
theorem zED:∀ {ps:List PV} {i:Nat} {p:PV},zDb ps=false->ps[i]? = some p->p.heavy=false
 |[],_,_,_,h=>by simp at h|q::ps,0,p,hh,h=>by
  simp at h;subst h;simp only[zDb,cx] at hh;exact hh.1
 |q::ps,i+1,p,hh,h=>by
  simp only[zDb,cx] at hh;exact zED hh.2 (by simpa using h)
theorem zEB:∀ {pre:zA2} {p:PV} {v nv:Value} {np:PV},p.heavy=false->zAZ w v p pre=some (nv,np)->np.heavy=false
 |[],p,v,nv,np,hp,h=>by simp only[zAZ] at h;cases h;exact hp
 | (i, c)::rest,p,v,nv,np,hp,h=>by
  rw[zA8] at h
  cases hc:Eng.child p i c with
  |none=>rw[hc] at h;cases h
  | some q =>
   rw[hc] at h;simp only[bc] at h
   cases hk:kid w v p i c with
   |none=>rw[hk] at h;cases h|some u=>
    rw[hk] at h;simp only[bc] at h;refine zEB ?_ h;cases p<;>first|(simp[Eng.child,zA6] at hc;done)|(simp[PV.heavy] at hp;done)|skip
    rename_i cs
    cases i with
    |zero=>simp[Eng.child,zA6,PV.cells] at hc;exact zED hp hc|succ i=>simp[Eng.child,zA6] at hc
theorem zFU{p:PV}(h:p.heavy0=true):p.heavy=true:=by
 cases p<;>simp_all[PV.heavy0,PV.heavy]
structure Conf (w0:World) (U Φ0:Nat->Prop) (w:World) (Φ:Nat->Prop) (rv:Nat->Value) (E:Nat->PV) (L:Nat->LN):Prop where
 rep:∀ s,Rep w Φ (zA9 w rv E) (E s) (rv s) (L s)
 nodup:∀ s,(L s).Nodup
 disj:∀ s s',s≠s'->∀ b∈L s,b∉L s'
 own:∀ s,∀ b∈L s,b<w.heap.size/\¬ Φ b/\(U b\/w0.heap.size<=b)
 frz:∀ b,Φ b->b<w.heap.size/\(Φ0 b\/U b\/w0.heap.size<=b)
 frz0:∀ b,Φ0 b->Φ b
 size:w0.heap.size<=w.heap.size
 kept:∀ b,b<w0.heap.size->¬ U b->w.heap[b]? = w0.heap[b]?
 os:w.os=w0.os
 tape:w.tape=w0.tape
 output:w.output=w0.output
def upd{α:Type}(f:Nat->α)(s:Nat)(x:α):Nat->α:=fun t=>if t=s then x else f t
theorem zAj{α:Type}{f:Nat->α}{s:Nat}{x:α}:upd f s x s=x:=if_pos rfl
theorem zAg{α:Type}{f:Nat->α}{s t:Nat}{x:α}(h:t≠s):upd f s x t=f t:=if_neg h
theorem zB9{A:Al}{p:PV}{v:Value}{L:LN}(h:Rep w Φ A p v L):Rep w Φ A p.unlock v L:=by cases p<;>exact h
theorem zDs:∀ (a b:zA2) (v:Value) (p:PV),zAZ w v p (a++b)=(zAZ w v p a).bind fun x=>zAZ w x.1 x.2 b
 |[],b,v,p=>rfl
 | (i,c)::a,b,v,p=>by
  rw[iy,zA8,zA8]
  cases Eng.child p i c with
  |none=>rfl|some q=>
   simp only[bc]
   cases kid w v p i c with
   |none=>rfl|some u=>simp only[bc];exact zDs a b u q
theorem zLx{v:Value}{p:PV}{i c:Nat}:zAZ w v p [(i,c)]=(Eng.child p i c).bind fun q=>(kid w v p i c).bind fun u=>some (u,q):=by
 rw[zA8];rfl
theorem zA5.part{A:Al}:∀ {ps:List PV} {us:List Value} {L:LN},zA5 w Φ A ps us L->∀ c n,∃ L',zA5 w Φ A ((ps.drop c).take n) ((us.drop c).take n) L'
 |[],us,L,h,c,n=>by rw[h.1];exact⟨[],by simp[zA5]⟩|p::ps,us,L,h,0,0=>⟨[],by simp[zA5]⟩|p::ps,us,L,h,0,n+1=>by
  obtain⟨v,vs,L1,L2,rfl,rfl,h1,h2⟩:=h;obtain⟨L',h'⟩:=h2.part 0 n;exact⟨L1++L',v,_,L1,L',rfl,rfl,h1,by simpa using h'⟩
 |p::ps,us,L,h,c+1,n=>by
  obtain⟨v,vs,L1,L2,rfl,rfl,h1,h2⟩:=h;simpa using h2.part c n
theorem zHv{p:PV}{xs:List PV}(h:zBh p=some xs):zA6 p=some xs:=by cases p<;>first|exact h|cases h
theorem zB4{a:Addr}(h:a.spot=none)(j:Nat):a.add j=zAw a j:=by
 obtain⟨b,o,sp⟩:=a;simp only at h;subst h;simp only[Addr.add,zAw];split
 ·rename_i hj;subst hj;rfl
 ·rfl
theorem zGz(a:Addr)(k j:Nat):(zAw a k).add j=zAw a (k+j):=by
 rw[zB4 rfl];simp[zAw,cg]
theorem zV7{nv:Value}{np:PV}{xs:List PV}{i c j:Nat}{ad:Addr}(h:zBh np=some xs)(ha:zBc nv np i c=some ad):kid w nv np i (c+j)=w.cell? (ad.add j):=by
 cases np<;>simp only[zBh] at h<;>try cases h
 ·cases nv with
  |slice a _ _=>
   cases a with
   |none=>cases ha|some a=>simp only[zBc] at ha;cases ha;rw[zGz];simp[kid,cg]
  |pointer a=>cases a<;>cases ha
  |_=>cases ha
 ·cases nv with
  |pointer a=>
   cases a with
   |none=>cases i<;>cases ha
   |some a=>cases i<;>simp only[zBc] at ha<;>cases ha;rw[zGz];simp[kid,cg]
  |slice a _ _=>cases a<;>cases ha
  |_=>cases ha
theorem zGt{A:Al}{p:PV}{a:PV}{v:Value}(h:zGV A p a v):A a v:=by
 cases p<;>first|exact h|exact h.elim
theorem zEO:∀ {pre:zA2} {A:Al} {p:PV} {a:PV} {v:Value},zJc A p pre a v->A a v
 |[],_,_,_,_,h=>h|(i,c)::rest,A,p,a,v,h=>by
  simp only[zJc] at h
  cases hc:Eng.child p i c with
  |none=>rw[hc] at h;exact h.elim|some q=>rw[hc] at h;exact zGt (zEO h)
theorem Rep.cellsAll{A:Al}{p:PV}{v:Value}{L:LN}(h:Rep w Φ A p v L)(hn:zCr v=p.isAgg):zA5 w Φ A p.cells v.cells.toList L:=by
 cases hp:p.isAgg with
 |true=>
  cases p<;>simp[PV.isAgg] at hp;obtain⟨vs,rfl,h⟩:=h;exact h
 |false=>
  have ja:p.cells=[p]:=by cases p<;>first|rfl|simp[PV.isAgg] at hp
  have hv:v.cells=#[v]:=by rw[hp] at hn;cases v<;>first|rfl|simp[zCr] at hn
  rw[ja,hv];exact⟨v,[],L,[],rfl,by simp,h,rfl,rfl⟩
theorem zTP{A:Al}{np:PV}{nv:Value}{Li:LN}(h:Rep w Φ A np nv Li){xs:List PV}(hx:zBh np=some xs){i:Nat}{x:PV}(hi:xs[i]? = some x)(c:Nat) :
  ∃ ux ad Lx,(∀ b∈Lx,b∈Li)/\zBc nv np i c=some ad/\ad.spot=none/\(∀ k u,ux.cells.toList[k]? = some u->∀ j,k=c+j->w.cell? (ad.add j)=some u)/\zCr ux=x.isAgg/\ux.cells.size=x.cells.length/\zA5 w Φ (zGV A np) x.cells ux.cells.toList Lx:=by
 cases np<;>simp only[zBh] at hx<;>try cases hx
 case own sz=>
  obtain⟨h1,h2,h3⟩|⟨a,n,r,us,L',rfl,h1,h2,h3,h4,h5,h6,⟨h7,u3⟩,h8,h9⟩:=h
  ·subst h1;simp at hi
  ·obtain⟨ux,La,Lx,Lb,hu,rfl,hr,_,_⟩:=h9.split hi;have hg:zCr ux=x.isAgg:=by
    have h1:(us.map zCr)[i]? = some (zCr ux):=by simp[hu]
    have h2:(xs.map PV.isAgg)[i]? = some x.isAgg:=by simp[hi]
    rw[u3] at h1;rw[h1] at h2;simpa using h2
   subst h1;refine⟨ux,zAw a (i*sz+c),Lx,fun b hb=>by simp[hb],rfl,rfl,?_,hg,?_,hr.cellsAll hg⟩
   ·intro k u hk j hkj;have hf:=zEj h7 hu hk;rw[<- h8] at hf;have:=zDq hf;rw[zGz,show i*sz+c+j=i*sz+k by omega];simp only[zAw];rw[zCW h4.any];exact this
   ·rw[h7 ux (bK hu),h6 x (bK hi)]
 case box q0=>
  obtain⟨a,r,u0,L',rfl,h1,h2,h4,h5,⟨h6,vG⟩,h7⟩:=h;have jn:i=0:=by
   cases i with
   |zero=>rfl|succ i=>simp at hi
  subst jn;simp at hi;subst hi;subst h1;refine⟨u0,zAw a c,L',fun b hb=>by simp[hb],rfl,rfl,?_,vG,h6,h7.cellsAll vG⟩;intro k u hk j hkj;have:=zDq (c:=r) (o:=a.off) (n:=q0.cells.length) (k:=k) (u:=u) (by rw[h5];exact hk);rw[zGz,<- hkj];simp only[zAw];rw[zCW h4.any];exact this
theorem zFD{r i:Nat}{pre:zA2}(hr:r<zAa):∀ {ps:List PV} {us:List Value} {L:LN} {c:Nat},zA5 w Φ (zA9 w rv E) ps us L ->
  (∀ j p u,ps[j]? = some p->us[j]? = some u->zAZ w (rv r) (E r).unlock (pre++[(i,c+j)])=some (u,p))->zA5 w Φ (zA9 w rv E) (zBJ r pre i c ps) us []
 |[],us,L,c,h,_=>⟨h.1,rfl⟩|p::ps,us,L,c,h,hf=>by
  obtain⟨v,vs,L1,L2,rfl,rfl,h1,h2⟩:=h;refine⟨v,vs,[],[],rfl,rfl,zMT hr (hf 0 p v rfl rfl) h1,zFD hr h2 fun j q u hq hu=>?_⟩;have:=hf (j+1) q u (by simpa using hq) (by simpa using hu);rwa[show c+1+j=c+(j+1) by omega]
section
variable {w0:World} {U Φ0:Nat->Prop} {L:Nat->LN}
theorem Conf.view(h:Conf w0 U Φ0 w Φ rv E L){s:Nat}(hs:s<zAa):Rep w Φ (zA9 w rv E) (view s (E s)) (rv s) []:=by
 have hr:=zB9 (h.rep s);have hv:Eng.view s (E s)=zVn s (E s).unlock:=by cases E s<;>rfl
 rw[hv];have hf:zAZ w (rv s) (E s).unlock []=some (rv s,(E s).unlock):=rfl;have key:∀ p,(E s).unlock=p->Rep w Φ (zA9 w rv E) (zVn s p) (rv s) []:=by
  intro p hp;rw[hp] at hr hf
  cases p with
  |agg cs=>
   obtain⟨vs,hv,hr⟩:=hr;refine⟨vs,hv,zFD hs hr fun j p u hj hu=>?_⟩;rw[zDs,hp,hf,hv];show(zAZ w (.agg vs) (.agg cs) [(0,0+j)])=_
   rw[zLx];have hu:vs[j]? = some u:=by simpa using hu
   simp[Eng.child,zA6,PV.cells,kid,hj,hu]
  |tup cs=>rfl|_=>exact zMT (pre:=[]) hs (by rw[hp];exact hf) hr
 exact key _ rfl
theorem Conf.cells (h:Conf w0 U Φ0 w Φ rv E L) {r:Nat} {pre:zA2} {i c n:Nat} {a:Bool} {qs:List PV} (hr:r<zAa) (hc:zAy r (E r) pre i c n=some (a,qs)) :
  ∃ nv np ad us,zAZ w (rv r) (E r).unlock pre=some (nv,np)/\zBc nv np i c=some ad/\ad.spot=none/\us.length=n/\(∀ j u,us[j]? = some u->w.cell? (ad.add j)=some u)/\zA5 w Φ (zA9 w rv E) qs us []:=by
 simp only[zAy] at hc
 cases hn:zAF (E r).unlock pre with
 |none=>rw[hn] at hc;cases hc
 | some np =>
  rw[hn] at hc;simp only at hc;obtain⟨nv,La,Li,Lb,hf,hL,yA,_,_⟩:=Rep.zip pre (zB9 (h.rep r)) hn
  cases hx:zBh np with
  |none=>rw[hx] at hc;cases hc
  | some xs =>
   rw[hx] at hc;simp only at hc
   cases hxi:xs[i]? with
   |none=>rw[hxi] at hc;cases hc
   | some x =>
    rw[hxi] at hc;simp only at hc;by_cases yR:c+n<=x.cells.length
    ·rw [cU yR] at hc;simp only [cond_true,ba,bB] at hc;obtain ⟨rfl,rfl⟩:=hc;obtain ⟨ux,ad,Lx,hA,jS,ye,jx,qS,yJ,vH⟩:=zTP yA hx hxi c;have hZ:ux.cells.toList.length=x.cells.length:=(vH.length);refine ⟨nv,np,ad,(ux.cells.toList.drop c).take n,hf,jS,ye,by simp at hZ ⊢;omega,?_,?_⟩
     ·intro j u hj;simp only[cw,ck] at hj;split at hj
      ·exact jx (c+j) u hj j rfl
      ·cases hj
     ·obtain⟨L',yY⟩:=vH.part c n;refine zFD hr (yY.mono (A':=zA9 w rv E) zDt.refl (fun a v hw ha=>zEO (zGt ha)) (fun _ _=>rfl)) fun j p u hp hu=>?_;simp only[cw,ck] at hp hu;split at hp
      ·rename_i hjn;rw[if_pos hjn] at hu;rw[zDs,hf];simp only[bc];rw[zLx];have y8:Eng.child np i (c+j)=some p:=by
        simp only[Eng.child];rw[zHv hx];simp[hxi,hp]
       rw[y8];simp only[bc];rw[zV7 hx jS (j:=j),jx (c+j) u hu j rfl];rfl
      ·cases hp
    ·have:ble (c+n) x.cells.length=false:=by
      cases hb:ble (c+n) x.cells.length with
      |false=>rfl|true=>exact absurd (bu hb) yR
     rw[this] at hc;simp at hc
theorem Conf.put(h:Conf w0 U Φ0 w Φ rv E L){s:Nat}{p:PV}{v:Value}(hp:p.heavy=false)(hr:Rep w Φ (zA9 w rv E) p v []) :
  Conf w0 U Φ0 w Φ (upd rv s v) (upd E s p) (upd L s []):=by
 have hA:∀ a u,a.isWay=true->zA9 w rv E a u->zA9 w (upd rv s v) (upd E s p) a u:=by
  intro a u _ ha;refine ha.mono fun nv np hn hh=>?_;by_cases hs:(zBb a).1=s
  ·rw[hs,zAj,zAj] at hn;have hu:p.unlock=p:=by cases p<;>first|rfl|simp[PV.heavy] at hp
   rw[hu] at hn;have:=zEB hp hn;rw[zFU hh] at this;cases this
  ·rw[zAg hs,zAg hs] at hn;exact⟨np,hn,zCo.refl hh⟩
 refine{h with rep:=?_,nodup:=?_,disj:=?_,own:=?_}
 ·intro t;by_cases ht:t=s
  ·subst ht;rw[zAj,zAj,zAj];exact hr.mono zDt.refl hA (by simp)
  ·rw[zAg ht,zAg ht,zAg ht];exact(h.rep t).mono zDt.refl hA (fun _ _=>rfl)
 ·intro t;by_cases ht:t=s
  ·subst ht;rw[zAj];simp
  ·rw[zAg ht];exact h.nodup t
 ·intro t t' hI b hb;by_cases ht:t=s
  ·subst ht;rw[zAj] at hb;simp at hb
  ·rw[zAg ht] at hb;by_cases ht':t'=s
   ·subst ht';rw[zAj];simp
   ·rw[zAg ht'];exact h.disj t t' hI b hb
 ·intro t b hb;by_cases ht:t=s
  ·subst ht;rw[zAj] at hb;simp at hb
  ·rw[zAg ht] at hb;exact h.own t b hb
end
end
def PV.dull:PV->Bool
 |.own ..|.box ..|.omap ..|.agg _|.lock _=>false|_=>true
structure Tame (f:PV->PV):Prop where
 agg:∀ p,(f p).isAgg=p.isAgg
 dull:∀ p,p.isWay=true->(f p).dull=true
theorem zO2{p:PV}(h:p.dull=true):zA6 p=none:=by cases p<;>first|rfl|cases h
theorem zOz{p:PV}(h:p.dull=true):p.heavy0=false:=by cases p<;>first|rfl|cases h
theorem zOV{p:PV}(h:p.dull=true):p.unlock=p:=by cases p<;>first|rfl|cases h
theorem zHo{f:PV->PV}:∀ (ps:List PV) (i:Nat),(zCR f ps)[i]? = (ps[i]?).map fun p=>p.mapW f
 |[],i=>by simp[zCR]|p::ps,0=>by simp[zCR]|p::ps,i+1=>by simp only[zCR,dS];exact zHo ps i
theorem zRn{f:PV->PV}(hf:Tame f)(q:PV)(c:Nat):(q.mapW f).cells[c]? = (q.cells[c]?).map fun p=>p.mapW f:=by
 cases hq:q.isAgg with
 |true=>
  cases q<;>simp[PV.isAgg] at hq;simp only[PV.mapW,PV.cells];exact zHo _ _
 |false=>
  have h1:q.cells=[q]:=by cases q<;>first|rfl|simp[PV.isAgg] at hq
  have h2:(q.mapW f).isAgg=false:=by rw[zGC hf.agg];exact hq
  have h3:(q.mapW f).cells=[q.mapW f]:=by revert h2;cases q.mapW f<;>intro h2<;>first|rfl|simp[PV.isAgg] at h2
  rw[h1,h3];cases c<;>simp
theorem zGu{f:PV->PV}{p:PV}(h:p.isWay=true):p.mapW f=f p:=by cases p<;>first|rfl|cases h
theorem zDD{f:PV->PV}(hf:Tame f)(p:PV):(p.mapW f).unlock=p.unlock.mapW f:=by
 cases hp:p.isWay with
 |true=>
  have h1:p.unlock=p:=by cases p<;>first|rfl|cases hp
  rw[h1,zGu hp,zOV (hf.dull p hp)]
 |false=>cases p<;>first|rfl|cases hp
section
variable {w w':World} {Φ Φ':Nat->Prop} {rv rv':Nat->Value} {E E':Nat->PV}
theorem zW7{v:Value}{p q:PV}{i c:Nat}:kid w v (.box p) i c=kid w v (.box q) i c:=by
 cases v with
 |pointer a=>cases a<;>rfl
 |slice a _ _=>cases a<;>rfl
 |_=>rfl
theorem zXD{v:Value}{p q:List PV}{i c:Nat}:kid w v (.agg p) i c=kid w v (.agg q) i c:=by
 cases v with
 |pointer a=>cases a<;>rfl
 |slice a _ _=>cases a<;>rfl
 |_=>rfl
theorem zCZ {f:PV->PV} (hf:Tame f):∀ {pre:zA2} {p:PV} {v nv:Value} {np':PV},zAZ w v (p.mapW f) pre=some (nv,np')->np'.heavy0=true ->
  ∃ np,zAZ w v p pre=some (nv,np)/\zCo np np'
 |[],p,v,nv,np',h,hh=>by
  simp only[zAZ,ba,bB] at h;obtain⟨rfl,rfl⟩:=h;refine⟨p,rfl,?_⟩
  cases hp:p.isWay with
  |true=>rw[zGu hp,zOz (hf.dull p hp)] at hh;cases hh|false=>cases p<;>first|(cases hp;done)|(simp[PV.mapW,PV.heavy0] at hh;done)|simp[PV.mapW,zCo]
 | (i, c) :: rest,p,v,nv,np',h,hh=>by
  rw[zA8] at h
  cases hc:Eng.child (p.mapW f) i c with
  |none=>rw[hc] at h;cases h
  | some q' =>
   rw[hc] at h;simp only[bc] at h
   cases hk:kid w v (p.mapW f) i c with
   |none=>rw[hk] at h;cases h
   | some u =>
    rw[hk] at h;simp only[bc] at h;have go:∀ q,Eng.child p i c=some q->kid w v p i c=some u->q'=q.mapW f->∃ np,zAZ w v p ((i,c)::rest)=some (nv,np)/\zCo np np':=by
     intro q h1 h2 h3;subst h3;obtain⟨np,hn,hl⟩:=zCZ hf h hh;exact⟨np,by rw[zA8,h1];simp only[bc];rw[h2];exact hn,hl⟩
    cases hp:p.isWay with
    |true=>
     rw[zGu hp] at hc;simp[Eng.child,zO2 (hf.dull p hp)] at hc
    | false =>
     cases p<;>first|(cases hp;done)|(simp[PV.mapW,Eng.child,zA6] at hc;done)|skip
     case own sz xs=>exact⟨np',by rw[zA8];simp only[PV.mapW] at hc hk;rw[hc];simp only[bc];rw[hk];exact h,zCo.refl hh⟩
     case box q0=>
      simp only[PV.mapW,Eng.child,zA6,bc] at hc
      cases i with
      |succ i=>simp at hc
      | zero =>
       simp only[bM,bc] at hc;rw[zRn hf] at hc
       cases hq:q0.cells[c]? with
       |none=>rw[hq] at hc;cases hc|some q=>
        rw[hq] at hc;simp only[bz,ba] at hc;exact go q (by simp[Eng.child,zA6,hq]) (by rw[<- hk,PV.mapW];exact zW7) hc.symm
     case agg cs=>
      simp only[PV.mapW,Eng.child,zA6,bc] at hc
      cases i with
      |succ i=>simp at hc
      | zero =>
       simp only[bM,bc,PV.cells] at hc;rw[zHo] at hc
       cases hq:cs[c]? with
       |none=>rw[hq] at hc;cases hc|some q=>
        rw[hq] at hc;simp only[bz,ba] at hc;exact go q (by simp[Eng.child,zA6,PV.cells,hq]) (by rw[<- hk,PV.mapW];exact zXD) hc.symm
section
variable {w0:World} {U Φ0:Nat->Prop} {L L':Nat->LN}
theorem zC6{a:PV}{v:Value}(h:zA9 w rv E a v):(zBb a).1<zAa:=by
 cases a<;>simp only[zA9] at h<;>first|exact h.1|exact h.elim
theorem zCQ(h:Conf w0 U Φ0 w Φ rv E L){f:PV->PV}(hf:Tame f){a:PV}{v:Value}(ha:zA9 w rv E a v)(hE:E' (zBb a).1=(E (zBb a).1).mapW f)(hv:rv' (zBb a).1=rv (zBb a).1)
  (hb:∀ b∈L (zBb a).1,w'.heap[b]? = w.heap[b]?):zA9 w' rv' E' a v:=by
 refine ha.mono fun nv np hn hh=>?_;rw[hE,hv,zDD hf] at hn;obtain⟨np0,kj,hl⟩:=zCZ hf hn hh;rw[zFH (zB9 (h.rep _)) hb] at kj;exact⟨np0,kj,hl⟩
theorem zMb{a:PV}{v:Value}(ha:zA9 w rv E a v)(hE:(E' (zBb a).1).unlock.heavy=false):zA9 w' rv' E' a v:=by
 refine ha.mono fun nv np hn hh=>?_;have:=zEB hE hn;rw[zFU hh] at this;cases this
theorem Conf.step2(h:Conf w0 U Φ0 w Φ rv E L)(σ:Nat->ON)(f:PV->PV)(hf:Tame f)
  (hσ:∀ s s' t,σ s=some t->σ s'=some t->s=s')
  (hE:∀ s t,σ s=some t->E' s=(E t).mapW f/\rv' s=rv t/\L' s=L t)
  (hN:∀ s,σ s=none->Rep w' Φ (zA9 w' rv' E') (E' s) (rv' s) (L' s))
  (hA:∀ a v,a.isWay=true->zA9 w rv E a v->Rep w' Φ (zA9 w' rv' E') (f a) v [])
  (hd:∀ s,σ s=none->(L' s).Nodup) (qB:∀ s s',σ s=none->σ s'=none->s≠s'->∀ b∈L' s,b∉L' s')
  (ho:∀ s,σ s=none->∀ b∈L' s,(∃ t,b∈L t/\∀ s,σ s≠some t)\/(w.heap.size<=b/\b<w'.heap.size))
  (hw:w.heap.size<=w'.heap.size) (hk:∀ b,b<w.heap.size->(∀ t,b∈L t->∃ s,σ s=some t)->w'.heap[b]? = w.heap[b]?)
  (u4:w'.os=w.os/\w'.tape=w.tape/\w'.output=w.output):Conf w0 U Φ0 w' Φ rv' E' L':=by
 have hLk:∀ s t,σ s=some t->∀ b∈L t,w'.heap[b]? = w.heap[b]?:=by
  intro s t hs b hb;refine hk b (h.own t b hb).1 fun t' yN=>?_;have:t'=t:=cI fun hI=>h.disj t' t hI b yN hb;exact⟨s,this▸hs⟩
 have hΦ:zDt w w' Φ Φ:=fun b hb=>⟨hb,hk b (h.frz b hb).1 fun t jd=>absurd hb (h.own t b jd).2.1⟩;have wR:∀ g,σ g=none->∀ b∈L' g,∀ t,b∈L t->∀ s,σ s≠some t:=by
  intro g hg b hb t jd s hs;rcases ho g hg b hb with⟨t',h1,h2⟩|⟨h1,h2⟩
  ·have:t'=t:=cI fun hI=>h.disj t' t hI b h1 jd;exact h2 s (this▸hs)
  ·have:=(h.own t b jd).1;omega
 refine⟨?_,?_,?_,?_,?_,h.frz0,bN h.size hw,?_,u4.1.trans h.os,u4.2.1.trans h.tape,u4.2.2.trans h.output⟩
 ·intro s
  cases hs:σ s with
  |some t=>
   obtain⟨h1,h2,h3⟩:=hE s t hs;rw[h1,h2,h3];exact Rep.map hf.agg hΦ hA _ _ _ (hLk s t hs) (h.rep t)
  |none=>exact hN s hs
 ·intro s
  cases hs:σ s with
  |some t=>rw[(hE s t hs).2.2];exact h.nodup t|none=>exact hd s hs
 ·intro s s' hI b hb yN
  cases hs:σ s with
  | some t =>
   rw[(hE s t hs).2.2] at hb
   cases jF:σ s' with
   |some t'=>
    rw[(hE s' t' jF).2.2] at yN;have:t≠t':=fun e=>hI (hσ s s' t hs (e▸jF));exact h.disj t t' this b hb yN
   |none=>exact wR s' jF b yN t hb s hs
  |none=>
   cases jF:σ s' with
   |some t'=>rw[(hE s' t' jF).2.2] at yN;exact wR s hs b hb t' yN s' jF|none=>exact qB s s' hs jF hI b hb yN
 ·intro s b hb
  cases hs:σ s with
  |some t=>
   rw[(hE s t hs).2.2] at hb;have:=h.own t b hb;exact⟨bL this.1 hw,this.2⟩
  |none=>
   rcases ho s hs b hb with⟨t,h1,_⟩|⟨h1,h2⟩
   ·have:=h.own t b h1;exact⟨bL this.1 hw,this.2⟩
   ·exact⟨h2,fun hp=>absurd (h.frz b hp).1 (by omega),.inr (bN h.size h1)⟩
 ·intro b hb;have:=h.frz b hb;exact⟨bL this.1 hw,this.2⟩
 ·intro b hb hu;rw[hk b (bL hb h.size) fun t jd=>?_]
  ·exact h.kept b hb hu
  ·rcases(h.own t b jd).2.2 with h1|h1
   ·exact absurd h1 hu
   ·omega
theorem Conf.step(h:Conf w0 U Φ0 w Φ rv E L)(σ:Nat->ON)(f:PV->PV)(g:Nat)(hf:Tame f)
  (hσ:∀ s s' t,σ s=some t->σ s'=some t->s=s')
  (hE:∀ s t,σ s=some t->E' s=(E t).mapW f/\rv' s=rv t/\L' s=L t)
  (hN:∀ s,σ s=none->Rep w' Φ (zA9 w' rv' E') (E' s) (rv' s) (L' s)/\(s≠g->L' s=[]))
  (hA:∀ a v,a.isWay=true->zA9 w rv E a v->Rep w' Φ (zA9 w' rv' E') (f a) v [])
  (hd:σ g=none->(L' g).Nodup) (ho:σ g=none->∀ b∈L' g,(∃ t,b∈L t/\∀ s,σ s≠some t)\/(w.heap.size<=b/\b<w'.heap.size))
  (hw:w.heap.size<=w'.heap.size) (hk:∀ b,b<w.heap.size->(∀ t,b∈L t->∃ s,σ s=some t)->w'.heap[b]? = w.heap[b]?)
  (u4:w'.os=w.os/\w'.tape=w.tape/\w'.output=w.output):Conf w0 U Φ0 w' Φ rv' E' L':=by
 refine h.step2 σ f hf hσ hE (fun s hs=>(hN s hs).1) hA (fun s hs=>?_) (fun s s' hs jF hI b hb yN=>?_) (fun s hs b hb=>?_) hw hk u4
 ·by_cases yp:s=g
  ·subst yp;exact hd hs
  ·rw[(hN s hs).2 yp];exact cj
 ·by_cases yp:s=g
  ·rw[(hN s' jF).2 (by rw[<- yp];exact dW hI)] at yN;cases yN
  ·rw[(hN s hs).2 yp] at hb;cases hb
 ·by_cases yp:s=g
  ·subst yp;exact ho hs b hb
  ·rw[(hN s hs).2 yp] at hb;cases hb
theorem Conf.turn(h:Conf w0 U Φ0 w Φ rv E L)(σ:Nat->ON)(f:PV->PV)(hf:Tame f)
  (hσ:∀ s s' t,σ s=some t->σ s'=some t->s=s')
  (hE:∀ s t,σ s=some t->E' s=(E t).mapW f/\rv' s=rv t/\L' s=L t)
  (hN:∀ s,σ s=none->E' s = .bad/\L' s=[])
  (hA:∀ a v,a.isWay=true->zA9 w rv E a v->Rep w Φ (zA9 w rv' E') (f a) v []):Conf w0 U Φ0 w Φ rv' E' L':=by
 refine h.step σ f 0 hf hσ hE (fun s hs=>?_) hA (fun hs=>?_) (fun hs=>?_) (bi _) (fun _ _ _=>rfl) ⟨rfl,rfl,rfl⟩
 ·obtain⟨h1,h2⟩:=hN s hs;rw[h1,h2];exact⟨rfl,fun _=>rfl⟩
 ·rw[(hN _ hs).2];exact cj
 ·rw[(hN _ hs).2];simp
theorem zCp:Tame (fun x=>x):=⟨fun _=>rfl,fun p h=>by cases p<;>first|rfl|cases h⟩
theorem zDF{f:PV->PV}(h:∀ p,f p=p\/(p.isWay=true/\f p = .bad)):Tame f:=by
 refine⟨fun p=>?_,fun p hp=>?_⟩
 ·rcases h p with h|⟨h1,h2⟩
  ·rw[h]
  ·rw[h2];cases p<;>first|rfl|cases h1
 ·rcases h p with h|⟨h1,h2⟩
  ·rw[h];cases p<;>first|rfl|cases hp
  ·rw[h2];rfl
theorem zG9(r:Nat)(pre:zA2)(p:PV):lose r pre p=p\/(p.isWay=true/\lose r pre p = .bad):=by
 cases p<;>first|exact .inl rfl|skip
 all_goals
  simp only[Eng.lose,PV.isWay,true_and];cases (beq _ r&&_)<;>simp
theorem zRG{r:Nat}{p:PV}{v:Value}(h:p.isWay=true)(hl:lose r [] p=p)(ha:zA9 w rv E p v):(zBb p).1≠r:=by
 intro hr;cases p<;>first|cases h|skip
 case log=>exact False.elim ha
 all_goals
  simp only[zBb] at hr;subst hr;simp[Eng.lose] at hl
theorem Conf.take(h:Conf w0 U Φ0 w Φ rv E L){s g:Nat}(hs:s<zAa)(hg:zAa<=g):Conf w0 U Φ0 w Φ (upd rv g (rv s)) (upd (upd E s .bad) g (E s)) (upd (upd L s []) g (L s)):=by
 have yp:s≠g:=by omega
 refine h.turn (fun t=>if t=g then some s else if t=s then none else some t) (fun x=>x) zCp ?_ ?_ ?_ ?_
 ·intro a b t ha hb;split at ha<;>split at hb<;>simp_all<;>split at ha<;>simp_all
  all_goals (try split at hb)<;>simp_all
 ·intro a t ha;split at ha
  ·rename_i e;cases ha;subst e;simp[zAj,zBl]
  ·rename_i e;split at ha
   ·cases ha
   ·rename_i e2;cases ha;simp[zAg e,zAg e2,zBl]
 ·intro a ha;split at ha
  ·cases ha
  ·rename_i e;split at ha
   ·rename_i e2;subst e2;simp[zAg e,zAj]
   ·cases ha
 ·intro a v hw ha;have hr:(zBb a).1<zAa:=zC6 ha;refine zC1 hw ?_;by_cases j3:(zBb a).1=s
  ·refine zMb ha ?_;rw[zAg (by omega),j3,zAj];rfl
  ·refine zCQ h zCp ha ?_ ?_ (fun _ _=>rfl)
   ·rw[zAg (by omega),zAg j3,zBl]
   ·rw[zAg (by omega)]
theorem Conf.lay(h:Conf w0 U Φ0 w Φ rv E L){d g:Nat}(hd:d<zAa)(hg:zAa<=g):Conf w0 U Φ0 w Φ (upd rv d (rv g)) (upd (upd (fun s=>(E s).mapW (lose d [])) d ((E g).mapW (lose d []))) g .bad) (upd (upd L d (L g)) g []):=by
 have vI:d≠g:=by omega
 refine h.turn (fun t=>if t=g then none else if t=d then some g else some t) (lose d []) (zDF (zG9 d [])) ?_ ?_ ?_ ?_
 ·intro a b t ha hb;split at ha<;>split at hb<;>simp_all<;>split at ha<;>simp_all
  all_goals (try split at hb)<;>simp_all
 ·intro a t ha;split at ha
  ·cases ha
  ·rename_i e;split at ha
   ·rename_i e2;cases ha;subst e2;simp[zAg e,zAj]
   ·rename_i e2;cases ha;simp[zAg e,zAg e2]
 ·intro a ha;split at ha
  ·rename_i e;subst e;simp[zAj]
  ·split at ha<;>cases ha
 ·intro a v hw ha;have hr:(zBb a).1<zAa:=zC6 ha;rcases zG9 d [] a with hl|⟨_,hl⟩
  ·rw[hl];have hI:=zRG hw hl ha;refine zC1 hw (zCQ h (zDF (zG9 d [])) ha ?_ ?_ (fun _ _=>rfl))
   ·rw[zAg (by omega),zAg hI]
   ·rw[zAg hI]
  ·rw[hl];rfl
theorem Conf.lose(h:Conf w0 U Φ0 w Φ rv E L){f:PV->PV}(hf:∀ p,f p=p\/(p.isWay=true/\f p = .bad)):Conf w0 U Φ0 w Φ rv (fun s=>(E s).mapW f) L:=by
 refine h.turn some f (zDF hf) (fun a b t ha hb=>by cases ha;cases hb;rfl) (fun a t ha=>by cases ha;exact⟨rfl,rfl,rfl⟩) (fun a ha=>by cases ha) fun a v hw ha=>?_;rcases hf a with hl|⟨_,hl⟩
 ·rw[hl];exact zC1 hw (zCQ h (zDF hf) ha rfl rfl (fun _ _=>rfl))
 ·rw[hl];rfl
theorem Conf.drop(h:Conf w0 U Φ0 w Φ rv E L)(D:Nat->Bool):Conf w0 U Φ0 w Φ rv (fun s=>if D s then .bad else E s) (fun s=>if D s then[] else L s):=by
 refine h.turn (fun s=>if D s then none else some s) (fun x=>x) zCp ?_ ?_ ?_ ?_
 ·intro a b t ha hb;split at ha<;>split at hb<;>simp_all
 ·intro a t ha;split at ha
  ·cases ha
  ·rename_i e;cases ha;simp[e,zBl]
 ·intro a ha;split at ha
  ·rename_i e;simp[e]
  ·cases ha
 ·intro a v hw ha;refine zC1 hw ?_;by_cases hd:D (zBb a).1=true
  ·exact zMb ha (by simp[hd];rfl)
  ·exact zCQ h zCp ha (by simp[hd,zBl]) rfl (fun _ _=>rfl)
theorem Conf.hold(h:Conf w0 U Φ0 w Φ rv E L){g:Nat}(hg:zAa<=g){p:PV}{v:Value}(hr:Rep w Φ (zA9 w rv E) p v []) :
  Conf w0 U Φ0 w Φ (upd rv g v) (upd E g p) (upd L g []):=by
 have hA:∀ a u,a.isWay=true->zA9 w rv E a u->zA9 w (upd rv g v) (upd E g p) a u:=by
  intro a u _ ha;have:=zC6 ha;exact zCQ h zCp ha (by rw[zAg (by omega),zBl]) (by rw[zAg (by omega)]) (fun _ _=>rfl)
 refine h.step (fun s=>if s=g then none else some s) (fun x=>x) g zCp ?_ ?_ ?_ (fun a u hw ha=>zC1 hw (hA a u hw ha)) (fun _=>?_) (fun _=>?_) (bi _) (fun _ _ _=>rfl) ⟨rfl,rfl,rfl⟩
 ·intro a b t ha hb;split at ha<;>split at hb<;>simp_all
 ·intro a t ha;split at ha
  ·cases ha
  ·rename_i e;cases ha;simp[zAg e,zBl]
 ·intro a ha;split at ha
  ·rename_i e;subst e;rw[zAj,zAj,zAj];exact⟨hr.mono zDt.refl hA (by simp),fun h=>absurd rfl h⟩
  ·cases ha
 ·rw[zAj];exact cj
 ·rw[zAj];simp
theorem Conf.make(h:Conf w0 U Φ0 w Φ rv E L){w':World}(G:Nat->Bool)(hG:∀ s,G s=true->zAa<=s){g:Nat}(hg:zAa<=g){p:PV}{v:Value}{Lp:LN}
  (hr:∀ A:Al,(∀ a u,a.isWay=true->zA9 w rv E a u->A a u)->Rep w' Φ A p v Lp) (hd:Lp.Nodup)
  (ho:∀ b∈Lp,(∃ t,b∈L t/\G t=true)\/(w.heap.size<=b/\b<w'.heap.size))
  (hw:w.heap.size<=w'.heap.size) (hk:∀ b,b<w.heap.size->(∀ t,b∈L t->G t=false)->w'.heap[b]? = w.heap[b]?)
  (u4:w'.os=w.os/\w'.tape=w.tape/\w'.output=w.output) :
  Conf w0 U Φ0 w' Φ (upd rv g v) (upd (fun s=>if G s then .bad else E s) g p) (upd (fun s=>if G s then[] else L s) g Lp):=by
 have hA:∀ a u,a.isWay=true->zA9 w rv E a u->zA9 w' (upd rv g v) (upd (fun s=>if G s then .bad else E s) g p) a u:=by
  intro a u _ ha;have yI:=zC6 ha;have hI:(zBb a).1≠g:=by omega
  have hGn:G (zBb a).1=false:=by
   cases hb:G (zBb a).1 with
   |false=>rfl|true=>have:=hG _ hb;omega
  refine zCQ h zCp ha (by rw[zAg hI];simp[hGn,zBl]) (by rw[zAg hI]) fun b hb=>hk b (h.own _ b hb).1 fun t ht=>?_;have:t=(zBb a).1:=cI fun hn=>h.disj t _ hn b ht hb;rw[this];exact hGn
 refine h.step (fun s=>if s=g then none else if G s then none else some s) (fun x=>x) g zCp ?_ ?_ ?_ (fun a u hw ha=>zC1 hw (hA a u hw ha)) (fun _=>?_) (fun _=>?_) hw ?_ u4
 ·intro a b t ha hb;split at ha<;>split at hb<;>simp_all
 ·intro a t ha;split at ha
  ·cases ha
  ·rename_i e;split at ha
   ·cases ha
   ·rename_i e2;cases ha;simp[zAg e,zBl,e2]
 ·intro a ha;split at ha
  ·rename_i e;subst e;rw[zAj,zAj,zAj];exact⟨hr _ hA,fun h=>absurd rfl h⟩
  ·rename_i e;split at ha
   ·rename_i e2;rw[zAg e,zAg e,zAg e];exact⟨by simp[e2,Rep],fun _=>by simp[e2]⟩
   ·cases ha
 ·rw[zAj];exact hd
 ·rw[zAj];intro b hb;rcases ho b hb with⟨t,h1,h2⟩|h1
  ·refine .inl ⟨t,h1,fun s hs=>?_⟩;split at hs
   ·cases hs
   ·split at hs
    ·cases hs
    ·rename_i e2;cases hs;exact e2 h2
  ·exact .inr h1
 ·intro b hb hc;refine hk b hb fun t ht=>?_;obtain⟨s,hs⟩:=hc t ht;split at hs
  ·cases hs
  ·split at hs
   ·cases hs
   ·rename_i e2;cases hs;simpa using e2
theorem zCo.trans{p q r:PV}(h1:zCo p q)(h2:zCo q r):zCo p r:=by
 cases p<;>cases q<;>simp only[zCo] at h1<;>cases r<;>simp_all[zCo]
theorem zNu{A A':Al}(hA:∀ a v,a.isWay=true->A a v->A' a v):∀ {pre:zA2} {p:PV},∀ a v,a.isWay=true->zJc A p pre a v->zJc A' p pre a v
 |[],p,a,v,hw,h=>hA a v hw h
 | (i,c)::rest,p,a,v,hw,h=>by
  simp only[zJc] at h ⊢
  cases hc:Eng.child p i c with
  |none=>rw[hc] at h;exact h.elim|some q=>
   rw[hc] at h;exact zNu (zLb hA) a v hw h
def stays(f:PV->PV)(A:Al):Al:=fun a v=>A a v/\f a=a
theorem Conf.stays(h:Conf w0 U Φ0 w Φ rv E L){f:PV->PV}(hf:∀ p,f p=p\/(p.isWay=true/\f p = .bad))(s:Nat):Rep w Φ (stays f (zA9 w rv E)) ((E s).mapW f) (rv s) (L s):=by
 refine Rep.map (zDF hf).agg zDt.refl (fun a v hw ha=>?_) _ _ _ (fun _ _=>rfl) (h.rep s);rcases hf a with hl|⟨_,hl⟩
 ·rw[hl];exact zC1 hw ⟨ha,hl⟩
 ·rw[hl];rfl
theorem Conf.mod(h:Conf w0 U Φ0 w Φ rv E L){r:Nat}(hr:r<zAa){f:PV->PV}(hf:∀ p,f p=p\/(p.isWay=true/\f p = .bad)){pre:zA2}{q:PV}
  (j6:((E r).mapW f).unlock=(E r).mapW f) (hn:zAF ((E r).mapW f) pre=some q) :
  ∃ nv Li,zAZ w (rv r) ((E r).mapW f) pre=some (nv,q)/\Rep w Φ (zJc (Eng.stays f (zA9 w rv E)) ((E r).mapW f) pre) q nv Li/\Li.Nodup/\(∀ b∈Li,b∈L r) /\
   ∀ (G:Nat->Bool) (w':World) (q' root':PV) (Li':LN),(∀ s,G s=true->zAa<=s)->(pre≠[]->q'.isAgg=q.isAgg)->zAA (fun _=>some q') ((E r).mapW f) pre=some root'->root'.unlock=root' ->
    (∀ A:Al,(∀ a u,a.isWay=true->Eng.stays f (zA9 w rv E) a u->A a u)->Rep w' Φ (zJc A ((E r).mapW f) pre) q' nv Li')->Li'.Nodup ->
    (∀ b∈Li',b∈Li\/(∃ t,b∈L t/\G t=true)\/(w.heap.size<=b/\b<w'.heap.size))->w.heap.size<=w'.heap.size ->
    (∀ b,b<w.heap.size->b∉Li->(∀ t,b∈L t->G t=false)->w'.heap[b]? = w.heap[b]?) ->
    (∀ rest nv2 np2,zAZ w' nv q' rest=some (nv2,np2)->np2.heavy0=true->(∀ a,a.isWay=true->zBb a=(r,pre++rest)->f a≠a)\/∃ np0,zAZ w nv q rest=some (nv2,np0)/\zCo np0 np2) ->
    (w'.os=w.os/\w'.tape=w.tape/\w'.output=w.output) ->
    ∃ L',(∀ s,s≠r->L' s=if G s then[] else L s)/\Conf w0 U Φ0 w' Φ rv (fun s=>if s=r then root' else if G s then .bad else(E s).mapW f) L':=by
 have hs:=h.stays hf r;obtain⟨nv,La,Li,Lb,vc,hL,yA,wS,ui⟩:=Rep.zip pre hs hn;have yU:=h.nodup r;rw[hL] at yU;have hnd1:∀ b∈La++Lb,b∉Li:=by
  intro b hb u5;simp only[bW] at yU;rcases bk.1 hb with hb|hb
  ·exact yU.1.2.2 b hb b u5 rfl
  ·exact yU.2.2 b (by simp[u5]) b hb rfl
 refine⟨nv,Li,vc,yA,?_,fun b hb=>by rw[hL];simp[hb],?_⟩
 ·simp only[bW] at yU;exact yU.1.2.1
 intro G w' q' root' Li' hG yz hm yK hR hd ho hw hk vd u4;have hkL:∀ t,G t=false->∀ b∈L t,b∉Li->w'.heap[b]? = w.heap[b]?:=by
  intro t ht b hb u5;refine hk b (h.own t b hb).1 u5 fun t' ht'=>?_;have:t'=t:=cI fun hI=>h.disj t' t hI b ht' hb;rw[this];exact ht
 have hGr:G r=false:=by
  cases hb:G r with
  |false=>rfl|true=>have:=hG _ hb;omega
 have hbLL:∀ b∈La++Lb,w'.heap[b]? = w.heap[b]?:=by
  intro b hb;exact hkL r hGr b (by rw[hL];simp at hb ⊢;rcases hb with h|h<;>simp[h]) (hnd1 b hb)
 have hLiL:∀ t,t≠r->∀ b∈L t,b∉Li:=by
  intro t hI b hb u5;exact h.disj t r hI b hb (by rw[hL];simp[u5])
 have hA : ∀ a u,a.isWay=true->zA9 w rv E a u->f a=a->zA9 w' rv (fun s=>if s=r then root' else if G s then .bad else(E s).mapW f) a u:=by
  intro a u vJ ha hfa;have yI:=zC6 ha;by_cases uj:(zBb a).1=r
  ·refine ha.mono fun nv2 np2 j4 hh=>?_;simp only[uj,if_true] at j4 ⊢;rw[yK] at j4;have back:∀ np0,zAZ w (rv r) ((E r).mapW f) (zBb a).2=some (nv2,np0)->zCo np0 np2->∃ np0,zAZ w (rv r) (E r).unlock (zBb a).2=some (nv2,np0)/\zCo np0 np2:=by
    intro np0 h1 h2;rw[<- j6,zDD (zDF hf)] at h1;obtain⟨np1,h3,h4⟩:=zCZ (zDF hf) h1 (zDY h2);exact⟨np1,h3,h4.trans h2⟩
   rcases ui w' q' root' hbLL yz hm _ nv2 np2 j4 hh with⟨rest,h1,h2⟩|⟨np0,h1,h2⟩
   ·rcases vd rest nv2 np2 h2 hh with h3|⟨np0,h3,h4⟩
    ·exact absurd hfa (h3 a vJ (fu uj h1))
    ·refine back np0 ?_ h4;rw[h1,zDs,vc];exact h3
   ·exact back np0 h1 h2
  ·have hGa:G (zBb a).1=false:=by
    cases hb:G (zBb a).1 with
    |false=>rfl|true=>have:=hG _ hb;omega
   exact zCQ h (zDF hf) ha (by simp[uj,hGa]) rfl fun b hb=>hkL _ hGa b hb (hLiL _ uj b hb)
 have hA':∀ a u,a.isWay=true->zA9 w rv E a u->Rep w' Φ (zA9 w' rv (fun s=>if s=r then root' else if G s then .bad else(E s).mapW f)) (f a) u []:=by
  intro a u vJ ha;rcases hf a with hl|⟨_,hl⟩
  ·rw[hl];exact zC1 vJ (hA a u vJ ha hl)
  ·rw[hl];rfl
 have hΦ:zDt w w' Φ Φ:=fun b hb=>⟨hb,hk b (h.frz b hb).1 (fun u5=>(h.own r b (by rw[hL];simp[u5])).2.1 hb) fun t jd=>absurd hb (h.own t b jd).2.1⟩;refine⟨fun s=>if s=r then La++Li'++Lb else if G s then[] else L s,fun s yV=>by simp[yV],?_⟩;refine h.step (fun s=>if s=r then none else if G s then none else some s) f r (zDF hf) ?_ ?_ ?_ hA' (fun _=>?_) (fun _=>?_) hw ?_ u4
 ·intro a b t ha hb;split at ha<;>split at hb<;>simp_all
 ·intro a t ha;split at ha
  ·cases ha
  ·rename_i e;split at ha
   ·cases ha
   ·rename_i e2;cases ha;simp[e,e2]
 ·intro a ha;by_cases e:a=r
  ·subst e;simp only[if_true];exact⟨wS w' Φ _ q' Li' root' (fun a u vJ ha=>hA a u vJ ha.1 ha.2) hΦ hbLL yz (hR _ fun a u vJ ha=>hA a u vJ ha.1 ha.2) hm,fun h=>absurd rfl h⟩
  ·simp only[e,if_false] at ha ⊢;split at ha
   ·rename_i e2;exact⟨by simp[e2,Rep],fun _=>by simp[e2]⟩
   ·cases ha
 ·simp only[if_true];simp only[bW] at yU ⊢;have hx:∀ b∈Li',b∈La++Lb->False:=by
   intro b hb jR;have qC:b∈L r:=by rw[hL];simp at jR ⊢;rcases jR with h|h<;>simp[h]
   rcases ho b hb with h1|⟨t,h1,h2⟩|h1
   ·exact hnd1 b jR h1
   ·have:t≠r:=fun e=>by rw[e,hGr] at h2;cases h2
    exact h.disj t r this b h1 qC
   ·have:=(h.own r b qC).1;omega
  refine⟨⟨yU.1.1,hd,fun a ha b hb e=>hx b hb (by subst e;simp[ha])⟩,yU.2.1,fun a ha b hb e=>?_⟩;subst e;rcases bk.1 ha with ha|ha
  ·exact yU.2.2 a (by simp[ha]) a hb rfl
  ·exact hx a ha (by simp[hb])
 ·simp only[if_true];intro b hb;have y9:∀ t,t=r\/G t=true->∀ s,(if s=r then none else if G s then none else some s)≠some t:=by
   intro t ht s hs;split at hs
   ·cases hs
   ·rename_i e;split at hs
    ·cases hs
    ·rename_i e2;cases hs;rcases ht with h|h
     ·exact e h
     ·exact e2 h
  rcases bk.1 hb with hb|hb
  ·rcases bk.1 hb with hb|hb
   ·exact .inl ⟨r,by rw[hL];simp[hb],y9 r (.inl rfl)⟩
   ·rcases ho b hb with h1|⟨t,h1,h2⟩|h1
    ·exact .inl ⟨r,by rw[hL];simp[h1],y9 r (.inl rfl)⟩
    ·exact .inl ⟨t,h1,y9 t (.inr h2)⟩
    ·exact .inr h1
  ·exact .inl ⟨r,by rw[hL];simp[hb],y9 r (.inl rfl)⟩
 ·intro b hb hc;have jT:b∉L r:=by
   intro qC;obtain⟨s,hs⟩:=hc r qC;split at hs
   ·cases hs
   ·rename_i e;split at hs
    ·cases hs
    ·cases hs;exact e rfl
  refine hk b hb (fun u5=>jT (by rw[hL];simp[u5])) fun t ht=>?_;obtain⟨s,hs⟩:=hc t ht;split at hs
  ·cases hs
  ·split at hs
   ·cases hs
   ·rename_i e2;cases hs;simpa using e2
theorem Conf.takeNode(h:Conf w0 U Φ0 w Φ rv E L){r g:Nat}(hr:r<zAa)(hg:zAa<=g){pre:zA2}{q root':PV}(j6:(E r).unlock=E r)(hn:zAF (E r) pre=some q)(yz:q.isAgg=false)
  (hm:zAA (fun _=>some .bad) (E r) pre=some root') (yK:root'.unlock=root') :
  ∃ nv Li,zAZ w (rv r) (E r) pre=some (nv,q)/\Rep w Φ (zA9 w rv E) q nv Li/\Li.Nodup/\(∀ b∈Li,b∈L r)/\∀ (p':PV) (v':Value) (Lg:LN),Rep w Φ (zA9 w rv E) p' v' Lg->Lg.Nodup->(∀ b∈Lg,b∈Li\/b∈L g) ->
   ∃ L',Conf w0 U Φ0 w Φ (upd rv g v') (upd (upd E r root') g p') L'/\∀ s,s≠r->s≠g->L' s=L s:=by
 have jt:r≠g:=by omega
 obtain⟨nv,La,Li,Lb,vc,hL,yA,wS,ui⟩:=Rep.zip pre (h.rep r) hn;have yU:=h.nodup r;rw[hL] at yU;simp only[bW] at yU;have yY:∀ b,b∈La++Lb->b∈L r:=fun b hb=>by rw[hL];simp at hb ⊢;rcases hb with h|h<;>simp[h]
 have qx:∀ b∈Li,b∈L r:=fun b hb=>by rw[hL];simp[hb]
 have ve:∀ b∈Li,b∉La++Lb:=by
  intro b hb jR;rcases bk.1 jR with h2|h2
  ·exact yU.1.2.2 b h2 b hb rfl
  ·exact yU.2.2 b (by simp[hb]) b h2 rfl
 refine⟨nv,Li,vc,yA.mono zDt.refl (fun _ _ _ h=>zEO h) (fun _ _=>rfl),yU.1.2.1,qx,fun p' v' Lg jy hLg hLgm=>?_⟩;have qy:∀ b∈Lg,b∉La++Lb:=by
  intro b hb jR;rcases hLgm b hb with h1|h1
  ·exact ve b h1 jR
  ·exact h.disj r g jt b (yY b jR) h1
 have hA:∀ a u,a.isWay=true->zA9 w rv E a u->zA9 w (upd rv g v') (upd (upd E r root') g p') a u:=by
  intro a u vJ ha;have yI:=zC6 ha;by_cases uj:(zBb a).1=r
  ·refine ha.mono fun nv2 np2 j4 hh=>?_;rw[uj] at j4 ⊢;rw[zAg jt,zAg jt,zAj,yK] at j4;rcases ui w .bad root' (fun _ _=>rfl) (fun _=>yz.symm) hm _ nv2 np2 j4 hh with⟨rest,h1,h2⟩|⟨np0,h1,h2⟩
   ·cases rest with
    |nil=>simp only[zAZ,ba,bB] at h2;rw[<- h2.2] at hh;cases hh|cons x rest=>obtain⟨i,c⟩:=x;rw[zA8] at h2;simp[Eng.child,zA6] at h2
   ·rw[j6];exact⟨np0,h1,h2⟩
  ·exact zCQ h zCp ha (by rw[zAg (by omega),zAg uj,zBl]) (by rw[zAg (by omega)]) (fun _ _=>rfl)
 refine⟨upd (upd L r (La++Lb)) g Lg,?_,fun s h1 h2=>by rw[zAg h2,zAg h1]⟩;refine h.step2 (fun s=>if s=r then none else if s=g then none else some s) (fun x=>x) zCp ?_ ?_ ?_ (fun a u vJ ha=>zC1 vJ (hA a u vJ ha)) ?_ ?_ ?_ (bi _) (fun _ _ _=>rfl) ⟨rfl,rfl,rfl⟩
 ·intro a b t ha hb;split at ha<;>split at hb<;>simp_all
 ·intro a t ha;split at ha
  ·cases ha
  ·rename_i e1;split at ha
   ·cases ha
   ·rename_i e2;cases ha;simp[zAg e1,zAg e2,zBl]
 ·intro a ha;by_cases e1:a=r
  ·subst e1;rw[zAg jt,zAg jt,zAg jt,zAj,zAj];have:=wS w Φ (zA9 w (upd rv g v') (upd (upd E a root') g p')) .bad [] root' hA zDt.refl (fun _ _=>rfl) (fun _=>yz.symm) rfl hm;simpa using this
  ·have e2:a=g:=by
    rw[if_neg e1] at ha;by_cases e2:a=g
    ·exact e2
    ·rw[if_neg e2] at ha;cases ha
   subst e2;rw[zAj,zAj,zAj];exact jy.mono zDt.refl (fun a u hw h=>hA a u hw h) (fun _ _=>rfl)
 ·intro a ha;by_cases e1:a=r
  ·subst e1;rw[zAg jt,zAj,bW];exact⟨yU.1.1,yU.2.1,fun x hx y hy e=>yU.2.2 x (by simp[hx]) y hy e⟩
  ·rw[if_neg e1] at ha;by_cases e2:a=g
   ·subst e2;rw[zAj];exact hLg
   ·rw[if_neg e2] at ha;cases ha
 ·intro s s' hs jF hI b hb yN;have jo:s=r\/s=g:=by by_cases e1:s=r;exact .inl e1;rw[if_neg e1] at hs;by_cases e2:s=g;exact .inr e2;rw[if_neg e2] at hs;cases hs
  have hs2':s'=r\/s'=g:=by by_cases e1:s'=r;exact .inl e1;rw[if_neg e1] at jF;by_cases e2:s'=g;exact .inr e2;rw[if_neg e2] at jF;cases jF
  rcases jo with rfl|rfl<;>rcases hs2' with rfl|rfl
  ·exact hI rfl
  ·rw[zAg jt,zAj] at hb;rw[zAj] at yN;exact qy b yN hb
  ·rw[zAj] at hb;rw[zAg jt,zAj] at yN;exact qy b hb yN
  ·exact hI rfl
 ·intro s hs b hb;have jo:s=r\/s=g:=by by_cases e1:s=r;exact .inl e1;rw[if_neg e1] at hs;by_cases e2:s=g;exact .inr e2;rw[if_neg e2] at hs;cases hs
  have jT:∀ t,t=r\/t=g->∀ x,(if x=r then none else if x=g then none else some x)≠some t:=by
   intro t ht x hx;split at hx
   ·cases hx
   ·rename_i e1;split at hx
    ·cases hx
    ·rename_i e2;cases hx;rcases ht with h|h<;>contradiction
  rcases jo with rfl|rfl
  ·rw[zAg jt,zAj] at hb;exact .inl ⟨s,yY b hb,jT s (.inl rfl)⟩
  ·rw[zAj] at hb;rcases hLgm b hb with h1|h1
   ·exact .inl ⟨r,qx b h1,jT r (.inl rfl)⟩
   ·exact .inl ⟨s,h1,jT s (.inr rfl)⟩
end
end
end Go.Eng
namespace Go.Eng
open Go
theorem zBp:∀ ps:List PV,(zAv ps).length=ps.length
 |[]=>rfl|p::ps=>by simp[zAv,zBp ps]
theorem zJ5:∀ (ps:List PV) (i:Nat),(zAv ps)[i]? = (ps[i]?).map zAY
 |[],i=>by simp[zAv]|p::ps,0=>by simp[zAv]|p::ps,i+1=>by simp only[zAv,dS];exact zJ5 ps i
theorem zCF:∀ ps:List PV,zAv ps=ps.map zAY
 |[]=>rfl|p::ps=>by simp[zAv,zCF ps]
theorem zC8(p:PV):(zAY p).isAgg=p.isAgg:=by cases p<;>rfl
theorem zM6(p:PV):(zAY p).cells=zAv p.cells:=by cases p<;>rfl
theorem zDa(p:PV):(zAY p).cells.length=p.cells.length:=by rw[zM6,zBp]
theorem zHQ(ps:List PV):(zAv ps).map PV.isAgg=ps.map PV.isAgg:=by
 rw[zCF,f8];exact de fun p _=>zC8 p
section
variable {w:World} {Φ Φ':Nat->Prop}
mutual
theorem zEn{A:Al}(hΦ:∀ b,Φ b->Φ' b):∀ (p:PV) (v:Value) (L:LN),(∀ b∈L,Φ' b)->Rep w Φ A p v L->Rep w Φ' A (zAY p) v []
 | .own sz xs,v,L,hL,h=>by
  obtain⟨h1,h2,h3⟩|⟨a,n,c,us,L',rfl,h1,h2,h3,h4,h5,h6,h7,h8,h9⟩:=h
  ·subst h1;exact⟨rfl,.inl ⟨rfl,none,0,h3,fun _=>rfl⟩⟩
  ·refine⟨rfl,.inr ⟨a,n,c,us,sz,by rw[zBp];exact h1,h2,by rw[zBp];exact h3,hL _ (by simp),h4.any,?_,⟨h7.1,by rw[zHQ];exact h7.2⟩,by rw[zBp];exact h8,?_⟩⟩
   ·intro x hx;rw[zCF] at hx;obtain⟨y,hy,rfl⟩:=bQ.1 hx;rw[zDa];exact h6 y hy
   ·exact zDL hΦ xs us L' (fun b hb=>hL b (by simp[hb])) h9
 |.box q,v,L,hL,h=>by
  obtain⟨a,c,u,L',rfl,h1,h2,h4,h5,h6,h7⟩:=h;exact⟨rfl,a,c,u,h1,h2,hL _ (by simp),h4.any,by rw[zDa];exact h5,by rw[zDa,zC8];exact h6,zEn hΦ q u L' (fun b hb=>hL b (by simp[hb])) h7⟩
 |.omap es,v,L,hL,h=>by
  obtain⟨b,ents,rfl,h1,h3,h4⟩:=h;exact⟨rfl,b,ents,h1,hL _ (by simp),h3,zEa.same (fun b hb=>⟨hΦ b hb,rfl⟩) es _ _ h4⟩
 |.agg cs,v,L,hL,h=>by
  obtain⟨vs,rfl,h⟩:=h;exact⟨vs,rfl,zDL hΦ cs _ L hL h⟩
 |.tup _,_,_,_,_=>rfl|.lock _,_,_,_,_=>rfl|.bad,_,_,_,_=>rfl|.und,_,_,_,h=>⟨h.1,rfl⟩|.int ..,_,_,_,h=>⟨h.1,rfl⟩|.bool _,_,_,_,h=>⟨h.1,rfl⟩|.nilp,_,_,_,h=>⟨h.1,rfl⟩|.nilf,_,_,_,h=>⟨h.1,rfl⟩|.nilm,_,_,_,h=>⟨h.1,rfl⟩|.nn,_,_,_,h=>⟨rfl,h.2⟩|.nils _,_,_,_,h=>⟨h.1,rfl⟩|.sl xs,v,L,_,h=>by have h0:=h.1;subst h0;exact h.mono (fun b hb=>⟨hΦ b hb,rfl⟩) (fun _ _ _ h=>h) (fun _ _=>rfl)
 |.ref q,v,L,_,h=>by have h0:=h.1;subst h0;exact h.mono (fun b hb=>⟨hΦ b hb,rfl⟩) (fun _ _ _ h=>h) (fun _ _=>rfl)
 |.map es,v,L,_,h=>by have h0:=h.1;subst h0;exact h.mono (fun b hb=>⟨hΦ b hb,rfl⟩) (fun _ _ _ h=>h) (fun _ _=>rfl)
 |.func _ _ _,v,L,_,h=>by have h0:=h.1;subst h0;exact h.mono (fun b hb=>⟨hΦ b hb,rfl⟩) (fun _ _ _ h=>h) (fun _ _=>rfl)
 |.addr ..,_,_,_,h=>⟨rfl,h.2⟩|.bor ..,_,_,_,h=>⟨rfl,h.2⟩|.bsl ..,_,_,_,h=>⟨rfl,h.2⟩|.bmap ..,_,_,_,h=>⟨rfl,h.2⟩|.yld _,_,_,_,h=>⟨rfl,h.2⟩|.log ..,_,_,_,h=>⟨rfl,h.2⟩
theorem zDL{A:Al}(hΦ:∀ b,Φ b->Φ' b):∀ (ps:List PV) (vs:List Value) (L:LN),(∀ b∈L,Φ' b)->zA5 w Φ A ps vs L->zA5 w Φ' A (zAv ps) vs []
 |[],_,_,_,h=>⟨h.1,rfl⟩|p::ps,vs,L,hL,h=>by
  obtain⟨v,vs',L1,L2,rfl,rfl,h1,h2⟩:=h;exact⟨v,vs',[],[],rfl,rfl,zEn hΦ p v L1 (fun b hb=>hL b (by simp[hb])) h1,zDL hΦ ps vs' L2 (fun b hb=>hL b (by simp[hb])) h2⟩
end
theorem zID:∀ {pre:zA2} {p:PV} {v nv:Value} {np:PV},zAZ w v (zAY p) pre=some (nv,np)->np.heavy0=false
 |[],p,v,nv,np,h=>by
  simp only[zAZ,ba,bB] at h;obtain⟨_,rfl⟩:=h;cases p<;>rfl
 | (i, c)::rest,p,v,nv,np,h=>by
  rw[zA8] at h
  cases hc:Eng.child (zAY p) i c with
  |none=>rw[hc] at h;cases h
  | some q =>
   rw[hc] at h;simp only[bc] at h
   cases hk:kid w v (zAY p) i c with
   |none=>rw[hk] at h;cases h
   | some u =>
    rw[hk] at h;simp only[bc] at h;cases p<;>first|(simp[Eng.child,zA6,zAY] at hc;done)|skip
    rename_i cs
    cases i with
    |succ i=>simp[Eng.child,zA6,zAY] at hc|zero=>
     simp only[Eng.child,zA6,zAY,bc,bM,PV.cells] at hc;rw[zJ5] at hc
     cases hq:cs[c]? with
     |none=>rw[hq] at hc;cases hc|some q0=>rw[hq] at hc;simp only[bz,ba] at hc;subst hc;exact zID h
end
theorem zG4{c:Array Value}{o n:Nat}{l:List Value}(hl:l.length=n)(h:∀ k u,l[k]? = some u->c[o+k]? = some u):seg c o n=l:=by
 apply cW;intro k;simp only[seg,cw,ck];by_cases hk:k<n
 ·rw [if_pos hk];have : ∃ u, l[k]? = some u := ⟨l[k]'(by omega), by simp [hl, hk]⟩;obtain ⟨u,hu⟩:=this;rw [hu,bU];exact h k u hu
 ·rw[if_neg hk,cV (by omega)]
section
variable {w:World} {Φ:Nat->Prop}
theorem zL3{A:Al}{np:PV}{nv:Value}{Li:LN}(h:Rep w Φ A np nv Li){xs:List PV}(hx:zBh np=some xs){i:Nat}{x:PV}(hi:xs[i]? = some x) :
  ∃ ux row ad Lx,ad.block∈Li/\ad.spot=none/\zEY w ad.block row/\(∀ b∈Lx,b∈Li)/\(∀ c,zBc nv np i c=some (zAw ad c)) /\
   (∀ c n,c+n<=x.cells.length->seg row (ad.off+c) n=(ux.cells.toList.drop c).take n)/\zCr ux=x.isAgg/\ux.cells.size=x.cells.length/\Rep w Φ (zGV A np) x ux Lx:=by
 cases np<;>simp only[zBh] at hx<;>try cases hx
 case own sz=>
  obtain⟨h1,h2,h3⟩|⟨a,n,r,us,L',rfl,h1,h2,h3,h4,h5,h6,⟨h7,u3⟩,h8,h9⟩:=h
  ·subst h1;simp at hi
  ·obtain⟨ux,La,Lx,Lb,hu,rfl,hr,_,_⟩:=h9.split hi;have hg:zCr ux=x.isAgg:=by
    have h1:(us.map zCr)[i]? = some (zCr ux):=by simp[hu]
    have h2:(xs.map PV.isAgg)[i]? = some x.isAgg:=by simp[hi]
    rw[u3] at h1;rw[h1] at h2;simpa using h2
   have yJ:ux.cells.size=x.cells.length:=by rw[h7 ux (bK hu),h6 x (bK hi)]
   subst h1;refine⟨ux,r,zAw a (i*sz),Lx,by simp[zAw],rfl,h4,fun b hb=>by simp[hb],fun c=>by simp[zBc,zAw,cg],?_,hg,yJ,hr⟩;intro c m qD;refine zG4 (by simp;omega) fun k u hk=>?_;simp only[cw,ck] at hk;split at hk
   ·have hf:=zEj h7 hu hk;rw[<- h8] at hf;have:=zDq hf;simp only[zAw];rw[show a.off+i*sz+c+k=a.off+(i*sz+(c+k)) by omega];exact this
   ·cases hk
 case box q0=>
  obtain⟨a,r,u0,L',rfl,h1,h2,h4,h5,⟨h6,vG⟩,h7⟩:=h;have jn:i=0:=by
   cases i with
   |zero=>rfl|succ i=>simp at hi
  subst jn;simp at hi;subst hi;subst h1;refine⟨u0,r,a,L',by simp,h2,h4,fun b hb=>by simp[hb],fun c=>rfl,?_,vG,h6,h7⟩;intro c m qD;refine zG4 (by simp;omega) fun k u hk=>?_;simp only[cw,ck] at hk;split at hk
  ·have:=zDq (c:=r) (o:=a.off) (n:=q0.cells.length) (k:=c+k) (u:=u) (by rw[h5];exact hk);rw[cg];exact this
  ·cases hk
end
theorem zCy(u:Value)(us:List Value):flat (u::us)=u.cells.toList++flat us:=rfl
theorem zKb{sz:Nat}:∀ {us:List Value},(∀ u∈us,u.cells.size=sz)->∀ lo,(flat us).drop (lo*sz)=flat (us.drop lo)
 |[],_,lo=>by simp[flat]|u::us,h,0=>by simp|u::us,h,lo+1=>by
  have hu:u.cells.toList.length=sz:=by simpa using h u (by simp)
  rw[zCy,cY,iV,<- dJ,List.drop_left' hu];exact zKb (fun u hu=>h u (by simp[hu])) lo
theorem zJo{sz:Nat}:∀ {us:List Value},(∀ u∈us,u.cells.size=sz)->∀ n,(flat us).take (n*sz)=flat (us.take n)
 |[],_,n=>by simp[flat]|u::us,h,0=>by simp[flat]|u::us,h,n+1=>by
  have hu:u.cells.toList.length=sz:=by simpa using h u (by simp)
  rw[fe,zCy,zCy,cY,iV,iz,bp (by omega),hu];congr 1;rw[show sz+n*sz-sz=n*sz by omega];exact zJo (fun u hu=>h u (by simp[hu])) n
theorem zBw{sz:Nat}:∀ {us:List Value},(∀ u∈us,u.cells.size=sz)->(flat us).length=us.length*sz
 |[],_=>by simp[flat]|u::us,h=>by
  have hu:u.cells.toList.length=sz:=by simpa using h u (by simp)
  rw[zCy,bt,hu,zBw (fun u hu=>h u (by simp[hu])),bE,cY,iV]
theorem zIU{c:Array Value}{o sz m:Nat}{us:List Value}(hs:∀ u∈us,u.cells.size=sz)(hm:us.length=m)(h:seg c o (m*sz)=flat us){lo n:Nat}(hn:lo+n<=m) :
  seg c (o+lo*sz) (n*sz)=flat ((us.drop lo).take n):=by
 have h1:seg c (o+lo*sz) (n*sz)=(((seg c o (m*sz)).drop (lo*sz)).take (n*sz)):=by
  apply cW;intro k;simp only[seg,cw,ck];by_cases hk:k<n*sz
  ·have:lo*sz+n*sz<=m*sz:=by rw[<- cQ];exact cZ _ hn
   rw[if_pos hk,if_pos hk,if_pos (by omega),cg]
  ·rw[if_neg hk,if_neg hk]
 rw[h1,h,zKb hs,zJo (fun u hu=>hs u (cy hu))]
theorem zA5.map_isAgg{us:List Value}{xs:List PV}(h:us.map zCr=xs.map PV.isAgg)(lo n:Nat):((us.drop lo).take n).map zCr=((xs.drop lo).take n).map PV.isAgg:=by
 rw[fy,fA,h,fy,fA]
section
variable {w:World} {Φ Φ':Nat->Prop} {rv:Nat->Value} {E E':Nat->PV}
theorem zB5{A:Al}{ps:List PV}{us:List Value}(h:zA5 w Φ A ps us [])(c n:Nat):zA5 w Φ A ((ps.drop c).take n) ((us.drop c).take n) []:=by
 have key:∀ (ps:List PV) (us:List Value) (c n:Nat),zA5 w Φ A ps us []->zA5 w Φ A ((ps.drop c).take n) ((us.drop c).take n) []:=by
  intro ps
  induction ps with
  |nil=>intro us c n h;rw[h.1];simp[zA5]
  | cons p ps ih =>
   intro us c n h;obtain⟨v,vs,L1,L2,rfl,hL,h1,h2⟩:=h;obtain⟨rfl,rfl⟩:L1=[]/\L2=[]:=by simpa using hL.symm
   cases c with
   |succ c=>simpa using ih vs c n h2|zero=>
    cases n with
    |zero=>simp[zA5]|succ n=>exact⟨v,_,[],[],rfl,rfl,h1,by simpa using ih vs 0 n h2⟩
 exact key ps us c n h
theorem zDc{a:PV}{v:Value}(hw:a.isWay=true)(h:zA9 w rv E a v):v.oneCell'=true:=by
 cases a<;>first|cases hw|skip
 ·obtain⟨_,a,rfl,_⟩:=h;rfl
 ·obtain⟨_,⟨a,c,rfl,_⟩,_⟩:=h;rfl
 ·obtain⟨_,a,c,rfl,_⟩:=h;rfl
 ·obtain⟨_,⟨b,rfl⟩,_⟩:=h;rfl
 ·exact h.elim
theorem zCg{A:Al}(hA:∀ a v,a.isWay=true->A a v->v.oneCell'=true){q:PV}{u:Value}{L:LN}(h:Rep w Φ A q u L)(hq:q.oneCell=true):u.oneCell'=true:=by
 cases q<;>first|cases hq|skip
 case int=>rw[h.1];rfl
 case bool=>rw[h.1];rfl
 case nilp=>rw[h.1];rfl
 case nilf=>rw[h.1];rfl
 case nilm=>rw[h.1];rfl
 case nn=>obtain⟨_,a,n,rfl⟩:=h;rfl
 case nils=>rw[h.1];rfl
 case sl=>obtain⟨_,⟨_,a,n,rfl,_⟩|⟨a,n,c,us,sz,rfl,_⟩⟩:=h<;>rfl
 case own=>obtain⟨_,_,rfl⟩|⟨a,n,c,us,L',_,rfl,_⟩:=h<;>rfl
 case ref=>obtain⟨_,a,c,u,rfl,_⟩:=h;rfl
 case box=>obtain⟨a,c,u,L',_,rfl,_⟩:=h;rfl
 case map=>obtain⟨_,b,e,rfl,_⟩:=h;rfl
 case omap=>obtain⟨b,e,_,rfl,_⟩:=h;rfl
 case func=>obtain⟨_,fs,cs,rfl,_⟩:=h;rfl
 all_goals exact hA _ _ rfl h.2
theorem zBP{v:Value}(h:v.oneCell'=true):v.cells=#[v]/\zCr v=false:=by
 cases v<;>first|exact⟨rfl,rfl⟩|cases h
theorem zBo{p:PV}(h:p.oneCell=true):p.cells=[p]/\p.isAgg=false:=by
 cases p<;>first|exact⟨rfl,rfl⟩|cases h
theorem zRu{A A':Al}(hA1:∀ a v,a.isWay=true->A a v->v.oneCell'=true)(hΦ:∀ b,Φ b->Φ' b)(hA:∀ a v,a.isWay=true->A a v->A' a v){x:PV}{xv:Value}{Lx:LN}(hx:Rep w Φ A x xv Lx)(hL:∀ b∈Lx,Φ' b){i c:Nat}{sh:ON}{v:Value}{a:Addr}
  (hv:v = .pointer (some a)) (ha:∀ a',zBc xv x i c=some a'->a=a'):Rep w Φ' A' (zDQ i c sh x) v []:=by
 simp only[zDQ]
 cases hh:zBh x with
 |none=>rfl
 | some xs =>
  simp only
  cases hi:xs[i]? with
  |none=>rfl
  | some y =>
   simp only;obtain⟨ux,row,ad,Ly,h1,h2,h3,h4,h5,h6,h7,h8,h9⟩:=zL3 hx hh hi;have jS:=ha _ (h5 c);have hbel:∀ a v,a.isWay=true->zGV A x a v->A' a v:=fun a v hw h=>hA a v hw (zGt h)
   cases sh with
   | some m =>
    simp only;by_cases yR:c+m<=y.cells.length
    ·rw[cU yR]
     cases hya:y.isAgg with
     |false=>rfl
     | true =>
      simp only[dR,cond_true];cases y<;>simp[PV.isAgg] at hya;rename_i cs;obtain⟨vs,rfl,hr⟩:=h9;have jj:=zB5 (zDL hΦ cs _ Ly (fun b hb=>hL b (h4 b hb)) hr) c m;have hZ:=hr.length;refine⟨rfl,a,row,.agg ((vs.toList.drop c).take m).toArray,hv,by rw[jS];rfl,by rw[jS];exact hL _ h1,by rw[jS];exact h3.any,?_,⟨?_,rfl⟩,?_⟩
      ·rw[jS];simp only[zAw,PV.cells,zBp,Value.cells];have:=h6 c m yR;simp only[PV.cells] at yR;rw[show((cs.drop c).take m).length=m by simp;omega,this];rfl
      ·simp only[Value.cells,PV.cells,zBp];simp at hZ ⊢;omega
      ·refine⟨_,rfl,?_⟩;have e:zAv ((cs.drop c).take m)=((zAv cs).drop c).take m:=by rw[zCF,zCF,fy,fA]
       simp only[PV.cells] ;rw[e];exact jj.mono zDt.refl hbel (by simp)
    ·have:ble (c+m) y.cells.length=false:=by
      cases hb:ble (c+m) y.cells.length with
      |false=>rfl|true=>exact absurd (bu hb) yR
     rw[this];rfl
   | none =>
    simp only
    cases hc:y.cells[c]? with
    |none=>rfl
    | some q =>
     simp only;obtain⟨u,La,Lu,Lb,hu,wT,uJ,_,_⟩:=h9.cell hc h7;have yO:c<y.cells.length:=(bg.1 hc).1
     cases u6:q.oneCell with
     |false=>rfl
     | true =>
      simp only[cond_true];have kR:=zBP (zCg (fun a v hw h=>hA1 a v hw (zGt h)) uJ u6);have wU:=zBo u6;refine⟨rfl,a,row,u,hv,by rw[jS];rfl,by rw[jS];exact hL _ h1,by rw[jS];exact h3.any,?_,⟨?_,?_⟩,?_⟩
      ·rw[jS,zDa,wU.1,kR.1];have:=h6 c 1 (by omega);simp only[zAw,bX];rw[this];have:c<ux.cells.toList.length:=by simpa[h8] using yO
       rw[b9 this];have:ux.cells.toList[c]=u:=by rw[bm this] at hu;simpa using hu
       simp[this]
      ·rw[zDa,wU.1,kR.1];rfl
      ·rw[zC8,wU.2,kR.2]
      ·exact(zEn hΦ q u Lu (fun b hb=>hL b (h4 b (by rw[wT];simp[hb]))) uJ).mono zDt.refl hbel (by simp)
end
theorem zN7{u u':Value}(h:u.cells.toList=u'.cells.toList)(ha:zCr u=zCr u'):u=u':=by
 have hc:u.cells=u'.cells:=by
  have:=congrArg List.toArray h;simpa using this
 cases hu:zCr u with
 |true=>
  rw[hu] at ha;cases u<;>simp[zCr] at hu;cases u'<;>simp[zCr] at ha;exact congrArg Value.agg hc
 |false=>
  rw[hu] at ha;have h1:u.cells=#[u]:=by cases u<;>first|rfl|simp[zCr] at hu
  have h2:u'.cells=#[u']:=by cases u'<;>first|rfl|simp[zCr] at ha
  rw[h1,h2] at hc;simpa using hc
theorem zQb{sz:Nat}:∀ {us us':List Value},(∀ u∈us,u.cells.size=sz)->(∀ u∈us',u.cells.size=sz)->us.map zCr=us'.map zCr->flat us=flat us'->us=us'
 |[],[],_,_,_,_=>rfl|[],_::_,_,_,h,_=>by simp at h|_::_,[],_,_,h,_=>by simp at h
 | u :: us,u'::us',h1,h2,ha,hf=>by
  simp only[bO,fg] at ha;rw[zCy,zCy] at hf;have hl:u.cells.toList.length=u'.cells.toList.length:=by
   have:=h1 u (by simp);have:=h2 u' (by simp);simp;omega
  obtain⟨h3,h4⟩:=List.append_inj hf hl;rw[zN7 h3 ha.1,zQb (fun u hu=>h1 u (by simp[hu])) (fun u hu=>h2 u (by simp[hu])) ha.2 h4]
section
variable {w:World} {Φ Φ':Nat->Prop}
theorem zEY.uniq{b:Nat}{c c':Array Value}(h:zEY w b c)(h':zEY w b c'):c=c':=by
 obtain⟨e,h⟩:=h;obtain⟨e',h'⟩:=h';rw[h] at h';cases h';rfl
mutual
theorem Rep.uniq{A A':Al}:∀ (p:PV) (v:Value) (L L':LN),Rep w Φ A p v L->Rep w Φ' A' p v L'->L=L'
 | .own sz xs,v,L,L',h,h'=>by
  obtain⟨h1,h2,h3⟩|⟨a,n,c,us,M,rfl,h1,h2,h3,h4,h5,h6,h7,h8,h9⟩:=h
  ·obtain⟨_,g2,_⟩|⟨a,n,c,us,M,rfl,g1,_⟩:=h'
   ·rw[h2,g2]
   ·rw[h3] at g1;cases g1
  ·obtain⟨_,_,g3⟩|⟨a',n',c',us',M',rfl,g1,g2,g3,g4,g5,g6,g7,g8,g9⟩:=h'
   ·rw[h1] at g3;cases g3
   ·rw[h1] at g1;cases g1;have:=h4.uniq g4;subst this;have:us=us':=zQb h7.1 g7.1 (h7.2.trans g7.2.symm) (h8.symm.trans g8);subst this;rw[zA5.uniq xs us M M' h9 g9]
 |.box q,v,L,L',h,h'=>by
  obtain⟨a,c,u,M,rfl,h1,h2,h4,h5,h6,h7⟩:=h;obtain⟨a',c',u',M',rfl,g1,g2,g4,g5,g6,g7⟩:=h';rw[h1] at g1;cases g1;have:=h4.uniq g4;subst this;have:u=u':=zN7 (h5.symm.trans g5) (h6.2.trans g6.2.symm);subst this;rw[Rep.uniq q u M M' h7 g7]
 |.omap es,v,L,L',h,h'=>by
  obtain⟨b,ents,rfl,h1,h3,h4⟩:=h;obtain⟨b',ents',rfl,g1,g3,g4⟩:=h';rw[h1] at g1;cases g1;rfl
 |.agg cs,v,L,L',h,h'=>by
  obtain⟨vs,rfl,h⟩:=h;obtain⟨vs',g1,h'⟩:=h';cases g1;exact zA5.uniq cs _ L L' h h'
 |.tup cs,v,L,L',h,h'=>by
  obtain⟨vs,rfl,h⟩:=h;obtain⟨vs',g1,h'⟩:=h';cases g1;exact zA5.uniq cs _ L L' h h'
 |.lock q,v,L,L',h,h'=>Rep.uniq q v L L' h h'|.bad,_,_,_,h,h'=>by rw[show _=_ from h,show _=_ from h']|.und,_,_,_,h,h'=>by rw[h.2,h'.2]|.int ..,_,_,_,h,h'=>by rw[h.2,h'.2]|.bool _,_,_,_,h,h'=>by rw[h.2,h'.2]|.nilp,_,_,_,h,h'=>by rw[h.2,h'.2]|.nilf,_,_,_,h,h'=>by rw[h.2,h'.2]|.nilm,_,_,_,h,h'=>by rw[h.2,h'.2]|.nn,_,_,_,h,h'=>by rw[h.1,h'.1]|.nils _,_,_,_,h,h'=>by rw[h.2,h'.2]|.sl xs,_,_,_,h,h'=>by rw[h.1,h'.1]|.ref q,_,_,_,h,h'=>by rw[h.1,h'.1]|.map es,_,_,_,h,h'=>by rw[h.1,h'.1]|.func _ _ _,_,_,_,h,h'=>by rw[h.1,h'.1]|.addr ..,_,_,_,h,h'=>by rw[h.1,h'.1]|.bor ..,_,_,_,h,h'=>by rw[h.1,h'.1]|.bsl ..,_,_,_,h,h'=>by rw[h.1,h'.1]|.bmap ..,_,_,_,h,h'=>by rw[h.1,h'.1]|.yld _,_,_,_,h,h'=>by rw[h.1,h'.1]|.log ..,_,_,_,h,h'=>by rw[h.1,h'.1]
theorem zA5.uniq{A A':Al}:∀ (ps:List PV) (vs:List Value) (L L':LN),zA5 w Φ A ps vs L->zA5 w Φ' A' ps vs L'->L=L'
 |[],_,_,_,h,h'=>by rw[h.2,h'.2]|p::ps,vs,L,L',h,h'=>by
  obtain⟨v,vs',L1,L2,rfl,rfl,h1,h2⟩:=h;obtain⟨v',vs'',M1,M2,g0,rfl,g1,g2⟩:=h';cases g0;rw[Rep.uniq p v L1 M1 h1 g1,zA5.uniq ps vs' L2 M2 h2 g2]
end
end
theorem zIE{w:World}{Φ Φ':Nat->Prop}{A A':Al}(hΦ:∀ b,Φ b->Φ' b){x:PV}{xv:Value}{Lx:LN}(hx:Rep w Φ A x xv Lx)(hL:∀ b∈Lx,Φ' b){z lo n:Nat}{v:Value}
  (ha:∀ sz xs,x = .own sz xs->z=sz/\zBZ v xv sz lo n):Rep w Φ' A' (zCh lo n x) v []:=by
 cases x<;>try rfl
 rename_i sz xs;simp only[zCh];by_cases yR:lo+n<=xs.length
 ·rw [cU yR];simp only [cond_true];obtain ⟨_,hs⟩:=ha sz xs rfl;obtain ⟨h1,h2,h3⟩ | ⟨a,m,c,us,M,rfl,h1,h2,h3,h4,h5,h6,h7,h8,h9⟩:=hx
  ·subst h1;subst h3;have hn:n=0:=by simp at yR;omega
   subst hn;refine⟨rfl,.inl ⟨by simp[zAv],none,0,hs.1,fun _=>rfl⟩⟩
  ·subst h1;obtain⟨rfl,yZ⟩:=hs;have jG:us.length=xs.length:=by have:=congrArg length h7.2;simpa using this
   by_cases hn:n=0
   ·subst hn;exact⟨rfl,.inl ⟨by simp[zAv],_,_,rfl,fun h=>by cases h⟩⟩
   ·refine⟨rfl,.inr ⟨zAw a (lo*sz),m-lo,c,(us.drop lo).take n,sz,?_,rfl,?_,hL _ (by simp[zAw]),h4.any,?_,⟨?_,?_⟩,?_,?_⟩⟩
    ·rw[zBp,show((xs.drop lo).take n).length=n by simp;omega]
    ·rw[zBp];simp;omega
    ·intro y hy;rw[zCF] at hy;obtain⟨y,u7,rfl⟩:=bQ.1 hy;rw[zDa];exact h6 y (cy (cL u7))
    ·intro u hu;exact h7.1 u (cy (cL hu))
    ·rw[zHQ];exact zA5.map_isAgg h7.2 lo n
    ·rw[zBp,show((xs.drop lo).take n).length=n by simp;omega];exact zIU h7.1 jG h8 (by omega)
    ·have e:zAv ((xs.drop lo).take n)=((zAv xs).drop lo).take n:=by rw[zCF,zCF,fy,fA]
     rw[e];exact zB5 (zDL hΦ xs us M (fun b hb=>hL b (by simp[hb])) h9) lo n
 ·have:ble (lo+n) xs.length=false:=by
   cases hb:ble (lo+n) xs.length with
   |false=>rfl|true=>exact absurd (bu hb) yR
  rw[this];rfl
theorem zH1{w:World}{Φ Φ':Nat->Prop}{A A':Al}(hΦ:∀ b,Φ b->Φ' b){x:PV}{xv:Value}{Lx:LN}(hx:Rep w Φ A x xv Lx)(hL:∀ b∈Lx,Φ' b){v:Value}
  (ha:∀ es,x = .omap es->v=xv):Rep w Φ' A' (zFa x) v []:=by
 cases x<;>try rfl
 rename_i es;obtain⟨b,ents,rfl,h1,h3,h4⟩:=hx;refine⟨rfl,b,ents,(ha es rfl).trans h1,hL _ (by simp),h3,zEa.same (fun b hb=>⟨hΦ b hb,rfl⟩) es _ _ h4⟩
section
variable {w:World} {Φ Φ':Nat->Prop}
mutual
theorem Rep.ways{A A':Al}:∀ (p:PV) (v:Value) (L:LN),(∀ a v,a.isWay=true->(∀ x∈a.ways,x∈p.ways)->A a v->A' a v)->Rep w Φ A p v L->Rep w Φ A' p v L
 |.bad,_,_,_,h=>h|.und,_,_,_,h=>h|.int ..,_,_,_,h=>h|.bool _,_,_,_,h=>h|.nilp,_,_,_,h=>h|.nilf,_,_,_,h=>h|.nilm,_,_,_,h=>h|.nn,_,_,_,h=>h|.nils _,_,_,_,h=>h|.agg cs,v,L,hA,h=>by
  obtain⟨vs,rfl,h⟩:=h;exact⟨vs,rfl,zA5.ways cs _ L (fun a v hw hx ha=>hA a v hw hx ha) h⟩
 |.tup cs,v,L,hA,h=>by
  obtain⟨vs,rfl,h⟩:=h;exact⟨vs,rfl,zA5.ways cs _ L (fun a v hw hx ha=>hA a v hw hx ha) h⟩
 |.sl xs,_,_,_,h=>h|.own sz xs,_,_,_,h=>h|.ref q,v,L,hA,h=>by
  obtain⟨rfl,a,c,u,h1,h2,h3,h4,h5,h6,h7⟩:=h;exact⟨rfl,a,c,u,h1,h2,h3,h4,h5,h6,Rep.ways q u [] (fun a v hw hx ha=>hA a v hw hx ha) h7⟩
 |.box q,v,L,hA,h=>by
  obtain⟨a,c,u,L',h0,h1,h2,h4,h5,h6,h7⟩:=h;exact⟨a,c,u,L',h0,h1,h2,h4,h5,h6,Rep.ways q u L' (fun a v hw hx ha=>hA a v hw hx ha) h7⟩
 |.map es,_,_,_,h=>h|.omap es,_,_,_,h=>h|.func g a b,v,L,hA,h=>by
  obtain⟨rfl,fs,cs,h1,h2,h3⟩:=h;exact⟨rfl,fs,cs,h1,zA5.ways a _ [] (fun x v hw hx ha=>hA x v hw (fun y hy=>bk.2 (.inl (hx y hy))) ha) h2,zA5.ways b _ [] (fun x v hw hx ha=>hA x v hw (fun y hy=>bk.2 (.inr (hx y hy))) ha) h3⟩
 |.addr ..,v,L,hA,h=>⟨h.1,hA _ _ rfl (fun _ h=>h) h.2⟩
 |.bor ..,v,L,hA,h=>⟨h.1,hA _ _ rfl (fun _ h=>h) h.2⟩
 |.bsl ..,v,L,hA,h=>⟨h.1,hA _ _ rfl (fun _ h=>h) h.2⟩
 |.bmap ..,v,L,hA,h=>⟨h.1,hA _ _ rfl (fun _ h=>h) h.2⟩
 |.lock q,v,L,hA,h=>Rep.ways q v L (fun a v hw hx ha=>hA a v hw hx ha) h
 |.yld _,v,L,hA,h=>h|.log ..,v,L,hA,h=>⟨h.1,hA _ _ rfl (fun _ h=>h) h.2⟩
theorem zA5.ways{A A':Al}:∀ (ps:List PV) (vs:List Value) (L:LN),(∀ a v,a.isWay=true->(∀ x∈a.ways,x∈zBq ps)->A a v->A' a v)->zA5 w Φ A ps vs L->zA5 w Φ A' ps vs L
 |[],_,_,_,h=>h|p::ps,vs,L,hA,h=>by
  obtain⟨v,vs',L1,L2,h0,h1,h2,h3⟩:=h;exact⟨v,vs',L1,L2,h0,h1,Rep.ways p v L1 (fun a v hw hx ha=>hA a v hw (fun y hy=>bk.2 (.inl (hx y hy))) ha) h2,zA5.ways ps vs' L2 (fun a v hw hx ha=>hA a v hw (fun y hy=>bk.2 (.inr (hx y hy))) ha) h3⟩
end
mutual
theorem zGW:∀ p:PV,∀ x∈(zAY p).ways,x∈p.ways
 |.agg cs,x,h=>zHC cs x h|.box q,x,h=>zGW q x h|.own ..,x,h=>by cases h|.omap _,x,h=>by cases h|.tup _,x,h=>by cases h|.lock _,x,h=>by cases h|.bad,_,h=>h|.und,_,h=>h|.int ..,_,h=>h|.bool _,_,h=>h|.nilp,_,h=>h|.nilf,_,h=>h|.nilm,_,h=>h|.nn,_,h=>h|.nils _,_,h=>h|.sl _,_,h=>h|.ref _,_,h=>h|.map _,_,h=>h|.func ..,_,h=>h|.addr ..,_,h=>h|.bor ..,_,h=>h|.bsl ..,_,h=>h|.bmap ..,_,h=>h|.yld _,_,h=>h|.log ..,_,h=>h
theorem zHC:∀ ps:List PV,∀ x∈zBq (zAv ps),x∈zBq ps
 |[],_,h=>h|p::ps,x,h=>by
  simp only[zAv,zBq,bk] at h ⊢;rcases h with h|h
  ·exact .inl (zGW p x h)
  ·exact .inr (zHC ps x h)
end
theorem zK1(p:PV):(zAY p).oneCell=p.oneCell:=by cases p<;>rfl
theorem zEf(ag:Bool)(sz:Nat):∀ (m:Nat) (cs:List PV),(zCt ag sz m cs).length=m
 |0,_=>rfl|m+1,cs=>by simp[zCt,zEf ag sz m]
theorem zGD{A:Al}(hA:∀ a v,a.isWay=true->A a v->v.oneCell'=true){ag:Bool}{sz:Nat}:∀ (m:Nat) (ps:List PV) (us:List Value),ps.length=m*sz->(ag=false->sz=1/\∀ q∈ps,q.oneCell=true)->zA5 w Φ A ps us [] ->
  ∃ us',zA5 w Φ A (zCt ag sz m ps) us' []/\flat us'=us/\(∀ u∈us',u.cells.size=sz)/\us'.map zCr=(zCt ag sz m ps).map PV.isAgg/\∀ x∈zCt ag sz m ps,x.cells.length=sz
 |0,ps,us,hl,_,h=>by
  have:ps=[]:=br (by simpa using hl);subst this;exact⟨[],⟨rfl,rfl⟩,by rw[h.1];rfl,by simp,rfl,by simp[zCt]⟩
 | m + 1,ps,us,hl,ho,h=>by
  have jG:=h.length;rw[cY] at hl;have h1:zA5 w Φ A (ps.take sz) (us.take sz) []:=by simpa using zB5 h 0 sz
  have h2:zA5 w Φ A (ps.drop sz) (us.drop sz) []:=by
   have:=zB5 h sz (ps.length-sz);rwa[bp (by simp),bp (by simp;omega)] at this
  obtain⟨us',h3,h4,h5,h6,h7⟩:=zGD hA (ag:=ag) (sz:=sz) m (ps.drop sz) (us.drop sz) (by simp;omega) (fun jp=>⟨(ho jp).1,fun q hq=>(ho jp).2 q (cy hq)⟩) h2
  cases ag with
  | true =>
   refine⟨.agg (us.take sz).toArray::us',⟨_,us',[],[],rfl,rfl,⟨_,rfl,by simpa using h1⟩,h3⟩,?_,?_,?_,?_⟩
   ·rw[zCy,h4];simp[Value.cells]
   ·intro u hu;rcases bD.1 hu with rfl|hu
    ·simp[Value.cells];omega
    ·exact h5 u hu
   ·simp only[zCt,cond_true,bO,h6];rfl
   ·intro x hx;simp only[zCt,cond_true] at hx;rcases bD.1 hx with rfl|hx
    ·simp[PV.cells];omega
    ·exact h7 x hx
  | false =>
   obtain⟨u8,yT⟩:=ho rfl;subst u8
   match ps,us,h,yT,hl with
   | p :: ps,us,h,yT,hl =>
    obtain⟨v,vs',L1,L2,rfl,hL,g1,g2⟩:=h;obtain⟨rfl,rfl⟩:L1=[]/\L2=[]:=by simpa using hL.symm
    have hp:=yT p (by simp);have k1:=zBP (zCg hA g1 hp);have k2:=zBo hp;refine⟨v::us',⟨v,us',[],[],rfl,rfl,g1,h3⟩,?_,?_,?_,?_⟩
    ·rw[zCy,h4,k1.1];simp
    ·intro u hu;rcases bD.1 hu with rfl|hu
     ·rw[k1.1];rfl
     ·exact h5 u hu
    ·simp only[zCt,cond_false,List.headD_cons,bO,k1.2,k2.2];congr 1
    ·intro x hx;simp only[zCt,cond_false,List.headD_cons] at hx;rcases bD.1 hx with rfl|hx
     ·rw[k2.1];rfl
     ·exact h7 x hx
end
section
variable {w:World} {Φ Φ':Nat->Prop} {rv:Nat->Value} {E E':Nat->PV} {A:Al}
theorem zGZ{ps:List PV}{us:List Value}{Lx:LN}(h:zA5 w Φ A ps us Lx)(c n:Nat):∃ Ly,(∀ b∈Ly,b∈Lx)/\zA5 w Φ A ((ps.drop c).take n) ((us.drop c).take n) Ly:=by
 induction ps generalizing us Lx c n with
 |nil=>rw[h.1];exact⟨[],by simp,by simp[zA5]⟩
 | cons p ps ih =>
  obtain⟨v,vs',L1,L2,rfl,rfl,g1,g2⟩:=h
  cases c with
  |succ c=>obtain⟨Ly,h1,h2⟩:=ih g2 c n;exact⟨Ly,fun b hb=>by simp[h1 b hb],by simpa using h2⟩
  | zero =>
   cases n with
   |zero=>exact⟨[],by simp,by simp[zA5]⟩|succ n=>
    obtain⟨Ly,h1,h2⟩:=ih g2 0 n;exact⟨L1++Ly,fun b hb=>by rcases bk.1 hb with h|h;simp[h];simp[h1 b h],v,_,L1,Ly,rfl,rfl,g1,by simpa using h2⟩
end
section
variable {w:World} {Φ Φ':Nat->Prop} {rv:Nat->Value} {E E':Nat->PV}
theorem zJJ{a:PV}{v:Value}(hw:a.isWay=true)(h:zA9 w rv E a v):a.ways≠[]:=by
 cases a<;>first|(cases hw;done)|exact h.elim|simp[PV.ways]
theorem zHE{A A':Al}(hA1:∀ a v,a.isWay=true->A a v->a.ways≠[])(hΦ:∀ b,Φ b->Φ' b){x:PV}{xv:Value}{Li:LN}(wV:Rep w Φ A x xv Li)(jM:∀ b∈Li,Φ' b){i c sz m cap:Nat}{ag:Bool}{v:Value}{ad:Addr}
  (hv:v = .slice (some ad) m cap) (yZ:m<=cap) (hn:∀ a',zBc xv x i c=some a'->ad=a'):Rep w Φ' A' (zCA i c sz ag m x) v []:=by
 simp only[zCA]
 cases hh:zBh x with
 |none=>rfl
 | some xs =>
  simp only
  cases hi:xs[i]? with
  |none=>rfl
  | some y =>
   simp only
   cases hc:(zCs ag sz m ((y.cells.drop c).take (m*sz))&&(zBq y.cells).isEmpty) with
   |false=>rfl
   | true =>
    simp only[cond_true];simp only[bb,zCs] at hc;obtain⟨⟨yO,vK⟩,jk⟩:=hc;have yO:=bd yO;obtain⟨ux,row,ad0,Lx,k1,k2,k3,k4,k5,k6,k7,k8,k9⟩:=zL3 wV hh hi;have jS:=hn _ (k5 c);subst jS;have k9':=k9.mono (A':=A) zDt.refl (fun _ _ _ h=>zGt h) (fun _ _=>rfl);have zBh:=k9'.cellsAll k7;have qT:zA5 w Φ zCm y.cells ux.cells.toList Lx:=zBh.ways _ _ _ fun a v hw hx ha=>by
     have h0:zBq y.cells=[]:=by simpa using jk
     rw[h0] at hx;have h1:=hA1 a v hw ha
     cases vL:a.ways with
     |nil=>exact absurd vL h1|cons z zs=>have:=hx z (by rw[vL];simp);cases this
    obtain⟨Ly,hly,qU⟩:=zGZ qT c (m*sz);have uk:=zDL hΦ _ _ Ly (fun b hb=>jM b (k4 b (hly b hb))) qU;obtain⟨us',q1,q2,q3,q4,q5⟩:=zGD (ag:=ag) (sz:=sz) (fun a v _ h=>h.elim) m _ _ (by rw[zBp];exact yO) (fun jp=>by
     simp only[jp,co,bb] at vK;refine⟨bd vK.1,fun q hq=>?_⟩;rw[zCF] at hq;obtain⟨q0,hq0,rfl⟩:=bQ.1 hq;rw[zK1];exact bj.1 vK.2 q0 hq0) uk
    have wW:(zCt ag sz m (zAv ((y.cells.drop c).take (m*sz)))).length=m:=zEf _ _ _ _;by_cases hm:m=0
    ·subst hm;exact⟨rfl,.inl ⟨rfl,_,_,hv,fun h=>by cases h⟩⟩
    ·refine⟨rfl,.inr ⟨zAw ad0 c,cap,row,us',sz,by rw[wW];exact hv,rfl,by rw[wW];exact yZ,jM _ k1,k3.any,q5,⟨q3,q4⟩,?_,q1⟩⟩;rw[wW,q2];by_cases qV:m*sz=0
     ·rw[qV];simp[seg]
     ·have:c+m*sz<=y.cells.length:=by simp at yO;omega
      exact k6 c (m*sz) this
end
theorem zI3(r:Nat)(pre:zA2)(q:PV):Tame (inl r pre q):=by
 have h1 : ∀ i c sh x,(zDQ i c sh x).isAgg=false/\(zDQ i c sh x).dull=true:=by
  intro i c sh x;simp only[zDQ];split
  ·split
   ·split
    ·cases (ble _ _&&PV.isAgg _)<;>exact⟨rfl,rfl⟩
    ·split
     ·rename_i q _;cases q.oneCell<;>exact⟨rfl,rfl⟩
     ·exact⟨rfl,rfl⟩
   ·exact⟨rfl,rfl⟩
  ·exact⟨rfl,rfl⟩
 have h2:∀ lo n x,(zCh lo n x).isAgg=false/\(zCh lo n x).dull=true:=by
  intro lo n x;cases x<;>try exact⟨rfl,rfl⟩
  simp only[zCh];cases ble _ _<;>exact⟨rfl,rfl⟩
 have h5:∀ i c sz ag m x,(zCA i c sz ag m x).isAgg=false/\(zCA i c sz ag m x).dull=true:=by
  intro i c sz ag m x;simp only[zCA];split
  ·split
   ·cases (zCs ag sz m _&&_)<;>exact⟨rfl,rfl⟩
   ·exact⟨rfl,rfl⟩
  ·exact⟨rfl,rfl⟩
 have h3:∀ x,(zFa x).isAgg=false/\(zFa x).dull=true:=by intro x;cases x<;>exact⟨rfl,rfl⟩
 have h4:∀ (o:Option PV) (f:PV->PV),(∀ x,(f x).isAgg=false/\(f x).dull=true)->(zFN o f).isAgg=false/\(zFN o f).dull=true:=by
  intro o f hf;cases o with
  |none=>exact⟨rfl,rfl⟩|some x=>exact hf x
 constructor
 ·intro p;cases p<;>try rfl
  all_goals
   rename_i a b;simp only[inl];cases zAT r pre _ _<;>first|rfl|exact(h4 _ _ (h1 _ _ _)).1|exact(h4 _ _ (h2 _ _)).1|exact(h4 _ _ h3).1|exact(h4 _ _ (h5 _ _ _ _ _)).1
 ·intro p hp;cases p<;>first|(cases hp;done)|skip
  all_goals
   first|rfl|skip
  all_goals
   simp only[inl];cases zAT r pre _ _<;>first|rfl|exact(h4 _ _ (h1 _ _ _)).2|exact(h4 _ _ (h2 _ _)).2|exact(h4 _ _ h3).2|exact(h4 _ _ (h5 _ _ _ _ _)).2
theorem zBT{w:World}{Φ:Nat->Prop}{A:Al}{p:PV}{v:Value}{L:LN}(h:Rep w Φ A p v L){pre:zA2}{q:PV}(hq:zAF p pre=some q) :
  ∃ nv Li,zAZ w v p pre=some (nv,q)/\(∀ b∈Li,b∈L)/\Rep w Φ (zJc A p pre) q nv Li:=by
 obtain⟨nv,La,Li,Lb,h1,h2,h3,_⟩:=Rep.zip pre h hq;exact⟨nv,Li,h1,fun b hb=>by rw[h2];simp[hb],h3⟩
theorem zEr{r r':Nat}{pre q:zA2}:zAT r pre r' q=true↔r'=r/\∃ rest,q=pre++rest:=by
 simp only[zAT,bb,fB];constructor
 ·rintro⟨h1,rest,h2⟩;exact⟨bd h1,rest,h2.symm⟩
 ·rintro⟨rfl,rest,h2⟩;exact⟨cH _,rest,h2.symm⟩
section
variable {w w0:World} {U Φ0 Φ:Nat->Prop} {rv:Nat->Value} {E:Nat->PV} {L:Nat->LN}
theorem Conf.ice(h:Conf w0 U Φ0 w Φ rv E L)(M:Nat->Bool){r:Nat}(hr:r<zAa){pre:zA2}{q root':PV}(j6:(E r).unlock=E r)(hn:zAF (E r) pre=some q)
  (hm:zAA (fun _=>some (zAY q)) (E r) pre=some root') (yK:root'.unlock=root') :
  ∃ nv Li L',zAZ w (rv r) (E r) pre=some (nv,q)/\Rep w Φ (zJc (zA9 w rv E) (E r) pre) q nv Li/\(∀ s,s≠r->L' s=L s) /\
   Conf w0 U Φ0 w (fun b=>Φ b\/b∈Li) rv (fun s=>if s<zAa\/M s=true then(if s=r then root' else E s).mapW (inl r pre q) else E s) L':=by
 obtain⟨nv,La,Li,Lb,vc,hL,yA,wS,ui⟩:=Rep.zip pre (h.rep r) hn;have hΦ:∀ b,Φ b->Φ b\/b∈Li:=fun b hb=>.inl hb;have vM:=zI3 r pre q;have yU:=h.nodup r;rw[hL] at yU;simp only[bW] at yU;have ve:∀ b∈Li,b∉La++Lb:=by
  intro b hb jR;rcases bk.1 jR with h2|h2
  ·exact yU.1.2.2 b h2 b hb rfl
  ·exact yU.2.2 b (by simp[hb]) b h2 rfl
 have hK:∀ a u,zA9 w rv E a u->zA9 w rv (fun s=>if s<zAa\/M s=true then(if s=r then root' else E s).mapW (inl r pre q) else E s) a u:=by
  intro a u ha;have yI:=zC6 ha;refine ha.mono fun nv2 np2 j4 hh=>?_;simp only[yI,true_or,if_true] at j4;rw[zDD vM] at j4;obtain⟨np1,wG,ul⟩:=zCZ vM j4 hh;by_cases uj:(zBb a).1=r
  ·rw[uj] at wG ⊢;simp only[if_true,yK] at wG;rcases ui w (zAY q) root' (fun _ _=>rfl) (fun _=>zC8 q) hm _ nv2 np1 wG (zDY ul) with⟨rest,_,h2⟩|⟨np0,h1,h2⟩
   ·have:=zID h2;rw[zDY ul] at this;cases this
   ·rw[j6];exact⟨np0,h1,h2.trans ul⟩
  ·simp only[uj,if_false] at wG;exact⟨np1,wG,ul⟩
 have hw1:∀ a v,a.isWay=true->zJc (zA9 w rv E) (E r) pre a v->zA9 w rv (fun s=>if s<zAa\/M s=true then (if s=r then root' else E s).mapW (inl r pre q) else E s) a v:=fun a v _ ha=>hK a v (zEO ha);have hA : ∀ a u,a.isWay=true->zA9 w rv E a u->Rep w (fun b=>Φ b\/b∈Li) (zA9 w rv (fun s=>if s<zAa\/M s=true then (if s=r then root' else E s).mapW (inl r pre q) else E s)) (inl r pre q a) u []:=by
  intro a u vJ ha;have node:∀ rest x,zAF q rest=some x->∃ xv Lx,zAZ w (rv r) (E r).unlock (pre++rest)=some (xv,x)/\(∀ b∈Lx,b∈Li)/\Rep w Φ (zJc (zJc (zA9 w rv E) (E r) pre) q rest) x xv Lx:=by
   intro rest x hx;obtain⟨xv,Lx,h1,h2,h3⟩:=zBT yA hx;exact⟨xv,Lx,by rw[j6,zDs,vc];exact h1,h2,h3⟩
  have ho1:∀ rest a v,a.isWay=true->zJc (zJc (zA9 w rv E) (E r) pre) q rest a v->v.oneCell'=true:=fun rest a v hw h=>zDc hw (zEO (zEO h));cases a<;>first|(cases vJ;done)|skip
  case addr r' p i c sh=>
   simp only[inl]
   cases hu:zAT r pre r' p with
   |false=>exact⟨rfl,hK _ _ ha⟩
   | true =>
    obtain⟨rfl,rest,rfl⟩:=zEr.1 hu;simp only[cond_true,ij]
    cases hg:zAF q rest with
    |none=>rfl|some x=>
     obtain⟨xv,Lx,h1,h2,h3⟩:=node rest x hg;obtain⟨_,a',h4,h5,h6⟩:=ha;exact zRu (ho1 rest) hΦ (fun a v hw h=>hw1 a v hw (zEO h)) h3 (fun b hb=>.inr (h2 b hb)) h4 fun a'' gg=>h6 xv x h1 a'' gg
  case bor r' p z lo n=>
   simp only[inl]
   cases hu:zAT r pre r' p with
   |false=>exact⟨rfl,hK _ _ ha⟩
   | true =>
    obtain⟨rfl,rest,rfl⟩:=zEr.1 hu;simp only[cond_true,ij]
    cases hg:zAF q rest with
    |none=>rfl
    | some x =>
     obtain⟨xv,Lx,h1,h2,h3⟩:=node rest x hg;obtain⟨_,_,h6⟩:=ha;exact zIE hΦ h3 (fun b hb=>.inr (h2 b hb)) fun sz xs hx=>by
      subst hx;obtain⟨sz',xs',h7,h8,h9⟩:=h6 xv _ h1 rfl;cases h7;exact⟨h8,h9⟩
  case bsl r' p i c sz ag n=>
   simp only[inl]
   cases hu:zAT r pre r' p with
   |false=>exact⟨rfl,hK _ _ ha⟩
   | true =>
    obtain⟨rfl,rest,rfl⟩:=zEr.1 hu;simp only[cond_true,ij]
    cases hg:zAF q rest with
    |none=>rfl|some x=>
     obtain⟨xv,Lx,h1,h2,h3⟩:=node rest x hg;obtain⟨_,a',cap,h4,yZ,h5,h6⟩:=ha;exact zHE (fun a v hw h=>zJJ hw (zEO (zEO h))) hΦ h3 (fun b hb=>.inr (h2 b hb)) h4 yZ fun a'' gg=>h6 xv x h1 a'' gg
  case bmap r' p=>
   simp only[inl]
   cases hu:zAT r pre r' p with
   |false=>exact⟨rfl,hK _ _ ha⟩
   | true =>
    obtain⟨rfl,rest,rfl⟩:=zEr.1 hu;simp only[cond_true,ij]
    cases hg:zAF q rest with
    |none=>rfl|some x=>
     obtain⟨xv,Lx,h1,h2,h3⟩:=node rest x hg;obtain⟨_,_,h6⟩:=ha;exact zH1 hΦ h3 (fun b hb=>.inr (h2 b hb)) fun es hx=>h6 xv x h1 es hx
  case log=>exact ha.elim
 have hs:zDt w w Φ (fun b=>Φ b\/b∈Li):=fun b hb=>⟨.inl hb,rfl⟩;have yY:∀ b,b∈La++Lb->b∈L r:=fun b hb=>by rw[hL];simp at hb ⊢;rcases hb with h|h<;>simp[h]
 refine⟨nv,Li,fun s=>if s=r then La++Lb else L s,vc,yA,fun s hs=>by simp[hs],?_,?_,?_,?_,?_,fun b hb=>.inl (h.frz0 b hb),h.size,h.kept,h.os,h.tape,h.output⟩
 ·intro s;by_cases yV:s=r
  ·subst yV;simp only[if_true,hr,true_or];have h1:=wS w (fun b=>Φ b\/b∈Li) (zA9 w rv E) (zAY q) [] root' (fun _ _ _ h=>h) hs (fun _ _=>rfl) (fun _=>zC8 q) (zEn hΦ q nv Li (fun b hb=>.inr hb) yA) hm;exact Rep.map vM.agg zDt.refl hA _ _ _ (fun _ _=>rfl) (by simpa using h1)
  ·by_cases yp:s<zAa\/M s=true
   ·simp only[yV,yp,if_false,if_true];exact Rep.map vM.agg hs hA _ _ _ (fun _ _=>rfl) (h.rep s)
   ·simp only[yV,yp,if_false];exact(h.rep s).mono hs (fun a u _ ha=>hK a u ha) (fun _ _=>rfl)
 ·intro s;by_cases yV:s=r
  ·subst yV;simp only[if_true,bW];exact⟨yU.1.1,yU.2.1,fun a ha b hb e=>yU.2.2 a (by simp[ha]) b hb e⟩
  ·simp only[yV,if_false];exact h.nodup s
 ·intro s s' hI b hb yN;by_cases yV:s=r
  ·subst yV;simp only[if_true] at hb;rw[if_neg (dW hI)] at yN;exact h.disj s s' hI b (yY b hb) yN
  ·rw[if_neg yV] at hb;by_cases hsr':s'=r
   ·subst hsr';simp only[if_true] at yN;exact h.disj s s' hI b hb (yY b yN)
   ·rw[if_neg hsr'] at yN;exact h.disj s s' hI b hb yN
 ·intro s b hb;have jY:∃ t,b∈L t/\b∉Li:=by
   by_cases yV:s=r
   ·subst yV;simp only[if_true] at hb;exact⟨s,yY b hb,fun u5=>ve b u5 hb⟩
   ·rw[if_neg yV] at hb;exact⟨s,hb,fun u5=>h.disj s r yV b hb (by rw[hL];simp[u5])⟩
  obtain⟨t,h1,h2⟩:=jY;obtain⟨h3,h4,h5⟩:=h.own t b h1;exact⟨h3,fun hp=>hp.elim h4 h2,h5⟩
 ·intro b hb;rcases hb with hb|hb
  ·exact h.frz b hb
  ·obtain⟨h3,h4,h5⟩:=h.own r b (by rw[hL];simp[hb]);exact⟨h3,.inr h5⟩
end
end Go.Eng
namespace Go.Eng
open Go
theorem Env.get_set(e:Env)(s:Nat)(p:PV)(t:Nat):(e.set s p).get t=if t=s then p else e.get t:=by
 induction e with
 | nil =>
  simp only[Env.set,Env.get];by_cases h:t=s
  ·subst h;simp
  ·have:beq s t=false:=by
    cases hb:beq s t with
    |false=>rfl|true=>exact absurd (bd hb).symm h
   simp[this,h]
 | cons x e ih =>
  obtain⟨k,v⟩:=x;simp only[Env.set]
  cases hk:beq k s with
  | true =>
   have:=bd hk;subst this;simp only[cond_true,Env.get];by_cases h:t=k
   ·subst h;simp
   ·have:beq k t=false:=by
     cases hb:beq k t with
     |false=>rfl|true=>exact absurd (bd hb).symm h
    simp[this,h]
  | false =>
   have hI:k≠s:=fun h=>by subst h;simp at hk
   simp only[cond_false]
   cases ble s k with
   | true =>
    simp only[cond_true,Env.get];by_cases h:t=s
    ·subst h;simp
    ·have:beq s t=false:=by
      cases hb:beq s t with
      |false=>rfl|true=>exact absurd (bd hb).symm h
     simp[this,h]
   | false =>
    simp only[cond_false,Env.get,ih]
    cases hb:beq k t with
    |true=>
     have:=bd hb;subst this;simp[hI]
    |false=>rfl
theorem Env.get_map(e:Env){g:PV->PV}(hg:g .bad = .bad)(s:Nat):Env.get (e.map fun x=>(x.1,g x.2)) s=g (e.get s):=by
 induction e with
 |nil=>simp[Env.get,hg]|cons x e ih=>
  obtain⟨k,v⟩:=x;simp only[bO,Env.get,ih];cases beq k s<;>rfl
theorem Env.get_kill(e:Env)(r:Nat)(pre:zA2)(s:Nat):(e.kill r pre).get s=(e.get s).mapW (lose r pre):=Env.get_map e (g:=fun p=>p.mapW (lose r pre)) rfl s
theorem Env.get_killEx(e:Env)(r:Nat)(keep:List zA2)(s:Nat):(e.killEx r keep).get s=(e.get s).mapW (zBU r keep):=Env.get_map e (g:=fun p=>p.mapW (zBU r keep)) rfl s
theorem Env.get_drop(e:Env)(l:LN)(s:Nat):(e.drop l).get s=if zNR l s then .bad else e.get s:=by
 induction e with
 |nil=>simp[Env.drop,Env.get]
 | cons x e ih =>
  obtain⟨k,v⟩:=x;simp only[Env.drop] at ih ⊢;simp only[dA];by_cases hk:zNR l k=true
  ·simp only[hk,dH,bq,if_false,ih,Env.get]
   cases hb:beq k s with
   |true=>have:=bd hb;subst this;simp[hk]|false=>rfl
  ·simp only[hk,il,if_true,Env.get,ih]
   cases hb:beq k s with
   |true=>have:=bd hb;subst this;simp[hk]|false=>rfl
theorem Env.frz_eq{e e':Env}{r:Nat}{pre:zA2}(h:e.frz r pre=some e') :
  ∃ q root,(e.get r).isLock=false/\zAF (e.get r) pre=some q/\zAA (fun _=>some (zAY q)) (e.get r) pre=some root/\∀ s,e'.get s=(if s=r then root else e.get s).mapW (inl r pre q):=by
 simp only[Env.frz] at h
 cases hl:(e.get r).isLock with
 |true=>rw[hl] at h;cases h|false=>
 rw[hl] at h;simp only[cond_false] at h
 cases hq:zAF (e.get r) pre with
 |none=>rw[hq] at h;cases h
 | some q =>
  rw[hq] at h;simp only at h
  cases hm:zAA (fun _=>some (zAY q)) (e.get r) pre with
  |none=>rw[hm] at h;cases h|some root=>
   rw[hm] at h;simp only[ba] at h;subst h;refine⟨q,root,rfl,rfl,hm,fun s=>?_⟩;rw[Env.get_map (e.set r root) (g:=fun p=>p.mapW (inl r pre q)) rfl s,Env.get_set]
structure Hid where
 val:Nat->Value
 ds:List Deferred
structure St (w0:World) (U Φ0:Nat->Prop) (nt:Nat) (hv:Hid) (a:Act) (w:World) (e:Env) (Φ:Nat->Prop) (rv:Nat->Value) (E:Nat->PV) (L:Nat->LN):Prop where
 conf:Conf w0 U Φ0 w Φ rv E L
 env:∀ s,s<zAa->E s=e.get s
 size:a.tmps.size=nt
 small:nt<=2000000
 tmps:∀ t,t<nt->a.tmps.getD t undef=rv t
 parts:∀ d ps i,d<nt->E d = .tup ps->i<ps.length->i<16/\∃ vs,rv d = .tuple vs/\vs[i]? = some (rv (zBA d i))
 hid:∀ s,zAm<=s->s<zAG->rv s=hv.val s
 dfr:a.defers=hv.ds
def Fr(w0:World)(U Φ0:Nat->Prop)(nt:Nat)(hv:Hid)(a:Act)(w:World)(e:Env):Prop :=
 ∃ Φ rv E L,St w0 U Φ0 nt hv a w e Φ rv E L/\∀ g,zAa<=g->E g = .bad
def zAW(nt:Nat):Operand->Bool
 |.tmp t=>blt t nt|_=>true
theorem zCb{a b:Nat}(h:blt a b=true):a<b:=bu h
section
variable {w0 w:World} {U Φ0 Φ:Nat->Prop} {nt:Nat} {hv:Hid} {a:Act} {e e':Env} {rv rv':Nat->Value} {E E':Nat->PV} {L L':Nat->LN} {o:zAO}
mutual
theorem zDi{A:Al}:∀ (p:PV) (v:Value) (L:LN),p.heavy=false->Rep w Φ A p v L->L=[]
 |.own ..,_,_,hp,_=>by cases hp|.box _,_,_,hp,_=>by cases hp|.omap _,_,_,hp,_=>by cases hp|.lock _,_,_,hp,_=>by cases hp|.agg cs,_,_,hp,h=>by obtain⟨vs,_,h⟩:=h;exact zIe cs _ _ hp h
 |.tup cs,_,_,hp,h=>by obtain⟨vs,_,h⟩:=h;exact zIe cs _ _ hp h
 |.bad,_,_,_,h=>h|.und,_,_,_,h=>h.2|.int ..,_,_,_,h=>h.2|.bool _,_,_,_,h=>h.2|.nilp,_,_,_,h=>h.2|.nilf,_,_,_,h=>h.2|.nilm,_,_,_,h=>h.2|.nn,_,_,_,h=>h.1|.nils _,_,_,_,h=>h.2|.sl xs,_,_,_,h=>h.1|.ref q,_,_,_,h=>h.1|.map es,_,_,_,h=>h.1|.func _ _ _,_,_,_,h=>h.1|.addr ..,_,_,_,h=>h.1|.bor ..,_,_,_,h=>h.1|.bsl ..,_,_,_,h=>h.1|.bmap ..,_,_,_,h=>h.1|.yld _,_,_,_,h=>h.1|.log ..,_,_,_,h=>h.1
theorem zIe{A:Al}:∀ (ps:List PV) (vs:List Value) (L:LN),zDb ps=false->zA5 w Φ A ps vs L->L=[]
 |[],_,_,_,h=>h.2|p::ps,_,_,hp,h=>by
  simp only[zDb,cx] at hp;obtain⟨v,vs',L1,L2,rfl,rfl,h1,h2⟩:=h;rw[zDi p v L1 hp.1 h1,zIe ps vs' L2 hp.2 h2];rfl
end
def zZT(E E':Nat->PV):Prop:=∀ d ps,d<2000000->E' d = .tup ps->∃ ps',E d = .tup ps'/\ps'.length=ps.length
theorem zZT.refl:zZT E E:=fun _ ps _ h=>⟨ps,h,rfl⟩
theorem zC9{f:PV->PV}:∀ ps:List PV,(zCR f ps).length=ps.length
 |[]=>rfl|p::ps=>by simp[zCR,zC9 ps]
theorem zEk{f:PV->PV}(hf:∀ p,p.isWay=true->(f p).isTup=false){p:PV}{ps:List PV}(h:p.mapW f = .tup ps):∃ ps',p = .tup ps'/\ps'.length=ps.length:=by
 cases hp:p.isWay with
 |true=>rw[zGu hp] at h;have:=hf p hp;rw[h] at this;cases this|false=>
  cases p<;>first|(cases hp;done)|(simp[PV.mapW] at h;done)|skip
  simp only[PV.mapW,PV.tup.injEq] at h;exact⟨_,rfl,by rw[<- h,zC9]⟩
theorem zIX(r:Nat)(pre:zA2)(p:PV)(hp:p.isWay=true):(lose r pre p).isTup=false:=by
 rcases zG9 r pre p with h|⟨_,h⟩
 ·rw[h];cases p<;>first|rfl|cases hp
 ·rw[h];rfl
theorem St.turn(S:St w0 U Φ0 nt hv a w e Φ rv E L){w':World}{Φ':Nat->Prop}(hc:Conf w0 U Φ0 w' Φ' rv' E' L')(he:∀ s,s<zAa->E' s=e'.get s)(hr:∀ s,s<zAa->rv' s=rv s)(hE:zZT E E') :
  St w0 U Φ0 nt hv a w' e' Φ' rv' E' L':=by
 have hs:=S.small;refine⟨hc,he,S.size,S.small,fun t ht=>?_,fun d ps i hd hp hi=>?_,fun s h1 h2=>?_,S.dfr⟩
 ·rw[hr t (by simp only[zAa];omega)];exact S.tmps t ht
 ·obtain⟨ps',h1,h2⟩:=hE d ps (by omega) hp;obtain⟨h3,vs,h4,h5⟩:=S.parts d ps' i hd h1 (by omega);refine⟨h3,vs,?_,?_⟩
  ·rw[hr d (by simp only[zAa];omega)];exact h4
  ·rw[hr _ (by simp only[zBA,zAa];omega)];exact h5
 ·rw[hr s (by simp only[zAG,zAa] at *;omega)];exact S.hid s h1 h2
theorem zKh{A:Al}(v:Value):Rep w Φ A (zER v) v []:=by
 have key:∀ cs:List Value,zA5 w Φ A (cs.map fun|.int k n=>PV.int k n|.bool b=>.bool b|_=>.bad) cs []:=by
  intro cs
  induction cs with
  |nil=>exact⟨rfl,rfl⟩|cons c cs ih=>
   refine⟨c,cs,[],[],rfl,rfl,?_,ih⟩;cases c<;>first|exact⟨rfl,rfl⟩|rfl
 cases v with
 |slice x n c=>
  cases x with
  |some x=>cases n<;>cases c<;>rfl
  |none=>cases n<;>cases c<;>first|exact⟨rfl,rfl⟩|rfl
 |pointer x=>cases x<;>first|exact⟨rfl,rfl⟩|rfl
 |map x=>cases x<;>first|exact⟨rfl,rfl⟩|rfl
 |agg cs=>exact⟨cs,rfl,key _⟩|_=>first|exact⟨rfl,rfl⟩|rfl
theorem zBz(S:St w0 U Φ0 nt hv a w e Φ rv E L){x:Operand}(hx:zAW nt x=true){k:PV->PM}(h:(opd x k).run o e=some e') :
  ∃ p,(k p).run o e=some e'/\Rep w Φ (zA9 w rv E) p (a.eval x) []:=by
 have hs:=S.small
 cases x with
 |tmp t=>
  have ht:=zCb hx;have yu:(t:Nat)<zAa:=bL ht (bN S.small (by decide));refine⟨_,h,?_⟩;have:=S.conf.view yu;rw[S.env t yu] at this;simp only[Act.eval];rw[S.tmps t ht];exact this
 |const v=>exact⟨_,h,zKh v⟩|func f=>exact⟨_,h,rfl,#[],#[],rfl,⟨rfl,rfl⟩,⟨rfl,rfl⟩⟩|global g=>cases h
theorem zIi(S:St w0 U Φ0 nt hv a w e Φ rv E L):∀ {xs:List Operand},(∀ x∈xs,zAW nt x=true)->∀ {k:List PV->PM},(zWd xs k).run o e=some e' ->
  ∃ ps,(k ps).run o e=some e'/\zA5 w Φ (zA9 w rv E) ps (xs.map a.eval) []
 |[],_,k,h=>⟨[],h,rfl,rfl⟩|x::xs,hx,k,h=>by
  obtain⟨p,h1,h2⟩:=zBz S (hx x (by simp)) h;obtain⟨ps,h3,h4⟩:=zIi S (fun y hy=>hx y (by simp[hy])) h1;exact⟨p::ps,h3,_,_,[],[],rfl,rfl,h2,h4⟩
def zYw(g:Nat)(rv rv':Nat->Value)(E E':Nat->PV)(L L':Nat->LN):Prop:=∀ s,zAa<=s->s≠g->E' s=E s/\rv' s=rv s/\L' s=L s
theorem St.hold(S:St w0 U Φ0 nt hv a w e Φ rv E L){g:Nat}(hg:zAa<=g){p:PV}{v:Value}(hr:Rep w Φ (zA9 w rv E) p v []):St w0 U Φ0 nt hv a w e Φ (upd rv g v) (upd E g p) (upd L g []):=by
 refine S.turn (S.conf.hold hg hr) (fun s hs=>?_) (fun s hs=>zAg (by omega)) fun d ps hd hp=>?_
 ·rw[zAg (by omega)];exact S.env s hs
 ·rw[zAg (by simp only[zAa] at hg;omega)] at hp;exact⟨ps,hp,rfl⟩
theorem zGg(S:St w0 U Φ0 nt hv a w e Φ rv E L){x:Operand}(hx:zAW nt x=true){g:Nat}(hg:zAa<=g){k:PV->PM}(h:(zOK x k).run o e=some e') :
  ∃ e1 rv1 E1 L1,(k (E1 g)).run o e1=some e'/\St w0 U Φ0 nt hv a w e1 Φ rv1 E1 L1/\rv1 g=a.eval x/\zYw g rv rv1 E E1 L L1:=by
 have jl:=S.small;have light:∀ p,(k p).run o e=some e'->Rep w Φ (zA9 w rv E) p (a.eval x) []->∃ e1 rv1 E1 L1,(k (E1 g)).run o e1=some e'/\St w0 U Φ0 nt hv a w e1 Φ rv1 E1 L1/\rv1 g=a.eval x/\zYw g rv rv1 E E1 L L1:=by
  intro p h hr;refine⟨e,_,_,_,?_,S.hold hg hr,zAj,fun s _ hI=>⟨zAg hI,zAg hI,zAg hI⟩⟩;rw[zAj];exact h
 cases x with
 | tmp t =>
  have ht:=zCb hx;have yu:(t:Nat)<zAa:=bL ht (bN S.small (by decide));have yA:=S.conf.rep t;rw[S.env t yu] at yA;have yX:a.eval (.tmp t)=rv t:=S.tmps t ht;simp only[zOK,PM.run] at h;split at h
  ·cases h
  ·rename_i p _;split at h
   ·rename_i hh;simp only[PM.run] at h;refine⟨_,_,_,_,?_,S.turn (e':=e.set t .bad) (S.conf.take yu hg) (fun s hs=>?_) (fun s hs=>zAg (by omega)) (fun d ps hd hp=>?_),by rw[zAj,yX],fun s h1 h2=>?_⟩
    ·rw[zAj,S.env t yu];exact h
    ·rw[zAg (by omega),Env.get_set];by_cases h2:s=t
     ·subst h2;rw[zAj,if_pos rfl]
     ·rw[zAg h2,if_neg h2];exact S.env s hs
    ·rw[zAg (by simp only[zAa] at hg;omega)] at hp;by_cases h2:d=t
     ·subst h2;rw[zAj] at hp;cases hp
     ·rw[zAg h2] at hp;exact⟨ps,hp,rfl⟩
    ·have h3:s≠t:=by intro h;subst h;exact absurd yu (Nat.not_lt.2 h1)
     rw[zAg h2,zAg h2,zAg h2,zAg h3,zAg h3];exact⟨rfl,rfl,rfl⟩
   ·rename_i hh;simp only[ce] at hh;have hL:=zDi _ _ _ hh yA;rw[hL] at yA;exact light _ h (by rw[yX];exact yA)
 |const v=>exact light _ h (zKh v)|func f=>exact light _ h ⟨rfl,#[],#[],rfl,⟨rfl,rfl⟩,⟨rfl,rfl⟩⟩|global g=>cases h
theorem zSa(S:St w0 U Φ0 nt hv a w e Φ rv E L){d g:Nat}(vI:d<zAa)(hg:zAa<=g){k:PM}(h:(lay d (E g) k).run o e=some e') :
  ∃ e1 E1 L1,k.run o e1=some e'/\Conf w0 U Φ0 w Φ (upd rv d (rv g)) E1 L1/\(∀ s,s<zAa->E1 s=e1.get s)/\(∀ s,s≠d->s<zAa->E1 s=E s\/E1 s=(E s).mapW (lose d [])) /\
   (E1 d=E g\/E1 d=(E g).mapW (lose d []))/\E1 g = .bad/\∀ s,zAa<=s->s≠g->E1 s=E s\/E1 s=(E s).mapW (lose d []):=by
 have vf:d≠g:=by omega
 simp only[lay] at h
 cases hh:(E g).heavy with
 | true =>
  rw[hh] at h;simp only[cond_true,PM.run] at h;refine⟨_,_,_,h,S.conf.lay vI hg,fun s hs=>?_,fun s hs jo=>.inr ?_,.inr ?_,zAj,fun s h1 h2=>.inr ?_⟩
  ·rw[zAg (by omega),Env.get_set,Env.get_kill];by_cases h2:s=d
   ·subst h2;rw[zAj,if_pos rfl]
   ·rw[zAg h2,if_neg h2,S.env s hs]
  ·rw[zAg (by omega),zAg hs]
  ·rw[zAg (by omega),zAj]
  ·rw[zAg h2,zAg (by omega)]
 | false =>
  rw[hh] at h;simp only[cond_false,PM.run] at h;have yA:=S.conf.rep g;rw[zDi _ _ _ hh yA] at yA;have h1:=S.conf.put (s:=d) hh yA;have h2:=h1.drop fun s=>s==g;refine⟨_,_,_,h,h2,fun s hs=>?_,fun s hs jo=>.inl ?_,.inl ?_,by simp,fun s h1 h2=>.inl ?_⟩
  ·rw[Env.get_set];have:(s==g)=false:=by simp;omega
   simp only[this,bq,if_false];by_cases h2:s=d
   ·subst h2;rw[zAj,if_pos rfl]
   ·rw[zAg h2,if_neg h2,S.env s hs]
  ·have:(s==g)=false:=by simp;omega
   simp[this,zAg hs]
  ·have:(d==g)=false:=by simp;omega
   simp[this,zAj]
  ·have:(s==g)=false:=by simp[h2]
   simp[this,zAg (show s≠d by omega)]
theorem zWl(S:St w0 U Φ0 nt hv a w e Φ rv E L){d g:Nat}(hd:d<zAm)(hg:zAa<=g){k:PM}(h:(lay d (E g) k).run o e=some e') :
  ∃ e1 E1 L1,k.run o e1=some e'/\Conf w0 U Φ0 w Φ (upd rv d (rv g)) E1 L1/\(∀ s,s<zAa->E1 s=e1.get s)/\(∀ s,s≠d->s<zAa->E1 s=E s\/E1 s=(E s).mapW (lose d [])) /\
   (E1 d=E g\/E1 d=(E g).mapW (lose d []))/\E1 g = .bad/\∀ s,zAa<=s->s≠g->E1 s=E s\/E1 s=(E s).mapW (lose d []) :=
 zSa S (by simp only[zAm,zAa] at *;omega) hg h
theorem Act.put_tmps(a:Act){d:Nat}{v:Value}(hd:d<a.tmps.size)(t:Nat):(a.put (some d) v).tmps.getD t undef=if t=d then v else a.tmps.getD t undef:=by
 simp only[Act.put,dk,dX];by_cases h:t=d
 ·subst h;simp[hd]
 ·rw[if_neg (dW h),if_neg h]
theorem zGf(S:St w0 U Φ0 nt hv a w e Φ rv E L){d:ON}(hd:∀ x,d=some x->x<nt){g:Nat}(hg:zAa<=g)(h:(put d (E g)).run o e=some e')(hb:∀ s,zAa<=s->s≠g->E s = .bad) :
  Fr w0 U Φ0 nt hv (a.put d (rv g)) w e':=by
 have jl:=S.small
 cases d with
 | none =>
  simp only[put,PM.run,ba] at h;subst h;have h2:=S.conf.drop fun s=>s==g;refine⟨_,_,_,_,S.turn h2 (fun s hs=>?_) (fun _ _=>rfl) (fun d ps hd hp=>?_),fun s hs=>?_⟩
  ·have:(s==g)=false:=by simp;omega
   simp only[this,bq,if_false];exact S.env s hs
  ·have:(d==g)=false:=by simp only[zAa] at hg;simp;omega
   simp only[this,bq,if_false] at hp;exact⟨ps,hp,rfl⟩
  ·by_cases h3:s=g
   ·subst h3;simp
   ·have:(s==g)=false:=by simp[h3]
    simp only[this,bq,if_false];exact hb s hs h3
 | some d =>
  have u9:=hd d rfl;have hds:d<a.tmps.size:=by rw[S.size];exact u9
  simp only[put] at h
  cases ht:(E g).isTup with
  |true=>rw[ht] at h;cases h
  | false =>
   rw[ht] at h;simp only[cond_false] at h;obtain⟨e1,E1,L1,h1,h2,h3,h4,h5,h6,h7⟩:=zWl S (by simp only[zAm];omega) hg h;simp only[PM.run,ba] at h1;subst h1;refine⟨_,_,_,_,⟨h2,h3,by simp only[Act.put,iA];exact S.size,S.small,fun t htn=>?_,fun d' ps i qE hp hi=>?_,fun s u8 jo=>?_,S.dfr⟩,fun s hs=>?_⟩
   ·rw[Act.put_tmps a hds];by_cases wX:t=d
    ·subst wX;simp[zAj]
    ·rw[if_neg wX,zAg wX];exact S.tmps t htn
   ·have vf:d'≠d:=by
     intro hc;subst hc;rcases h5 with h5|h5
     ·rw[h5] at hp;rw[hp] at ht;cases ht
     ·rw[h5] at hp;obtain⟨ps',h8,_⟩:=zEk (zIX d' []) hp;rw[h8] at ht;cases ht
    have:∃ ps',E d' = .tup ps'/\ps'.length=ps.length:=by
     rcases h4 d' vf (by simp only[zAa];omega) with h8|h8
     ·exact⟨ps,by rw[<- h8,hp],rfl⟩
     ·rw[h8] at hp;exact zEk (zIX d []) hp
    obtain⟨ps',h8,h9⟩:=this;obtain⟨j5,vs,vg,h12⟩:=S.parts d' ps' i qE h8 (by omega);exact⟨j5,vs,by rw[zAg vf];exact vg,by rw[zAg (by simp only[zBA];omega)];exact h12⟩
   ·rw[zAg (by simp only[zAm] at u8;omega)];exact S.hid s u8 jo
   ·by_cases h8:s=g
    ·subst h8;exact h6
    ·rcases h7 s hs h8 with h9|h9
     ·rw[h9];exact hb s hs h8
     ·rw[h9,hb s hs h8];rfl
end
end Go.Eng
namespace Go.Eng
open Go
theorem zBM{α:Type}{x:Option α}{k:α->PM}{o:zAO}{e e':Env}(h:(zIV x k).run o e=some e'):∃ a,x=some a/\(k a).run o e=some e':=by
 cases x with
 |none=>cases h|some a=>exact⟨a,rfl,h⟩
theorem zEm{p:PV}{k:Nat->PM}{o:zAO}{e e':Env}(h:(zGQ p k).run o e=some e'):∃ ik n,p = .int ik n/\0<=n/\(k n.toNat).run o e=some e':=by
 cases p<;>try (cases h;done)
 rename_i ik n;simp only[zGQ] at h;split at h
 ·exact⟨ik,n,rfl,‹_›,h⟩
 ·cases h
theorem zDr{c:Prop}[Decidable c]{k:PM}{o:zAO}{e e':Env}(h:(if c then k else .fail).run o e=some e'):c/\k.run o e=some e':=by
 split at h
 ·exact⟨‹_›,h⟩
 ·cases h
theorem zAS{c:Bool}{k:PM}{o:zAO}{e e':Env}(h:(bif c then k else .fail).run o e=some e'):c=true/\k.run o e=some e':=by
 cases c
 ·cases h
 ·exact⟨rfl,h⟩
section
variable {P:Program} {w0 w:World} {U Φ0 Φ:Nat->Prop} {nt:Nat} {hv:Hid} {a:Act} {e e':Env} {rv rv':Nat->Value} {E E':Nat->PV} {L L':Nat->LN} {o:zAO} {A:Al}
def zBv(E:Nat->PV):Prop:=∀ g,zAa<=g->E g = .bad
theorem zAC(S:St w0 U Φ0 nt hv a w e Φ rv E L)(hb:zBv E){d:ON}(hd:∀ x,d=some x->x<nt){p:PV}{v:Value}(h:(put d p).run o e=some e')(hr:Rep w Φ (zA9 w rv E) p v []) :
  Fr w0 U Φ0 nt hv (a.put d v) w e':=by
 have:=zGf (S.hold (bi zAa) hr) hd (bi zAa) (by rw[zAj];exact h) (fun s hs hI=>by rw[zAg hI];exact hb s hs);rwa[zAj] at this
theorem zYh(S:St w0 U Φ0 nt hv a w e Φ rv E L)(hb:zBv E){d:ON}(hd:∀ x,d=some x->x<nt){c x y:Operand}(hc:zAW nt c=true)(hx:zAW nt x=true)(hy:zAW nt y=true)
  (h:(zWA d c x y).run o e=some e'):∃ t,a.eval c = .bool t/\Fr w0 U Φ0 nt hv (a.put d (if t then a.eval x else a.eval y)) w e':=by
 obtain⟨p,h1,h2⟩:=zBz S hc h;cases p<;>simp only[zWJ] at h1<;>try (cases h1;done)
 rename_i t;refine⟨t,h2.1,?_⟩;cases t
 ·obtain⟨q,h3,h4⟩:=zBz S hy h1;exact zAC S hb hd h3 h4
 ·obtain⟨q,h3,h4⟩:=zBz S hx h1;exact zAC S hb hd h3 h4
theorem zY6(S:St w0 U Φ0 nt hv a w e Φ rv E L)(hb:zBv E){d:ON}(hd:∀ x,d=some x->x<nt){x:Operand}(hx:zAW nt x=true)(h:(opd x (zac d)).run o e=some e') :
  (match a.eval x with|.pointer none|.nilIface|.nilFunc|.func (.method _) _ _=>False|_=>True)/\Fr w0 U Φ0 nt hv (a.put d (a.eval x)) w e':=by
 obtain⟨p,h1,h2⟩:=zBz S hx h;cases p<;>simp only[zac] at h1<;>try (cases h1;done)
 case ref q=>refine⟨?_,zAC S hb hd h1 h2⟩;obtain⟨_,b,c,u,h3,_⟩:=h2;rw[h3];trivial
 case func=>refine⟨?_,zAC S hb hd h1 h2⟩;obtain⟨_,fs,cs,h3,_⟩:=h2;rw[h3];trivial
 case addr=>refine⟨?_,zAC S hb hd h1 h2⟩;obtain⟨_,_,b,h3,_⟩:=h2;rw[h3];trivial
 case yld=>refine⟨?_,zAC S hb hd h1 h2⟩;rw[h2.2];trivial
theorem zZ8(S:St w0 U Φ0 nt hv a w e Φ rv E L)(hb:zBv E){d:ON}(hd:∀ x,d=some x->x<nt){op:UnOp}{x:Operand}(hx:zAW nt x=true)(h:(opd x (unV d op)).run o e=some e') :
  ∃ v,(Op.unary op (a.eval x)).run P w = .ok v w/\Fr w0 U Φ0 nt hv (a.put d v) w e':=by
 obtain⟨p,h1,h2⟩:=zBz S hx h;simp only[unV] at h1;split at h1
 ·rename_i b;exact⟨.bool !b,by rw[h2.1];rfl,zAC S hb hd h1 ⟨rfl,rfl⟩⟩
 ·rename_i k n;exact⟨.int k (k.wrap (0-n)),by rw[h2.1];rfl,zAC S hb hd h1 ⟨rfl,rfl⟩⟩
 ·cases h1
theorem zWW(S:St w0 U Φ0 nt hv a w e Φ rv E L)(hb:zBv E){d:ON}(hd:∀ x,d=some x->x<nt){s t:TypeId}(hs:(P.underlying s).isSome=true){x:Operand}(hx:zAW nt x=true)(h:(opd x (zSG P d t)).run o e=some e') :
  ∃ v,(convert s t (a.eval x)).run P w = .ok v w/\Fr w0 U Φ0 nt hv (a.put d v) w e':=by
 obtain⟨p,h1,h2⟩:=zBz S hx h;simp only[zSG] at h1;split at h1
 ·rename_i k k' n ht;refine⟨.int k (k.wrap n),?_,zAC S hb hd h1 ⟨rfl,rfl⟩⟩;obtain⟨ds,hds⟩:=fd.1 hs;rw[h2.1];simp only[convert,bo,run_underlying ht,run_underlying hds,bh];rfl
 ·cases h1
theorem zXh(S:St w0 U Φ0 nt hv a w e Φ rv E L)(hb:zBv E){d:ON}(hd:∀ x,d=some x->x<nt){f:FuncId}{fs cs:Array Operand}(hf:∀ x∈fs.toList,zAW nt x=true)(hc:∀ x∈cs.toList,zAW nt x=true)
  (h:(zLu d f fs.toList cs.toList).run o e=some e'):Fr w0 U Φ0 nt hv (a.put d (.func (.func f) (fs.map a.eval) (cs.map a.eval))) w e':=by
 obtain⟨ps,h1,h2⟩:=zIi S hf h;obtain⟨qs,h3,h4⟩:=zIi S hc h1;exact zAC S hb hd h3 ⟨rfl,_,_,rfl,by simpa using h2,by simpa using h4⟩
theorem zFp{t:TypeId}{sh:ON}(h:shT P t=some sh):∃ i,P.info? t=some i/\(isAgg t).run P w = .ok sh.isSome w/\(∀ n,sh=some n->n=i.size)/\(sh=none->i.size=1):=by
 simp only[shT] at h
 cases hu:P.underlying t with
 |none=>rw[hu] at h;cases h
 | some td =>
  have hr:=run_underlying (w:=w) hu
  cases hi:P.info? t with
  |none=>rw[hu,hi] at h;cases td<;>cases h
  | some i =>
   rw[hu,hi] at h;refine⟨i,rfl,?_⟩;cases td<;>simp only at h<;>first|(cases h;exact⟨by simp only[isAgg,bo,hr,bh];rfl,fun n hn=>by cases hn;rfl,fun hn=>by cases hn⟩)|skip
   all_goals
    split at h
    ·rename_i h1;cases h;exact⟨by simp only[isAgg,bo,hr,bh];rfl,(by intro n hn;cases hn),fun _=>h1⟩
    ·cases h
theorem zA4{t:TypeId}{i:TypeInfo}(h:P.info? t=some i):(sizeOf t).run P w = .ok i.size w:=by
 simp[sizeOf,typeInfo,h]
theorem zFX{t:TypeId}{sh:ON}(hs:shT P t=some sh){p q:PV}{cs:Array Value}{off:Nat}(hp:Rep w Φ A p (.agg cs) [])(h:sub p off sh=some q) :
  ∃ u,(part t cs off).run P w = .ok u w/\Rep w Φ A q u []:=by
 obtain⟨i,hi,yz,h1,h2⟩:=zFp (w:=w) hs;cases p<;>try (cases sh<;>cases h;done)
 rename_i ps;obtain⟨vs,hv,hr⟩:=hp;cases hv;have hZ:=hr.length
 cases sh with
 | some n =>
  simp only[sub] at h;split at h
  ·rename_i yR;cases h;have hn:=h1 n rfl;subst hn;refine⟨.agg (cs.extract off (off+i.size)),?_,?_⟩
   ·simp only[part,bo,yz,bh,ip,if_true,zA4 hi];rfl
   ·refine⟨_,rfl,?_⟩;rw[Array.toList_extract];have:=zB5 hr off i.size;simpa[List.extract] using this
  ·cases h
 | none =>
  simp only[sub] at h;obtain⟨u,La,Li,Lb,hu,hL,uJ,_,_⟩:=hr.split h;have hu':cs[off]? = some u:=by simpa using hu
  have:Li=[]:=by
   have:=congrArg length hL;simp at this;exact br (by omega)
  subst this;refine⟨u,?_,uJ⟩;simp only[part,bo,yz,bh,dZ,bq,if_false,hu'];rfl
theorem zPc{eq:TypeId->PV->PV->Option Bool}{d:Nat}{p q:PV}{xs ys:Array Value}(hp:Rep w Φ A p (.agg xs) [])(hq:Rep w Φ A q (.agg ys) [])
  (hd:∀ t p q b x y,eq t p q=some b->Rep w Φ A p x []->Rep w Φ A q y []->(Op.equalIn d t x y).run P w = .ok b w) :
  ∀ (fs:List Field) (b:Bool),zRL eq (shT P) p q fs=some b->(Op.eqFields d xs ys fs).run P w = .ok b w
 |[],b,h=>by simp only[zRL,ba] at h;subst h;rfl
 | f :: fs,b,h=>by
  simp only[zRL] at h;simp only[Op.eqFields];split at h
  ·rename_i hn;rw[if_neg (by simp[hn])];exact zPc hp hq hd fs b h
  ·rename_i hn;rw[if_pos hn]
   cases hs:shT P f.type with
   |none=>rw[hs] at h;cases h
   | some sh =>
    rw[hs] at h;simp only at h;split at h
    ·rename_i a1 b1 h1 h2;obtain⟨u1,h3,h4⟩:=zFX hs hp h1;obtain⟨u2,h5,h6⟩:=zFX hs hq h2;simp only[bo,h3,h5,bh]
     cases he:eq f.type a1 b1 with
     |none=>rw[he] at h;cases h
     | some r =>
      rw[hd _ _ _ _ _ _ he h4 h6];rw[he] at h;simp only[bh]
      cases r with
      |true=>
       simp only[dH,bq,if_false];exact zPc hp hq hd fs b h
      |false=>
       simp only[ba] at h;subst h;simp
    ·cases h
theorem zT0{eq:PV->PV->Option Bool}{d:Nat}{e:TypeId}{sh:ON}{i:TypeInfo}(hs:shT P e=some sh)(hi:P.info? e=some i){p q:PV}{xs ys:Array Value}(hp:Rep w Φ A p (.agg xs) [])(hq:Rep w Φ A q (.agg ys) [])
  (hd:∀ p q b x y,eq p q=some b->Rep w Φ A p x []->Rep w Φ A q y []->(Op.equalIn d e x y).run P w = .ok b w) :
  ∀ (n k:Nat) (b:Bool),zUF eq sh i.size p q k n=some b ->
   ((forIn (List.range' k n 1) ((none,()):Option Bool×Unit) fun i' r=>do
    let a <- part e xs (i'*i.size)
    let c <- part e ys (i'*i.size)
    if !(<- Op.equalIn d e a c) then pure (.done (some false,())) else pure (.yield (none,()))):Sem _).run P w = .ok (if b then(none,()) else(some false,())) w
 |0,k,b,h=>by simp only[zUF,ba] at h;subst h;simp
 | n + 1,k,b,h=>by
  simp only[zUF] at h;simp only[fv,iL,bo];split at h
  ·rename_i a1 b1 h1 h2;obtain⟨u1,h3,h4⟩:=zFX hs hp h1;obtain⟨u2,h5,h6⟩:=zFX hs hq h2;simp only[h3,h5,bh]
   cases he:eq a1 b1 with
   |none=>rw[he] at h;cases h
   | some r =>
    rw[hd _ _ _ _ _ he h4 h6];rw[he] at h;simp only[bh]
    cases r with
    |true=>
     simp only[dH,bq,if_false,bA,bh];exact zT0 hs hi hp hq hd n (k+1) b h
    |false=>
     simp only[ba] at h;subst h;simp
  ·cases h
theorem zLk:∀ (n:Nat) (t:TypeId) (p q:PV) (b:Bool) (x y:Value) (d:Nat),n<=d->eqT P n t p q=some b->Rep w Φ A p x []->Rep w Φ A q y []->(Op.equalIn d t x y).run P w = .ok b w
 |0,t,p,q,b,x,y,d,hd,h,hp,hq=>by cases h|n+1,t,p,q,b,x,y,0,hd,h,hp,hq=>by omega
 | n + 1,t,p,q,b,x,y,d+1,hd,h,hp,hq=>by
  have yR:n<=d:=by omega
  simp only[eqT] at h;split at h
  ·rename_i k0 k a1 k' b1 ht;rw[hp.1,hq.1];split at h
   ·rename_i hk;subst hk;cases h;exact run_equalIn_int w d t k k0 a1 b1 ht
   ·cases h
  ·rename_i a1 b1 ht;rw[hp.1,hq.1];cases h;exact run_equalIn_bool' w d t a1 b1 ht
  ·rename_i el ht;rw[hp.1,hq.1];cases h;simp[Op.equalIn,run_underlying ht]
  ·rename_i fs xs ys ht
   cases yD:P.stoodInHeld t with
   |true=>rw[yD] at h;cases h|false=>
    rw[yD] at h;simp only[cond_false] at h;obtain⟨vs,rfl,jy⟩:=hp;obtain⟨us,rfl,jv⟩:=hq;have vh:P.fieldsOf t=fs:=by simp[Program.fieldsOf,ht]
    rw[run_equalIn_struct w d t vs us (by rw[vh];exact ht) yD,vh];exact zPc (p := .agg xs) (q := .agg ys) ⟨vs,rfl,jy⟩ ⟨us,rfl,jv⟩ (fun t p q b x y he h1 h2=>zLk n t p q b x y d yR he h1 h2) fs.toList b h
  ·rename_i len el xs ys ht;split at h
   ·rename_i sz sh yJ jm;obtain⟨vs,rfl,jy⟩:=hp;obtain⟨us,rfl,jv⟩:=hq;obtain⟨i,hi,_⟩:=zFp (w:=w) jm;have gh:i.size=sz:=by simp only[szT,hi,bz,ba] at yJ;exact yJ
    subst gh;have:=zT0 (p := .agg xs) (q := .agg ys) jm hi ⟨vs,rfl,jy⟩ ⟨us,rfl,jv⟩ (fun p q b x y he h1 h2=>zLk n el p q b x y d yR he h1 h2) len 0 b h;simp only[Op.equalIn,bo,run_underlying ht,bh,zA4 hi,fF,Std.Legacy.Range.size,dE,d4,Nat.div_one];rw[this];cases b<;>simp
   ·cases h
  ·cases h
theorem zVb{n:Nat}{t:TypeId}{p q:PV}{b:Bool}(h:eqT P n t p q=some b)(ha:p.isAgg=false):(∃ k n k' m,p = .int k n/\q = .int k' m)\/(∃ b,p = .bool b)\/p = .nilp:=by
 cases n with
 |zero=>cases h|succ n=>
  simp only[eqT] at h;split at h
  ·exact .inl ⟨_,_,_,_,rfl,rfl⟩
  ·exact .inr (.inl ⟨_,rfl⟩)
  ·exact .inr (.inr rfl)
  ·cases ha
  ·cases ha
  ·cases h
theorem zUP{t:TypeId}{p q:PV}(hn:∀ z,q ≠ .nils z)(ha:∀ ys,q ≠ .agg ys):eqV P t p q=bif p.isAgg then none else eqT P 20 t p q:=by
 cases q<;>first|rfl|exact absurd rfl (hn _)|exact absurd rfl (ha _)
def zah:Value->Bool
 |.bool _|.pointer _|.slice ..|.agg _=>true|_=>false
theorem zTV{t:TypeId}{x y:Value}{b:Bool}(hx:zah x=true)(h:(Op.equal t x y).run P w = .ok b w):(binOp .eql t x y).run P w = .ok (.bool b) w/\(binOp .neq t x y).run P w = .ok (.bool !b) w:=by
 have h1:binOp .eql t x y=(do pure (.bool (<- Op.equal t x y))):=by cases x<;>first|(cases hx;done)|rfl
 have h2:binOp .neq t x y=(do pure (.bool (!(<- Op.equal t x y)))):=by cases x<;>first|(cases hx;done)|rfl
 rw[h1,h2];simp only[bo,h,bh];exact⟨rfl,rfl⟩
theorem zVv{t:TypeId}{p:PV}{z:Nat}{b:Bool}{x:Value}(h:eqV P t p (.nils z)=some b)(hA:∀ a v,a.isWay=true->A a v->∀ r pre z lo n,a = .bor r pre z lo n->∃ b c,v = .slice b n c/\n<=c/\(b=none->c=0))
  (hp:Rep w Φ A p x []):(∃ a n c,x = .slice a n c)/\(Op.equal t x (.slice none 0 0)).run P w = .ok b w:=by
 cases ht:P.underlying t with
 |none=>simp[eqV,ht] at h|some td=>
 by_cases jE:∃ e,td = .slice e
 ·obtain⟨e,rfl⟩:=jE;by_cases hnp:∃ z',p = .nils z'
  ·obtain⟨z',rfl⟩:=hnp;simp only[eqV,ht,ba] at h;subst h;rw[hp.1];exact⟨⟨_,_,_,rfl⟩,run_equal_slice_nil w t e none 0 0 ht⟩
  have hh:(bif zFB p then some false else none)=some b:=by
   rw[<- h];cases p<;>first|(simp only[eqV,ht];done)|exact absurd ⟨_,rfl⟩ hnp
  have key:∀ a n c,x = .slice (some a) n c->b=false->(∃ a n c,x = .slice a n c)/\(Op.equal t x (.slice none 0 0)).run P w = .ok b w:=by
   intro a n c hx hb;subst hx;subst hb;exact⟨⟨_,_,_,rfl⟩,run_equal_slice_nil w t e (some a) n c ht⟩
  cases jq:zFB p with
  |false=>rw[jq] at hh;cases hh
  | true =>
   rw[jq] at hh;simp only[cond_true,ba] at hh;cases p<;>simp only[zFB] at jq<;>try (cases jq;done)
   case nn=>
    obtain⟨_,a,n,h1⟩:=hp;exact key a 0 n h1 hh.symm
   case sl xs=>
    cases xs with
    |nil=>cases jq|cons x0 xs=>
     obtain⟨_,⟨h1,_⟩|⟨a,n,c,us,sz,h1,_⟩⟩:=hp
     ·cases h1
     ·exact key a _ n h1 hh.symm
   case own sz xs=>
    cases xs with
    |nil=>cases jq|cons x0 xs=>
     obtain⟨h1,_⟩|⟨a,n,c,us,L',h0,_⟩:=hp
     ·cases h1
     ·cases h0
   case bor r pre z lo n=>
    cases n with
    |zero=>cases jq|succ n=>
     obtain⟨b',c,h1,h2,h3⟩:=hA _ _ rfl hp.2 r pre z lo (n+1) rfl
     cases b' with
     |none=>have:=h3 rfl;omega|some a=>exact key a _ c h1 hh.symm
 ·cases td<;>first|exact absurd ⟨_,rfl⟩ jE|simp[eqV,ht] at h
theorem zWC{t:TypeId}{p q:PV}{b:Bool}{x y:Value}(h:eqV P t p q=some b)(hA:∀ a v,a.isWay=true->A a v->∀ r pre z lo n,a = .bor r pre z lo n->∃ b c,v = .slice b n c/\n<=c/\(b=none->c=0))
  (hp:Rep w Φ A p x []) (hq:Rep w Φ A q y []) (hni:∀ k n k' m,p = .int k n->q = .int k' m->False) (op:BinOp) (xo yo:Operand) :
  (eqGuard op t xo yo x y).run P w = .ok () w/\(Op.equal t x y).run P w = .ok b w/\zah x=true:=by
 by_cases hn:∃ z,q = .nils z
 ·obtain⟨z,rfl⟩:=hn;have hy:y = .slice none 0 0:=hq.1;subst hy;obtain⟨⟨a,n,c,rfl⟩,h2⟩:=zVv h hA hp;exact⟨by rw[eqGuard_at_slice];rfl,h2,rfl⟩
 ·by_cases ha:∃ ys,q = .agg ys
  ·obtain⟨ys,rfl⟩:=ha;simp only[eqV] at h;split at h
   ·rename_i xs
    cases hg:P.eqGuardType P.depth t with
    |true=>rw[hg] at h;cases h|false=>
     rw[hg] at h;simp only[cond_false] at h;have:=zLk 20 t _ _ b x y 10000 (by decide) h hp hq;obtain⟨vs,rfl,_⟩:=hp;obtain⟨us,rfl,_⟩:=hq;exact⟨run_eqGuard_agg w op t xo yo vs us hg,this,rfl⟩
   ·cases h
  ·rw[zUP (fun z hz=>hn ⟨z,hz⟩) (fun ys hy=>ha ⟨ys,hy⟩)] at h
   cases wY:p.isAgg with
   |true=>rw[wY] at h;cases h
   | false =>
    rw[wY] at h;simp only[cond_false] at h;have h2:=zLk 20 t _ _ b x y 10000 (by decide) h hp hq;rcases zVb h wY with⟨k,n,k',m,h3,h4⟩|⟨b',h3⟩|h3
    ·exact absurd h4 fun h4=>hni k n k' m h3 h4
    ·subst h3;have hx:x = .bool b':=hp.1
     subst hx;exact⟨by rw[eqGuard_at_bool];rfl,h2,rfl⟩
    ·subst h3;have hx:x = .pointer none:=hp.1
     subst hx;exact⟨by rw[eqGuard_at_pointer];rfl,h2,rfl⟩
theorem zWy:∀ a v,a.isWay=true->zA9 w rv E a v->∀ r pre z lo n,a = .bor r pre z lo n->∃ b c,v = .slice b n c/\n<=c/\(b=none->c=0):=by
 intro a v _ h r pre z lo n ha;subst ha;obtain⟨_,⟨b,c,h1,h2,h3,_⟩,_⟩:=h;exact⟨b,c,h1,h2,h3⟩
theorem zU4{op:BinOp}{t:TypeId}{k:IntKind}{x y:Int}{r:PV}(h:zXk op k x y=some r)(hs:op ≠ .shl/\op ≠ .shr):∃ v,(binOp op t (.int k x) (.int k y)).run P w = .ok v w/\Rep w Φ A r v []:=by
  cases op<;>simp only[zXk] at h<;>try (cases h;done)
  case quo => split at h
              · cases h
              · rename_i hy;cases h;exact⟨.int k (k.wrap (x.tdiv y)),by simp[binOp,Op.intDiv,hy],rfl,rfl⟩
  case rem => split at h
              · cases h
              · rename_i hy;cases h;exact⟨.int k (x.tmod y),by simp[binOp,Op.intDiv,hy],rfl,rfl⟩
  all_goals
    simp only[ba] at h;subst h
    first
    |exact⟨_,by simp[binOp,Op.intArith];rfl,rfl,rfl⟩
    |exact⟨_,by simp[binOp,Op.intCmp];rfl,rfl,rfl⟩
    |exact⟨_,by simp[binOp,Op.intBits];rfl,rfl,rfl⟩
theorem zYK(S:St w0 U Φ0 nt hv a w e Φ rv E L)(hb:zBv E){d:ON}(hd:∀ x,d=some x->x<nt){op:BinOp}{t:TypeId}{x y:Operand}(hx:zAW nt x=true)(hy:zAW nt y=true)(h:(zUU P d op t x y).run o e=some e') :
  ∃ v,(do eqGuard op t x y (a.eval x) (a.eval y);binOp op t (a.eval x) (a.eval y)).run P w = .ok v w/\Fr w0 U Φ0 nt hv (a.put d v) w e':=by
 obtain⟨p,h1,hp⟩:=zBz S hx h;obtain⟨q,h2,hq⟩:=zBz S hy h1;obtain⟨r,h3,h4⟩:=zBM h2;have fin:∀ v,(eqGuard op t x y (a.eval x) (a.eval y)).run P w = .ok () w->(binOp op t (a.eval x) (a.eval y)).run P w = .ok v w->Rep w Φ (zA9 w rv E) r v []->∃ v,(do eqGuard op t x y (a.eval x) (a.eval y);binOp op t (a.eval x) (a.eval y)).run P w = .ok v w/\Fr w0 U Φ0 nt hv (a.put d v) w e':=by
  intro v g1 g2 g3;refine⟨v,?_,zAC S hb hd h4 g3⟩;simp only[bo,g1,bh];exact g2
 simp only[zHJ] at h3;split at h3
 ·rename_i k n _ m;split at h3
  ·cases h3
  ·rename_i hm;cases h3;refine fin (.int k (k.wrap (n*2 ^ (min m.toNat k.bits)))) ?_ ?_ ⟨rfl,rfl⟩
   ·rw[hp.1,eqGuard_at_int];rfl
   ·rw[hp.1,hq.1];simp[binOp,Op.shift,hm]
 ·rename_i k n _ m;split at h3
  ·cases h3
  ·rename_i hm;cases h3;refine fin (.int k (n.fdiv (2 ^ (min m.toNat k.bits)))) ?_ ?_ ⟨rfl,rfl⟩
   ·rw[hp.1,eqGuard_at_int];rfl
   ·rw[hp.1,hq.1];simp[binOp,Op.shift,hm]
 ·rename_i k n k' m hns1 hns2;split at h3
  ·rename_i hk;subst hk;obtain⟨v,g1,g2⟩:=zU4 (P:=P) (w:=w) (Φ:=Φ) (A:=zA9 w rv E) (t:=t) h3 ⟨fun hc=>hns1 hc,fun hc=>hns2 hc⟩;refine fin v ?_ ?_ g2
   ·rw[hp.1,eqGuard_at_int];rfl
   ·rw[hp.1,hq.1];exact g1
  ·cases h3
 ·rename_i qF;simp only[bl] at h3;obtain⟨b,h5,rfl⟩:=h3;obtain⟨g1,g2,g3⟩:=zWC h5 zWy hp hq (fun k n k' m h1 h2=>qF k n k' m h1 h2) .eql x y;exact fin (.bool b) g1 (zTV g3 g2).1 ⟨rfl,rfl⟩
 ·rename_i qF;simp only[bl] at h3;obtain⟨b,h5,rfl⟩:=h3;obtain⟨g1,g2,g3⟩:=zWC h5 zWy hp hq (fun k n k' m h1 h2=>qF k n k' m h1 h2) .neq x y;exact fin (.bool !b) g1 (zTV g3 g2).2 ⟨rfl,rfl⟩
 ·cases h3
theorem zVO(S:St w0 U Φ0 nt hv a w e Φ rv E L)(hb:zBv E){d:ON}(hd:∀ x,d=some x->x<nt){t:TypeId}{x:Operand}{i:Nat}(hx:zAW nt x=true)(h:(zRZ P d t x i).run o e=some e') :
  ∃ v,(Instr.field t (a.eval x) i).run P w = .ok v w/\Fr w0 U Φ0 nt hv (a.put d v) w e':=by
 obtain⟨p,h1,hp⟩:=zBz S hx h;obtain⟨f,h2,h3⟩:=zBM h1;obtain⟨sh,h4,h5⟩:=zBM h3;obtain⟨q,h6,h7⟩:=zBM h5;have wY:∃ cs,p = .agg cs:=by cases p<;>first|exact⟨_,rfl⟩|(cases sh<;>cases h6)
 obtain⟨cs,rfl⟩:=wY;obtain⟨vs,hv,hr⟩:=hp;obtain⟨u,h8,h9⟩:=zFX (P:=P) h4 (p := .agg cs) ⟨vs,rfl,hr⟩ h6;refine⟨u,?_,zAC S hb hd h7 h9⟩;simp only[zLF] at h2
 cases ht:P.underlying t with
 |none=>rw[ht] at h2;cases h2|some td=>
  rw[ht] at h2;cases td<;>simp only at h2<;>try (cases h2;done)
  rw[hv];simp only[Instr.field,bo,run_underlying ht,bh,h2,asAgg,bA];exact h8
theorem zUM(S:St w0 U Φ0 nt hv a w e Φ rv E L)(hb:zBv E){d:ON}(hd:∀ x,d=some x->x<nt){t:TypeId}{x i:Operand}(hx:zAW nt x=true)(hi:zAW nt i=true)(h:(zMm P d t x i).run o e=some e') :
  ∃ v,(Instr.index t (a.eval x) (a.eval i)).run P w = .ok v w/\Fr w0 U Φ0 nt hv (a.put d v) w e':=by
 obtain⟨p,h1,hp⟩:=zBz S hx h;obtain⟨pi,h2,hpi⟩:=zBz S hi h1;obtain⟨ik,n,rfl,hn,h3⟩:=zEm h2;split at h3
 ·rename_i len el ht;split at h3
  ·rename_i s sh hs jm;obtain⟨yI,h4⟩:=zDr h3;obtain⟨q,h5,h6⟩:=zBM h4;have wY:∃ cs,p = .agg cs:=by cases p<;>first|exact⟨_,rfl⟩|(cases sh<;>cases h5)
   obtain⟨cs,rfl⟩:=wY;obtain⟨vs,hv,hr⟩:=hp;obtain⟨u,h8,h9⟩:=zFX (P:=P) jm (p := .agg cs) ⟨vs,rfl,hr⟩ h5;refine⟨u,?_,zAC S hb hd h6 h9⟩;obtain⟨ti,jZ,_⟩:=zFp (w:=w) jm;have yJ:ti.size=s:=by simp only[szT,jZ,bz,ba] at hs;exact hs
   subst yJ;rw[hv,hpi.1];simp only[Instr.index,bo,asIntOf,bA,bh,run_underlying ht,zA4 jZ];rw[if_pos ⟨hn,by omega⟩];simp only[bo,zA4 jZ,bh];exact h8
  ·cases h3
 ·cases h3
theorem zTt{p q:PV}{off:Nat}{sh:ON}{v:Value}(h:zBO p off sh=some q)(hp:Rep w Φ (zA9 w rv E) p v []) :
  ∃ b,v = .pointer (some b)/\b.spot=none/\sh≠some 0/\Rep w Φ (zA9 w rv E) q (.pointer (some (zAw b off))) []:=by
 have h0:sh≠some 0:=by intro hc;subst hc;cases h
 replace h:zPD p off sh=some q:=by
  cases sh with
  |none=>exact h|some n=>cases n with
   |zero=>exact absurd rfl h0|succ n=>exact h
 cases p<;>simp only[zPD] at h<;>try (cases h;done)
 case ref q0=>
  obtain⟨_,b,c,u,rfl,ye,hΦ,yG,jO,⟨yJ,jp⟩,hr⟩:=hp;refine⟨b,rfl,ye,h0,?_⟩
  cases hs:sub q0 off sh with
  |none=>rw[hs] at h;cases h
  | some x =>
   rw[hs] at h;simp only at h;have qz:∀ n,off+n<=q0.cells.length->seg c (b.off+off) n=(u.cells.toList.drop off).take n:=by
    intro n hn;rw[<- jO];apply cW;intro k;simp only[seg,cw,ck];by_cases hk:k<n
    ·rw[if_pos hk,if_pos hk,if_pos (by omega),cg]
    ·rw[if_neg hk,if_neg hk]
   cases q0<;>try (cases sh<;>cases hs;done)
   rename_i cs;obtain⟨vs,rfl,hr⟩:=hr;have hZ:=hr.length
   cases sh with
   | some n =>
    simp only[sub] at hs;split at hs
    ·rename_i yR;cases hs;simp only[ip,fL,cond_true,ba] at h;subst h;refine⟨rfl,zAw b off,c,.agg ((vs.toList.drop off).take n).toArray,rfl,rfl,hΦ,yG,?_,⟨?_,rfl⟩,_,rfl,by simpa using zB5 hr off n⟩
     ·simp only[zAw,PV.cells,Value.cells];rw[show((cs.drop off).take n).length=n by simp;omega];exact qz n yR
     ·simp only[Value.cells,PV.cells];simp at hZ ⊢;omega
    ·cases hs
   | none =>
    simp only[sub] at hs;obtain⟨u2,La,Li,Lb,hu,hL,uJ,_,_⟩:=hr.split hs;have:Li=[]:=by
     have:=congrArg length hL;simp at this;exact br (by omega)
    subst this;simp only[dZ,co] at h
    cases j7:x.oneCell with
    |false=>rw[j7] at h;cases h|true=>
     rw[j7] at h;simp only[cond_true,ba] at h;subst h;have h1:=zBP (zCg (fun a v hw h=>zDc hw h) uJ j7);have h2:=zBo j7;have yI:off<cs.length:=(bg.1 hs).1;refine⟨rfl,zAw b off,c,u2,rfl,rfl,hΦ,yG,?_,⟨by rw[h1.1,h2.1];rfl,by rw[h1.2,h2.2]⟩,uJ⟩;rw[h1.1,h2.1];have:=qz 1 (by simp only[PV.cells];omega);simp only[zAw,bX];rw[this];simp only[Value.cells];have qW:off<vs.toList.length:=by omega
     rw[b9 qW];rw[bm qW] at hu;simp only[ba] at hu;simp[<- hu]
 case addr r pre i c s =>
  cases s with
  |none=>cases h
  | some s =>
   simp only[ba] at h;subst h;obtain⟨_,hg,b,rfl,ye,hn⟩:=hp;refine⟨b,rfl,ye,h0,rfl,hg,zAw b off,rfl,rfl,fun nv np hf a' ha=>?_⟩;have key:∃ a0,zBc nv np i c=some a0/\a'=zAw a0 off:=by
    cases np<;>try (simp[zBc] at ha;done)
    ·cases nv with
     |slice x _ _=>
      cases x with
      |none=>cases ha|some x=>simp only[zBc] at ha ⊢;cases ha;exact⟨_,rfl,by simp[zAw,cg]⟩
     |pointer x=>cases x<;>cases ha
     |_=>cases ha
    ·cases nv with
     |pointer x=>
      cases x with
      |none=>cases i<;>cases ha
      |some x=>cases i<;>simp only[zBc] at ha ⊢ <;> cases ha;exact⟨_,rfl,by simp[zAw,cg]⟩
     |slice x _ _=>cases x<;>cases ha
     |_=>cases ha
   obtain⟨a0,h1,h2⟩:=key;rw[h2,hn nv np hf a0 h1]
theorem zNQ(S:St w0 U Φ0 nt hv a w e Φ rv E L)(hb:zBv E){d:ON}(hd:∀ x,d=some x->x<nt){t:TypeId}{x:Operand}{i:Nat}(hx:zAW nt x=true)(h:(zJv P d t x i).run o e=some e') :
  ∃ v,(Instr.fieldAt t (a.eval x) i).run P w = .ok v w/\Fr w0 U Φ0 nt hv (a.put d v) w e':=by
 obtain⟨p,h1,hp⟩:=zBz S hx h;obtain⟨f,h2,h3⟩:=zBM h1;obtain⟨sh,h4,h5⟩:=zBM h3;obtain⟨q,h6,h7⟩:=zBM h5;obtain⟨b,h8,h9,j5,vg⟩:=zTt h6 hp;obtain⟨ti,jZ,_,u8,jo⟩:=zFp (w:=w) h4;refine⟨_,?_,zAC S hb hd h7 vg⟩;have yJ:ti.size≠0:=by
  cases sh with
  |none=>rw[jo rfl];decide|some n=>rw[<- u8 n rfl];intro hc;subst hc;exact j5 rfl
 simp only[zLF] at h2
 cases ht:P.underlying t with
 |none=>rw[ht] at h2;cases h2|some td=>
  rw[ht] at h2;cases td<;>simp only at h2<;>try (cases h2;done)
  rw[h8];simp only[Instr.fieldAt,bo,run_underlying ht,bh,h2,Instr.sureAddr,bA,fieldPlace,zA4 jZ,yJ,if_false,iP];rw[zB4 h9]
theorem zCu{t:TypeId}{n:Nat}(h:szT P t=some n):∃ i,P.info? t=some i/\i.size=n:=by
 simp only[szT] at h
 cases hi:P.info? t with
 |none=>rw[hi] at h;cases h|some i=>rw[hi] at h;simp only[bz,ba] at h;exact⟨i,rfl,h⟩
theorem zVB{el:TypeId}{p q:PV}{i:Nat}{v:Value}{d:ON}{k:PV->PM}(h:(zS8 P d el p i).run o e=some e')(hp:Rep w Φ (zA9 w rv E) p v []) :
  ∃ ti b n c q,P.info? el=some ti/\v = .slice (some b) n c/\i<n/\(put d q).run o e=some e'/\Rep w Φ (zA9 w rv E) q (.pointer (some (b.add (i*ti.size)))) []:=by
 cases p<;>simp only[zS8] at h<;>try (cases h;done)
 case sl xs=>
  obtain⟨x,hx,h1⟩:=zBM h;obtain⟨hs,h2⟩:=zDr h1;obtain⟨ti,jZ,yJ⟩:=zCu hs;obtain⟨_,⟨h3,_⟩|⟨b,n,c,us,sz,rfl,ye,yR,hΦ,yG,jb,⟨kR,wE⟩,jO,hr⟩⟩:=hp
  ·subst h3;simp at hx
  ·have yI:i<xs.length:=(bg.1 hx).1;obtain⟨u,La,Li,Lb,hu,hL,uJ,_,_⟩:=hr.split hx;have um:Li=[]:=by
    have:=congrArg length hL;simp at this;exact br (by omega)
   subst um;have vi:=jb x (bK hx);have jG:=kR u (bK hu);have hg:zCr u=x.isAgg:=by
    have h1:(us.map zCr)[i]? = some (zCr u):=by simp[hu]
    have h2:(xs.map PV.isAgg)[i]? = some x.isAgg:=by simp[hx]
    rw[wE] at h1;rw[h1] at h2;simpa using h2
   refine⟨ti,b,xs.length,n,.ref x,jZ,rfl,yI,h2,rfl,zAw b (i*sz),c,u,?_,rfl,hΦ,yG,?_,⟨by omega,hg⟩,uJ.mono zDt.refl (fun _ _ _ h=>h.elim) (by simp)⟩
   ·rw[zB4 ye,yJ,vi]
   ·rw[vi];refine zG4 (by simpa using jG) fun k y hy=>?_;have hf:=zEj kR hu hy;rw[<- jO] at hf;have:=zDq hf;simp only[zAw,cg];exact this
 case bor r pre z lo n=>
  cases jm:shT P el with
  |none=>rw[jm] at h;cases h
  | some sh =>
   rw[jm] at h;simp only at h;obtain⟨⟨yI,hs⟩,h2⟩:=zDr h;obtain⟨ti,jZ,yJ⟩:=zCu hs;obtain⟨_,hg,⟨x,cap,rfl,yZ,y9,yi⟩,hn⟩:=hp
   cases x with
   |none=>have:=y9 rfl;omega
   | some b =>
    refine⟨ti,b,n,cap,_,jZ,rfl,yI,h2,rfl,hg,b.add (i*ti.size),rfl,by rw[zB4 (yi b rfl)];rfl,fun nv np hf a' ha=>?_⟩;have hh:np.heavy0=true:=by cases np<;>first|rfl|(simp[zBc] at ha;done)
    obtain⟨sz,xs,h3,h4,h5⟩:=hn nv np hf hh;subst h3;subst h4;cases nv<;>simp only[zBZ] at h5;rename_i y l c
    cases y with
    |none=>cases ha|some y=>
     simp only[zBZ,du,ba] at h5;simp only[zBc,ba] at ha;rw[<- ha,zB4 (yi b rfl),h5.1.1,yJ];simp[zAw,cQ,cg]
 case bsl r pre j c0 s ag n=>
  obtain⟨⟨yI,hs⟩,h2⟩:=zDr h;obtain⟨ti,jZ,yJ⟩:=zCu hs;obtain⟨_,hg,b,cap,rfl,yZ,yi,hn⟩:=hp;refine⟨ti,b,n,cap,_,jZ,rfl,yI,h2,rfl,hg,b.add (i*ti.size),rfl,by rw[zB4 yi];rfl,fun nv np hf a' ha=>?_⟩;have key:∃ a0,zBc nv np j c0=some a0/\a'=zAw a0 (i*s):=by
   cases np<;>try (simp[zBc] at ha;done)
   ·cases nv with
    |slice x _ _=>
     cases x with
     |none=>cases ha|some x=>simp only[zBc] at ha ⊢;cases ha;exact⟨_,rfl,by simp[zAw,cg]⟩
    |pointer x=>cases x<;>cases ha
    |_=>cases ha
   ·cases nv with
    |pointer x=>
     cases x with
     |none=>cases j<;>cases ha
     |some x=>cases j<;>simp only[zBc] at ha ⊢ <;> cases ha;exact⟨_,rfl,by simp[zAw,cg]⟩
    |slice x _ _=>cases x<;>cases ha
    |_=>cases ha
  obtain⟨a0,h3,h4⟩:=key;rw[h4,zB4 yi,hn nv np hf a0 h3,yJ]
theorem zNK(S:St w0 U Φ0 nt hv a w e Φ rv E L)(hb:zBv E){d:ON}(hd:∀ x,d=some x->x<nt){t:TypeId}{x i:Operand}(hx:zAW nt x=true)(hi:zAW nt i=true)(h:(zFw P d t x i).run o e=some e') :
  ∃ v,(Instr.indexAt t (a.eval x) (a.eval i)).run P w = .ok v w/\Fr w0 U Φ0 nt hv (a.put d v) w e':=by
 obtain⟨p,h1,hp⟩:=zBz S hx h;obtain⟨pi,h2,hpi⟩:=zBz S hi h1;obtain⟨ik,n,rfl,hn,h3⟩:=zEm h2;rw[hpi.1];split at h3
 ·rename_i len el ht;simp only[zQr] at h3;split at h3
  ·rename_i s sh hs jm;obtain⟨yI,h4⟩:=zDr h3;obtain⟨q,h5,h6⟩:=zBM h4;obtain⟨b,h7,h8,h9,j5⟩:=zTt h5 hp;obtain⟨ti,jZ,yJ⟩:=zCu hs;refine⟨_,?_,zAC S hb hd h6 j5⟩;rw[h7];simp only[Instr.indexAt,bo,asIntOf,bA,bh,run_underlying ht,Instr.sureAddr];rw[if_pos ⟨hn,by omega⟩];simp only[bo,zA4 jZ,bh,bA];rw[zB4 h8,yJ]
  ·cases h3
 ·rename_i el ht;obtain⟨ti,b,m,c,q,jZ,yL,yI,h4,h5⟩:=zVB (q := .bad) (k:=fun _=>.ok) h3 hp;refine⟨_,?_,zAC S hb hd h4 h5⟩;rw[yL];simp only[Instr.indexAt,bo,asIntOf,bA,bh,run_underlying ht];rw[if_pos ⟨hn,by omega⟩];simp only[bo,zA4 jZ,bh,bA]
 ·cases h3
theorem zVX{p:PV}{n:Nat}{v:Value}(h:lenOf p=some n)(hp:Rep w Φ (zA9 w rv E) p v []):∃ b c,v = .slice b n c:=by
 cases p<;>simp only[lenOf] at h<;>try (cases h;done)
 case nils=>cases h;exact⟨_,_,hp.1⟩
 case nn=>cases h;obtain⟨_,b,c,h1⟩:=hp;exact⟨_,_,h1⟩
 case sl xs=>
  cases h;obtain⟨_,⟨rfl,b,c,rfl,_⟩|⟨b,c,_,_,_,rfl,_⟩⟩:=hp
  ·exact⟨_,_,rfl⟩
  ·exact⟨_,_,rfl⟩
 case bor=>cases h;obtain⟨_,_,⟨b,c,rfl,_⟩,_⟩:=hp;exact⟨_,_,rfl⟩
 case bsl=>cases h;obtain⟨_,_,b,c,rfl,_⟩:=hp;exact⟨_,_,rfl⟩
theorem zZj(S:St w0 U Φ0 nt hv a w e Φ rv E L)(hb:zBv E){d:ON}(hd:∀ x,d=some x->x<nt){ty:TypeId}{ts:Array TypeId}{xs:Array Operand}(hx:∀ x∈xs.toList,zAW nt x=true)
  (h:(zBy P d .len ts.toList xs.toList).run o e=some e') :
  ∃ v,(Builtin.len_ ts ty (xs.map a.eval)).run P w = .ok v w/\Fr w0 U Φ0 nt hv (a.put d v) w e':=by
 obtain⟨ts⟩:=ts;obtain⟨xs⟩:=xs;simp only at h hx;rcases xs with _|⟨x,_|⟨y,xs⟩⟩<;>rcases ts with _|⟨t,ts⟩<;>try (cases h;done)
 obtain⟨p,h1,hp⟩:=zBz S (hx x (by simp)) h;split at h1
 ·rename_i n el ht;refine⟨_,?_,zAC S hb hd h1 ⟨rfl,rfl⟩⟩;simp only[Builtin.len_,fw,bO,d5,List.getElem?_toArray,bM,bo,run_underlying ht,bh];cases a.eval x<;>rfl
 ·rename_i el ht;split at h1
  ·rename_i n hn;obtain⟨b,c,yL⟩:=zVX hn hp;refine⟨_,?_,zAC S hb hd h1 ⟨rfl,rfl⟩⟩;simp only[Builtin.len_,fw,bO,d5,List.getElem?_toArray,bM,bo,run_underlying ht,bh,yL];rfl
  ·cases h1
 ·cases h1
theorem zTj{k:IntKind}:∀ (ps:List PV) (vs:List Value) (m:Int) (r:Option Int),zA5 w Φ A ps vs [] ->
  (ps.foldl (fun m p=>match m,p with
   |some m,.int k' b=>if k=k' then some (if b>m then b else m) else none
   |_,_=>none) (some m))=r->∀ z,r=some z->(vs.foldlM Builtin.max2 (.int k m)).run P w = .ok (.int k z) w
 |[],vs,m,r,hr,h,z,hz=>by rw[hr.1];simp only[cB] at h;rw[<- h] at hz;cases hz;rfl
 | p :: ps,vs,m,r,hr,h,z,hz=>by
  obtain⟨v,vs',L1,L2,rfl,hL,h1,h2⟩:=hr;obtain⟨rfl,rfl⟩:L1=[]/\L2=[]:=by simpa using hL.symm
  have dead:∀ qs:List PV,qs.foldl (fun m p=>match m,p with
   |some m,.int k' b=>if k=k' then some (if b>m then b else m) else none
   |_,_=>none) (none:Option Int)=none:=by
   intro qs;induction qs with
   |nil=>rfl|cons q qs ih=>simp only[bY];exact ih
  simp only[bY] at h;cases p<;>try (simp only at h;rw[dead] at h;rw[<- h] at hz;cases hz;done)
  rename_i k' b;simp only at h;split at h
  ·rename_i hk;subst hk;rw[h1.1];simp only[List.foldlM_cons,Builtin.max2,bo,bA,bh];exact zTj ps vs' _ r h2 h z hz
  ·rw[dead] at h;rw[<- h] at hz;cases hz
theorem zTf{k:IntKind}:∀ (ps:List PV) (vs:List Value) (m:Int) (r:Option Int),zA5 w Φ A ps vs [] ->
  (ps.foldl (fun m p=>match m,p with
   |some m,.int k' b=>if k=k' then some (if b<m then b else m) else none
   |_,_=>none) (some m))=r->∀ z,r=some z->(vs.foldlM Builtin.min2 (.int k m)).run P w = .ok (.int k z) w
 |[],vs,m,r,hr,h,z,hz=>by rw[hr.1];simp only[cB] at h;rw[<- h] at hz;cases hz;rfl
 | p :: ps,vs,m,r,hr,h,z,hz=>by
  obtain⟨v,vs',L1,L2,rfl,hL,h1,h2⟩:=hr;obtain⟨rfl,rfl⟩:L1=[]/\L2=[]:=by simpa using hL.symm
  have dead:∀ qs:List PV,qs.foldl (fun m p=>match m,p with
   |some m,.int k' b=>if k=k' then some (if b<m then b else m) else none
   |_,_=>none) (none:Option Int)=none:=by
   intro qs;induction qs with
   |nil=>rfl|cons q qs ih=>simp only[bY];exact ih
  simp only[bY] at h;cases p<;>try (simp only at h;rw[dead] at h;rw[<- h] at hz;cases hz;done)
  rename_i k' b;simp only at h;split at h
  ·rename_i hk;subst hk;rw[h1.1];simp only[List.foldlM_cons,Builtin.min2,bo,bA,bh];exact zTf ps vs' _ r h2 h z hz
  ·rw[dead] at h;rw[<- h] at hz;cases hz
theorem zYY(S:St w0 U Φ0 nt hv a w e Φ rv E L)(hb:zBv E){d:ON}(hd:∀ x,d=some x->x<nt){ty:TypeId}{ts:Array TypeId}{xs:Array Operand}(hx:∀ x∈xs.toList,zAW nt x=true)
  (h:(zBy P d .max ts.toList xs.toList).run o e=some e'):∃ v,(Builtin.max_ ts ty (xs.map a.eval)).run P w = .ok v w/\Fr w0 U Φ0 nt hv (a.put d v) w e':=by
 simp only[zBy] at h;obtain⟨ps,h1,hp⟩:=zIi S hx h
 cases hm:zYI ps with
 |none=>rw[hm] at h1;cases h1|some r=>
  rw[hm] at h1;simp only at h1;rcases ps with _|⟨p,ps⟩<;>simp only[zYI] at hm<;>try (cases hm;done)
  cases p<;>simp only at hm<;>try (cases hm;done)
  rename_i k x0;simp only[bl] at hm;obtain⟨z,hz,rfl⟩:=hm;obtain⟨v,vs',L1,L2,yq,hL,g1,g2⟩:=hp;obtain⟨rfl,rfl⟩:L1=[]/\L2=[]:=by simpa using hL.symm
  refine⟨.int k z,?_,zAC S hb hd h1 ⟨rfl,rfl⟩⟩;simp only[Builtin.max_,iB,yq];rw[g1.1];exact zTj ps vs' x0 _ g2 hz z rfl
theorem zYQ(S:St w0 U Φ0 nt hv a w e Φ rv E L)(hb:zBv E){d:ON}(hd:∀ x,d=some x->x<nt){ty:TypeId}{ts:Array TypeId}{xs:Array Operand}(hx:∀ x∈xs.toList,zAW nt x=true)
  (h:(zBy P d .min ts.toList xs.toList).run o e=some e'):∃ v,(Builtin.min_ ts ty (xs.map a.eval)).run P w = .ok v w/\Fr w0 U Φ0 nt hv (a.put d v) w e':=by
 simp only[zBy] at h;obtain⟨ps,h1,hp⟩:=zIi S hx h
 cases hm:zZC ps with
 |none=>rw[hm] at h1;cases h1|some r=>
  rw[hm] at h1;simp only at h1;rcases ps with _|⟨p,ps⟩<;>simp only[zZC] at hm<;>try (cases hm;done)
  cases p<;>simp only at hm<;>try (cases hm;done)
  rename_i k x0;simp only[bl] at hm;obtain⟨z,hz,rfl⟩:=hm;obtain⟨v,vs',L1,L2,yq,hL,g1,g2⟩:=hp;obtain⟨rfl,rfl⟩:L1=[]/\L2=[]:=by simpa using hL.symm
  refine⟨.int k z,?_,zAC S hb hd h1 ⟨rfl,rfl⟩⟩;simp only[Builtin.min_,iB,yq];rw[g1.1];exact zTf ps vs' x0 _ g2 hz z rfl
end
end Go.Eng
namespace Go.Eng
open Go
section
variable {P:Program} {w0 w w':World} {U Φ0 Φ:Nat->Prop} {nt:Nat} {hv:Hid} {a:Act} {e e':Env} {rv rv':Nat->Value} {E E':Nat->PV} {L L':Nat->LN} {o:zAO} {A:Al}
def zG6(w:World)(c:Array Value)(t:TypeId):World:={w with heap:=w.heap.push (.cells c t)}
theorem zFA(t:TypeId)(c:Array Value):(newRow t c).run P w = .ok ⟨w.heap.size,0,none⟩ (zG6 w c t):=by
 simp[newRow,zG6]
theorem zHn{c:Array Value}{t:TypeId}{b:Nat}(h:b<w.heap.size):(zG6 w c t).heap[b]? = w.heap[b]?:=by
 simp only[zG6,ff];rw[if_neg (by omega)]
theorem zOb{c:Array Value}{t:TypeId}:zEY (zG6 w c t) w.heap.size c:=⟨t,by show(w.heap.push (.cells c t))[w.heap.size]? = _;simp⟩
theorem zGA{c:Array Value}{t:TypeId}:(zG6 w c t).heap.size=w.heap.size+1:=by simp[zG6]
theorem zNm{p:PV}{v:Value}(h:zK0 p v=true):Rep w Φ A p v []/\p.oneCell=true/\v.oneCell'=true:=by
 cases p<;>cases v<;>simp only[zK0] at h<;>try (cases h;done)
 case int=>simp only[bb,decide_eq_true_eq] at h;obtain⟨rfl,rfl⟩:=h;exact⟨⟨rfl,rfl⟩,rfl,rfl⟩
 case bool=>simp only[beq_iff_eq] at h;subst h;exact⟨⟨rfl,rfl⟩,rfl,rfl⟩
 case nilp.pointer a=>cases a<;>simp only[zK0] at h<;>first|(cases h;done)|exact⟨⟨rfl,rfl⟩,rfl,rfl⟩
 case nilf=>exact⟨⟨rfl,rfl⟩,rfl,rfl⟩
 case nilm.map a=>cases a<;>simp only[zK0] at h<;>first|(cases h;done)|exact⟨⟨rfl,rfl⟩,rfl,rfl⟩
 case own.slice sz xs a n c=>
  cases xs with
  |cons _ _=>simp only[zK0] at h;cases h|nil=>
   cases a with
   |some _=>simp only[zK0] at h;cases h|none=>cases n<;>cases c<;>simp only[zK0] at h<;>first|(cases h;done)|exact⟨.inl ⟨rfl,rfl,rfl⟩,rfl,rfl⟩
theorem zNb:∀ {ps:List PV} {vs:List Value},zV5 ps vs=true->zA5 w Φ A ps vs []/\(∀ v∈vs,v.oneCell'=true)/\∀ p∈ps,p.oneCell=true
 |[],[],_=>⟨⟨rfl,rfl⟩,by simp,by simp⟩|[],_::_,h=>by cases h|_::_,[],h=>by cases h|p::ps,v::vs,h=>by
  simp only[zV5,bb] at h;obtain⟨h1,h2,h3⟩:=zNm (w:=w) (Φ:=Φ) (A:=A) h.1;obtain⟨h4,h5,h6⟩:=zNb h.2;exact⟨⟨v,vs,[],[],rfl,rfl,h1,h4⟩,fun x hx=>(bD.1 hx).elim (fun e=>e▸h3) (h5 x),fun x hx=>(bD.1 hx).elim (fun e=>e▸h2) (h6 x)⟩
theorem zCn{p:PV}{v:Value}(h:zMV p v=true):Rep w Φ A p v []/\v.cells.size=p.cells.length/\zCr v=p.isAgg/\(∀ u∈v.cells.toList,u.oneCell'=true)/\∀ q∈p.cells,q.oneCell=true:=by
 by_cases hp:∃ cs,p = .agg cs
 ·obtain⟨cs,rfl⟩:=hp;cases v<;>simp only[zMV] at h<;>try (cases h;done)
  rename_i vs;obtain⟨h1,h2,h3⟩:=zNb (w:=w) (Φ:=Φ) (A:=A) h;have:=h1.length;exact⟨⟨vs,rfl,h1⟩,by simpa[Value.cells,PV.cells] using this,rfl,h2,h3⟩
 ·have h:zK0 p v=true:=by
   rw[<- h];cases p<;>first|rfl|exact absurd ⟨_,rfl⟩ hp
  obtain⟨h1,h2,h3⟩:=zNm (w:=w) (Φ:=Φ) (A:=A) h;have h4:=zBP h3;have h5:=zBo h2;exact⟨h1,by rw[h4.1,h5.1];rfl,by rw[h4.2,h5.2],by rw[h4.1];simpa using h3,by rw[h5.1];simpa using h2⟩
theorem zDT{t:TypeId}{z:PV}(h:zCM P t=some z):∃ i v,P.info? t=some i/\i.zero=some v/\(∀ w:World,(zeroValue t).run P w = .ok v w)/\zMV z v=true:=by
 simp only[zCM] at h;split at h
 ·rename_i cs sh v _ _ hv
  cases hi:P.info? t with
  |none=>rw[hi] at hv;cases hv
  | some i =>
   rw[hi] at hv;simp only[bc] at hv
   cases hz:zMV (zOi sh cs) v with
   |false=>rw[hz] at h;cases h|true=>
    rw[hz] at h;simp only[cond_true,ba] at h;subst h;refine⟨i,v,rfl,hv,fun w=>?_,hz⟩;simp[zeroValue,typeInfo,hi,hv]
 ·cases h
theorem St.boxed(S:St w0 U Φ0 nt hv a w e Φ rv E L){g0 g:Nat}(hg0:zAa<=g0)(hg:zAa<=g)(hI:g≠g0)(un:E g = .bad){v:Value}(yL:rv g0=v)(t:TypeId)(yJ:v.cells.size=(E g0).cells.length/\zCr v=(E g0).isAgg) :
  ∃ rv1 E1 L1,St w0 U Φ0 nt hv a (zG6 w v.cells t) e Φ rv1 E1 L1/\E1 g = .box (E g0)/\rv1 g = .pointer (some ⟨w.heap.size,0,none⟩)/\E1 g0 = .bad/\∀ s,zAa<=s->s≠g->s≠g0->E1 s=E s:=by
 have yA:=S.conf.rep g0;rw[yL] at yA;have hold:∀ b∈L g0,(zG6 w v.cells t).heap[b]? = w.heap[b]?:=fun b hb=>zHn (S.conf.own g0 b hb).1;have hΦ:zDt w (zG6 w v.cells t) Φ Φ:=fun b hb=>⟨hb,zHn (S.conf.frz b hb).1⟩
 have hc:=S.conf.make (w':=zG6 w v.cells t) (fun s=>s==g0) (fun s hs=>by have:=eq_of_beq hs;omega) hg (p := .box (E g0)) (v := .pointer (some ⟨w.heap.size,0,none⟩)) (Lp:=w.heap.size::L g0)
  (fun A hA=>⟨_,v.cells,v,L g0,rfl,rfl,rfl,zOb,by show(v.cells.toList.drop 0).take _=_;rw[<- yJ.1];exact bp (by simp),yJ,yA.mono hΦ hA hold⟩)
  (cz.2 ⟨fun hm=>absurd (S.conf.own g0 _ hm).1 (fC _),S.conf.nodup g0⟩)
  (fun b hb=>by
   rcases bD.1 hb with rfl|hb
   ·exact .inr ⟨bi _,by rw[zGA];omega⟩
   ·exact .inl ⟨g0,hb,by simp⟩)
  (by rw[zGA];omega) (fun b hb _=>zHn hb) ⟨rfl,rfl,rfl⟩
 refine⟨_,_,_,S.turn hc (fun s hs=>?_) (fun s hs=>zAg (by omega)) (fun d ps hd hp=>?_),zAj,zAj,?_,fun s h1 h2 h3=>?_⟩
 ·rw[zAg (by omega)];have:(s==g0)=false:=by simp;omega
  simp only[this,bq,if_false];exact S.env s hs
 ·simp only[zAa] at hg hg0;rw[zAg (by omega)] at hp;have:(d==g0)=false:=by simp;omega
  simp only[this,bq,if_false] at hp;exact⟨ps,hp,rfl⟩
 ·rw[zAg (dW hI)];simp
 ·rw[zAg h2];have:(s==g0)=false:=by simp[h3]
  simp[this]
theorem zVL(S:St w0 U Φ0 nt hv a w e Φ rv E L)(hb:zBv E){d:ON}(hd:∀ x,d=some x->x<nt){t:TypeId}(h:(zUw P d t).run o e=some e') :
  ∃ v w',(Instr.alloc t true (.tuple #[])).run P w = .ok v w'/\Fr w0 U Φ0 nt hv (a.put d v) w' e':=by
 obtain⟨z,hz,h1⟩:=zBM h;obtain⟨i,v,hi,hiz,yC,km⟩:=zDT hz;have ko:=zCn (w:=w) (Φ:=Φ) (A:=zA9 w rv E) km;obtain⟨hr,h2,h3⟩:Rep w Φ (zA9 w rv E) (zUi P t z) v []/\v.cells.size=(zUi P t z).cells.length/\zCr v=(zUi P t z).isAgg:=by
  cases z with
  |nils k=>
   simp only[zUi];split
   ·exact⟨.inl ⟨rfl,rfl,ko.1.1⟩,ko.2.1,ko.2.2.1⟩
   ·exact⟨ko.1,ko.2.1,ko.2.2.1⟩
  |_=>exact⟨ko.1,ko.2.1,ko.2.2.1⟩
 have S1:=S.hold (bi zAa) hr;obtain⟨rv1,E1,L1,S2,h4,h5,h6,h7⟩:=S1.boxed (g0:=zAa) (g:=zAa+1) (bi _) (by omega) (by omega) (by rw[zAg (by omega)];exact hb _ (by omega)) zAj t (by rw[zAj];exact⟨h2,h3⟩);have:=zGf S2 hd (g:=zAa+1) (by omega) (by rw[h4,zAj];exact h1) (fun s hs hI=>by
   by_cases h8:s=zAa
   ·subst h8;exact h6
   ·rw[h7 s hs hI h8,zAg h8];exact hb s hs)
 rw[h5] at this;refine⟨_,_,?_,this⟩;simp only[Instr.alloc,bo,yC,bh,newVar,zFA,bA]
theorem zY2(S:St w0 U Φ0 nt hv a w e Φ rv E L)(hb:zBv E){d:ON}(hd:∀ x,d=some x->x<nt){t:TypeId}{x:Operand}(hx:zAW nt x=true)(h:(zUQ P d t x).run o e=some e') :
  ∃ v w',(Instr.box t (a.eval x)).run P w = .ok v w'/\Fr w0 U Φ0 nt hv (a.put d v) w' e':=by
 obtain⟨e1,rv1,E1,L1,h1,S1,h2,h3⟩:=zGg S hx (bi zAa) h;split at h1
 ·rename_i sh n _ _;obtain⟨h4,h5⟩:=zDr h1;simp only[bb,decide_eq_true_eq] at h4;have yA:=S1.conf.rep zAa;rw[h2] at yA;have yJ:(a.eval x).cells.size=(E1 zAa).cells.length/\zCr (a.eval x)=(E1 zAa).isAgg:=by
   have hw:=h4.2;simp only[PV.whole,bS] at hw;rcases hw with hw|hw
   ·cases hE:E1 zAa<;>rw[hE] at hw<;>simp[PV.isAgg] at hw;rw[hE] at yA;obtain⟨vs,yL,hr⟩:=yA;have:=hr.length;rw[yL];exact⟨by simpa[Value.cells,PV.cells] using this,rfl⟩
   ·have g1:=zBP (zCg (fun a v hw h=>zDc hw h) yA hw);have g2:=zBo hw;exact⟨by rw[g1.1,g2.1];rfl,by rw[g1.2,g2.2]⟩
  obtain⟨rv2,E2,L2,S2,h6,h7,h8,h9⟩:=S1.boxed (g0:=zAa) (g:=zAa+1) (bi _) (by omega) (by omega) (by rw[(h3 (zAa+1) (by omega) (by omega)).1];exact hb _ (by omega)) h2 t yJ;have:=zGf S2 hd (g:=zAa+1) (by omega) (by rw[h6];exact h5) (fun s hs hI=>by
    by_cases j5:s=zAa
    ·subst j5;exact h8
    ·rw[h9 s hs hI j5,(h3 s hs j5).1];exact hb s hs)
  rw[h7] at this;refine⟨_,_,?_,this⟩;simp only[Instr.box,bo,newVar,zFA,bh,bA]
 ·cases h1
theorem zLy{t:TypeId}{sh:ON}(hs:shT P t=some sh){b:Addr}{u:Value}(hc:∀ j y,u.cells.toList[j]? = some y->w.cell? (b.add j)=some y)(hu:zCr u=sh.isSome)(hn:u.cells.size=sh.getD 1) :
  (loadVar t b).run P w = .ok u w:=by
 obtain⟨ti,jZ,yz,h1,h2⟩:=zFp (w:=w) hs
 cases sh with
 |some n=>
  have:=h1 n rfl;subst this;cases u<;>simp[zCr] at hu;rename_i vs;simp only[dn,Value.cells] at hn;have hl:=run_loadCells_list (P:=P) w b vs.toList hc;have gi:(loadCells b ti.size).run P w = .ok vs w:=by rw[<- hn];simpa using hl
  simp only[loadVar,bo,yz,bh,ip,if_true,zA4 jZ,gi,bA,iP]
 |none=>
  have kR:u.cells=#[u]:=by cases u<;>first|rfl|simp[zCr] at hu
  have:=hc 0 u (by rw[kR];rfl);have h0:b.add 0=b:=by simp[Addr.add]
  rw[h0] at this;simp only[loadVar,bo,yz,bh,dZ,bq,if_false,iP,run_load,this]
theorem zII{b:Addr}{c:Array Value}{l:List Value}(ye:b.spot=none)(hr:zKH w b.block c)(h:seg c b.off l.length=l):∀ j y,l[j]? = some y->w.cell? (b.add j)=some y:=by
 intro j y hy;rw[zB4 ye];simp only[zAw];rw[zCW hr];rw[<- h] at hy;exact zDq hy
theorem zWe{q:List PV}{u:Value}{us:List Value}(h:zA5 w Φ A q us [])(hl:us=[u]):Rep w Φ A (q.headD .bad) u []:=by
 subst hl
 cases q with
 |nil=>exact absurd h.1 (by simp)|cons p ps=>
  obtain⟨v,vs',L1,L2,h1,h2,h3,_⟩:=h;obtain⟨rfl,rfl⟩:L1=[]/\L2=[]:=by simpa using h2.symm
  simp only[fg] at h1;rw[h1.1];exact h3
theorem zME(S:St w0 U Φ0 nt hv a w e Φ rv E L){t:TypeId}{sh:ON}(hs:shT P t=some sh){r:Nat}{pre:zA2}{i c:Nat}{s':ON}{v:Value}(hp:Rep w Φ (zA9 w rv E) (.addr r pre i c s') v [])
  {k:PV->PM} (h:(zNE r pre i c sh k).run o e=some e'):∃ b u q,v = .pointer (some b)/\(loadVar t b).run P w = .ok u w/\(k q).run o e=some e'/\Rep w Φ (zA9 w rv E) q u []:=by
 obtain⟨_,hg,b,rfl,ye,hn⟩:=hp;refine⟨b,?_⟩
 cases sh with
 | some n =>
  simp only[zNE,PM.run] at h;split at h
  ·rename_i ag qs hq;rw[<- S.env r hg] at hq;obtain⟨nv,np,ad,us,h1,h2,h3,h4,h5,h6⟩:=S.conf.cells hg hq;have:=hn nv np h1 ad h2;subst this
   cases ag with
   |false=>cases h|true=>
    refine⟨.agg us.toArray,.agg qs,rfl,zLy hs (fun j y hy=>h5 j y (by simpa[Value.cells] using hy)) rfl (by simpa[Value.cells] using h4),h,_,rfl,by simpa using h6⟩
  ·cases h
 | none =>
  simp only[zNE,PM.run] at h;split at h
  ·rename_i ag qs hq;rw[<- S.env r hg] at hq;obtain⟨nv,np,ad,us,h1,h2,h3,h4,h5,h6⟩:=S.conf.cells hg hq;have:=hn nv np h1 ad h2;subst this
   match us,h4 with
   |[u],_=>
    refine⟨u,qs.headD .bad,rfl,?_,h,zWe h6 rfl⟩;have:=h5 0 u rfl;rw[show b.add 0=b by simp[Addr.add]] at this;obtain⟨ti,jZ,yz,_⟩:=zFp (w:=w) hs;simp only[loadVar,bo,yz,bh,dZ,bq,if_false,iP,run_load,this]
  ·cases h
theorem zPz(S:St w0 U Φ0 nt hv a w e Φ rv E L)(hb:zBv E){d:ON}(hd:∀ x,d=some x->x<nt){t:TypeId}{sh:ON}(hs:shT P t=some sh){p:PV}{v:Value}(hp:Rep w Φ (zA9 w rv E) p v [])(h:(zQV d sh p).run o e=some e') :
  ∃ u,(Instr.loadAt t v).run P w = .ok u w/\Fr w0 U Φ0 nt hv (a.put d u) w e':=by
 cases p<;>simp only[zQV] at h<;>try (cases h;done)
 case ref q=>
  obtain⟨h1,h2⟩:=zDr h;simp only[bb,decide_eq_true_eq] at h1;obtain⟨_,b,c,u,rfl,ye,hΦ,yG,jO,⟨yJ,jp⟩,hr⟩:=hp;refine⟨u,?_,zAC S hb hd h2 hr⟩;simp only[Instr.loadAt,Instr.sureAddr,bo,bA,bh];refine zLy hs (zII ye yG ?_) ?_ ?_
  ·rw[show u.cells.toList.length=q.cells.length by simpa using yJ];exact jO
  ·rw[jp,h1.1]
  ·rw[yJ,h1.2]
 case addr r pre i c s'=>
  obtain⟨b,u,q,rfl,h1,h2,h3⟩:=zME S hs hp h;refine⟨u,?_,zAC S hb hd h2 h3⟩;simp only[Instr.loadAt,Instr.sureAddr,bo,bA,bh];exact h1
end
end Go.Eng
