/- A row that the call owns, of which nothing that it can write is frozen. -/
import Derived.Laws.AppendOwn
import Derived.Laws.AppendOwnNone
import Derived.Laws.OwnMore
import Derived.Laws.MakeOwn
import Derived.Laws.BytesArg
import Derived.Laws.Rows
set_option linter.unusedVariables false
set_option linter.defProp false
namespace Go.Proofs.YthnfghmjipikhaaGreatDoor.Ev
open IntKind (i64 u8 u64 u32)
def B3a:=@Bool.and_eq_false_iff
def A3l:=@decide_eq_false_iff_not
def B2:=@Array.getElem?_eq_some_iff
def A1m:=@cell_of_row
def M6:=@List.getElem?_take
def F8:=@List.append_nil
def K1:=@List.length_nil
def K3:=@Nat.add_zero
def O0:=@List.take_append_drop
def U9:=@Array.toArray_toList
def B7m:=@setCell_eq_setRow
def Q3:=@setRow_heap
def C3:=@Sem.run_bind
def I0:=@Result.andThen_ok
def B0W:=@setRow_setRow
def A1n:=@Array.toList_setIfInBounds
def N7:=@Nat.add_assoc
def B5U:=@run_firstCells_some
def G6:=@run_underlying
def U4:=@Addr.add_lit
def F3:=@List.eq_nil_of_length_eq_zero
def A4:=@List.length_append
def L0:=@Nat.add_mul
def E3:=@Nat.mul_le_mul_right
def G1:=@List.size_toArray
def B3:=@List.length_take
def C4:=@List.length_drop
def D6:=@Array.length_toList
def W6:=@setRow_other
def V0:=@List.take_left
def B3P:=@run_append_grow
def A4p:=@growslice_fits
def A1o:=@grownCap_ge
def U0:=@grownCap_le_maxLen
def A0i:=@heap_alloc_new
def V3:=@Array.size_append
def A09:=@size_zeroCells
def A0b:=@Array.toList_append
def A8:=@List.append_assoc
def A03:=@Nat.one_pos
def A6:=@List.mem_singleton
def C9:=@List.mem_append
def A8w:=@Nat.lt_of_lt_of_le
def J8:=@World.cell?_of_block
def K5:=@World.block_lt_of_cell?
def I2:=@Array.getElem?_eq_getElem
def C5:=@Nat.le_refl
def H3:=@Nat.zero_le
def C2:=@List.getElem?_eq_some_iff
def G3:=@List.getElem?_take_of_lt
def F7:=@List.getElem?_drop
def B1B:=@Option.bind_some
def H0:=@List.length_cons
def A5:=@List.mem_cons_self
def B5:=@List.mem_cons_of_mem
def S9:=@Nat.le_trans
def A4q:=@List.nodup_nil
def D0:=@List.all_eq_true
def Q4:=@Bool.not_eq_true'
def T0:=@List.any_eq_false
def E8:=@List.mem_flatMap
def J6:=@Array.getD_eq_getD_getElem?
def A73:=@Array.getElem?_setIfInBounds
def F9:=@if_pos
def D8:=@if_neg
def G4:=@List.map_cons
def C8:=@List.cons_append
def D5:=@List.mem_map
def A15:=@List.drop_eq_nil_of_le
def C1:=@List.getElem?_eq_getElem
def I3:=@List.drop_eq_getElem_cons
def A0j:=@decide_eq_true
def G9:=@Bool.not_true
def A0A:=@Bool.false_eq_true
def A0k:=@if_false
def B0a:=@Bool.true_and
def T2:=@decide_eq_false
def O8:=@List.drop_drop
def E4:=@List.mem_append_left
def D4:=@List.mem_append_right
def M7:=@Nat.blt_eq
def E5:=@List.getElem?_append_left
def E7:=@List.getElem?_append_right
def A16:=@Nat.zero_mul
def E1:=@Nat.zero_add
def Q5:=@if_true
def C6:=@List.getD_eq_getElem?_getD
def A3:=@Nat.eq_of_beq_eq_true
def B8:=@List.mem_cons
def S2:=@List.not_mem_nil
def A6l:=@or_false
def B7:=@cond_true
def B1:=@cond_false
def B0:=@of_decide_eq_true
def A90:=@of_decide_eq_false
def A0r:=@Nat.mul_one
def B6u:=@run_loadCells_list
def A1Q:=@List.getElem?_toArray
def J9:=@List.mem_of_getElem?
def A4r:=@Sem.run_pure
def U1:=@Option.getD_some
def B4:=@Bool.and_eq_true
def N1:=@Option.map_some
def A2g:=@Int.toNat_of_nonneg
def U5:=@Ne.symm
def F5:=@List.nil_append
def T5:=@congrArg
def B9u:=@HEq.rfl
def O9:=@List.take_take
def T3:=@Nat.min_eq_left
def A1p:=@List.drop_take
def H8:=@Nat.succ_mul
def D7:=@Nat.le_of_ble_eq_true
def A7v:=@List.map_nil
def A5g:=@List.ext_getElem
def A7w:=@Nat.mul_comm
def B7n:=@getElem!_pos
def A3m:=@Int.le_refl
def A0C:=@List.length_replicate
def A4s:=@World.ownsRow_lit
def B3F:=@List.getElem_replicate
def W5:=@List.replicate_succ
def A9u:=@List.flatten_cons
def A0l:=@List.drop_zero
def F4:=@List.take_append_of_le_length
def G2:=@List.take_of_length_le
def A5h:=@List.drop_append
def P8:=@List.drop_of_length_le
def O6:=@Nat.add_sub_cancel_left
def B7o:=@Nat.add_comm
def A0m:=@List.drop_left
def B3G:=@List.getElem_cons_succ
def A17:=@Nat.beq_refl
def A74:=@List.map_append
def B9H:=@Nat.mul_pos
def B1C:=@Nat.le_mul_of_pos_right
def P1:=@List.length_map
def A0D:=@Nat.div_lt_iff_lt_mul
def B3H:=@Nat.mod_lt
def A75:=@Nat.div_add_mod
def L1:=@List.getElem?_map
def K0:=@List.getElem_append_left
def K6:=@List.drop_append_of_le_length
def J1:=@List.getElem_append_right
def A4t:=@Nat.le_of_lt
def A0N:=@List.ext_getElem?
def A0O:=@List.mem_of_mem_take
def S3:=@List.mem_of_mem_drop
def W0:=@List.length_set
def A54:=@List.getElem_set_self
def A76:=@List.getElem_set_ne
def I8:=@List.suffix_refl
def B1D:=@List.suffix_cons
def A0B:=@List.suffix_append
def K4:=@Array.getElem?_toList
def B4n:=@List.range_eq_range'
def A1N:=@List.any_cons
def A6m:=@Bool.or_eq_false_iff
def J5:=@Bool.or_eq_true
def A2a:=@List.any_eq_true
def H2:=@List.length_singleton
def A6n:=@Array.mem_toList_iff
def B5p:=@Bool.false_or
def A18:=@List.mem_filterMap
def A77:=@List.filterMap_cons
def A3n:=@List.append_cancel_left
def A55:=@Nat.le_div_iff_mul_le
def A04:=@Array.toList_inj
def A5j:=@Nat.lt_succ_self
def A1A:=@List.any_append
def B4o:=@List.getElem?_set_ne
def I6:=@Option.some.injEq
def A56:=@Array.getElem?_modify
def B1E:=@List.getElem?_cons_zero
def A6o:=@Nat.sub_mul
def A6p:=@List.mem_iff_getElem
def A57:=@List.mem_iff_getElem?
def T6:=@List.singleton_append
def A4u:=@List.getElem_take
def A4v:=@List.getElem_drop
def A5k:=@block_lt_of_cell
def B3R:=@Option.some.inj
def B5q:=@Prod.mk.injEq
def E2:=@Int.toNat_natCast
def K2:=@decide_eq_true_eq
def B7p:=@Nat.or_lt_two_pow
def J2:=@List.getElem_mem
def B7q:=@Nat.lt_trichotomy
def A91:=@Int.natCast_nonneg
def A92:=@Bool.false_and
def A1r:=@decide_true
def A93:=@Bool.not_false
def A1B:=@List.length_zip
def L2:=@List.take_succ_eq_append_getElem
def A0n:=@List.length_eq_zero_iff
def P0:=@Int.tdiv_eq_ediv_of_nonneg
def B3b:=@ByteArray.size_append
def A94:=@Nat.eq_zero_or_pos
def A98:=@List.mem_take_iff_getElem
def B1G:=@IntKind.wrap_i64
def B4q:=@Nat.min_def
def B3S:=@List.take_left'
def Thawed(n:Nat)(fz:Nat×Nat):Prop:=fz=(0,0)\/fz=(n,n+1)
theorem Thawed.not{w:World}{g:Nat}{cur:Array Value}{t:TypeId}{fz:Nat×Nat}(hg:w.heap[g]? = some (.cells cur t fz))(hf:Thawed cur.size fz){i:Nat}(hi:i<cur.size):w.frozen? ⟨g,i,none⟩=false:=by
 rcases hf with rfl | rfl
 ·simp only [World.frozen?,hg,B3a,A3l];right;exact Nat.not_lt_zero _
 ·simp only [World.frozen?,hg,B3a,A3l];left;omega
def TS(size n:Nat)(fz:Nat×Nat):Prop:=Thawed n fz/\(fz=(0,0)\/size=1)
def owns(w:World)(base:Nat)(e:TypeId)(size:Nat)(v:Value)(n:Nat)(xs:List Value):Prop:=
 xs.length=n*size/\
 ((v=.slice none 0 0/\n=0)\/
  ∃ g cap cur fz,v=.slice (some ⟨g,0,none⟩) n cap/\base<=g/\w.heap[g]? = some (.cells cur e fz)/\TS size cur.size fz/\n<=cap/\cap<=maxLen/\cur.size=cap*size/\cur.toList.take (n*size)=xs)
section
variable {w:World} {base:Nat} {e:TypeId} {size:Nat} {v:Value} {n:Nat} {xs:List Value}
theorem A9A(h:w.ownsRow base e size v n xs):owns w base e size v n xs:=by
 refine ⟨h.1,?_⟩;rcases h.2 with hn | ⟨g,cap,cur,hv,hb,hg,rest⟩
 ·exact .inl hn
 ·exact .inr ⟨g,cap,cur,(0,0),hv,hb,hg,⟨.inl rfl,.inl rfl⟩,rest⟩
theorem A3s(w:World)(base:Nat)(e:TypeId)(size:Nat):owns w base e size (.slice none 0 0) 0 []:=⟨by simp,.inl ⟨rfl,rfl⟩⟩
theorem D3g(h:owns w base e size v n xs):∀ k,v.ownBlock=some k->base<=k/\k<w.heap.size:=by
 intro k hk;rcases h.2 with ⟨rfl,_⟩ | ⟨g,cap,cur,fz,rfl,hb,hg,_⟩
 ·simp [Value.ownBlock] at hk
 ·simp [Value.ownBlock] at hk;subst hk;exact ⟨hb,(B2.1 hg).1⟩
theorem V4(h:owns w base e size v n xs){g:Nat}(hg:v.ownBlock=some g):∀ j u,xs[j]? = some u->w.cell? ((⟨g,0,none⟩:Addr).add j)=some u:=by
 intro j u hu;rcases h.2 with ⟨rfl,_⟩ | ⟨g',cap,cur,fz,rfl,_,hgg,_,_,_,_,htake⟩
 ·simp [Value.ownBlock] at hg
 ·simp [Value.ownBlock] at hg;subst hg;have hadd:(⟨g',0,none⟩:Addr).add j=⟨g',j,none⟩:=by unfold Addr.add;split<;>simp_all
  rw [hadd,A1m w g' j cur e fz hgg];rw [<- htake,M6] at hu;split at hu
  ·simpa using hu
  ·cases hu
end
theorem A0s(P:Program)(g o:Nat)(t:TypeId)(fz:Nat×Nat):∀ (vs:List Value) (i:Nat) (cur:Array Value) (w:World),w.heap[g]? = some (.cells cur t fz)->Thawed cur.size fz->o+i+vs.length<=cur.size->(∀ v∈vs,v.oneCell' = true)->
  (storeCells ⟨g,o,none⟩ vs i).run P w=.ok () (w.setRow g (cur.toList.take (o+i)++vs++cur.toList.drop (o+i+vs.length)).toArray)
 | [],i,cur,w,hg,_,_,_=>by
  simp only [storeCells,F8,K1,K3,O0,U9];rw [setRow_self w g cur t fz hg];rfl
 | v::rest,i,cur,w,hg,hfz,hl,h1=>by
  have hi:o+i<cur.size:=by simp at hl;omega
  have hadd:(⟨g,o,none⟩:Addr).add i=⟨g,o+i,none⟩:=by unfold Addr.add;split<;>simp_all
  have hcell:w.cell? ⟨g,o+i,none⟩=some cur[o+i]:=by simp [World.cell?,hg,hi]
  have hfro:w.frozen? ⟨g,o+i,none⟩=false:=Thawed.not hg hfz hi;have hst:(store ((⟨g,o,none⟩:Addr).add i) v).run P w=.ok () (w.setRow g (cur.setIfInBounds (o+i) v)):=by
   rw [hadd,run_store P w _ v _ (h1 v (by simp)),hcell];simp [hfro,B7m w g (o+i) cur t fz v hg]
  have ih:=A0s P g o t fz rest (i+1) (cur.setIfInBounds (o+i) v) (w.setRow g (cur.setIfInBounds (o+i) v)) (Q3 w g cur _ t _ hg) (by simpa using hfz) (by simp at hl ⊢;omega) (fun x hx=>h1 x (by simp [hx]));simp only [storeCells,C3,hst,I0,ih,B0W]
  congr 3
  have e:=list_seg_step cur.toList (o+i) v rest (by simp at hl ⊢;omega);simpa [A1n,N7] using e
section
variable {P:Program} (w:World)
theorem A1s(t ty e:TypeId)(i:TypeInfo)(ht:P.underlying t=some (.slice e))(hi:P.info? e=some i)
  (g sLen sCap:Nat) (cur:Array Value) (fz:Nat×Nat) (hg:w.heap[g]? = some (.cells cur e fz)) (hfz:Thawed cur.size fz)
  (a:Addr) (m c:Nat) (news:List Value) (hl:news.length=m*i.size) (hnews:∀ j u,news[j]? = some u->w.cell? (a.add j)=some u) (h1:∀ u∈news,u.oneCell' = true)
  (hroom:sLen+m<=sCap) (hfit:sLen*i.size+news.length<=cur.size) :
  (Builtin.append_ #[t,t] ty #[.slice (some ⟨g,0,none⟩) sLen sCap,.slice (some a) m c]).run P w =
   .ok (.slice (some ⟨g,0,none⟩) (sLen+m) sCap) (w.setRow g (cur.toList.take (sLen*i.size)++news++cur.toList.drop (sLen*i.size+news.length)).toArray):=by
 have hf:=B5U (P:=P) w i.size m a m c news hl hnews;have hst:=A0s P g (sLen*i.size) e fz news 0 cur w hg hfz (by simpa using hfit) h1;simp only [K3] at hst;simp [Builtin.append_,G6 ht,sizeOf,typeInfo,hi,Builtin.lenOf,hroom,hf,U4,hst]
theorem B9I(base:Nat)(t ty e:TypeId)(i:TypeInfo)(z:Value)(size bytes:Nat)(ht:P.underlying t=some (.slice e))(hi:P.info? e=some i)(hz:i.zero=some z)
  (hsize:i.size=size) (hby:i.bytes=bytes) (hzs:z.cells.size=size) (hsz:0<size)
  (v:Value) (n:Nat) (xs:List Value) (hown:owns w base e size v n xs)
  (a:Addr) (m c:Nat) (news:List Value) (hl:news.length=m*size) (hnews:∀ j u,news[j]? = some u->w.cell? (a.add j)=some u) (h1:∀ u∈news,u.oneCell' = true)
  (h63:n+m<=maxLen) (hbytes:(n+m)*bytes<=140737488355328) (hbase:base<=w.heap.size) :
  ∃ v' w',(Builtin.append_ #[t,t] ty #[v,.slice (some a) m c]).run P w=.ok v' w'/\owns w' base e size v' (n+m) (xs++news)/\w.grownBy w' v.ownBlock/\
   (v' = .slice none 0 0↔v=.slice none 0 0/\m=0):=by
 rcases hown.2 with ⟨rfl,rfl⟩ | ⟨g,cap,cur,fz,rfl,hbg,hg,hfz,hnc,hcm,hcs,htake⟩
 ·have hx:xs = []:=F3 (by simpa using hown.1);subst hx;obtain ⟨v',w',h1,h2,h3,h4⟩:=run_append_own (P:=P) w base t ty e i z size bytes ht hi hz hsize hby hzs hsz _ 0 [] (World.ownsRow_nil w base e size) a m c news hl hnews h1 h63 hbytes hbase;exact ⟨v',w',h1,A9A h2,h3,h4⟩
 ·subst hsize;subst hby;have hlen:(xs++news).length=(n+m)*i.size:=by rw [A4,hown.1,hl,L0]
  have hsmall:n+m<=9223372036854775807:=by simp only [maxLen] at h63;omega
  by_cases hroom:n+m<=cap
  ·have hfit:n*i.size+news.length<=cur.size:=by rw [hl,hcs,<- L0];exact E3 _ hroom
   have hr:=A1s (P:=P) w t ty e i ht hi g n cap cur fz hg hfz.1 a m c news hl hnews h1 hroom hfit;have hsz2:(cur.toList.take (n*i.size)++news++cur.toList.drop (n*i.size+news.length)).toArray.size=cur.size:=by
    simp only [G1,A4,B3,C4,D6];omega
   refine ⟨_,_,hr,⟨hlen,.inr ⟨g,cap,_,fz,rfl,hbg,Q3 w g cur _ e _ hg,by rw [hsz2];exact hfz,hroom,hcm,by rw [hsz2];exact hcs,?_⟩⟩,⟨rfl,rfl,rfl,by simp,fun k _ hk=>W6 w g k _ (fun e=>hk (by simp [Value.ownBlock,e]))⟩,by simp⟩;rw [htake,<- hlen];exact V0
  ·have holds:∀ j u,xs[j]? = some u->w.cell? ((⟨g,0,none⟩:Addr).add j)=some u:=V4 hown (g:=g) rfl;have hr:=B3P (P:=P) w t ty e i z ht hi hz ⟨g,0,none⟩ n cap xs hown.1 holds a m c news hl hnews (by omega) (by omega) (A4p (by omega) hbytes);have hge:=A1o w (n+m) cap e;have hcm':grownCap w (n+m) cap e<=maxLen:=U0 w (n+m) cap e h63;refine ⟨_,_,hr,A9A ⟨hlen,.inr ⟨w.heap.size,_,_,rfl,hbase,A0i w.drew _,hge,hcm',?_,?_⟩⟩,⟨rfl,rfl,rfl,by simp,fun k hk _=>heap_alloc_old w.drew _ k hk⟩,by simp⟩
   ·simp only [V3,G1,A09,hzs,hown.1,hl,<- L0]
    congr 1
    omega
   ·simp only [A0b,A8];rw [<- A8,<- hlen];exact V0
end
end Go.Proofs.YthnfghmjipikhaaGreatDoor.Ev
