/- A row that the call owns, of which nothing that it can write is frozen. -/
import Derived.Laws.AppendOwn
import Derived.Laws.AppendOwnNone
import Derived.Laws.OwnMore
import Derived.Laws.MakeOwn
import Derived.Laws.BytesArg
import Derived.Laws.Rows
set_option linter.unusedVariables false
set_option linter.defProp false
namespace Go.Proofs.YthnfghmjipikhaaGreatDoor.Ev
open IntKind (i64 u8 u64 u32)
def B7N:=@Bool.and_eq_false_iff
def B59:=@decide_eq_false_iff_not
def C0:=@Array.getElem?_eq_some_iff
def A2h:=@cell_of_row
def M3:=@List.getElem?_take
def E7:=@List.append_nil
def J2:=@List.length_nil
def K7:=@Nat.add_zero
def M0:=@List.take_append_drop
def A1t:=@Array.toArray_toList
def C2C:=@setCell_eq_setRow
def A0H:=@setRow_heap
def D0:=@Sem.run_bind
def I0:=@Result.andThen_ok
def B4D:=@setRow_setRow
def A5b:=@Array.toList_setIfInBounds
def M1:=@Nat.add_assoc
def B9S:=@run_firstCells_some
def H3:=@run_underlying
def A04:=@Addr.add_lit
def G7:=@List.eq_nil_of_length_eq_zero
def A3:=@List.length_append
def O2:=@Nat.add_mul
def F2:=@Nat.mul_le_mul_right
def G8:=@List.size_toArray
def B4:=@List.length_take
def C9:=@List.length_drop
def E3:=@Array.length_toList
def A2b:=@setRow_other
def A1u:=@List.take_left
def B7F:=@run_append_grow
def A8j:=@growslice_fits
def A3K:=@grownCap_ge
def V8:=@grownCap_le_maxLen
def A1v:=@heap_alloc_new
def A0I:=@Array.size_append
def A1D:=@size_zeroCells
def A3o:=@Array.toList_append
def B1:=@List.append_assoc
def A1N:=@Nat.one_pos
def B0:=@List.mem_singleton
def C6:=@List.mem_append
def B2W:=@Nat.lt_of_lt_of_le
def N1:=@World.cell?_of_block
def O3:=@World.block_lt_of_cell?
def J5:=@Array.getElem?_eq_getElem
def C1:=@Nat.le_refl
def H4:=@Nat.zero_le
def D3:=@List.getElem?_eq_some_iff
def H6:=@List.getElem?_take_of_lt
def G5:=@List.getElem?_drop
def B5A:=@Option.bind_some
def E4:=@List.length_cons
def A6:=@List.mem_cons_self
def B6:=@List.mem_cons_of_mem
def K8:=@Nat.le_trans
def A8k:=@List.nodup_nil
def C4:=@List.all_eq_true
def A0J:=@Bool.not_eq_true'
def A1E:=@List.any_eq_false
def F8:=@List.mem_flatMap
def L1:=@Array.getD_eq_getD_getElem?
def B16:=@Array.getElem?_setIfInBounds
def A9:=@if_pos
def A5:=@if_neg
def H7:=@List.map_cons
def D4:=@List.cons_append
def D6:=@List.mem_map
def S7:=@List.drop_eq_nil_of_le
def C5:=@List.getElem?_eq_getElem
def J6:=@List.drop_eq_getElem_cons
def R3:=@decide_eq_true
def E0:=@Bool.not_true
def J0:=@Bool.false_eq_true
def J1:=@if_false
def L2:=@Bool.true_and
def T3:=@decide_eq_false
def L5:=@List.drop_drop
def B7I:=@Bool.toNat_true
def B5B:=@Bool.toNat_false
def F7:=@List.mem_append_left
def D8:=@List.mem_append_right
def P9:=@Nat.blt_eq
def E8:=@List.getElem?_append_left
def E9:=@List.getElem?_append_right
def A1n:=@Nat.zero_mul
def E1:=@Nat.zero_add
def J4:=@if_true
def D5:=@List.getD_eq_getElem?_getD
def A4:=@Nat.eq_of_beq_eq_true
def C3:=@List.mem_cons
def P3:=@List.not_mem_nil
def A4f:=@or_false
def B2:=@cond_true
def A7:=@cond_false
def B8:=@of_decide_eq_true
def C0w:=@of_decide_eq_false
def A4B:=@Nat.mul_one
def C10:=@run_loadCells_list
def A1V:=@List.getElem?_toArray
def N2:=@List.mem_of_getElem?
def A4R:=@Sem.run_pure
def A0m:=@Option.getD_some
def B5:=@Bool.and_eq_true
def M4:=@Option.map_some
def A1H:=@Int.toNat_of_nonneg
def A1o:=@Ne.symm
def G0:=@List.nil_append
def J7:=@congrArg
def C4h:=@HEq.rfl
def R4:=@List.take_take
def W4:=@Nat.min_eq_left
def A0T:=@List.drop_take
def I2:=@Nat.succ_mul
def D7:=@Nat.le_of_ble_eq_true
def B71:=@List.map_nil
def A45:=@List.ext_getElem
def A05:=@Nat.mul_comm
def B7J:=@Nat.mul_add_mod
def A1e:=@Nat.mod_eq_of_lt
def C2D:=@getElem!_pos
def B8n:=@Int.le_refl
def U2:=@List.length_replicate
def A8l:=@World.ownsRow_lit
def B72:=@List.getElem_replicate
def A3p:=@List.replicate_succ
def B3V:=@List.flatten_cons
def T4:=@List.drop_zero
def F9:=@List.take_append_of_le_length
def G1:=@List.take_of_length_le
def A6O:=@List.drop_append
def P7:=@List.drop_of_length_le
def R5:=@Nat.add_sub_cancel_left
def C2E:=@Nat.add_comm
def A0U:=@List.drop_left
def B73:=@List.getElem_cons_succ
def A3L:=@Nat.beq_refl
def A4g:=@List.map_append
def B3W:=@List.flatMap_cons
def C2F:=@List.map_map
def A7l:=@Nat.le_mul_of_pos_right
def T5:=@List.length_map
def A2t:=@Nat.div_lt_iff_lt_mul
def A2r:=@Nat.mod_lt
def A38:=@Nat.div_add_mod
def L7:=@List.getElem?_map
def B9T:=@List.getElem?_range
def N3:=@List.getElem_append_left
def O4:=@List.drop_append_of_le_length
def P2:=@List.getElem_append_right
def A8m:=@Nat.le_of_lt
def B5C:=@List.take_append
def A3M:=@List.ext_getElem?
def A5c:=@List.mem_of_mem_take
def A1w:=@List.mem_of_mem_drop
def A39:=@List.length_set
def A54:=@List.getElem_set_self
def B1A:=@List.getElem_set_ne
def K1:=@List.suffix_refl
def B5D:=@List.suffix_cons
def A2s:=@List.suffix_append
def B5E:=@List.range'_succ
def M2:=@Array.getElem?_toList
def B0e:=@List.range_eq_range'
def A4w:=@List.any_cons
def A5d:=@Bool.or_eq_false_iff
def M5:=@Bool.or_eq_true
def A6P:=@List.any_eq_true
def G3:=@List.length_singleton
def B0f:=@Array.mem_toList_iff
def A4S:=@List.mem_filterMap
def B1B:=@List.filterMap_cons
def A46:=@List.append_cancel_left
def A8w:=@Nat.le_div_iff_mul_le
def A2k:=@Array.toList_inj
def B4E:=@wp_seq
def A9g:=@Nat.lt_succ_self
def A4h:=@List.any_append
def B8o:=@List.getElem?_set_ne
def H2:=@Option.some.injEq
def A90:=@Array.getElem?_modify
def B5F:=@List.getElem?_cons_zero
def A9h:=@List.getElem_map
def B0g:=@Nat.sub_mul
def B0h:=@List.mem_iff_getElem
def A91:=@List.mem_iff_getElem?
def B7O:=@List.singleton_append
def A8n:=@List.getElem_take
def A8o:=@List.getElem_drop
def A9i:=@block_lt_of_cell
def B2a:=@Array.getElem?_append_left
def B7K:=@Option.some.inj
def B4F:=@Prod.mk.injEq
def B5G:=@List.isEmpty_iff
def E2:=@Int.toNat_natCast
def I8:=@decide_eq_true_eq
def A50:=@Nat.lt_irrefl
def A8p:=@List.all_eq_false
def A1F:=@List.mem_range
def C2G:=@Nat.or_lt_two_pow
def H1:=@List.getElem_mem
def B7P:=@List.getElem?_eq_none
def A5f:=@Nat.pow_add
def A3N:=@Nat.pow_le_pow_right
def A5g:=@Int.tmod_eq_emod_of_nonneg
def C12:=@Int.emod_lt_of_pos
def C2H:=@Nat.lt_trichotomy
def V2:=@Nat.two_pow_add_eq_or_of_lt
def A1G:=@Int.fdiv_eq_ediv_of_nonneg
def A4T:=@Int.natCast_nonneg
def B5H:=@Int.natCast_ediv
def A8q:=@Bool.false_and
def V9:=@decide_true
def L6:=@Bool.not_false
def A2H:=@List.length_zip
def L9:=@List.take_succ_eq_append_getElem
def V5:=@List.length_eq_zero_iff
def C2I:=@Nat.lt_or_ge
def C13:=@Nat.eq_zero_or_pos
def B5I:=@Nat.testBit_div_two_pow
def W5:=@Nat.two_pow_pos
def A3O:=@Nat.testBit_eq_decide_div_mod_eq
def A4U:=@Nat.pow_succ
def A5h:=@Nat.div_lt_of_lt_mul
def B2b:=@Nat.lt_of_le_of_lt
def A06:=@Nat.and_two_pow_sub_one_eq_mod
def B9r:=@Bool.and_self
def A9j:=@List.take_length
def N8:=@Bool.true_eq_false
def A8r:=@Int.zero_add
def B2n:=@List.pairwise_iff_getElem
def B2o:=@List.mem_take_iff_getElem
def B5K:=@IntKind.wrap_i64
def B8q:=@Nat.min_def
def B7L:=@List.take_left'
def Thawed(n:Nat)(fz:Nat×Nat):Prop:=fz=(0,0)\/fz=(n,n+1)
theorem Thawed.not{w:World}{g:Nat}{cur:Array Value}{t:TypeId}{fz:Nat×Nat}(hg:w.heap[g]? = some (.cells cur t fz))(hf:Thawed cur.size fz){i:Nat}(hi:i<cur.size):w.frozen? ⟨g,i,none⟩=false:=by
 rcases hf with rfl | rfl
 ·simp only [World.frozen?,hg,B7N,B59];right;exact Nat.not_lt_zero _
 ·simp only [World.frozen?,hg,B7N,B59];left;omega
def TS(size n:Nat)(fz:Nat×Nat):Prop:=Thawed n fz/\(fz=(0,0)\/size=1)
def owns(w:World)(base:Nat)(e:TypeId)(size:Nat)(v:Value)(n:Nat)(xs:List Value):Prop:=
 xs.length=n*size/\
 ((v=.slice none 0 0/\n=0)\/
  ∃ g cap cur fz,v=.slice (some ⟨g,0,none⟩) n cap/\base<=g/\w.heap[g]? = some (.cells cur e fz)/\TS size cur.size fz/\n<=cap/\cap<=maxLen/\cur.size=cap*size/\cur.toList.take (n*size)=xs)
section
variable {w:World} {base:Nat} {e:TypeId} {size:Nat} {v:Value} {n:Nat} {xs:List Value}
theorem B2q(h:w.ownsRow base e size v n xs):owns w base e size v n xs:=by
 refine ⟨h.1,?_⟩;rcases h.2 with hn | ⟨g,cap,cur,hv,hb,hg,rest⟩
 ·exact .inl hn
 ·exact .inr ⟨g,cap,cur,(0,0),hv,hb,hg,⟨.inl rfl,.inl rfl⟩,rest⟩
theorem A6f(w:World)(base:Nat)(e:TypeId)(size:Nat):owns w base e size (.slice none 0 0) 0 []:=⟨by simp,.inl ⟨rfl,rfl⟩⟩
theorem E0v(h:owns w base e size v n xs):∀ k,v.ownBlock=some k->base<=k/\k<w.heap.size:=by
 intro k hk;rcases h.2 with ⟨rfl,_⟩ | ⟨g,cap,cur,fz,rfl,hb,hg,_⟩
 ·simp [Value.ownBlock] at hk
 ·simp [Value.ownBlock] at hk;subst hk;exact ⟨hb,(C0.1 hg).1⟩
theorem A26(h:owns w base e size v n xs){g:Nat}(hg:v.ownBlock=some g):∀ j u,xs[j]? = some u->w.cell? ((⟨g,0,none⟩:Addr).add j)=some u:=by
 intro j u hu;rcases h.2 with ⟨rfl,_⟩ | ⟨g',cap,cur,fz,rfl,_,hgg,_,_,_,_,htake⟩
 ·simp [Value.ownBlock] at hg
 ·simp [Value.ownBlock] at hg;subst hg;have hadd:(⟨g',0,none⟩:Addr).add j=⟨g',j,none⟩:=by unfold Addr.add;split<;>simp_all
  rw [hadd,A2h w g' j cur e fz hgg];rw [<- htake,M3] at hu;split at hu
  ·simpa using hu
  ·cases hu
end
theorem A4C(P:Program)(g o:Nat)(t:TypeId)(fz:Nat×Nat):∀ (vs:List Value) (i:Nat) (cur:Array Value) (w:World),w.heap[g]? = some (.cells cur t fz)->Thawed cur.size fz->o+i+vs.length<=cur.size->(∀ v∈vs,v.oneCell' = true)->
  (storeCells ⟨g,o,none⟩ vs i).run P w=.ok () (w.setRow g (cur.toList.take (o+i)++vs++cur.toList.drop (o+i+vs.length)).toArray)
 | [],i,cur,w,hg,_,_,_=>by
  simp only [storeCells,E7,J2,K7,M0,A1t];rw [setRow_self w g cur t fz hg];rfl
 | v::rest,i,cur,w,hg,hfz,hl,h1=>by
  have hi:o+i<cur.size:=by simp at hl;omega
  have hadd:(⟨g,o,none⟩:Addr).add i=⟨g,o+i,none⟩:=by unfold Addr.add;split<;>simp_all
  have hcell:w.cell? ⟨g,o+i,none⟩=some cur[o+i]:=by simp [World.cell?,hg,hi]
  have hfro:w.frozen? ⟨g,o+i,none⟩=false:=Thawed.not hg hfz hi;have hst:(store ((⟨g,o,none⟩:Addr).add i) v).run P w=.ok () (w.setRow g (cur.setIfInBounds (o+i) v)):=by
   rw [hadd,run_store P w _ v _ (h1 v (by simp)),hcell];simp [hfro,C2C w g (o+i) cur t fz v hg]
  have ih:=A4C P g o t fz rest (i+1) (cur.setIfInBounds (o+i) v) (w.setRow g (cur.setIfInBounds (o+i) v)) (A0H w g cur _ t _ hg) (by simpa using hfz) (by simp at hl ⊢;omega) (fun x hx=>h1 x (by simp [hx]));simp only [storeCells,D0,hst,I0,ih,B4D]
  congr 3
  have e:=list_seg_step cur.toList (o+i) v rest (by simp at hl ⊢;omega);simpa [A5b,M1] using e
section
variable {P:Program} (w:World)
theorem A5i(t ty e:TypeId)(i:TypeInfo)(ht:P.underlying t=some (.slice e))(hi:P.info? e=some i)
  (g sLen sCap:Nat) (cur:Array Value) (fz:Nat×Nat) (hg:w.heap[g]? = some (.cells cur e fz)) (hfz:Thawed cur.size fz)
  (a:Addr) (m c:Nat) (news:List Value) (hl:news.length=m*i.size) (hnews:∀ j u,news[j]? = some u->w.cell? (a.add j)=some u) (h1:∀ u∈news,u.oneCell' = true)
  (hroom:sLen+m<=sCap) (hfit:sLen*i.size+news.length<=cur.size) :
  (Builtin.append_ #[t,t] ty #[.slice (some ⟨g,0,none⟩) sLen sCap,.slice (some a) m c]).run P w =
   .ok (.slice (some ⟨g,0,none⟩) (sLen+m) sCap) (w.setRow g (cur.toList.take (sLen*i.size)++news++cur.toList.drop (sLen*i.size+news.length)).toArray):=by
 have hf:=B9S (P:=P) w i.size m a m c news hl hnews;have hst:=A4C P g (sLen*i.size) e fz news 0 cur w hg hfz (by simpa using hfit) h1;simp only [K7] at hst;simp [Builtin.append_,H3 ht,sizeOf,typeInfo,hi,Builtin.lenOf,hroom,hf,A04,hst]
theorem C3r(base:Nat)(t ty e:TypeId)(i:TypeInfo)(z:Value)(size bytes:Nat)(ht:P.underlying t=some (.slice e))(hi:P.info? e=some i)(hz:i.zero=some z)
  (hsize:i.size=size) (hby:i.bytes=bytes) (hzs:z.cells.size=size) (hsz:0<size)
  (v:Value) (n:Nat) (xs:List Value) (hown:owns w base e size v n xs)
  (a:Addr) (m c:Nat) (news:List Value) (hl:news.length=m*size) (hnews:∀ j u,news[j]? = some u->w.cell? (a.add j)=some u) (h1:∀ u∈news,u.oneCell' = true)
  (h63:n+m<=maxLen) (hbytes:(n+m)*bytes<=140737488355328) (hbase:base<=w.heap.size) :
  ∃ v' w',(Builtin.append_ #[t,t] ty #[v,.slice (some a) m c]).run P w=.ok v' w'/\owns w' base e size v' (n+m) (xs++news)/\w.grownBy w' v.ownBlock/\
   (v' = .slice none 0 0↔v=.slice none 0 0/\m=0):=by
 rcases hown.2 with ⟨rfl,rfl⟩ | ⟨g,cap,cur,fz,rfl,hbg,hg,hfz,hnc,hcm,hcs,htake⟩
 ·have hx:xs = []:=G7 (by simpa using hown.1);subst hx;obtain ⟨v',w',h1,h2,h3,h4⟩:=run_append_own (P:=P) w base t ty e i z size bytes ht hi hz hsize hby hzs hsz _ 0 [] (World.ownsRow_nil w base e size) a m c news hl hnews h1 h63 hbytes hbase;exact ⟨v',w',h1,B2q h2,h3,h4⟩
 ·subst hsize;subst hby;have hlen:(xs++news).length=(n+m)*i.size:=by rw [A3,hown.1,hl,O2]
  have hsmall:n+m<=9223372036854775807:=by simp only [maxLen] at h63;omega
  by_cases hroom:n+m<=cap
  ·have hfit:n*i.size+news.length<=cur.size:=by rw [hl,hcs,<- O2];exact F2 _ hroom
   have hr:=A5i (P:=P) w t ty e i ht hi g n cap cur fz hg hfz.1 a m c news hl hnews h1 hroom hfit;have hsz2:(cur.toList.take (n*i.size)++news++cur.toList.drop (n*i.size+news.length)).toArray.size=cur.size:=by
    simp only [G8,A3,B4,C9,E3];omega
   refine ⟨_,_,hr,⟨hlen,.inr ⟨g,cap,_,fz,rfl,hbg,A0H w g cur _ e _ hg,by rw [hsz2];exact hfz,hroom,hcm,by rw [hsz2];exact hcs,?_⟩⟩,⟨rfl,rfl,rfl,by simp,fun k _ hk=>A2b w g k _ (fun e=>hk (by simp [Value.ownBlock,e]))⟩,by simp⟩;rw [htake,<- hlen];exact A1u
  ·have holds:∀ j u,xs[j]? = some u->w.cell? ((⟨g,0,none⟩:Addr).add j)=some u:=A26 hown (g:=g) rfl;have hr:=B7F (P:=P) w t ty e i z ht hi hz ⟨g,0,none⟩ n cap xs hown.1 holds a m c news hl hnews (by omega) (by omega) (A8j (by omega) hbytes);have hge:=A3K w (n+m) cap e;have hcm':grownCap w (n+m) cap e<=maxLen:=V8 w (n+m) cap e h63;refine ⟨_,_,hr,B2q ⟨hlen,.inr ⟨w.heap.size,_,_,rfl,hbase,A1v w.drew _,hge,hcm',?_,?_⟩⟩,⟨rfl,rfl,rfl,by simp,fun k hk _=>heap_alloc_old w.drew _ k hk⟩,by simp⟩
   ·simp only [A0I,G8,A1D,hzs,hown.1,hl,<- O2]
    congr 1
    omega
   ·simp only [A3o,B1];rw [<- B1,<- hlen];exact A1u
end
end Go.Proofs.YthnfghmjipikhaaGreatDoor.Ev
