/- A row that the call owns, of which nothing that it can write is frozen. -/
import Derived.Laws.AppendOwn
import Derived.Laws.AppendOwnNone
import Derived.Laws.OwnMore
import Derived.Laws.MakeOwn
import Derived.Laws.BytesArg
import Derived.Laws.Rows
set_option linter.unusedVariables false
set_option linter.defProp false
namespace Go.Proofs.YthnfghmjipikhaaGreatDoor.Ev
open IntKind (i64 u8 u64 u32)
def C3G:=@Bool.and_eq_false_iff
def A2S:=@decide_eq_false_iff_not
def B9:=@Array.getElem?_eq_some_iff
def A2F:=@cell_of_row
def K8:=@List.getElem?_take
def G3:=@List.append_nil
def I3:=@List.length_nil
def K6:=@Nat.add_zero
def M0:=@List.take_append_drop
def A7P:=@Array.toArray_toList
def B8W:=@setCell_eq_setRow
def A0P:=@setRow_heap
def E0:=@Sem.run_bind
def I7:=@Result.andThen_ok
def B9T:=@setRow_setRow
def A7Q:=@Array.toList_setIfInBounds
def R5:=@Nat.add_assoc
def C5m:=@run_firstCells_some
def I0:=@run_underlying
def S6:=@Addr.add_lit
def H9:=@List.eq_nil_of_length_eq_zero
def A6:=@List.length_append
def A03:=@Nat.add_mul
def H1:=@Nat.mul_le_mul_right
def I2:=@List.size_toArray
def B5:=@List.length_take
def D4:=@List.length_drop
def E7:=@Array.length_toList
def A3H:=@setRow_other
def A5M:=@List.take_left
def C35:=@run_append_grow
def B27:=@growslice_fits
def A7R:=@grownCap_ge
def A0o:=@grownCap_le_maxLen
def A2G:=@heap_alloc_new
def A1M:=@Array.size_append
def A1N:=@size_zeroCells
def A51:=@Array.toList_append
def B3:=@List.append_assoc
def A1d:=@Nat.one_pos
def B0:=@List.mem_singleton
def D0:=@List.mem_append
def B0E:=@Nat.lt_of_lt_of_le
def P4:=@World.cell?_of_block
def O4:=@World.block_lt_of_cell?
def K5:=@Array.getElem?_eq_getElem
def B6:=@Nat.le_refl
def I9:=@Nat.zero_le
def D6:=@List.getElem?_eq_some_iff
def I8:=@List.getElem?_take_of_lt
def H0:=@List.getElem?_drop
def C0N:=@Option.bind_some
def F0:=@List.length_cons
def B1:=@List.mem_cons_self
def C0:=@List.mem_cons_of_mem
def A5q:=@Nat.le_trans
def B28:=@List.nodup_nil
def C6:=@List.all_eq_true
def W4:=@Bool.not_eq_true'
def A1O:=@List.any_eq_false
def G5:=@List.mem_flatMap
def M2:=@Array.getD_eq_getD_getElem?
def B5U:=@Array.getElem?_setIfInBounds
def A7:=@if_pos
def A4:=@if_neg
def I1:=@List.map_cons
def E4:=@List.cons_append
def E1:=@List.mem_map
def S7:=@List.drop_eq_nil_of_le
def C5:=@List.getElem?_eq_getElem
def J4:=@List.drop_eq_getElem_cons
def A04:=@decide_eq_true
def C3:=@Bool.not_true
def I6:=@Bool.false_eq_true
def K7:=@if_false
def J5:=@Bool.true_and
def A1e:=@decide_eq_false
def T3:=@List.drop_drop
def C38:=@Bool.toNat_true
def C0O:=@Bool.toNat_false
def F7:=@List.mem_append_left
def E3:=@List.mem_append_right
def A05:=@Nat.blt_eq
def F4:=@List.getElem?_append_left
def F5:=@List.getElem?_append_right
def B29:=@Nat.zero_mul
def E9:=@Nat.zero_add
def L4:=@if_true
def D5:=@List.getD_eq_getElem?_getD
def A9:=@Nat.eq_of_beq_eq_true
def C2:=@List.mem_cons
def J9:=@List.not_mem_nil
def A1P:=@or_false
def A8:=@cond_true
def A3:=@cond_false
def B7:=@of_decide_eq_true
def C7k:=@of_decide_eq_false
def B51:=@Nat.mul_one
def D5r:=@Array.ext'
def C7l:=@run_loadCells_list
def A3p:=@List.getElem?_toArray
def P5:=@List.mem_of_getElem?
def A5r:=@Sem.run_pure
def A0w:=@Option.getD_some
def B4:=@Bool.and_eq_true
def N9:=@Option.map_some
def A1U:=@Int.toNat_of_nonneg
def A2T:=@Ne.symm
def F6:=@List.nil_append
def N6:=@congrArg
def D2s:=@HEq.rfl
def T4:=@List.take_take
def A0h:=@Nat.min_eq_left
def A2H:=@List.drop_take
def K9:=@Nat.succ_mul
def D8:=@Nat.le_of_ble_eq_true
def B6G:=@List.map_nil
def A8p:=@List.ext_getElem
def A0F:=@Nat.mul_comm
def C39:=@Nat.mul_add_mod
def B3a:=@Nat.mod_eq_of_lt
def C9T:=@getElem!_pos
def C4o:=@Int.le_refl
def V2:=@List.length_replicate
def B2A:=@World.ownsRow_lit
def C2k:=@List.getElem_replicate
def A52:=@List.replicate_succ
def B8a:=@List.flatten_cons
def P6:=@List.drop_zero
def G6:=@List.take_append_of_le_length
def F9:=@List.take_of_length_le
def A8q:=@List.drop_append
def A0G:=@List.drop_of_length_le
def W7:=@Nat.add_sub_cancel_left
def C9U:=@Nat.add_comm
def C2l:=@List.getElem_cons_zero
def A2I:=@List.drop_left
def A5s:=@List.getElem_cons_succ
def A5t:=@Nat.beq_refl
def A6A:=@List.map_append
def B8b:=@List.flatMap_cons
def C2m:=@List.map_map
def D1v:=@Nat.mul_pos
def C0P:=@Nat.le_mul_of_pos_right
def T5:=@List.length_map
def A6g:=@Nat.div_lt_iff_lt_mul
def A4l:=@Nat.mod_lt
def A6B:=@Nat.div_add_mod
def N0:=@List.getElem?_map
def C5n:=@List.getElem?_range
def M6:=@List.getElem_append_left
def R7:=@List.drop_append_of_le_length
def N2:=@List.getElem_append_right
def C2n:=@Nat.le_of_lt
def C0Q:=@List.take_append
def A4P:=@List.ext_getElem?
def A7S:=@List.mem_of_mem_take
def A2J:=@List.mem_of_mem_drop
def A0i:=@List.length_set
def A3q:=@List.getElem_set_self
def C5o:=@List.getElem_set_ne
def L1:=@List.suffix_refl
def C0R:=@List.suffix_cons
def A3j:=@List.suffix_append
def C0S:=@List.range'_succ
def M1:=@Array.getElem?_toList
def B52:=@List.range_eq_range'
def A6V:=@List.any_cons
def A7T:=@Bool.or_eq_false_iff
def M3:=@Bool.or_eq_true
def A8r:=@List.any_eq_true
def G7:=@List.length_singleton
def B53:=@Array.mem_toList_iff
def C6N:=@Bool.false_or
def A5u:=@List.mem_filterMap
def B5W:=@List.filterMap_cons
def A5N:=@List.append_cancel_left
def C3H:=@Nat.le_div_iff_mul_le
def A3a:=@Array.toList_inj
def B9U:=@wp_seq
def C0T:=@Nat.lt_succ_self
def A6C:=@List.any_append
def C4q:=@List.getElem?_set_ne
def G0:=@Option.some.injEq
def B2I:=@Array.getElem?_modify
def C0U:=@List.getElem?_cons_zero
def C0V:=@List.getElem_map
def B54:=@Nat.sub_mul
def A7U:=@List.mem_iff_getElem
def B2J:=@List.mem_iff_getElem?
def C3I:=@List.singleton_append
def B8c:=@List.getElem_take
def B2B:=@List.getElem_drop
def C0W:=@block_lt_of_cell
def B7O:=@Array.getElem?_append_left
def C3A:=@Option.some.inj
def A6W:=@Prod.mk.injEq
def C0a:=@List.isEmpty_iff
def E5:=@Int.toNat_natCast
def C3B:=@Bool.eq_iff_iff
def H3:=@decide_eq_true_eq
def A27:=@Nat.lt_irrefl
def A4Q:=@List.all_eq_false
def P7:=@List.mem_range
def C6O:=@Bool.and_true
def C9V:=@Nat.or_lt_two_pow
def F2:=@List.getElem_mem
def B2K:=@List.getElem?_eq_none
def B0g:=@Nat.pow_add
def A10:=@Nat.pow_le_pow_right
def A1Q:=@Int.tmod_eq_emod_of_nonneg
def C7n:=@Int.emod_lt_of_pos
def B8d:=@Nat.lt_trichotomy
def C5p:=@List.map_congr_left
def A3I:=@Nat.two_pow_add_eq_or_of_lt
def A3k:=@Int.fdiv_eq_ediv_of_nonneg
def C7o:=@Int.natCast_nonneg
def B3c:=@Int.natCast_ediv
def A5O:=@Bool.false_and
def R8:=@decide_true
def J3:=@Bool.not_false
def A9s:=@List.length_zip
def H6:=@List.take_succ_eq_append_getElem
def O5:=@List.length_eq_zero_iff
def C2p:=@Nat.lt_or_ge
def C3J:=@ByteArray.data_append
def B7P:=@Int.tdiv_eq_ediv_of_nonneg
def B2L:=@ByteArray.size_append
def B0F:=@Nat.eq_zero_or_pos
def C0b:=@Nat.testBit_div_two_pow
def A1f:=@Nat.two_pow_pos
def B2C:=@Nat.testBit_eq_decide_div_mod_eq
def A5v:=@Nat.pow_succ
def A7V:=@Nat.div_lt_of_lt_mul
def C7p:=@Nat.lt_of_le_of_lt
def A20:=@Nat.and_two_pow_sub_one_eq_mod
def B7Q:=@Bool.and_false
def C2q:=@ByteArray.size_extract
def C6P:=@Bool.and_self
def B7d:=@List.mem_or_eq_of_mem_set
def A11:=@List.take_length
def B0G:=@Bool.true_eq_false
def B6H:=@Int.zero_add
def B7e:=@List.pairwise_iff_getElem
def C9W:=@Bool.not_not
def C7q:=@List.getElem_of_eq
def B7f:=@List.mem_take_iff_getElem
def B3d:=@IntKind.wrap_i64
def C4s:=@Nat.min_def
def C3C:=@List.take_left'
def Thawed(n:Nat)(fz:Nat×Nat):Prop:=fz=(0,0)\/fz=(n,n+1)
theorem Thawed.not{w:World}{g:Nat}{cur:Array Value}{t:TypeId}{fz:Nat×Nat}(hg:w.heap[g]? = some (.cells cur t fz))(hf:Thawed cur.size fz){i:Nat}(hi:i<cur.size):w.frozen? ⟨g,i,none⟩=false:=by
 rcases hf with rfl | rfl
 ·simp only [World.frozen?,hg,C3G,A2S];right;exact Nat.not_lt_zero _
 ·simp only [World.frozen?,hg,C3G,A2S];left;omega
def TS(size n:Nat)(fz:Nat×Nat):Prop:=Thawed n fz/\(fz=(0,0)\/size=1)
def owns(w:World)(base:Nat)(e:TypeId)(size:Nat)(v:Value)(n:Nat)(xs:List Value):Prop:=
 xs.length=n*size/\
 ((v=.slice none 0 0/\n=0)\/
  ∃ g cap cur fz,v=.slice (some ⟨g,0,none⟩) n cap/\base<=g/\w.heap[g]? = some (.cells cur e fz)/\TS size cur.size fz/\n<=cap/\cap<=maxLen/\cur.size=cap*size/\cur.toList.take (n*size)=xs)
section
variable {w:World} {base:Nat} {e:TypeId} {size:Nat} {v:Value} {n:Nat} {xs:List Value}
theorem B7h(h:w.ownsRow base e size v n xs):owns w base e size v n xs:=by
 refine ⟨h.1,?_⟩;rcases h.2 with hn | ⟨g,cap,cur,hv,hb,hg,rest⟩
 ·exact .inl hn
 ·exact .inr ⟨g,cap,cur,(0,0),hv,hb,hg,⟨.inl rfl,.inl rfl⟩,rest⟩
theorem A99(w:World)(base:Nat)(e:TypeId)(size:Nat):owns w base e size (.slice none 0 0) 0 []:=⟨by simp,.inl ⟨rfl,rfl⟩⟩
theorem F0i(h:owns w base e size v n xs):∀ k,v.ownBlock=some k->base<=k/\k<w.heap.size:=by
 intro k hk;rcases h.2 with ⟨rfl,_⟩ | ⟨g,cap,cur,fz,rfl,hb,hg,_⟩
 ·simp [Value.ownBlock] at hk
 ·simp [Value.ownBlock] at hk;subst hk;exact ⟨hb,(B9.1 hg).1⟩
theorem A4R(h:owns w base e size v n xs){g:Nat}(hg:v.ownBlock=some g):∀ j u,xs[j]? = some u->w.cell? ((⟨g,0,none⟩:Addr).add j)=some u:=by
 intro j u hu;rcases h.2 with ⟨rfl,_⟩ | ⟨g',cap,cur,fz,rfl,_,hgg,_,_,_,_,htake⟩
 ·simp [Value.ownBlock] at hg
 ·simp [Value.ownBlock] at hg;subst hg;have hadd:(⟨g',0,none⟩:Addr).add j=⟨g',j,none⟩:=by unfold Addr.add;split<;>simp_all
  rw [hadd,A2F w g' j cur e fz hgg];rw [<- htake,K8] at hu;split at hu
  ·simpa using hu
  ·cases hu
end
theorem A5T(P:Program)(g o:Nat)(t:TypeId)(fz:Nat×Nat):∀ (vs:List Value) (i:Nat) (cur:Array Value) (w:World),w.heap[g]? = some (.cells cur t fz)->Thawed cur.size fz->o+i+vs.length<=cur.size->(∀ v∈vs,v.oneCell' = true)->
  (storeCells ⟨g,o,none⟩ vs i).run P w=.ok () (w.setRow g (cur.toList.take (o+i)++vs++cur.toList.drop (o+i+vs.length)).toArray)
 | [],i,cur,w,hg,_,_,_=>by
  simp only [storeCells,G3,I3,K6,M0,A7P];rw [setRow_self w g cur t fz hg];rfl
 | v::rest,i,cur,w,hg,hfz,hl,h1=>by
  have hi:o+i<cur.size:=by simp at hl;omega
  have hadd:(⟨g,o,none⟩:Addr).add i=⟨g,o+i,none⟩:=by unfold Addr.add;split<;>simp_all
  have hcell:w.cell? ⟨g,o+i,none⟩=some cur[o+i]:=by simp [World.cell?,hg,hi]
  have hfro:w.frozen? ⟨g,o+i,none⟩=false:=Thawed.not hg hfz hi;have hst:(store ((⟨g,o,none⟩:Addr).add i) v).run P w=.ok () (w.setRow g (cur.setIfInBounds (o+i) v)):=by
   rw [hadd,run_store P w _ v _ (h1 v (by simp)),hcell];simp [hfro,B8W w g (o+i) cur t fz v hg]
  have ih:=A5T P g o t fz rest (i+1) (cur.setIfInBounds (o+i) v) (w.setRow g (cur.setIfInBounds (o+i) v)) (A0P w g cur _ t _ hg) (by simpa using hfz) (by simp at hl ⊢;omega) (fun x hx=>h1 x (by simp [hx]));simp only [storeCells,E0,hst,I7,ih,B9T]
  congr 3
  have e:=list_seg_step cur.toList (o+i) v rest (by simp at hl ⊢;omega);simpa [A7Q,R5] using e
section
variable {P:Program} (w:World)
theorem B2N(t ty e:TypeId)(i:TypeInfo)(ht:P.underlying t=some (.slice e))(hi:P.info? e=some i)
  (g sLen sCap:Nat) (cur:Array Value) (fz:Nat×Nat) (hg:w.heap[g]? = some (.cells cur e fz)) (hfz:Thawed cur.size fz)
  (a:Addr) (m c:Nat) (news:List Value) (hl:news.length=m*i.size) (hnews:∀ j u,news[j]? = some u->w.cell? (a.add j)=some u) (h1:∀ u∈news,u.oneCell' = true)
  (hroom:sLen+m<=sCap) (hfit:sLen*i.size+news.length<=cur.size) :
  (Builtin.append_ #[t,t] ty #[.slice (some ⟨g,0,none⟩) sLen sCap,.slice (some a) m c]).run P w =
   .ok (.slice (some ⟨g,0,none⟩) (sLen+m) sCap) (w.setRow g (cur.toList.take (sLen*i.size)++news++cur.toList.drop (sLen*i.size+news.length)).toArray):=by
 have hf:=C5m (P:=P) w i.size m a m c news hl hnews;have hst:=A5T P g (sLen*i.size) e fz news 0 cur w hg hfz (by simpa using hfit) h1;simp only [K6] at hst;simp [Builtin.append_,I0 ht,sizeOf,typeInfo,hi,Builtin.lenOf,hroom,hf,S6,hst]
theorem D1w(base:Nat)(t ty e:TypeId)(i:TypeInfo)(z:Value)(size bytes:Nat)(ht:P.underlying t=some (.slice e))(hi:P.info? e=some i)(hz:i.zero=some z)
  (hsize:i.size=size) (hby:i.bytes=bytes) (hzs:z.cells.size=size) (hsz:0<size)
  (v:Value) (n:Nat) (xs:List Value) (hown:owns w base e size v n xs)
  (a:Addr) (m c:Nat) (news:List Value) (hl:news.length=m*size) (hnews:∀ j u,news[j]? = some u->w.cell? (a.add j)=some u) (h1:∀ u∈news,u.oneCell' = true)
  (h63:n+m<=maxLen) (hbytes:(n+m)*bytes<=140737488355328) (hbase:base<=w.heap.size) :
  ∃ v' w',(Builtin.append_ #[t,t] ty #[v,.slice (some a) m c]).run P w=.ok v' w'/\owns w' base e size v' (n+m) (xs++news)/\w.grownBy w' v.ownBlock/\
   (v' = .slice none 0 0↔v=.slice none 0 0/\m=0):=by
 rcases hown.2 with ⟨rfl,rfl⟩ | ⟨g,cap,cur,fz,rfl,hbg,hg,hfz,hnc,hcm,hcs,htake⟩
 ·have hx:xs = []:=H9 (by simpa using hown.1);subst hx;obtain ⟨v',w',h1,h2,h3,h4⟩:=run_append_own (P:=P) w base t ty e i z size bytes ht hi hz hsize hby hzs hsz _ 0 [] (World.ownsRow_nil w base e size) a m c news hl hnews h1 h63 hbytes hbase;exact ⟨v',w',h1,B7h h2,h3,h4⟩
 ·subst hsize;subst hby;have hlen:(xs++news).length=(n+m)*i.size:=by rw [A6,hown.1,hl,A03]
  have hsmall:n+m<=9223372036854775807:=by simp only [maxLen] at h63;omega
  by_cases hroom:n+m<=cap
  ·have hfit:n*i.size+news.length<=cur.size:=by rw [hl,hcs,<- A03];exact H1 _ hroom
   have hr:=B2N (P:=P) w t ty e i ht hi g n cap cur fz hg hfz.1 a m c news hl hnews h1 hroom hfit;have hsz2:(cur.toList.take (n*i.size)++news++cur.toList.drop (n*i.size+news.length)).toArray.size=cur.size:=by
    simp only [I2,A6,B5,D4,E7];omega
   refine ⟨_,_,hr,⟨hlen,.inr ⟨g,cap,_,fz,rfl,hbg,A0P w g cur _ e _ hg,by rw [hsz2];exact hfz,hroom,hcm,by rw [hsz2];exact hcs,?_⟩⟩,⟨rfl,rfl,rfl,by simp,fun k _ hk=>A3H w g k _ (fun e=>hk (by simp [Value.ownBlock,e]))⟩,by simp⟩;rw [htake,<- hlen];exact A5M
  ·have holds:∀ j u,xs[j]? = some u->w.cell? ((⟨g,0,none⟩:Addr).add j)=some u:=A4R hown (g:=g) rfl;have hr:=C35 (P:=P) w t ty e i z ht hi hz ⟨g,0,none⟩ n cap xs hown.1 holds a m c news hl hnews (by omega) (by omega) (B27 (by omega) hbytes);have hge:=A7R w (n+m) cap e;have hcm':grownCap w (n+m) cap e<=maxLen:=A0o w (n+m) cap e h63;refine ⟨_,_,hr,B7h ⟨hlen,.inr ⟨w.heap.size,_,_,rfl,hbase,A2G w.drew _,hge,hcm',?_,?_⟩⟩,⟨rfl,rfl,rfl,by simp,fun k hk _=>heap_alloc_old w.drew _ k hk⟩,by simp⟩
   ·simp only [A1M,I2,A1N,hzs,hown.1,hl,<- A03]
    congr 1
    omega
   ·simp only [A51,B3];rw [<- B3,<- hlen];exact A5M
end
end Go.Proofs.YthnfghmjipikhaaGreatDoor.Ev
