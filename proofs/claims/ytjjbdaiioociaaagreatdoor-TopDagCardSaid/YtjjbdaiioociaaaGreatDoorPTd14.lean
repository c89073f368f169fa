/-
  Part 14 of the lemmas of these laws: TopDag.
-/
import Derived.Test.YtjjbdaiioociaaaGreatDoorPTd13
set_option linter.unusedVariables false
set_option linter.unusedSimpArgs false
open Go.Proofs.Tryz
namespace Go.Proofs.YtjjbdaiioociaaaGreatDoor
namespace W
open Go.RowKit G
set_option maxRecDepth 20000
set_option maxHeartbeats 8000000
attribute [local irreducible] RS RX RY Code.wp bodyPost J Ent.blk Ent.iown Ent.wrow Ent.wown Ent.gown Ent.all Ent.emp
instance:Ents prog 144:=⟨.mk func144 (by kernel_rfl) rfl⟩
instance:Ents prog 101:=⟨.mk func101 (by kernel_rfl) rfl⟩
instance:Ents prog 100:=⟨.mk func100 (by kernel_rfl) rfl⟩
instance:Ents prog 95:=⟨.mk func95 (by kernel_rfl) rfl⟩
instance:Ents prog 96:=⟨.mk func96 (by kernel_rfl) rfl⟩
theorem opC_cell(z:OpA):∀u∈opC z,cellB u=true:=by
 intro u hu;simp only[opC,List.mem_cons,List.not_mem_nil,or_false]at hu;rcases hu with rfl|rfl|rfl|rfl|rfl|rfl|rfl|rfl|rfl|rfl|rfl<;>rfl
theorem insOp0(a:Option Addr)(n c:Nat)(l:List OpA)(i:Nat)(x:OpA)(b2:Nat)(w:World)(hO:GOwn opC 11 0 w 34 a n c l)(hi:i≤n)(hn:n≤1000)(hB:Blk w b2 (opC x) 34)(hne:¬obk a=some b2):
  Calls prog 98 #[.slice a n c, .int .i64 i, .slice (some ⟨b2,0,none⟩) 1 1] w (Gw w opC 11 34 a (l.take i++x::l.drop i)):=by
 have hlen:=hO.len;have hcn:=hO.capn;have hcm:=hO.own.cap.2;refine J.enterG 92 hO func98 rfl rfl ?_;refine run ?_;refine J.ife rfl (fun h=>?_) (fun h=>?_)
 ·obtain rfl:i=n:=by omega
  refine run ?_;refine J.apG rfl rfl (RG.blkO hB hne opC_len) opC_one fun a' c'=>?_
  refine run ?_;have e:l.take i++x::l.drop i=l++[x]:=by rw[List.take_of_length_le (by omega),List.drop_of_length_le (by omega)]
  rw[e];exact J.finW rfl
 have hin:i<n:=by omega
 obtain⟨g,rfl⟩:=hO.some (by omega);have hlt:(l.take i++x::l.drop i).length=n+1:=by simp;omega
 refine run ?_;refine J.ifd rfl (fun h2=>?_) (fun h2=>?_)
 ·refine run ?_;refine J.apZ (p:=i) (k0:=n+1 - i) opC n l rfl (by(conv=>lhs;whnf)<;>exact sl3 (by omega) (by omega) rfl) (by(conv=>lhs;whnf)<;>exact congrArg _ (by omega)) fun b' c' cs' hcs=>?_
  obtain⟨k1,k2,k3,k4⟩:=hcs;refine run ?_;refine J.copyR (b:=b') (o:=i*11) (n:=n+1 - i) (k:=1) (by(conv=>lhs;whnf)<;>exact sl3 (by omega) (by omega) rfl) rfl (RG.cells (RG.blkO hB hne opC_len)) (by rw[List.flatMap_cons,List.flatMap_nil,List.append_nil,opC_len]) (fun u hu=>opC_cell x u (by simpa using List.mem_of_mem_take hu)) rfl ?_;refine run ?_;refine J.regionX [(0, .q),(1, .q),(2, .q),(3, .q),(4, .q),(5, .q),(6, .q),(7, .q),(8, .g)] mixed (by kernel_rfl) ?_;refine run ?_;refine J.copyR (b:=b') (o:=(i+1)*11) (n:=n - i) (n2:=n - i) (k:=n - i) (a:=some ⟨g,i*11,none⟩) (by(conv=>lhs;whnf)<;>exact sl3 (by omega) (by omega) rfl) (by(conv=>lhs;whnf)<;>exact sl3 (by omega) (by omega) rfl) (RG.cells (RG.tail RG.own' hin)) (by rw[flat_len opC 11 opC_len,List.length_drop,hlen,Nat.mul_comm]) (fun u hu=>by obtain⟨y,_,hy⟩:=List.mem_flatMap.1 (List.mem_of_mem_take hu);exact opC_cell y u hy) rfl ?_ (ho:=by simp only[splice_length];omega);refine run ?_;have hz:=(ins_flat (f:=opC) (sz:=11) (z:=x) opC_len hlen hin (by omega) k2).2
  refine J.ruc opC 11 34 b' (n + 1) c' (l.take i ++ x :: l.drop i) opC_len (by simp only [splice_length]; exact k1) (by
   rw [← hz]
   congr 2
   rw [List.take_of_length_le (by rw [flat_len opC 11 opC_len, List.length_drop, hlen]; omega)]) (by omega) k4 hlt ?_
  exact J.finW (a':=some ⟨b',0,none⟩) (n':=n+1) (c':=c') (by(conv=>lhs;whnf)<;>exact sl3 (by omega) (by omega) rfl)
 refine run ?_;refine J.cur opC 11 34 g n c l fun cur hcur=>?_
 obtain⟨k1,k2,k3,k4,k5⟩:=hcur;have hcl:(n+1)*11≤cur.length:=by omega
 refine J.extv (E := Extern.SlicesOverlaps.overlaps #[62, 62] #[4]) (v := .bool false) func142 (by kernel_rfl) (by kernel_rfl) (by kernel_rfl) (by kernel_rfl) rfl (fun w' M => by
  have B1 := hB.pr M.pr hne
  have B2 : Blk w' g cur 34 := M.blk .here
  exact Lib.run_overlaps_apart w' _ _ 34 Und.h 11 (fun w => size_run Siz.h (by decide)) ⟨b2, 0, none⟩ ⟨g, _, none⟩ 1 1 _ _ (fun e => hne (show some g = some b2 from congrArg some (show g = b2 from e.symm))) _ _ _ _ (blk_shape B1) (blk_shape B2) (by omega) (blk_free B1) (blk_free B1)) ?_
 refine run ?_;refine J.regionX [(0, .q),(1, .q),(2, .q),(3, .q),(4, .q),(5, .q),(6, .q),(7, .q),(8, .g)] mixed (by kernel_rfl) ?_;refine run ?_;refine J.copyR (b:=g) (o:=(i+1)*11) (n:=n - i) (k:=n - i) (n2:=n+1 - i) (ds:=(cur.drop (i*11)).take ((n+1 - i)*11)) (by(conv=>lhs;whnf)<;>exact sl3 (by omega) (by omega) rfl) (by(conv=>lhs;whnf)<;>exact sl3 (by omega) (by omega) rfl) (fun w' M=>⟨_,M.part (o:=i*11) (b:=g) (by rw[List.length_take,List.length_drop,Nat.min_eq_left (by omega)])⟩) (by rw[List.length_take,List.length_drop];omega) (fun u hu=>?_) rfl ?_
 ·rw[List.take_take,Nat.min_eq_left (by omega)]at hu;have h5:=flat_drop opC 11 opC_len l i;rw[←k2,List.drop_take,show n*11 - i*11=(n - i)*11 by omega]at h5;rw[h5]at hu;obtain⟨y,_,hy⟩:=List.mem_flatMap.1 hu;exact opC_cell y u hy
 refine run ?_;refine J.copyR (b:=g) (o:=i*11) (n:=n+1 - i) (k:=1) (by(conv=>lhs;whnf)<;>exact sl3 (by omega) (by omega) rfl) rfl (RG.cells (RG.blkO hB hne opC_len)) (by rw[List.flatMap_cons,List.flatMap_nil,List.append_nil,opC_len]) (fun u hu=>opC_cell x u (by simpa using List.mem_of_mem_take hu)) rfl ?_ (ho:=by simp only[splice_length];omega);refine run ?_;have hz:=(ins_flat (f:=opC) (sz:=11) (z:=x) (cs:=cur) opC_len hlen hin hcl (by rw[←flat_take opC 11 opC_len,←k2,List.take_take,Nat.min_eq_left (by omega)])).1
 refine J.ruc opC 11 34 g (n + 1) c (l.take i ++ x :: l.drop i) opC_len (by simp only [splice_length]; exact k1) (by
  rw [← hz]
  congr 2
  congr 1
  rw [List.take_take, Nat.min_eq_left (by omega), ← flat_drop opC 11 opC_len, ← k2, List.drop_take, show n * 11 - i * 11 = (n - i) * 11 by omega]) (by omega) k4 hlt ?_
 exact J.finW (by(conv=>lhs;whnf)<;>exact sl3 (by omega) (by omega) rfl)
theorem idxID{S0:Nat→Prop}(a:Option Addr)(n c:Nat)(ids x:List Int)(w:World)(D0:WRow .u8 32 S0 w a n ids)(hx:Arr .u8 32 x)(hn:n≤100000):
  Calls prog 144 #[.slice a n c, .agg (ints .u8 x).toArray] w (Gv w (fun r:Int=> .int .i64 r) (fun _=>[]) fun r=>0≤r↔S.inS n ids x):=by
 have hl:=D0.len;refine J.enter 17 func144 rfl rfl ?_;refine run ?_;refine J.box rfl rfl rfl fun b1=>?_
 refine run ?_;refine J.loopS (A:=Int) (fun p=>[(8, .int .i64 p)]) [4,5,9,10,11,12,13,14,15,16,17,18] (fun p=>(0≤p∧p≤n)∧∀i,i<p.toNat→S.idAt ids i≠x) (fun p=>n - p.toNat) 0 (by kernel_rfl) ⟨by omega,fun i hi=>by omega⟩ (fun p j hI=>?_);obtain⟨h1,hI⟩:=hI;refine run ?_;refine J.ifd rfl (fun c1=>?_) (fun c1=>?_)
 ·obtain⟨q,hq⟩:=ex (elt 32 ids p.toNat);have hqa:Arr .u8 32 q:=hq▸D0.elt_arr (by omega);refine run ?_;refine J.regionX [(0, .q),(1, .q),(2, .q),(3, .q),(4, .q),(5, .q)] mixed (by kernel_rfl) ?_;refine run ?_;refine J.ifd rfl (fun c2=>?_) (fun c2=>?_)
  ·refine run ?_;exact J.finG p rfl ⟨fun _=>⟨p.toNat,by omega,by rw[c2];exact hq.symm⟩,fun _=>by omega⟩ (List.nil_sublist _)
  refine run ?_;refine J.nextS (p+1) ⟨rfl,trivial⟩ (by kernel_rfl) ⟨by omega,fun i hi=>?_⟩ (by omega);rcases Nat.lt_or_ge i p.toNat with e|e
  ·exact hI i e
  obtain rfl:i=p.toNat:=by omega
  exact fun h=>c2 (h.symm.trans hq.symm)
 refine run ?_;exact J.finG (-1) rfl ⟨fun h=>by omega,fun⟨i,hi,e⟩=>absurd e (hI i (by omega))⟩ (List.nil_sublist _)
theorem hasID{S0:Nat→Prop}(a:Option Addr)(n c:Nat)(ids x:List Int)(w:World)(D0:WRow .u8 32 S0 w a n ids)(hx:Arr .u8 32 x)(hn:n≤100000):
  Calls prog 101 #[.slice a n c, .agg (ints .u8 x).toArray] w (Ret w fun v _=>v= .bool (decide (S.inS n ids x))):=by
 refine J.enter 7 func101 rfl rfl ?_;refine run ?_;refine J.box rfl rfl rfl fun b1=>?_
 refine run ?_;refine J.call rfl rfl (fun w' M=>idxID a n c ids x w' (D0.ext M.ext) hx hn) fun r hr=>?_
 refine run ?_;exact J.fin (congrArg _ (decide_eq_decide.2 hr))
def kpB(o:S.OpV)(y:IdV):Bool:=decide (¬S.inS o.n o.ids y.xs)
theorem kp_filter(o:S.OpV){l:List IdV}{hs:List Int}(he:flatI l=hs):∀k,k≤l.length→S.selF (S.keepF o hs) hs k=flatI ((l.take k).filter (kpB o))∧S.numF (S.keepF o hs) k=((l.take k).filter (kpB o)).length
 |0,_=>⟨rfl,rfl⟩
 |k+1,hk=>by
  obtain⟨h1,h2⟩:=kp_filter o he k (by omega);obtain⟨y,hy⟩:∃y,l[k]? =some y:=⟨_,List.getElem?_eq_getElem (by omega)⟩
  have hi:=idv_at he hy;have hb:S.keepF o hs k=kpB o y:=by unfold S.keepF kpB;rw[hi]
  rw[S.selF,S.numF,h1,h2,hb,hi,List.take_add_one,hy,Option.toList_some,List.filter_append];cases h:kpB o y with
  |true=>rw[List.filter_cons_of_pos h,List.filter_nil];exact⟨by unfold flatI;simp,by simp⟩
  |false=>rw[List.filter_cons_of_neg (by rw[h];decide),List.filter_nil];exact⟨by simp,by simp⟩
theorem shPut2{S1:Nat→Prop}(z:OpA)(x:List Int)(b:Nat)(T:TypeId)(w:World)(hB:Blk w b (opC z) T)(D1:WRow .u8 32 S1 w z.pa z.o.n z.o.ids)(hx:Arr .u8 32 x)(hn:z.o.n≤1000):
  Calls prog 100 #[.agg (ints .u8 x).toArray, .pointer (some ⟨b,0,none⟩)] w (Ret w fun v _=>v= .bool (decide (S.inS z.o.n z.o.ids x))):=by
 refine J.enter 6 func100 rfl rfl ?_;refine run ?_;refine J.box rfl rfl rfl fun b1=>?_
 refine run ?_;refine J.ldOq hB rfl ?_;refine run ?_;refine J.callp rfl rfl (fun w' M=>hasID _ _ _ _ _ w' (D1.ext M.ext) hx (by omega)) ?_;refine run ?_;exact J.fin rfl
theorem idxPut2{S1 S2:Nat→Prop}(a:Option Addr)(n c:Nat)(l:List IdV)(z:OpA)(b:Nat)(T:TypeId)(w:World)(D0:GRow idC 32 S2 w a n l)(hn:n≤1000)(hA:∀y∈l,Arr .u8 32 y.xs)(hB:Blk w b (opC z) T)(D1:WRow .u8 32 S1 w z.pa z.o.n z.o.ids)(hz:z.o.n≤1000):
  Calls prog 90 #[.slice a n c, .func (.func 100) #[] #[.pointer (some ⟨b,0,none⟩)]] w (Gv w (fun r:Int=> .int .i64 r) (fun _=>[]) fun r=>(r= -1∧l.filter (kpB z.o)=l)∨∃i:Nat,r=(i:Nat)∧i<n∧(l.take (i+1)).filter (kpB z.o)=l.take i):=by
 have hl:=D0.len;refine J.enter 17 func90 rfl rfl ?_;refine run ?_;refine J.loopS (A:=Int) (fun p=>[(8, .int .i64 p)]) [4,5,9,10,11,12,13,14,15,16,17,18] (fun p=>(0≤p∧p≤n)∧(l.take p.toNat).filter (kpB z.o)=l.take p.toNat) (fun p=>n - p.toNat) 0 (by kernel_rfl) ⟨by omega,rfl⟩ (fun p j hI=>?_);obtain⟨h1,hI⟩:=hI;refine run ?_;refine J.ifd rfl (fun c1=>?_) (fun c1=>?_)
 ·obtain⟨y,hy⟩:=D0.ex (i:=p) (by omega);have e:(l.take (p.toNat+1)).filter (kpB z.o)=l.take p.toNat++if kpB z.o y then [y]else []:=by
   rw[List.take_add_one,hy,Option.toList_some,List.filter_append,hI];cases h:kpB z.o y with
   |true=>rw[List.filter_cons_of_pos h];rfl
   |false=>rw[List.filter_cons_of_neg (by rw[h];decide)];rfl
  refine run ?_;refine J.ldGa (i:=p) (sz:=32) (off:=0) rfl (RG.arg D0) ?_ (q:=y) (hf:=idC_all y) (hn:=idC_len y);refine run ?_;refine J.callvp rfl rfl rfl (fun w' M=>shPut2 z y.xs b T w' (hB.ext M.ext) (D1.ext M.ext) (hA y (List.mem_of_getElem? hy)) hz) ?_;refine run ?_;refine J.ifd rfl (fun c2=>?_) (fun c2=>?_)
  ·refine run ?_;refine J.finG p rfl (.inr ⟨p.toNat,by omega,by omega,?_⟩) (List.nil_sublist _);rw[e,show kpB z.o y=false from decide_eq_false (not_not_intro c2)];simp
  refine run ?_;refine J.nextS (p+1) ⟨rfl,trivial⟩ (by kernel_rfl) ⟨by omega,?_⟩ (by omega);rw[show(p+1).toNat=p.toNat+1 by omega,e,show kpB z.o y=true from decide_eq_true c2,List.take_add_one,hy];rfl
 refine run ?_;refine J.finG (-1) rfl (.inl ⟨rfl,?_⟩) (List.nil_sublist _);rwa[List.take_of_length_le (by omega)]at hI
structure DlA where
 (i j:Nat)(l:List IdV)
theorem delPut2{S1:Nat→Prop}(a:Option Addr)(n c:Nat)(l:List IdV)(z:OpA)(b:Nat)(T:TypeId)(w:World)(hO:GOwn idC 32 0 w 23 a n c l)(hn:n≤1000)(hA:∀y∈l,Arr .u8 32 y.xs)(hB:Blk w b (opC z) T)(hne:¬obk a=some b)(D1:WRow .u8 32 S1 w z.pa z.o.n z.o.ids)(hS:∀q,S1 q→obk a=some q→False)(hz:z.o.n≤1000):
  Calls prog 99 #[.slice a n c, .func (.func 100) #[] #[.pointer (some ⟨b,0,none⟩)]] w (Gw w idC 32 23 a (l.filter (kpB z.o))):=by
 have hlen:=hO.len;have hcn:=hO.capn;have hcm:=hO.own.cap.2;refine J.enterG 40 hO func99 rfl rfl ?_;refine run ?_;refine J.call rfl rfl (fun w' M=>(RG.own' (a:=a) w' M).elim fun _ k0=>idxPut2 a n c l z b T w' k0 hn hA (hB.pr M.pr hne) (D1.pr M.pr hS) hz) fun r hr=>?_
 refine run ?_;refine J.ife rfl (fun c1=>?_) (fun c1=>?_)
 ·have hf:l.filter (kpB z.o)=l:=hr.elim (fun h=>h.2) fun⟨i,h,_⟩=>by omega
  rw[hf];refine run ?_;exact J.finW rfl
 obtain⟨i,rfl,hi,hf⟩:∃i:Nat,r=(i:Nat)∧i<n∧(l.take (i+1)).filter (kpB z.o)=l.take i:=hr.resolve_left fun h=>c1 h.1;obtain⟨g,rfl⟩:=hO.some (by omega);refine run ?_;refine J.loop (A:=DlA) (fun p=>[(5, .int .i64 (p.i:Nat)),(6, .int .i64 (p.j:Nat))]) [7,16,17,18,19,20,21,22,23,24,25,26,27,28,29,30,31,32,33,34,35] (fun p=>[.gown idC 32 23 (some ⟨g,0,none⟩) n c p.l]) (fun p=>p.i<p.j∧p.j≤n∧p.l.length=n∧p.l.take p.i=(l.take p.j).filter (kpB z.o)∧p.l.drop p.j=l.drop p.j) (fun p=>n - p.j) ⟨i,i+1,l⟩ (by kernel_rfl) ⟨Nat.lt_succ_self _,hi,hlen,hf.symm,rfl⟩ (fun p j hI=>?_);obtain⟨h1,h2,h3,h4,h5⟩:=hI;refine run ?_;refine J.ifd rfl (fun c2=>?_) (fun c2=>?_)
 ·obtain⟨y,hy⟩:∃y,p.l[((p.j:Nat):Int).toNat]? =some y:=⟨_,List.getElem?_eq_getElem (by omega)⟩
  have hy':l[p.j]? =some y:=by
   have e:=congrArg (fun q:List IdV=>q[0]?) h5;simp only[List.getElem?_drop,Nat.add_zero]at e;rw[←e];rw[Int.toNat_natCast]at hy;exact hy
  have e:(l.take (p.j+1)).filter (kpB z.o)=p.l.take p.i++if kpB z.o y then [y]else []:=by
   rw[List.take_add_one,hy',Option.toList_some,List.filter_append,h4];cases h:kpB z.o y with
   |true=>rw[List.filter_cons_of_pos h];rfl
   |false=>rw[List.filter_cons_of_neg (by rw[h];decide)];rfl
  have ed:p.l.drop (p.j+1)=l.drop (p.j+1):=by
   have e:=congrArg (List.drop 1) h5;rwa[List.drop_drop,List.drop_drop]at e
  refine run ?_;refine J.ldGa (i:=((p.j:Nat):Int)) (sz:=32) (off:=0) rfl RG.own' ?_ (q:=y) (hf:=idC_all y) (hn:=idC_len y);refine run ?_;refine J.alloc rfl fun b4=>?_
  refine run ?_;refine J.callvp rfl rfl rfl (fun w' M=>shPut2 z y.xs b T w' (hB.pr M.pr hne) (D1.pr M.pr hS) (hA y (List.mem_of_getElem? hy')) hz) ?_;refine run ?_;refine J.ifnot rfl (fun c3=>?_) (fun c3=>?_)
  ·have c3:=of_decide_eq_false c3;refine run ?_;refine J.stG (f:=idC) (q:=y) rfl rfl rfl ?_ (hv:=ints_cellB _ _);refine run ?_;rw[Int.toNat_natCast];refine J.drop (E:=[.gown idC 32 23 (some ⟨g,0,none⟩) n c (p.l.set p.i y)]) sb ?_;refine J.next ⟨p.i+1,p.j+1,p.l.set p.i y⟩ ⟨rfl,rfl,trivial⟩ (by kernel_rfl) ⟨by dsimp only;omega,by dsimp only;omega,by dsimp only;rw[List.length_set];exact h3,?_,?_⟩ (by dsimp only;omega)
   ·dsimp only;rw[e,show kpB z.o y=true from decide_eq_true c3,if_pos rfl,List.take_add_one,List.getElem?_set,if_pos rfl,if_pos (by omega),Option.toList_some,List.take_set_of_le (Nat.le_refl _)]
   dsimp only;rw[List.drop_set_of_lt (by omega)];exact ed
  have c3:=of_decide_eq_true c3;refine run ?_;refine J.drop (E:=[.gown idC 32 23 (some ⟨g,0,none⟩) n c p.l]) sb ?_;refine J.next ⟨p.i,p.j+1,p.l⟩ ⟨rfl,rfl,trivial⟩ (by kernel_rfl) ⟨by dsimp only;omega,by dsimp only;omega,h3,?_,ed⟩ (by dsimp only;omega);dsimp only;rw[e,show kpB z.o y=false from decide_eq_false (not_not_intro c3)];simp
 obtain⟨pi,pj,pl⟩:=p;dsimp only at h1 h2 h3 h4 h5 c2⊢;obtain rfl:pj=n:=by omega
 rw[List.take_of_length_le (show l.length≤pj by omega)]at h4;have hfl:(l.filter (kpB z.o)).length=pi:=by rw[←h4,List.length_take];omega
 refine J.cur idC 32 23 g pj c pl fun cur hcur=>?_
 obtain⟨k1,k2,_,_,_⟩:=hcur;refine run ?_;refine J.clr (o:=pi*32) (q:=pj - pi) (show Value.slice (some ⟨g,0+((pi:Nat):Int).toNat*32,none⟩) (pj - ((pi:Nat):Int).toNat) (c - ((pi:Nat):Int).toNat)= .slice (some ⟨g,pi*32,none⟩) (pj - pi) (c - pi)from by rw[Int.toNat_natCast,Nat.zero_add]) (fun cs2 hcs2=>?_) (hfit:=by rw[k1];omega);obtain⟨k3,k4⟩:=hcs2;refine run ?_;refine J.ruc idC 32 23 g pi c (l.filter (kpB z.o)) idC_len (by rw[k3,k1]) (by rw[k4,←h4,←flat_take idC 32 idC_len,←k2,List.take_take,Nat.min_eq_left (by omega)]) (by omega) hcm hfl ?_;exact J.finW (a':=some ⟨g,0,none⟩) (n':=pi) (c':=c) (by exact sl3 rfl (by omega) rfl)
theorem shPut1{S0:Nat→Prop}(s:ShA)(x:List Int)(b:Nat)(T:TypeId)(w:World)(hB:Blk w b (shC s) T)(H:ShR S0 w s)(hx:Arr .u8 32 x)(hgp:S.goodPs s.V.ps)(h1:1≤s.pn):
  Calls prog 96 #[.agg (ints .u8 x).toArray, .pointer (some ⟨b,0,none⟩)] w (Ret w fun v _=>v= .bool (decide (¬S.inS (S.whole s.V.ps).m (S.whole s.V.ps).ids x))):=by
 have hll:s.V.ps.length=s.pn:=by rw[List.length_map,H.pr.len]
 obtain⟨r1,r2⟩:=S.res_lt (ps:=s.V.ps) (x:=x) (by omega);obtain⟨g,hg⟩:∃g,s.gs[S.resN s.V.ps x]? =some g:=⟨_,List.getElem?_eq_getElem (by rw[H.pr.len];omega)⟩
 have hgP:=shAt hg;have hin:=S.in_part (x:=x) hgp (by omega);rw[hgP]at hin;refine J.enter 14 func96 rfl rfl ?_;refine run ?_;refine J.box rfl rfl rfl fun b1=>?_
 refine run ?_;refine J.ldOA hB (fun h=>h) rfl ?_;refine run ?_;refine J.callp rfl rfl (fun w' M=>shFind s x g w' (H.ext M.ext) hx hgp h1 hg) ?_;refine run ?_;exact J.fin (congrArg _ (by simp[hin]))
theorem idxAbs{S0 S1:Nat→Prop}(s:ShA)(a:Option Addr)(n c:Nat)(ps:List Int)(b:Nat)(T:TypeId)(w:World)(hB:Blk w b (shC s) T)(H:ShR S0 w s)(D1:WRow .u8 32 S1 w a n ps)(hgp:S.goodPs s.V.ps)(h0:1≤s.pn)(hn:n≤1000):
  Calls prog 90 #[.slice a n c, .func (.func 96) #[] #[.pointer (some ⟨b,0,none⟩)]] w (Gv w (fun r:Int=> .int .i64 r) (fun _=>[]) fun r=>0≤r↔¬S.allI (S.whole s.V.ps).m (S.whole s.V.ps).ids n ps):=by
 have hl:=D1.len;refine J.enter 17 func90 rfl rfl ?_;refine run ?_;refine J.loopS (A:=Int) (fun p=>[(8, .int .i64 p)]) [4,5,9,10,11,12,13,14,15,16,17,18] (fun p=>(0≤p∧p≤n)∧∀i,i<p.toNat→S.inS (S.whole s.V.ps).m (S.whole s.V.ps).ids (S.idAt ps i)) (fun p=>n - p.toNat) 0 (by kernel_rfl) ⟨by omega,fun i hi=>by omega⟩ (fun p j hI=>?_);obtain⟨h1,hI⟩:=hI;refine run ?_;refine J.ifd rfl (fun c1=>?_) (fun c1=>?_)
 ·refine run ?_;refine J.callvp rfl rfl rfl (fun w' M=>shPut1 s _ b T w' (hB.ext M.ext) (H.ext M.ext) (D1.elt_arr (by omega)) hgp h0) ?_;refine run ?_;refine J.ifd rfl (fun c2=>?_) (fun c2=>?_)
  ·refine run ?_;exact J.finG p rfl ⟨fun _ h=>c2 (h p.toNat (by omega)),fun _=>by omega⟩ (List.nil_sublist _)
  refine run ?_;refine J.nextS (p+1) ⟨rfl,trivial⟩ (by kernel_rfl) ⟨by omega,fun i hi=>?_⟩ (by omega);rcases Nat.lt_or_ge i p.toNat with e|e
  ·exact hI i e
  obtain rfl:i=p.toNat:=by omega
  exact Classical.not_not.1 c2
 refine run ?_;exact J.finG (-1) rfl ⟨fun h=>by omega,fun h=>absurd (fun i hi=>hI i (by omega)) h⟩ (List.nil_sublist _)
theorem hasAbs{S0 S1:Nat→Prop}(s:ShA)(a:Option Addr)(n c:Nat)(ps:List Int)(b:Nat)(T:TypeId)(w:World)(hB:Blk w b (shC s) T)(H:ShR S0 w s)(D1:WRow .u8 32 S1 w a n ps)(hgp:S.goodPs s.V.ps)(h0:1≤s.pn)(hn:n≤1000):
  Calls prog 50 #[.slice a n c, .func (.func 96) #[] #[.pointer (some ⟨b,0,none⟩)]] w (Ret w fun v _=>v= .bool (decide (¬S.allI (S.whole s.V.ps).m (S.whole s.V.ps).ids n ps))):=by
 refine J.enter 7 func50 rfl rfl ?_;refine run ?_;refine J.call rfl rfl (fun w' M=>idxAbs s a n c ps b T w' (hB.ext M.ext) (H.ext M.ext) (D1.ext M.ext) hgp h0 hn) fun r hr2=>?_
 refine run ?_;exact J.fin (congrArg _ (decide_eq_decide.2 hr2))
end W
namespace W
open Go.RowKit G
theorem blk_e{S:Nat→Prop}{w:World}{b:Nat}{cs:List Value}{T:TypeId}(h:(Ent.blk b cs T).ok S w):S b∧Blk w b cs T:=h
section
variable{S0:Nat→Prop}{w0:World}{L:List Ent}{P:Program}{ops:Array Oper}{K:List Value→World→Prop}{rest:List (Oper×Kd)}{l l':List Value}{m:Md}{d:Tmp}{ty xt e:TypeId}{pos:String}{af:Array Edge}{kd:Kd}{x y:Operand}{nn:Nat}{ki:IntKind}{a:Option Addr}{k0 off i:Nat}
theorem J.ncP(hk:pureK kd=true)(ha:∃b o,a=some ⟨b,o,none⟩)(hx:ev l x=pt a k0)(k:J S0 w0 L (RY S0 w0 m P ops K rest l'))(hl:l.set d (pt a k0)=l':=by dsimp only[List.set]):
  J S0 w0 L (RY S0 w0 m P ops K ((⟨some d, .nilCheck x,ty,pos,af,none⟩,kd)::rest) l):=by
 obtain⟨b,o,rfl⟩:=ha;exact J.nc (a:=⟨b,o+k0,none⟩) hk hx k hl
theorem J.flP[F:Fld P xt i off](hk:pureK kd=true)(ha:∃b o,a=some ⟨b,o,none⟩)(hx:ev l x=pt a k0)(k:J S0 w0 L (RY S0 w0 m P ops K rest l'))(hl:l.set d (pt a (k0+off))=l':=by dsimp only[List.set]):
  J S0 w0 L (RY S0 w0 m P ops K ((⟨some d, .fieldAddr xt x i,ty,pos,af,none⟩,kd)::rest) l):=by
 obtain⟨b,o,rfl⟩:=ha;exact J.fl (b:=b) (o:=o+k0) (ad:=o+(k0+off)) hk hx k (Nat.add_assoc _ _ _) hl
end
theorem gown_reG{α:Type}{f:α→List Value}{sz:Nat}{T:TypeId}{a:Option Addr}{n c:Nat}{zs zs':List α}{S0:Nat→Prop}{w:World}(h1:zs'.flatMap f=zs.flatMap f)(h2:zs'.length=zs.length)(h:(Ent.gown f sz T a n c zs).ok S0 w):(Ent.gown f sz T a n c zs').ok S0 w:=by
 obtain⟨k1,k2⟩:=gown_e h;have k:GOwn f sz 0 w T a n c zs':=⟨by rw[h1];exact k1.own,k1.szf,h2.trans k1.len⟩
 unfold Ent.gown;exact⟨k,k2⟩
end W
namespace G
open Go.RowKit
section
variable{S0:Nat→Prop}{w0:World}{L Lq:List Ent}{bg fl:List Nat}{P:Program}{Q:Exit→Act→World→Prop}{l:List Value}{id n n':Nat}{l0:List Oper}{K:List Value→World→Prop}{li:Array Bool}{rd:List Nat}{ops:Array Oper}
theorem J.gnodeC{pl':List (Oper×Kd)}(pl:List (Nat×Kd))(rd:List Nat)(n':Nat)(li':Array Bool)
  (hB:(Region.noSelect l0.toArray&&(bgB l0.toArray bg fl&&(((G.bigs pl).all (fun i=>bg.contains i)&&(G.frees pl).all (fun i=>fl.contains i))&&(Nat.beq (n'+1+pl.length) n&&(!rd.isEmpty&&planB l0.toArray fl (fun s=>(Region.ready .any l0.toArray s==rd)&&(s.toList==li'.toList&&rd.all fun i=> !bg.any (Nat.beq i))) pl li)))))=true)
  (h:J S0 w0 L (RY S0 w0 (.r Lq) P l0.toArray (BG S0 w0 Lq bg fl P l0 K n' li' rd) pl' l))(hs:Lq.Sublist L:=by repeat(first|exact List.Sublist.refl _|refine List.Sublist.cons_cons _ ?_|refine List.Sublist.cons _ ?_))(hp:pick l0 pl=pl':=by dsimp only[pick,nth]):J S0 w0 L (WG S0 w0 Lq bg fl P l0 K n li l):=fun w M hcl=>by
 simp only[Bool.and_eq_true]at hB;obtain⟨hns,hbg,⟨hg,hf⟩,hz,hr0,hB⟩:=hB;have hz:=Nat.eq_of_beq_eq_true hz;subst hz;subst hp;have h1:RX P l0.toArray (MR S0 w0 Lq) (BG S0 w0 Lq bg fl P l0 K n' li' rd) (pick l0 pl) l w:=h w M (M.sub hs);rw[List.all_eq_true]at hg hf;refine rx_list (n:=n'+1) (bg:=bg) (fl:=fl) ?_ (fun _ h=>h) (fun h k x=>k (h x)) hns (bgB_spec hbg) pl li l w hcl (fun i hi=>by simpa using hg i ((mem_bigs pl i).1 hi)) (fun i hi=>by simpa using hf i (mem_frees pl i hi)) hB h1;intro listed l w hcl he hk;simp only[Bool.and_eq_true,beq_iff_eq]at he;obtain⟨hr,hl,_⟩:=he;obtain rfl:listed=li':=Array.ext' hl;refine⟨fun h0=>by rw[h0]at hr;subst hr;simp at hr0,fun k hm=>?_⟩;have hk2:=BG.get hk (hr▸hm);have hlt:k<l0.length:=by
  obtain⟨_,o,ho,_⟩:=mem_ready.1 hm;simpa using(Array.getElem?_eq_some_iff.1 ho).1
 have hi:l0.toArray[k]? =some (nth l0 k):=by simpa using nth_get l0 k hlt
 unfold xOp;simp only[hi];simp only[RX]at hk2;split
 ·rename_i hw;rw[if_pos (by exact hw)]at hk2;unfold Oper.wp at*;refine upon_mono ?_ (fun _ _ _ h=>h) hk2;rintro a w' ⟨l',rfl,hR,h⟩;exact⟨fun _=>hR,h (hcl.set hm)⟩
 ·rename_i hw;rw[if_neg (by exact hw)]at hk2;rw[put_fr];exact⟨fun _=>fun h=>h,hk2 (hcl.set hm)⟩
end
end G
namespace W
open Go.RowKit G
set_option maxRecDepth 20000
set_option maxHeartbeats 8000000
attribute [local irreducible] RS RX RY Code.wp bodyPost J Ent.blk Ent.iown Ent.wrow Ent.wown Ent.gown Ent.all Ent.emp
instance:Siz prog 70 1:=⟨by kernel_rfl⟩
instance:Ents prog 98:=⟨.mk func98 (by kernel_rfl) rfl⟩
instance:Ents prog 99:=⟨.mk func99 (by kernel_rfl) rfl⟩
theorem erase_mid{α:Type}(f:α→Ent)(l:List α){p:Nat}(x:α)(h:p≤l.length):((l.take p++x::l.drop p).map f).eraseIdx p=l.map f:=by
 rw[List.map_append,List.map_cons,List.eraseIdx_append_of_length_le (by rw[List.length_map,List.length_take];omega),List.length_map,List.length_take,Nat.min_eq_left h,Nat.sub_self,List.eraseIdx_cons_zero,←List.map_append,List.take_append_drop]
theorem set_midE{α:Type}(f:α→Ent)(l:List α){p:Nat}(x:α)(h:p≤l.length):((l.take p++x::l.drop p).map f).set p (f x)=(l.take p++x::l.drop p).map f:=by
 rw[←List.map_set,List.set_append_right _ _ (by rw[List.length_take];omega),List.length_take,Nat.min_eq_left h,Nat.sub_self,List.set_cons_zero]
theorem shEq{a a':List S.PG}{b b':Nat}{c c':List Int}{d d':Int}(h1:a=a')(h2:b=b')(h3:c=c')(h4:d=d'):(⟨a,b,c,d⟩:S.ShV)=⟨a',b',c',d'⟩:=by rw[h1,h2,h3,h4]
theorem set_map{gs:List GrA}{v:S.ShV}{r:Nat}{q1:GrA}{p:S.PG}(h:gs.map GrA.P=v.ps)(e:q1.P=p):(gs.set r q1).map GrA.P=v.ps.set r p:=by rw[List.map_set,h,e]
theorem shPut{S0 S1:Nat→Prop}(s:ShA)(z:OpA)(TK:TypeId)(w:World)(K0:Kst w TK)(H:ShR S0 w s)(hL:ShL s)(R:OpR S1 w z):
  Calls prog 56 #[.agg (shC s).toArray, .agg (opC z).toArray] w (Gv w (fun q:ShA=> .tuple #[.agg (shC q).toArray, .agg (ints .u8 (S.puI s.V z.o)).toArray, .int .i64 (S.puE s.V z.o)]) (fun q=>shE q) (ShK (S.puS s.V z.o))):=by
 have P0:=H.pr;have hl:=P0.len;have hcp:=H.cap;have hll:s.V.ps.length=s.pn:=by rw[List.length_map,H.pr.len]
 have hoi:=S.ok_iff (v:=s.V) H.ml;have h20:=R.ok.n;have D1:=R.row;refine J.enter 130 func56 rfl rfl ?_;refine run ?_;refine J.box rfl rfl rfl fun b1=>?_
 refine J.box rfl rfl rfl fun b2=>?_
 refine J.alloc rfl fun b3=>?_
 refine J.alloc rfl fun b4=>?_
 refine run ?_;refine J.callp rfl rfl (fun w' M=>shCheck s _ w' (K0.ext M.ext) (H.ext M.ext) hL) ?_;refine run ?_;refine J.joinX (A:=Int) (fun r=>[(7, .int .i64 r)]) [24,25] (fun _=>[.blk b4 (ints .u8 (List.replicate 32 0)) 23, .blk b3 [.slice none 0 0, .slice none 0 0, .int .i64 0] 72, .blk b2 (opC z) 34, .blk b1 (shC s) 72]) (fun r=>(S.chkH s.V=0→r=S.verE z.o)∧(S.chkH s.V≠0→r=S.chkH s.V)) ?_ (fun r j1 hr=>?_)
 ·refine J.ife rfl (fun c1=>?_) (fun c1=>?_)
  ·refine run ?_;refine J.callp rfl rfl (fun w' M=>verifyO z.o R.ok _ _ _ _ (K0.ext M.ext) (R.row.ext M.ext) R.cap) ?_;refine run ?_;exact J.cut _ ⟨rfl,trivial⟩ (by kernel_rfl) ⟨fun _=>rfl,fun h=>absurd c1 h⟩
  refine run ?_;exact J.cut _ ⟨rfl,trivial⟩ (by kernel_rfl) ⟨fun h=>absurd h c1,fun _=>rfl⟩
 refine run ?_;refine J.ifn rfl (fun c2=>?_) (fun c2=>?_)
 ·have he:S.puE s.V z.o=r∧S.puS s.V z.o=S.ShV.zero∧S.puI s.V z.o=List.replicate 32 0:=by
   by_cases c:S.chkH s.V=0
   ·have e:=hr.1 c;have hok:=S.chkH_iff.1 c;rw[e]at c2⊢;exact S.pu_no hok (S.addE_2 hok.2.1 c2).1 c2
   have e:=hr.2 c;obtain⟨k1,k2⟩:=S.chkH_ne c;rw[e,k2];exact S.pu_8 k1
  refine run ?_;refine J.bz rfl ?_;refine run ?_;refine J.nilWo 23 .u8 32 ?_;refine J.noA ?_;refine J.nilG (fun g:GrA=>grC g) 2 65 grC_len ?_;rw[he.1,he.2.2];exact J.finG ShA.zero rfl (shZero he.2.1) sb
 have c1:S.chkH s.V=0:=Classical.byContradiction fun c=>c (by rw[←hr.2 c,c2]);have hv:S.verE z.o=0:=(hr.1 c1).symm.trans c2;have hchk:=S.verE_check hv;have hok:=S.chkH_iff.1 c1;have hokp:=hoi.1 hok;obtain⟨n1,n4⟩:=ok_len H hok;have hgp:=hokp.2.1;have hle:=H.le hL n4;have hwg:=S.whole_good (ps:=s.V.ps) H.ml;have hc:S.chkP (S.whole s.V.ps)=0:=hok.2.1;have hwo:=refWholeOk H;have hver:s.ver=((S.whole s.V.ps).m:Nat):=hokp.2.2.2.1;have hhs:s.hs=S.hdI (S.whole s.V.ps):=hokp.2.2.2.2;have hA:=S.sha_arr (S.encS z.o);obtain⟨r1,r2⟩:=S.res_lt (ps:=s.V.ps) (x:=S.idOf z.o) (by omega);obtain⟨g,hg⟩:∃g,s.gs[S.resN s.V.ps (S.idOf z.o)]? =some g:=⟨_,List.getElem?_eq_getElem (by rw[hl];omega)⟩
 have hgP:=shAt hg;have hin:=S.in_part (x:=S.idOf z.o) hgp (by omega);rw[hgP]at hin;refine run ?_;refine J.callp rfl rfl (fun w' M=>idO z.o R.ok _ _ _ _ (K0.ext M.ext) (R.row.ext M.ext) R.cap) ?_;rw[if_pos hchk];refine run ?_;refine J.alloc rfl fun b5=>?_
 refine run ?_;refine J.callp rfl rfl (fun w' M=>shFind s _ g w' (H.ext M.ext) hA hgp n1 hg) ?_;obtain⟨sp,hsp⟩:=ex (S.spotS g.m g.ids (S.sha (S.encS z.o)));rw[←hsp];have hspl:sp≤g.m:=by rw[hsp];exact S.spotC_le _ _
 refine run ?_;refine J.fn rfl rfl rfl ?_;refine run ?_;refine J.ifd rfl (fun c3=>?_) (fun c3=>?_)
 ·have he:=S.pu_no hok (S.addE_3 hc hv (hin.2 c3)) (by decide);refine run ?_;refine J.bz rfl ?_;refine run ?_;refine J.nilWo 23 .u8 32 ?_;refine J.noA ?_;refine J.nilG (fun g:GrA=>grC g) 2 65 grC_len ?_;rw[he.1,he.2.2];exact J.finG ShA.zero rfl (shZero he.2.1) sb
 have hin':¬S.inS (S.whole s.V.ps).m (S.whole s.V.ps).ids (S.idOf z.o):=fun h=>c3 (hin.1 h);refine run ?_;refine J.callp rfl rfl (fun w' M=>hasAbs s _ _ _ _ b1 _ w' (blkC b1 M) (H.ext M.ext) (D1.ext M.ext) hgp n1 (by omega)) ?_;refine run ?_;refine J.ifd rfl (fun c4=>?_) (fun c4=>?_)
 ·have he:=S.pu_no hok (S.addE_4 hc hv hin' c4) (by decide);refine run ?_;refine J.bz rfl ?_;refine run ?_;refine J.nilWo 23 .u8 32 ?_;refine J.noA ?_;refine J.nilG (fun g:GrA=>grC g) 2 65 grC_len ?_;rw[he.1,he.2.2];exact J.finG ShA.zero rfl (shZero he.2.1) sb
 have c4:=Classical.not_not.1 c4;refine run ?_;refine J.ife rfl (fun c5=>?_) (fun c5=>?_)
 ·have he:=S.pu_no hok (S.addE_5 hc hv hin' c4 (by omega)) (by decide);refine run ?_;refine J.bz rfl ?_;refine run ?_;refine J.nilWo 23 .u8 32 ?_;refine J.noA ?_;refine J.nilG (fun g:GrA=>grC g) 2 65 grC_len ?_;rw[he.1,he.2.2];exact J.finG ShA.zero rfl (shZero he.2.1) sb
 have ha:=S.addE_0 hc hv hin' c4 (by omega);have he:=S.pu_0 hok ha;have hmp:=S.made_put hokp ha;obtain⟨hd1,hd2,hd3⟩:=S.hd_all (g:=S.whole s.V.ps) ((S.chkP_fine hwg.1).1 hc);have hhl:=H.hr.len;have hhn:S.hdN (S.whole s.V.ps)=s.hn:=by rw[←hhs]at hd1;omega
 rw[hhn]at hmp hd2;rw[←hhs]at hd2;rw[he.1,he.2.1,he.2.2,hmp];clear hmp he hd1 hd3;obtain⟨ke1,ke2,_⟩:=S.kp_all (o:=z.o) (n:=s.hn) (hs:=s.hs) hhl hd2;have hkn:=S.numF_le (S.keepF z.o s.hs) s.hn;have hkn':S.kpN z.o s.hn s.hs≤s.hn:=hkn;have hhn60:s.hn≤64:=by have:=S.numF_le (S.hdF (S.whole s.V.ps).m (S.whole s.V.ps).ids (S.whole s.V.ps).ops) (S.whole s.V.ps).m;have e:S.numF (S.hdF (S.whole s.V.ps).m (S.whole s.V.ps).ids (S.whole s.V.ps).ops) (S.whole s.V.ps).m=s.hn:=hhn;omega
 obtain⟨rr,hrr⟩:=ex (S.resN s.V.ps (S.idOf z.o));rw[←hrr]at r1 r2 hg hgP⊢;refine run ?_;refine J.alloc rfl fun b6=>?_
 refine run ?_;refine J.noA ?_;refine J.nilG (fun g:GrA=>grC g) 2 65 grC_len ?_;refine J.loop (A:=TsA) (fun p=>[(68, .int .i64 (p.i:Nat))]) [16,69,70,71,72,73,74,75,76,77,78,79] (fun p=>[.gown (fun g:GrA=>grC g) 2 65 p.a p.i p.c p.gs, .all (p.gs.map grAll), .blk b6 [.slice p.a p.i p.c, .slice none 0 0, .int .i64 (s.ver+1)] 72, .blk b5 (ints .u8 (S.sha (S.encS z.o))) 23, .blk b4 (ints .u8 (List.replicate 32 0)) 23, .blk b3 [.slice none 0 0, .slice none 0 0, .int .i64 0] 72, .blk b2 (opC z) 34, .blk b1 (shC s) 72]) (fun p=>p.i≤s.pn∧p.gs.map GrA.P=s.V.ps.take p.i∧∀x∈p.gs,GrK x) (fun p=>s.pn - p.i) ⟨0,none,0,[]⟩ (by kernel_rfl) ⟨Nat.zero_le _,rfl,fun z hz=>(by cases hz)⟩ (fun p j2 hI=>?_);obtain⟨hp,hps,hpk⟩:=hI;refine run ?_;refine J.ifd rfl (fun d1=>?_) (fun d1=>?_)
 ·obtain⟨y,hy⟩:=P0.ex (i:=(p.i:Nat)) (by omega);have hy':=hy;rw[Int.toNat_natCast]at hy';have G:=H.g hy';have hcp2:=G.cap;refine run ?_;refine J.alloc rfl fun b7=>?_
  refine run ?_;refine J.regionX [(0, .q),(1, .q),(2, .q),(3, .e),(4, .e),(5, .g),(6, .q),(7, .g)] mixed (by kernel_rfl) ?_;refine run ?_;refine J.call rfl rfl (fun w' M=>shTwin y w' (G.ext M.ext)) fun q hq=>?_
  dsimp only[grE,List.cons_append,List.nil_append];refine J.b1G (fun g:GrA=>grC g) q grC_len rfl rfl rfl fun bb=>?_
  refine J.apG rfl rfl RG.own' grC_one fun a' c'=>?_
  refine run ?_;refine J.triG q ?_;refine J.snocA (p.gs.map grAll) (grAll q) ?_;refine J.re (.all (p.gs.map grAll++[grAll q])) (.all ((p.gs++[q]).map grAll)) (fun _ _ h=>by rw[List.map_append];exact h) ?_;refine J.drop (E:=[.gown (fun g:GrA=>grC g) 2 65 a' (p.i+1) c' (p.gs++[q]), .all ((p.gs++[q]).map grAll), .blk b6 [.slice a' (p.i+1) c', .slice none 0 0, .int .i64 (s.ver+1)] 72, .blk b5 (ints .u8 (S.sha (S.encS z.o))) 23, .blk b4 (ints .u8 (List.replicate 32 0)) 23, .blk b3 [.slice none 0 0, .slice none 0 0, .int .i64 0] 72, .blk b2 (opC z) 34, .blk b1 (shC s) 72]) sb ?_
  exact J.next ⟨p.i + 1, a', c', p.gs ++ [q]⟩ ⟨rfl, trivial⟩ (by kernel_rfl) ⟨by dsimp only; omega, gsTake hy' (GrP.P (P := y.P) hq) hps, fun u hu => by
   rcases List.mem_append.1 hu with h | h
   ·exact hpk u h
   rw [List.mem_singleton] at h
   subst h
   exact ⟨hq.ok G.opz, hq.cap⟩⟩ (by dsimp only; omega)
 obtain⟨pi,pa,pc,gs⟩:=p;dsimp only at hp hps hpk d1⊢;obtain rfl:pi=s.pn:=by omega
 have hps:gs.map GrA.P=s.V.ps:=hps.trans (List.take_of_length_le (by rw[hll];exact Nat.le_refl _));refine run ?_;refine J.call rfl rfl (fun w' M=>cloneW _ _ _ _ w' (D1.ext M.ext) R.cap (by omega)) fun q hq=>?_
 refine run ?_;have hgl:gs.length=s.pn:=by have:=congrArg List.length hps;rw[List.length_map]at this;omega
 obtain⟨q0,hq0⟩:∃q0,gs[rr]? =some q0:=⟨_,List.getElem?_eq_getElem (by omega)⟩
 have hq0P:q0.P=g.P:=by
  have e:=congrArg (fun l:List S.PG=>l[rr]?) hps;simp only[List.getElem?_map,hq0,hg,Option.map_some]at e;exact Option.some.inj e
 have hq0m:q0.m=g.m:=congrArg S.PG.m hq0P;have hq0i:q0.ids=g.ids:=congrArg S.PG.ids hq0P;have hgg:=hgp _ r2;rw[hgP]at hgg;have hgn:g.ops.length=g.m:=hgg.1.2;have hq0o:q0.ops=g.ops:=congrArg S.PG.ops hq0P;have hq0k:=hpk q0 (List.mem_of_getElem? hq0);have hgm:g.m≤70:=(H.g hg).cap.2.2.1;refine J.fact (.gown (fun g:GrA=>grC g) 2 65 pa s.pn pc gs) (fun _ _ h=>(gown_e h).1.some (by omega)) fun hpa=>?_
 have hpb:∃b o,pa=some ⟨b,o,none⟩:=hpa.elim fun b h=>⟨b,0,h⟩
 have hgr:gs[((rr:Nat):Int).toNat]? =some q0:=by rw[Int.toNat_natCast];exact hq0
 refine J.openA (gs.map grAll) rr (e:=grAll q0) (by rw[List.getElem?_map,hq0];rfl) ?_;refine J.re (grAll q0) (.all [.gown opC 11 34 (q0).oa (q0).n (q0).oc (q0).zs, .all ((q0).zs.map (opE 23)), .wown 23 .u8 32 (q0).ia (q0).m (q0).ic (q0).ids]) (fun _ _ h=>h) ?_;refine J.openA [.gown opC 11 34 (q0).oa (q0).n (q0).oc (q0).zs, .all ((q0).zs.map (opE 23)), .wown 23 .u8 32 (q0).ia (q0).m (q0).ic (q0).ids] 2 rfl ?_;dsimp only[List.eraseIdx];refine J.openA [.gown opC 11 34 (q0).oa (q0).n (q0).oc (q0).zs, .all ((q0).zs.map (opE 23))] 1 rfl ?_;dsimp only[List.eraseIdx];refine J.openA [.gown opC 11 34 (q0).oa (q0).n (q0).oc (q0).zs] 0 rfl ?_;dsimp only[List.eraseIdx];refine J.fact (.wown 23 .u8 32 q0.ia q0.m q0.ic q0.ids) (fun _ _ h=>(wown_len h).1) fun hlen0=>?_
 refine J.fact (.wown 23 .u8 32 q0.ia q0.m q0.ic q0.ids) (fun _ _ h=>(wown_e h).1.bd) fun hbd0=>?_
 refine J.fact (.gown opC 11 34 q0.oa q0.n q0.oc q0.zs) (fun _ _ h=>(gown_e h).1.len) fun hzl0=>?_
 obtain⟨ids,hl1,hl2⟩:=chunks q0.m q0.ids hlen0;have hzn:q0.n=g.m:=by have h:=congrArg List.length hq0o;unfold GrA.ops at h;rw[List.length_map]at h;unfold GrA.ops at hgn;omega
 have hil:(ids.take sp++(⟨S.sha (S.encS z.o),hA.1⟩:IdV)::ids.drop sp).length=q0.m+1:=by simp;omega
 have hzl:(q0.zs.take sp++(⟨z.o,q.1,q.2⟩:OpA)::q0.zs.drop sp).length=q0.n+1:=by simp;omega
 have hcv:flatI (ids.take sp++(⟨S.sha (S.encS z.o),hA.1⟩:IdV)::ids.drop sp)=S.insW q0.ids sp (S.sha (S.encS z.o)):=by rw[flatI_ins,hl2]
 have hbd:Bd .u8 (S.insW q0.ids sp (S.sha (S.encS z.o))):=ins_bd hbd0 hA.2;have hsg1:∀ia ic,(gs.set ((rr:Nat):Int).toNat (⟨ia,q0.oa,q0.m+1,q0.n,ic,q0.oc,S.insW q0.ids sp (S.sha (S.encS z.o)),q0.zs⟩:GrA))[((rr:Nat):Int).toNat]? =some ⟨ia,q0.oa,q0.m+1,q0.n,ic,q0.oc,S.insW q0.ids sp (S.sha (S.encS z.o)),q0.zs⟩:=fun ia ic=>by rw[List.getElem?_set,if_pos rfl,if_pos (by omega)]
 refine J.joinX (A:=(Option Addr×Nat)×(Option Addr×Nat)) (fun u=>[]) [88,89,90,91,92,93,94,95,96,97,98,99,100,101,102,103,104,105,106,107,108,109] (fun u=>[.gown opC 11 34 u.2.1 (q0.n+1) u.2.2 (q0.zs.take sp++(⟨z.o,q.1,q.2⟩:OpA)::q0.zs.drop sp), .all (q0.zs.map (opE 23)), .wown 23 .u8 32 u.1.1 (q0.m+1) u.1.2 (S.insW q0.ids sp (S.sha (S.encS z.o))), .gown (fun g:GrA=>grC g) 2 65 pa s.pn pc (gs.set rr (⟨u.1.1,u.2.1,q0.m+1,q0.n+1,u.1.2,u.2.2,S.insW q0.ids sp (S.sha (S.encS z.o)),q0.zs.take sp++(⟨z.o,q.1,q.2⟩:OpA)::q0.zs.drop sp⟩:GrA)), .all ((gs.map grAll).eraseIdx rr), .blk b6 [.slice pa s.pn pc, .slice none 0 0, .int .i64 (s.ver+1)] 72, .wown 23 .u8 32 q.1 z.o.n q.2 z.o.ids, .blk b5 (ints .u8 (S.sha (S.encS z.o))) 23, .blk b4 (ints .u8 (List.replicate 32 0)) 23, .blk b3 [.slice none 0 0, .slice none 0 0, .int .i64 0] 72, .blk b2 (opC ⟨z.o,q.1,q.2⟩) 34, .blk b1 (shC s) 72]) (fun _=>True) ?_ (fun u j3 _=>?_)
 ·refine J.regionG [.gown (fun g:GrA=>grC g) 2 65 pa s.pn pc gs, .blk b5 (ints .u8 (S.sha (S.encS z.o))) 23, .blk b2 (opC ⟨z.o,q.1,q.2⟩) 34] [20,23] [1,18,19,21,22] mixed ?_;refine J.gnodeC [(0, .q),(1, .c),(2, .q),(3, .q),(4, .q),(5, .q),(6, .q),(7, .q),(10, .q),(11, .q),(12, .q),(13, .q),(14, .q),(15, .q)] [8,16] 9 #[true,true,true,true,true,true,true,true,false,false,true,true,true,true,true,true,false,false,false,false,false,false,false,false] (by kernel_rfl) ?_;refine run ?_;refine J.ncP rfl hpb rfl ?_;refine run ?_;refine J.ncP rfl hpb rfl ?_;refine run ?_;refine J.nil ?_;refine J.gbr ?_ ?_
  ·refine J.b1G idC ⟨S.sha (S.encS z.o),hA.1⟩ idC_len rfl rfl rfl fun bx=>?_
   refine J.nil ?_;refine J.gnode [] [9,16] 8 #[true,true,true,true,true,true,true,true,true,false,true,true,true,true,true,true,false,false,false,false,false,false,false,false] (by kernel_rfl) ?_;refine run ?_;refine J.nil ?_;refine J.gbr ?_ ?_
   ·refine J.re (.wown 23 .u8 32 q0.ia q0.m q0.ic q0.ids) (.gown idC 32 23 q0.ia q0.m q0.ic ids) (fun _ _ h=>wown_gown hl2 hl1 h) ?_
    refine J.callG rfl (fun w' M hO' => insId0 q0.ia q0.m q0.ic ids sp ⟨S.sha (S.encS z.o), hA.1⟩ bx w' hO' (by omega) (by omega) (let ⟨_, _, k⟩ := M.get (GO.h (a := some ⟨bx, 0, none⟩) (some ⟨bx, 0, none⟩) 1 1 [(⟨S.sha (S.encS z.o), hA.1⟩ : IdV)]).same; gown_one (gown_e k).1) (fun he => by
     obtain ⟨S1, S2, h1, h2, h3⟩ := M.two (.gown idC 32 23 q0.ia q0.m q0.ic ids) (.gown idC 32 23 (some ⟨bx, 0, none⟩) 1 1 [(⟨S.sha (S.encS z.o), hA.1⟩ : IdV)])
     exact h1 bx ((gown_e h2).2 _ he) ((gown_e h3).2 _ rfl))) fun ia ic => ?_
    rw[hil];refine J.nil ?_;refine J.gfin [(16, .e),(17, .e),(18, .c),(19, .c),(20, .g),(21, .c),(22, .c),(23, .g)] (by kernel_rfl) ?_;refine run ?_;refine J.b1G opC ⟨z.o,q.1,q.2⟩ opC_len rfl rfl rfl fun bz=>?_
    refine run ?_
    refine J.callG rfl (fun w' M hO' => insOp0 q0.oa q0.n q0.oc q0.zs sp ⟨z.o, q.1, q.2⟩ bz w' hO' (by omega) (by omega) (let ⟨_, _, k⟩ := M.get (GO.h (a := some ⟨bz, 0, none⟩) (some ⟨bz, 0, none⟩) 1 1 [(⟨z.o, q.1, q.2⟩ : OpA)]).same; gown_one (gown_e k).1) (fun he => by
     obtain ⟨S1, S2, h1, h2, h3⟩ := M.two (.gown opC 11 34 q0.oa q0.n q0.oc q0.zs) (.gown opC 11 34 (some ⟨bz, 0, none⟩) 1 1 [(⟨z.o, q.1, q.2⟩ : OpA)])
     exact h1 bz ((gown_e h2).2 _ he) ((gown_e h3).2 _ rfl))) fun oa oc => ?_
    rw[hzl];refine J.sw rfl ?_;refine run ?_;refine J.ncP rfl hpb rfl ?_;refine J.flP rfl hpb rfl ?_;refine run ?_;refine J.stGf (f:=fun g:GrA=>grC g) (o:=0) (q0:=q0) (q:=⟨ia,q0.oa,q0.m+1,q0.n,ic,q0.oc,S.insW q0.ids sp (S.sha (S.encS z.o)),q0.zs⟩) rfl rfl hgr rfl ?_;refine run ?_;refine J.ncP rfl hpb rfl ?_;refine J.flP rfl hpb rfl ?_;refine run ?_;refine J.stGf (f:=fun g:GrA=>grC g) (o:=1) (q0:=⟨ia,q0.oa,q0.m+1,q0.n,ic,q0.oc,S.insW q0.ids sp (S.sha (S.encS z.o)),q0.zs⟩) (q:=⟨ia,oa,q0.m+1,q0.n+1,ic,oc,S.insW q0.ids sp (S.sha (S.encS z.o)),(q0.zs.take sp++(⟨z.o,q.1,q.2⟩:OpA)::q0.zs.drop sp)⟩) rfl rfl (hsg1 ia ic) rfl ?_;rw[List.set_set,Int.toNat_natCast rr];refine run ?_;refine J.re (.gown idC 32 23 ia (q0.m+1) ic (ids.take sp++(⟨S.sha (S.encS z.o),hA.1⟩:IdV)::ids.drop sp)) (.wown 23 .u8 32 ia (q0.m+1) ic (S.insW q0.ids sp (S.sha (S.encS z.o)))) (fun _ _ h=>hcv▸gown_wown (hcv.symm▸hbd) h) ?_;refine J.front (.blk b6 [.slice pa s.pn pc, .slice none 0 0, .int .i64 (s.ver+1)] 72) ?_;refine J.front (.all ((gs.map grAll).eraseIdx rr)) ?_;refine J.front (.gown (fun g:GrA=>grC g) 2 65 pa s.pn pc (gs.set rr ⟨ia,oa,q0.m+1,q0.n+1,ic,oc,S.insW q0.ids sp (S.sha (S.encS z.o)),(q0.zs.take sp++(⟨z.o,q.1,q.2⟩:OpA)::q0.zs.drop sp)⟩)) ?_;refine J.front (.wown 23 .u8 32 ia (q0.m+1) ic (S.insW q0.ids sp (S.sha (S.encS z.o)))) ?_;refine J.front (.all (q0.zs.map (opE 23))) ?_;refine J.front (.gown opC 11 34 oa (q0.n+1) oc (q0.zs.take sp++(⟨z.o,q.1,q.2⟩:OpA)::q0.zs.drop sp)) ?_;exact J.cut ((ia,ic),(oa,oc)) trivial (by kernel_rfl) trivial
   refine J.gbr ?_ ?_
   ·refine J.b1G opC ⟨z.o,q.1,q.2⟩ opC_len rfl rfl rfl fun bz=>?_
    refine J.nil ?_;refine J.gfin [(9, .e),(17, .e),(18, .c),(19, .c),(20, .g),(21, .c),(22, .c),(23, .g)] (by kernel_rfl) ?_;refine run ?_;refine J.re (.wown 23 .u8 32 q0.ia q0.m q0.ic q0.ids) (.gown idC 32 23 q0.ia q0.m q0.ic ids) (fun _ _ h=>wown_gown hl2 hl1 h) ?_
    refine J.callG rfl (fun w' M hO' => insId0 q0.ia q0.m q0.ic ids sp ⟨S.sha (S.encS z.o), hA.1⟩ bx w' hO' (by omega) (by omega) (let ⟨_, _, k⟩ := M.get (GO.h (a := some ⟨bx, 0, none⟩) (some ⟨bx, 0, none⟩) 1 1 [(⟨S.sha (S.encS z.o), hA.1⟩ : IdV)]).same; gown_one (gown_e k).1) (fun he => by
     obtain ⟨S1, S2, h1, h2, h3⟩ := M.two (.gown idC 32 23 q0.ia q0.m q0.ic ids) (.gown idC 32 23 (some ⟨bx, 0, none⟩) 1 1 [(⟨S.sha (S.encS z.o), hA.1⟩ : IdV)])
     exact h1 bx ((gown_e h2).2 _ he) ((gown_e h3).2 _ rfl))) fun ia ic => ?_
    rw[hil];refine run ?_
    refine J.callG rfl (fun w' M hO' => insOp0 q0.oa q0.n q0.oc q0.zs sp ⟨z.o, q.1, q.2⟩ bz w' hO' (by omega) (by omega) (let ⟨_, _, k⟩ := M.get (GO.h (a := some ⟨bz, 0, none⟩) (some ⟨bz, 0, none⟩) 1 1 [(⟨z.o, q.1, q.2⟩ : OpA)]).same; gown_one (gown_e k).1) (fun he => by
     obtain ⟨S1, S2, h1, h2, h3⟩ := M.two (.gown opC 11 34 q0.oa q0.n q0.oc q0.zs) (.gown opC 11 34 (some ⟨bz, 0, none⟩) 1 1 [(⟨z.o, q.1, q.2⟩ : OpA)])
     exact h1 bz ((gown_e h2).2 _ he) ((gown_e h3).2 _ rfl))) fun oa oc => ?_
    rw[hzl];refine J.sw rfl ?_;refine run ?_;refine J.ncP rfl hpb rfl ?_;refine J.flP rfl hpb rfl ?_;refine run ?_;refine J.stGf (f:=fun g:GrA=>grC g) (o:=0) (q0:=q0) (q:=⟨ia,q0.oa,q0.m+1,q0.n,ic,q0.oc,S.insW q0.ids sp (S.sha (S.encS z.o)),q0.zs⟩) rfl rfl hgr rfl ?_;refine run ?_;refine J.ncP rfl hpb rfl ?_;refine J.flP rfl hpb rfl ?_;refine run ?_;refine J.stGf (f:=fun g:GrA=>grC g) (o:=1) (q0:=⟨ia,q0.oa,q0.m+1,q0.n,ic,q0.oc,S.insW q0.ids sp (S.sha (S.encS z.o)),q0.zs⟩) (q:=⟨ia,oa,q0.m+1,q0.n+1,ic,oc,S.insW q0.ids sp (S.sha (S.encS z.o)),(q0.zs.take sp++(⟨z.o,q.1,q.2⟩:OpA)::q0.zs.drop sp)⟩) rfl rfl (hsg1 ia ic) rfl ?_;rw[List.set_set,Int.toNat_natCast rr];refine run ?_;refine J.re (.gown idC 32 23 ia (q0.m+1) ic (ids.take sp++(⟨S.sha (S.encS z.o),hA.1⟩:IdV)::ids.drop sp)) (.wown 23 .u8 32 ia (q0.m+1) ic (S.insW q0.ids sp (S.sha (S.encS z.o)))) (fun _ _ h=>hcv▸gown_wown (hcv.symm▸hbd) h) ?_;refine J.front (.blk b6 [.slice pa s.pn pc, .slice none 0 0, .int .i64 (s.ver+1)] 72) ?_;refine J.front (.all ((gs.map grAll).eraseIdx rr)) ?_;refine J.front (.gown (fun g:GrA=>grC g) 2 65 pa s.pn pc (gs.set rr ⟨ia,oa,q0.m+1,q0.n+1,ic,oc,S.insW q0.ids sp (S.sha (S.encS z.o)),(q0.zs.take sp++(⟨z.o,q.1,q.2⟩:OpA)::q0.zs.drop sp)⟩)) ?_;refine J.front (.wown 23 .u8 32 ia (q0.m+1) ic (S.insW q0.ids sp (S.sha (S.encS z.o)))) ?_;refine J.front (.all (q0.zs.map (opE 23))) ?_;refine J.front (.gown opC 11 34 oa (q0.n+1) oc (q0.zs.take sp++(⟨z.o,q.1,q.2⟩:OpA)::q0.zs.drop sp)) ?_;exact J.cut ((ia,ic),(oa,oc)) trivial (by kernel_rfl) trivial
   exact J.gbr0
  refine J.gbr ?_ ?_
  ·refine J.b1G opC ⟨z.o,q.1,q.2⟩ opC_len rfl rfl rfl fun bz=>?_
   refine J.nil ?_;refine J.gfin [(8, .e),(9, .e),(17, .e),(18, .c),(19, .c),(20, .g),(21, .c),(22, .c),(23, .g)] (by kernel_rfl) ?_;refine run ?_;refine J.b1G idC ⟨S.sha (S.encS z.o),hA.1⟩ idC_len rfl rfl rfl fun bx=>?_
   refine run ?_;refine J.re (.wown 23 .u8 32 q0.ia q0.m q0.ic q0.ids) (.gown idC 32 23 q0.ia q0.m q0.ic ids) (fun _ _ h=>wown_gown hl2 hl1 h) ?_
   refine J.callG rfl (fun w' M hO' => insId0 q0.ia q0.m q0.ic ids sp ⟨S.sha (S.encS z.o), hA.1⟩ bx w' hO' (by omega) (by omega) (let ⟨_, _, k⟩ := M.get (GO.h (a := some ⟨bx, 0, none⟩) (some ⟨bx, 0, none⟩) 1 1 [(⟨S.sha (S.encS z.o), hA.1⟩ : IdV)]).same; gown_one (gown_e k).1) (fun he => by
    obtain ⟨S1, S2, h1, h2, h3⟩ := M.two (.gown idC 32 23 q0.ia q0.m q0.ic ids) (.gown idC 32 23 (some ⟨bx, 0, none⟩) 1 1 [(⟨S.sha (S.encS z.o), hA.1⟩ : IdV)])
    exact h1 bx ((gown_e h2).2 _ he) ((gown_e h3).2 _ rfl))) fun ia ic => ?_
   rw[hil];refine run ?_
   refine J.callG rfl (fun w' M hO' => insOp0 q0.oa q0.n q0.oc q0.zs sp ⟨z.o, q.1, q.2⟩ bz w' hO' (by omega) (by omega) (let ⟨_, _, k⟩ := M.get (GO.h (a := some ⟨bz, 0, none⟩) (some ⟨bz, 0, none⟩) 1 1 [(⟨z.o, q.1, q.2⟩ : OpA)]).same; gown_one (gown_e k).1) (fun he => by
    obtain ⟨S1, S2, h1, h2, h3⟩ := M.two (.gown opC 11 34 q0.oa q0.n q0.oc q0.zs) (.gown opC 11 34 (some ⟨bz, 0, none⟩) 1 1 [(⟨z.o, q.1, q.2⟩ : OpA)])
    exact h1 bz ((gown_e h2).2 _ he) ((gown_e h3).2 _ rfl))) fun oa oc => ?_
   rw[hzl];refine J.sw rfl ?_;refine run ?_;refine J.ncP rfl hpb rfl ?_;refine J.flP rfl hpb rfl ?_;refine run ?_;refine J.stGf (f:=fun g:GrA=>grC g) (o:=0) (q0:=q0) (q:=⟨ia,q0.oa,q0.m+1,q0.n,ic,q0.oc,S.insW q0.ids sp (S.sha (S.encS z.o)),q0.zs⟩) rfl rfl hgr rfl ?_;refine run ?_;refine J.ncP rfl hpb rfl ?_;refine J.flP rfl hpb rfl ?_;refine run ?_;refine J.stGf (f:=fun g:GrA=>grC g) (o:=1) (q0:=⟨ia,q0.oa,q0.m+1,q0.n,ic,q0.oc,S.insW q0.ids sp (S.sha (S.encS z.o)),q0.zs⟩) (q:=⟨ia,oa,q0.m+1,q0.n+1,ic,oc,S.insW q0.ids sp (S.sha (S.encS z.o)),(q0.zs.take sp++(⟨z.o,q.1,q.2⟩:OpA)::q0.zs.drop sp)⟩) rfl rfl (hsg1 ia ic) rfl ?_;rw[List.set_set,Int.toNat_natCast rr];refine run ?_;refine J.re (.gown idC 32 23 ia (q0.m+1) ic (ids.take sp++(⟨S.sha (S.encS z.o),hA.1⟩:IdV)::ids.drop sp)) (.wown 23 .u8 32 ia (q0.m+1) ic (S.insW q0.ids sp (S.sha (S.encS z.o)))) (fun _ _ h=>hcv▸gown_wown (hcv.symm▸hbd) h) ?_;refine J.front (.blk b6 [.slice pa s.pn pc, .slice none 0 0, .int .i64 (s.ver+1)] 72) ?_;refine J.front (.all ((gs.map grAll).eraseIdx rr)) ?_;refine J.front (.gown (fun g:GrA=>grC g) 2 65 pa s.pn pc (gs.set rr ⟨ia,oa,q0.m+1,q0.n+1,ic,oc,S.insW q0.ids sp (S.sha (S.encS z.o)),(q0.zs.take sp++(⟨z.o,q.1,q.2⟩:OpA)::q0.zs.drop sp)⟩)) ?_;refine J.front (.wown 23 .u8 32 ia (q0.m+1) ic (S.insW q0.ids sp (S.sha (S.encS z.o)))) ?_;refine J.front (.all (q0.zs.map (opE 23))) ?_;refine J.front (.gown opC 11 34 oa (q0.n+1) oc (q0.zs.take sp++(⟨z.o,q.1,q.2⟩:OpA)::q0.zs.drop sp)) ?_;exact J.cut ((ia,ic),(oa,oc)) trivial (by kernel_rfl) trivial
  exact J.gbr0
 obtain⟨⟨ia,ic⟩,oa,oc⟩:=u;dsimp only;have hHH:=H.hr;obtain⟨hl0,hh1,hh2⟩:=chunks s.hn s.hs hhl;have hAh:∀y∈hl0,Arr .u8 32 y.xs:=fun y hy=>⟨y.h,fun v hv=>hHH.bd v (by rw[←hh2];unfold flatI;exact List.mem_flatMap.2 ⟨y,hy,hv⟩)⟩
 obtain⟨hf1,hf2⟩:=kp_filter z.o hh2 s.hn (by omega);rw[List.take_of_length_le (by omega)]at hf1 hf2;have hf1:flatI (hl0.filter (kpB z.o))=S.kpI z.o s.hn s.hs:=hf1.symm;have hf2:(hl0.filter (kpB z.o)).length=S.kpN z.o s.hn s.hs:=hf2.symm;have hfb:Bd .u8 (flatI (hl0.filter (kpB z.o))):=fun v hv=>by
  unfold flatI at hv;obtain⟨y,hy,hyv⟩:=List.mem_flatMap.1 hv;exact(hAh y (List.mem_filter.1 hy).1).2 v hyv
 have hkb:Bd .u8 (S.kpI z.o s.hn s.hs):=hf1▸hfb;obtain⟨kn,hkn0⟩:=ex (S.kpN z.o s.hn s.hs);obtain⟨kI,hkI0⟩:=ex (S.kpI z.o s.hn s.hs);rw[←hkn0,←hkI0]at ke1 ke2;rw[←hkn0]at hkn' hf2⊢;rw[←hkI0]at hf1 hkb⊢;obtain⟨kl,hk1,hk2⟩:=chunks kn kI ke1;refine run ?_;refine J.call rfl rfl (fun w' M=>cloneW _ _ _ _ w' (hHH.ext M.ext) hcp.2.1 (by omega)) fun qh hqh=>?_
 refine run ?_;refine J.fn rfl rfl rfl ?_;refine J.re (.wown 23 .u8 32 qh.1 s.hn qh.2 s.hs) (.gown idC 32 23 qh.1 s.hn qh.2 hl0) (fun _ _ h=>wown_gown hh2 hh1 h) ?_
 refine J.callG rfl (fun w' M hO' => by
  obtain ⟨S1, S2, h1, h2, h3⟩ := M.two (.gown idC 32 23 qh.1 s.hn qh.2 hl0) (.wown 23 .u8 32 q.1 z.o.n q.2 z.o.ids)
  obtain ⟨S3, S4, g1, g2, g3⟩ := M.two (.gown idC 32 23 qh.1 s.hn qh.2 hl0) (.blk b2 (opC ⟨z.o, q.1, q.2⟩) 34)
  exact delPut2 (S1 := S2) qh.1 s.hn qh.2 hl0 ⟨z.o, q.1, q.2⟩ b2 _ w' hO' (by omega) hAh (blk_e g3).2 (fun he => g1 b2 ((gown_e g2).2 _ he) (blk_e g3).1) (wown_row h3) (fun x hx he => h1 x ((gown_e h2).2 _ he) hx) (by show z.o.n ≤ 1000; omega)) fun ha' hc' => ?_
 rw[show(hl0.filter (kpB (OpA.o ⟨z.o,q.1,q.2⟩))).length=kn from hf2];refine run ?_;refine J.re (.gown idC 32 23 ha' kn hc' (hl0.filter (kpB (OpA.o ⟨z.o,q.1,q.2⟩)))) (.wown 23 .u8 32 ha' kn hc' kI) (fun _ _ h=>hf1▸gown_wown hfb h) ?_;refine run ?_;refine J.callp rfl rfl (fun w' M=>(RW.own' (a:=ha') w' M).elim fun _ k0=>bsID _ _ _ _ _ w' k0 hA ke2 (by omega)) ?_;obtain⟨sq,hsq⟩:=ex (S.spotS kn kI (S.sha (S.encS z.o)));rw[←hsq];have hsql:sq≤kn:=by rw[hsq];exact S.spotC_le _ _
 have hkil:(kl.take sq++(⟨S.sha (S.encS z.o),hA.1⟩:IdV)::kl.drop sq).length=kn+1:=by simp;omega
 have hkcv:flatI (kl.take sq++(⟨S.sha (S.encS z.o),hA.1⟩:IdV)::kl.drop sq)=S.insW kI sq (S.sha (S.encS z.o)):=by rw[flatI_ins,hk2]
 have hkbd:Bd .u8 (S.insW kI sq (S.sha (S.encS z.o))):=ins_bd hkb hA.2;refine run ?_;refine J.b1G idC ⟨S.sha (S.encS z.o),hA.1⟩ idC_len rfl rfl rfl fun bx=>?_
 refine J.re (.wown 23 .u8 32 ha' kn hc' kI) (.gown idC 32 23 ha' kn hc' kl) (fun _ _ h=>wown_gown hk2 hk1 h) ?_
 refine J.callG rfl (fun w' M hO' => insId0 ha' kn hc' kl sq ⟨S.sha (S.encS z.o), hA.1⟩ bx w' hO' hsql (by omega) (let ⟨_, _, k⟩ := M.get (GO.h (a := some ⟨bx, 0, none⟩) (some ⟨bx, 0, none⟩) 1 1 [(⟨S.sha (S.encS z.o), hA.1⟩ : IdV)]).same; gown_one (gown_e k).1) (fun he => by
  obtain ⟨S1, S2, h1, h2, h3⟩ := M.two (.gown idC 32 23 ha' kn hc' kl) (.gown idC 32 23 (some ⟨bx, 0, none⟩) 1 1 [(⟨S.sha (S.encS z.o), hA.1⟩ : IdV)])
  exact h1 bx ((gown_e h2).2 _ he) ((gown_e h3).2 _ rfl))) fun h2a h2c => ?_
 rw[hkil];refine run ?_;refine J.re (.gown idC 32 23 h2a (kn+1) h2c (kl.take sq++(⟨S.sha (S.encS z.o),hA.1⟩:IdV)::kl.drop sq)) (.wown 23 .u8 32 h2a (kn+1) h2c (S.insW kI sq (S.sha (S.encS z.o)))) (fun _ _ h=>hkcv▸gown_wown (hkcv.symm▸hkbd) h) ?_;refine run ?_;refine J.regionR [.blk b6 [.slice pa s.pn pc, .slice h2a (kn+1) h2c, .int .i64 (s.ver+1)] 72, .blk b5 (ints .u8 (S.sha (S.encS z.o))) 23] [(0, .q),(1, .q),(2, .e),(3, .e),(4, .q)] mixed (by kernel_rfl) (by repeat(first|exact List.Sublist.refl _|refine List.Sublist.cons_cons _ ?_|refine List.Sublist.cons _ ?_)) ?_;refine run ?_;have hzlen:q0.zs.length=g.m:=by omega
 refine J.re (.all (q0.zs.map (opE 23))) (.all (((q0.zs.take sp++(⟨z.o,q.1,q.2⟩:OpA)::q0.zs.drop sp).map (opE 23)).eraseIdx sp)) (fun _ _ h=>by rw[erase_mid _ _ _ (by omega)];exact h) ?_;refine J.re (.wown 23 .u8 32 q.1 z.o.n q.2 z.o.ids) (opE 23 ⟨z.o,q.1,q.2⟩) (fun _ _ h=>h) ?_;refine J.shutA ((q0.zs.take sp++(⟨z.o,q.1,q.2⟩:OpA)::q0.zs.drop sp).map (opE 23)) sp (opE 23 ⟨z.o,q.1,q.2⟩) (by rw[List.length_map];omega) ?_;refine J.re (.all (((q0.zs.take sp++(⟨z.o,q.1,q.2⟩:OpA)::q0.zs.drop sp).map (opE 23)).set sp (opE 23 ⟨z.o,q.1,q.2⟩))) (.all ((q0.zs.take sp++(⟨z.o,q.1,q.2⟩:OpA)::q0.zs.drop sp).map (opE 23))) (fun _ _ h=>by rw[set_midE _ _ _ (by omega)]at h;exact h) ?_;refine J.triG (⟨ia,oa,q0.m+1,q0.n+1,ic,oc,S.insW q0.ids sp (S.sha (S.encS z.o)),q0.zs.take sp++(⟨z.o,q.1,q.2⟩:OpA)::q0.zs.drop sp⟩:GrA) ?_;refine J.shutA (gs.map grAll) rr (grAll (⟨ia,oa,q0.m+1,q0.n+1,ic,oc,S.insW q0.ids sp (S.sha (S.encS z.o)),q0.zs.take sp++(⟨z.o,q.1,q.2⟩:OpA)::q0.zs.drop sp⟩:GrA)) (by rw[List.length_map];omega) ?_;rw[←List.map_set];refine J.front (.wown 23 .u8 32 h2a (kn+1) h2c (S.insW kI sq (S.sha (S.encS z.o)))) ?_;refine J.front (.all ((gs.set rr (⟨ia,oa,q0.m+1,q0.n+1,ic,oc,S.insW q0.ids sp (S.sha (S.encS z.o)),q0.zs.take sp++(⟨z.o,q.1,q.2⟩:OpA)::q0.zs.drop sp⟩:GrA)).map grAll)) ?_;refine J.front (.gown (fun g:GrA=>grC g) 2 65 pa s.pn pc (gs.set rr (⟨ia,oa,q0.m+1,q0.n+1,ic,oc,S.insW q0.ids sp (S.sha (S.encS z.o)),q0.zs.take sp++(⟨z.o,q.1,q.2⟩:OpA)::q0.zs.drop sp⟩:GrA))) ?_;refine J.finG ⟨pa,s.pn,pc,gs.set rr (⟨ia,oa,q0.m+1,q0.n+1,ic,oc,S.insW q0.ids sp (S.sha (S.encS z.o)),q0.zs.take sp++(⟨z.o,q.1,q.2⟩:OpA)::q0.zs.drop sp⟩:GrA),h2a,kn+1,h2c,S.insW kI sq (S.sha (S.encS z.o)),s.ver+1⟩ rfl ⟨?_,?_⟩ sb
 ·unfold ShA.V;dsimp only;rw[hgP,hsq];refine shEq (set_map hps ?_) rfl rfl rfl;unfold GrA.P S.putP GrA.ops;dsimp only;rw[insO_map,hq0m,hq0i,hsp];have e:=hq0o;unfold GrA.ops at e;rw[e]
 intro u hu;rcases List.mem_or_eq_of_mem_set hu with h|rfl
 ·exact hpk u h
 refine⟨fun y hy=>?_,fun y hy=>?_⟩
 ·rcases List.mem_append.1 hy with k|k
  ·exact hq0k.ok y (List.mem_of_mem_take k)
  rcases List.mem_cons.1 k with rfl|k
  ·exact R.ok
  exact hq0k.ok y (List.mem_of_mem_drop k)
 rcases List.mem_append.1 hy with k|k
 ·exact hq0k.cap y (List.mem_of_mem_take k)
 rcases List.mem_cons.1 k with rfl|k
 ·exact hq
 exact hq0k.cap y (List.mem_of_mem_drop k)
end W
namespace S
open G
/-! ### the index that a graph makes -/
theorem ok_made{g:PG}{n:Nat}(hg:g.fine)(hn:1≤n∧n≤4):okR (madeS g n)∧whole (madeS g n).ps=g:=by
 have hgp:=made_good (n:=n) hg.good hg.rising;have e:whole (madeS g n).ps=g:=(whole_mrg hgp).eq (made_mrg hg.good hg.rising (by omega));refine⟨(ok_iff fun p hp=>(hgp.mem hp).1.1).2 ⟨by rw[made_len];exact hn,hgp,?_,?_,?_⟩,e⟩
 ·rw[e];exact(chkP_fine hg.good.1).2 hg
 ·rw[e];rfl
 ·rw[e];rfl
theorem sm_one{P:Nat→Prop}[DecidablePred P]:∀ {n:Nat},(∀i,i<n→∀j,j<n→P i→P j→i=j)→sm (fun i=>if P i then 1 else 0) n≤1
 |0,_=>Nat.zero_le _
 |n+1,h=>by
  have ih:=sm_one (n:=n) fun i hi j hj=>h i (by omega) j (by omega);rw[sm];by_cases hp:P n
  ·have e:sm (fun i=>if P i then 1 else 0) n=0:=by
    rw[sm_congr (g:=fun _=>0) fun i hi=>if_neg fun hi'=>absurd (h i (by omega) n (by omega) hi' hp) (by omega),sm_zero]
   rw[e,if_pos hp];exact Nat.le_refl _
  ·rw[if_neg hp];exact ih
theorem numF_sm(f:Nat→Bool):∀n,numF f n=sm (fun i=>if f i=true then 1 else 0) n
 |0=>rfl
 |n+1=>by rw[numF,sm,numF_sm f n]
theorem sm_ones:∀n,sm (fun _=>1) n=n
 |0=>rfl
 |n+1=>by rw[sm,sm_ones n]
theorem allN_made{g:PG}{n:Nat}(hg:g.fine):allN (madeS g n).ps≤g.m:=by
 have e:allN (madeS g n).ps=sm (fun i=>sm (fun k=>if modF g n i k=true then 1 else 0) g.m) n:=by
  have h:=sm_all (madeS g n).ps _ (Nat.le_refl _);rw[List.take_length,made_len]at h;rw[←h];refine sm_congr fun i hi=>?_
  rw[made_at hi,prt_sel hg.good hg.rising,←numF_sm];rfl
 rw[e,sm_swap];refine Nat.le_trans (sm_le (g:=fun _=>1) fun k _=>sm_one (P:=fun i=>modF g n i k=true) fun i hi j hj h1 h2=>?_) (by rw[sm_ones];exact Nat.le_refl _);have h1:=of_decide_eq_true h1;have h2:=of_decide_eq_true h2;omega
/-! ### what Put makes of an index that a graph makes -/
/-! ### examples -/
def hxA:OpV:=⟨0,0,1,0,0,0,0,0,0,[], .empty, .empty⟩
theorem hx_okA:hxA.ok:=⟨by decide,by decide,by decide,by decide,by decide,by decide,by decide,by decide,by decide,by decide,by decide⟩
theorem hx_chk:chkP PG.nil=0:=(chkP_fine rfl).2 nil_fine
end S
namespace W
open Go.RowKit G
set_option maxRecDepth 20000
set_option maxHeartbeats 8000000
attribute [local irreducible] RS RX RY Code.wp bodyPost J Ent.blk Ent.iown Ent.wrow Ent.wown Ent.gown Ent.all Ent.emp
theorem signH(x:Int)(hx:0≤x∧x<4294967296){S0:Nat→Prop}(z:OpA)(TK:TypeId)(w:World)(K0:Kst w TK)(R:OpR S0 w z):
  Calls prog 40 #[.int .u32 x, .agg (opC z).toArray] w (Gv w (fun q:OpA×Int=> .tuple #[.agg (opC q.1).toArray, .int .i64 q.2]) (fun q=>[.wrow .u8 32 q.1.pa q.1.o.n q.1.o.ids]) fun q=>q.1.o.n≤q.1.pc∧q.1.o=S.signS x z.o∧q.2=S.signE x z.o):=
 Gv.of (signO x hx z.o R.ok _ _ TK w K0 R.row R.cap) fun v w' _ ⟨a',c',hv,hc,W⟩=>⟨(⟨S.signS x z.o,a',c'⟩,S.signE x z.o),hv,⟨hc,rfl,rfl⟩,sep1 (show(Ent.wrow .u8 32 a' (S.signS x z.o).n (S.signS x z.o).ids).ok _ _ by unfold Ent.wrow;exact W)⟩
def shW(s:ShA):Ent:= .all (shE s)
theorem ShR.ownB{S0:Nat→Prop}{w0:World}{L:List Ent}{s:ShA}{F:Ent→List Ent}[R:RE L (shW s) F](hk:∀g∈s.gs,GrK g)(hm:∀g∈s.gs,g.m≤70∧g.ops.length≤70)(hz:s.gs.length≤6∧s.hn≤100)(w:World)(M:Mem S0 w0 L w):ShR (fun _=>True) w s:=by
 obtain⟨S',_,h⟩:=M.get (R.h (shW s)).same;obtain⟨A,T,_,_,_,a,B,T2,_,_,_,c,C,T3,_,_,_,b,_⟩:=all_e h;have a:=(gown_e a).1;have b':=wown_row b;have hb:=(wown_len b).2;refine⟨a.row.weaken fun _ _ _=>trivial,fun g hg=>?_,b'.weaken fun _ _ _=>trivial,a.capn,hb,?_,hz.2⟩
 ·obtain⟨S',_,k⟩:=sep_mem (List.mem_map.2 ⟨g,hg,rfl⟩) (all_e c);exact grAll_r k (hk g hg) (hm g hg)
 have:=a.len;omega
end W
namespace S
open G
structure StV where
 (cap:Int)(sh:ShV)(n:Nat)(os:List Int)
def StV.zero:StV:=⟨0,ShV.zero,0,[]⟩
def PG.opOf(g:PG)(x:List Int):OpV:=g.ops.getD (ixS g.m g.ids x) OpV.zero
def plcS(g:PG)(os:List Int)(i:Nat):Prop:=inS g.m g.ids (idAt os i)∧¬inS i os (idAt os i)∧allI i os (g.opOf (idAt os i)).n (g.opOf (idAt os i)).ids
instance(g:PG)(os:List Int)(i:Nat):Decidable (plcS g os i):=by unfold plcS;infer_instance
def okT(v:StV):Prop:=((1≤v.cap∧v.cap≤40)∧okR v.sh∧v.sh.ver≤v.cap∧(v.n:Int)=v.sh.ver)∧∀i,i<v.n→plcS (whole v.sh.ps) v.os i
open Classical in
noncomputable def chkT(v:StV):Int:=if okT v then 0 else 8
theorem chkT_0{v:StV}(h:okT v):chkT v=0:=if_pos h
theorem chkT_8{v:StV}(h:¬okT v):chkT v=8:=if_neg h
theorem chkT_iff{v:StV}:chkT v=0↔okT v:=⟨fun h=>Classical.byContradiction fun k=>by rw[chkT_8 k]at h;exact absurd h (by decide),chkT_0⟩
theorem chkT_ne{v:StV}(h:chkT v≠0):¬okT v∧chkT v=8:=⟨fun k=>h (chkT_0 k),chkT_8 fun k=>h (chkT_0 k)⟩
open Classical in
noncomputable def grT(v:StV):PG:=if okT v then whole v.sh.ps else PG.nil
theorem grT_0{v:StV}(h:okT v):grT v=whole v.sh.ps:=if_pos h
theorem grT_8{v:StV}(h:¬okT v):grT v=PG.nil:=if_neg h
def nwT(c n:Int):StV:=if(1≤c∧c≤40)∧1≤n∧n≤4 then⟨c,madeS PG.nil n.toNat,0,[]⟩else StV.zero
def nwTE(c n:Int):Int:=if(1≤c∧c≤40)∧1≤n∧n≤4 then 0 else 2
theorem nwT_0{c n:Int}(h:(1≤c∧c≤40)∧1≤n∧n≤4):nwT c n=⟨c,madeS PG.nil n.toNat,0,[]⟩∧nwTE c n=0:=⟨if_pos h,if_pos h⟩
theorem nwT_2{c n:Int}(h:¬((1≤c∧c≤40)∧1≤n∧n≤4)):nwT c n=StV.zero∧nwTE c n=2:=⟨if_neg h,if_neg h⟩
open Classical in
noncomputable def sinE(v:StV)(k:Int):Int:=if ¬okT v then 8 else if 0≤k∧k≤v.n then 0 else 2
theorem sinE_8{v:StV}{k:Int}(h:¬okT v):sinE v k=8:=if_pos h
theorem sinE_2{v:StV}{k:Int}(h:okT v)(h2:¬(0≤k∧k≤v.n)):sinE v k=2:=by unfold sinE;rw[if_neg (not_not_intro h),if_neg h2]
theorem sinE_0{v:StV}{k:Int}(h:okT v)(h2:0≤k∧k≤v.n):sinE v k=0:=by unfold sinE;rw[if_neg (not_not_intro h),if_pos h2]
noncomputable def sinN(v:StV)(k:Int):Nat:=if sinE v k=0 then v.n - k.toNat else 0
noncomputable def sinL(v:StV)(k:Int):List Int:=if sinE v k=0 then v.os.drop (32*k.toNat)else []
theorem sin_yes{v:StV}{k:Int}(h:sinE v k=0):sinN v k=v.n - k.toNat∧sinL v k=v.os.drop (32*k.toNat):=⟨if_pos h,if_pos h⟩
theorem sin_no{v:StV}{k:Int}(h:sinE v k≠0):sinN v k=0∧sinL v k=[]:=⟨if_neg h,if_neg h⟩
noncomputable def askE(v:StV)(o:OpV):Int:=if chkT v=0 then verE o else 8
theorem askE_8{v:StV}{o:OpV}(h:¬okT v):askE v o=8:=if_neg fun k=>h (chkT_iff.1 k)
theorem askE_v{v:StV}{o:OpV}(h:okT v):askE v o=verE o:=if_pos (chkT_0 h)
theorem askE_0{v:StV}{o:OpV}(h:askE v o=0):okT v∧verE o=0:=by
 by_cases k:okT v
 ·exact⟨k,by rw[←askE_v (o:=o) k];exact h⟩
 ·rw[askE_8 k]at h;exact absurd h (by decide)
def absF(m:Nat)(ids ps:List Int)(j:Nat):Bool:=decide (¬inS m ids (idAt ps j))
theorem numF_zero{f:Nat→Bool}:∀ {n:Nat},numF f n=0↔∀i,i<n→f i=false
 |0=>⟨fun _ i hi=>absurd hi (Nat.not_lt_zero _),fun _=>rfl⟩
 |n+1=>by
  rw[numF];cases h:f n with
  |true=>exact⟨fun k=>absurd k (by simp),fun k=>by rw[k n (by omega)]at h;cases h⟩
  |false=>
   refine⟨fun k i hi=>?_,fun k=>by simpa using numF_zero.2 fun i hi=>k i (by omega)⟩;rcases Nat.lt_or_ge i n with c|c
   ·exact numF_zero.1 (by simpa using k) i c
   ·obtain rfl:i=n:=by omega
    exact h
theorem abs_none{m:Nat}{ids ps:List Int}{n:Nat}:numF (absF m ids ps) n=0↔allI m ids n ps:=by
 rw[numF_zero];exact⟨fun h j hj=>Classical.not_not.1 fun k=>by have:=h j hj;unfold absF at this;exact of_decide_eq_false this k,fun h j hj=>by unfold absF;exact decide_eq_false (not_not_intro (h j hj))⟩
def judT(v:StV)(o:OpV):Int:=if inS v.n v.os (idOf o)then 5 else if ¬allI v.n v.os o.n o.ids then 6 else if(v.n:Int)=v.cap then 8 else 1
theorem jud_5{v:StV}{o:OpV}(h:inS v.n v.os (idOf o)):judT v o=5:=if_pos h
theorem jud_6{v:StV}{o:OpV}(h:¬inS v.n v.os (idOf o))(h2:¬allI v.n v.os o.n o.ids):judT v o=6:=by unfold judT;rw[if_neg h,if_pos h2]
theorem jud_8{v:StV}{o:OpV}(h:¬inS v.n v.os (idOf o))(h2:allI v.n v.os o.n o.ids)(h3:(v.n:Int)=v.cap):judT v o=8:=by unfold judT;rw[if_neg h,if_neg (not_not_intro h2),if_pos h3]
theorem jud_1{v:StV}{o:OpV}(h:¬inS v.n v.os (idOf o))(h2:allI v.n v.os o.n o.ids)(h3:(v.n:Int)≠v.cap):judT v o=1:=by unfold judT;rw[if_neg h,if_neg (not_not_intro h2),if_neg h3]
theorem jud_is{v:StV}{o:OpV}(h:judT v o=1):¬inS v.n v.os (idOf o)∧allI v.n v.os o.n o.ids∧(v.n:Int)≠v.cap:=by
 unfold judT at h;split at h
 ·exact absurd h (by decide)
 ·split at h
  ·exact absurd h (by decide)
  ·split at h
   ·exact absurd h (by decide)
   ·exact⟨by assumption,Classical.not_not.1 (by assumption),by assumption⟩
theorem jud_or(v:StV)(o:OpV):judT v o=5∨judT v o=6∨judT v o=8∨judT v o=1:=by
 unfold judT;split
 ·exact .inl rfl
 ·split
  ·exact .inr (.inl rfl)
  ·split
   ·exact .inr (.inr (.inl rfl))
   ·exact .inr (.inr (.inr rfl))
def comT(v:StV)(o:OpV):StV:=⟨v.cap,madeS (putP (whole v.sh.ps) (idOf o) o) v.sh.ps.length,v.n+1,v.os++idOf o⟩
def offT(v:StV)(o:OpV):StV:=if judT v o=1 then comT v o else v
theorem off_1{v:StV}{o:OpV}(h:judT v o=1):offT v o=comT v o:=if_pos h
theorem off_no{v:StV}{o:OpV}(h:judT v o≠1):offT v o=v:=if_neg h
def runT(v:StV)(l:List OpV):Nat→StV
 |0=>v
 |i+1=>offT (runT v l i) (l.getD i OpV.zero)
def runJ(v:StV)(l:List OpV):Nat→List Int
 |0=>[]
 |i+1=>runJ v l i++[judT (runT v l i) (l.getD i OpV.zero)]
theorem runJ_len(v:StV)(l:List OpV):∀i,(runJ v l i).length=i
 |0=>rfl
 |i+1=>by rw[runJ,List.length_append,runJ_len v l i];rfl
open Classical in
noncomputable def runE(v:StV)(l:List OpV):Int:=if ¬okT v then 8 else if 60<l.length then 4 else verL l
theorem runE_8{v:StV}{l:List OpV}(h:¬okT v):runE v l=8:=if_pos h
theorem runE_4{v:StV}{l:List OpV}(h:okT v)(h2:60<l.length):runE v l=4:=by unfold runE;rw[if_neg (not_not_intro h),if_pos h2]
theorem runE_v{v:StV}{l:List OpV}(h:okT v)(h2:¬60<l.length):runE v l=verL l:=by unfold runE;rw[if_neg (not_not_intro h),if_neg h2]
noncomputable def runS(v:StV)(l:List OpV):StV:=if runE v l=0 then runT v l l.length else StV.zero
noncomputable def runL(v:StV)(l:List OpV):List Int:=if runE v l=0 then runJ v l l.length else []
theorem run_yes{v:StV}{l:List OpV}(h:runE v l=0):runS v l=runT v l l.length∧runL v l=runJ v l l.length:=⟨if_pos h,if_pos h⟩
theorem run_no{v:StV}{l:List OpV}(h:runE v l≠0):runS v l=StV.zero∧runL v l=[]:=⟨if_neg h,if_neg h⟩
noncomputable def ofS(v:StV)(o:OpV):StV:=if askE v o=0 then offT v o else StV.zero
noncomputable def ofJ(v:StV)(o:OpV):Int:=if askE v o=0 then judT v o else 0
theorem of_yes{v:StV}{o:OpV}(h:askE v o=0):ofS v o=offT v o∧ofJ v o=judT v o:=⟨if_pos h,if_pos h⟩
theorem of_no{v:StV}{o:OpV}(h:askE v o≠0):ofS v o=StV.zero∧ofJ v o=0:=⟨if_neg h,if_neg h⟩
/-! ### what is valid stays valid -/
theorem allI_pre{os ps:List Int}{p n k:Nat}(hk:p≤k):allI p os n ps↔allI p (os.take (32*k)) n ps:=by
 have e:∀i,i<p→idAt (os.take (32*k)) i=idAt os i:=fun i hi=>by
  unfold idAt;rw[List.drop_take,List.take_take,Nat.min_eq_left (by omega)]
 exact⟨fun h j hj=>let ⟨i,hi,e1⟩:=h j hj;⟨i,hi,by rw[e i hi,e1]⟩,fun h j hj=>let ⟨i,hi,e1⟩:=h j hj;⟨i,hi,by rw[←e i hi,e1]⟩⟩
theorem inS_take{os x:List Int}{p k:Nat}(hk:p≤k):inS p os x↔inS p (os.take (32*k)) x:=by
 have e:∀i,i<p→idAt (os.take (32*k)) i=idAt os i:=fun i hi=>by
  unfold idAt;rw[List.drop_take,List.take_take,Nat.min_eq_left (by omega)]
 exact⟨fun⟨i,hi,e1⟩=>⟨i,hi,by rw[e i hi,e1]⟩,fun⟨i,hi,e1⟩=>⟨i,hi,by rw[←e i hi,e1]⟩⟩
theorem inS_app1{n:Nat}{os x y:List Int}(ho:os.length=32*n)(hx:x.length=32):inS (n+1) (os++x) y↔inS n os y∨y=x:=by
 rw[inS_app ho];have e:idAt x 0=x:=by unfold idAt;rw[Nat.mul_zero,List.drop_zero,List.take_of_length_le (by omega)]
 refine or_congr Iff.rfl ⟨fun⟨i,hi,h⟩=>?_,fun h=>⟨0,by omega,by rw[e,h]⟩⟩;obtain rfl:i=0:=by omega
 rw[←h,e]
theorem idAt_pre{n:Nat}{os x:List Int}(ho:os.length=32*n){i:Nat}(hi:i<n):idAt (os++x) i=idAt os i:=by rw[idAt_app ho,if_pos hi]
theorem idAt_new{n:Nat}{os x:List Int}(ho:os.length=32*n)(hx:x.length=32):idAt (os++x) n=x:=by
 rw[idAt_app ho,if_neg (Nat.lt_irrefl _),Nat.sub_self];unfold idAt;rw[Nat.mul_zero,List.drop_zero,List.take_of_length_le (by omega)]
theorem inS_pre{n:Nat}{os x y:List Int}(ho:os.length=32*n){i:Nat}(hi:i≤n):inS i (os++x) y↔inS i os y:=
 ⟨fun⟨j,hj,e⟩=>⟨j,hj,by rw[←e,idAt_pre ho (by omega)]⟩,fun⟨j,hj,e⟩=>⟨j,hj,by rw[←e,idAt_pre ho (by omega)]⟩⟩
theorem op_has{g:PG}{x:List Int}(h:inS g.m g.ids x):g.has x (g.opOf x):=⟨_,(ix_in h).1,(ix_in h).2,rfl⟩
structure StG(v:StV):Prop where
 ml:∀p∈v.sh.ps,p.ids.length=32*p.m
 os:v.os.length=32*v.n
structure StF(v:StV):Prop where
 fine:(whole v.sh.ps).fine
 m:(whole v.sh.ps).m=v.n
 cap:(1≤v.cap∧v.cap≤40)∧(v.n:Int)≤v.cap
 same:∀y,inS v.n v.os y↔inS (whole v.sh.ps).m (whole v.sh.ps).ids y
 ps:1≤v.sh.ps.length∧v.sh.ps.length≤4
 hs:v.sh.hs=hdI (whole v.sh.ps)
theorem ok_fineT{v:StV}(hg:StG v)(h:okT v):StF v:=by
 obtain⟨⟨h1,h2,h3,h4⟩,h5⟩:=h;obtain⟨p1,p2,p3,p4,p5⟩:=(ok_iff hg.ml).1 h2;have hw:=whole_good hg.ml;have hf:=(chkP_fine hw.1).1 p3;have hm:(whole v.sh.ps).m=v.n:=by omega
 refine⟨hf,hm,⟨h1,by omega⟩,fun y=>⟨fun⟨i,hi,e⟩=>e▸(h5 i hi).1,fun hy=>?_⟩,p1,p5⟩;have ho:OrdP (whole v.sh.ps) ((List.range v.n).map (idAt v.os)):=by
  refine⟨?_,fun x hx=>?_,by simp[hm],fun i hi o hh j hj=>?_⟩
  ·rw[List.nodup_iff_pairwise_ne,List.pairwise_map];refine List.Pairwise.imp_of_mem (R:=fun a b=>a<b) (fun {a b} ha hb hab e=>?_) List.pairwise_lt_range;exact(h5 b (List.mem_range.1 hb)).2.1 ⟨a,hab,e⟩
  ·obtain⟨i,hi,rfl⟩:=List.mem_map.1 hx;exact(h5 i (List.mem_range.1 hi)).1
  ·have hi':i<v.n:=by simpa using hi
   have e:((List.range v.n).map (idAt v.os)).getD i []=idAt v.os i:=by
    rw[getD_map_id (by simpa using hi'),List.getD_eq_getElem?_getD,List.getElem?_range hi'];rfl
   rw[e]at hh;have e2:o=(whole v.sh.ps).opOf (idAt v.os i):=has_fun hf.rising hh (op_has (h5 i hi').1);subst e2;obtain⟨k,hk,ek⟩:=(h5 i hi').2.2 j hj;rw[←ek,←List.map_take,List.take_range];exact List.mem_map.2 ⟨k,List.mem_range.2 (by omega),rfl⟩
 obtain⟨i,hi,e⟩:=List.mem_map.1 (ord_all ho hy);exact⟨i,List.mem_range.1 hi,e⟩
theorem com_add{v:StV}{o:OpV}(hg:StG v)(h:okT v)(hv:verE o=0)(hj:judT v o=1):addE (whole v.sh.ps) o=0∧addP (whole v.sh.ps) o=putP (whole v.sh.ps) (idOf o) o:=by
 have F:=ok_fineT hg h;obtain⟨j1,j2,j3⟩:=jud_is hj;have c:=F.cap;have a:addE (whole v.sh.ps) o=0:=addE_0 ((chkP_fine F.fine.good.1).2 F.fine) hv (fun k=>j1 ((F.same _).2 k)) (fun j hj=>(F.same _).1 (j2 j hj)) (by have:=F.m;omega);exact⟨a,(addP_yes a).1⟩
theorem com_ok{v:StV}{o:OpV}(hg:StG v)(h:okT v)(hv:verE o=0)(hj:judT v o=1):okT (comT v o)∧StG (comT v o)∧whole (comT v o).sh.ps=putP (whole v.sh.ps) (idOf o) o:=by
 have F:=ok_fineT hg h;obtain⟨a1,a2⟩:=com_add hg h hv hj;obtain⟨b1,b2,b3,b4,b5,b6⟩:=add_fine F.fine.good.1 a1;obtain⟨j1,j2,j3⟩:=jud_is hj;rw[a2]at b3 b4 b6;obtain⟨m1,m2⟩:=ok_made b3 F.ps;have hm:=F.m;have hcp:=F.cap;have hx:=idOf_len o;refine⟨⟨⟨F.cap.1,m1,?_,?_⟩,fun i hi=>?_⟩,⟨fun p hp=>((made_good b3.good b3.rising).mem hp).1.1,?_⟩,m2⟩
 ·show((putP (whole v.sh.ps) (idOf o) o).m:Int)≤v.cap;omega
 ·show((v.n+1:Nat):Int)=((putP (whole v.sh.ps) (idOf o) o).m:Nat);omega
 ·have e0:whole (comT v o).sh.ps=putP (whole v.sh.ps) (idOf o) o:=m2;rw[e0];show plcS _ (v.os++idOf o) i;have hi':i<v.n+1:=hi;rcases Nat.lt_or_ge i v.n with c|c
  ·obtain⟨q1,q2,q3⟩:=h.2 i c;have q1':inS (putP (whole v.sh.ps) (idOf o) o).m (putP (whole v.sh.ps) (idOf o) o).ids (idAt v.os i):=has_in.2 ⟨_,(b6 _ _).2 (.inl (op_has q1))⟩;have e:(putP (whole v.sh.ps) (idOf o) o).opOf (idAt v.os i)=(whole v.sh.ps).opOf (idAt v.os i):=has_fun b3.rising (op_has q1') ((b6 _ _).2 (.inl (op_has q1)));unfold plcS;rw[idAt_pre hg.os c,inS_pre hg.os (by omega),e];exact⟨q1',q2,fun j hj=>(inS_pre hg.os (by omega)).2 (q3 j hj)⟩
  ·obtain rfl:i=v.n:=by omega
   have q1':inS (putP (whole v.sh.ps) (idOf o) o).m (putP (whole v.sh.ps) (idOf o) o).ids (idOf o):=has_in.2 ⟨_,(b6 _ _).2 (.inr ⟨rfl,rfl⟩)⟩;have e:(putP (whole v.sh.ps) (idOf o) o).opOf (idOf o)=o:=has_fun b3.rising (op_has q1') ((b6 _ _).2 (.inr ⟨rfl,rfl⟩));unfold plcS;rw[idAt_new hg.os hx,inS_pre hg.os (Nat.le_refl _),e];exact⟨q1',j1,fun j hj=>(inS_pre hg.os (Nat.le_refl _)).2 (j2 j hj)⟩
 ·show(v.os++idOf o).length=32*(v.n+1);rw[List.length_append,hx,hg.os];omega
theorem off_ok{v:StV}{o:OpV}(hg:StG v)(h:okT v)(hv:verE o=0):okT (offT v o)∧StG (offT v o):=by
 by_cases c:judT v o=1
 ·rw[off_1 c];exact⟨(com_ok hg h hv c).1,(com_ok hg h hv c).2.1⟩
 ·rw[off_no c];exact⟨h,hg⟩
theorem run_ok{v:StV}{l:List OpV}(hg:StG v)(h:okT v)(hl:∀o∈l,verE o=0):∀i,i≤l.length→okT (runT v l i)∧StG (runT v l i)
 |0,_=>⟨h,hg⟩
 |i+1,hi=>by
  obtain⟨k1,k2⟩:=run_ok hg h hl i (by omega);rw[runT];exact off_ok k2 k1 (hl _ (by rw[getD_at (by omega)];exact List.getElem_mem _))
end S
namespace W
open Go.RowKit G
set_option maxRecDepth 20000
set_option maxHeartbeats 8000000
attribute [local irreducible] RS RX RY Code.wp bodyPost J Ent.blk Ent.iown Ent.wrow Ent.wown Ent.gown Ent.all Ent.emp
structure StA where
 (cap:Int)(sh:ShA)(oa:Option Addr)(on oc:Nat)(os:List Int)
@[reducible] def srC(s:StA):List Value:=[.int .i64 s.cap, .slice s.sh.pa s.sh.pn s.sh.pc, .slice s.sh.ha s.sh.hn s.sh.hc, .int .i64 s.sh.ver, .slice s.oa s.on s.oc]
@[reducible] def StA.V(s:StA):S.StV:=⟨s.cap,s.sh.V,s.on,s.os⟩
def StA.zero:StA:=⟨0,ShA.zero,none,0,0,[]⟩
structure StR(S0:Nat→Prop)(w:World)(s:StA):Prop where
 sh:ShR S0 w s.sh
 os:WRow .u8 32 S0 w s.oa s.on s.os
 cap:s.on≤s.oc∧s.on≤70
 L:ShL s.sh
theorem StR.ext{S0:Nat→Prop}{w w':World}{s:StA}(h:StR S0 w s)(x:Ext w w'):StR S0 w' s:=⟨h.sh.ext x,h.os.ext x,h.cap,h.L⟩
theorem StR.g{S0:Nat→Prop}{w:World}{s:StA}(h:StR S0 w s):S.StG s.V:=⟨h.sh.ml,h.os.len⟩
@[reducible] def stE(s:StA):List Ent:=[shW s.sh, .wown 23 .u8 32 s.oa s.on s.oc s.os]
structure StK(v:S.StV)(s:StA):Prop where
 V:s.V=v
 k:∀g∈s.sh.gs,GrK g
structure StZ(v:S.StV):Prop where
 m:∀p∈v.sh.ps,p.m≤70∧p.ops.length≤70
 z:v.sh.ps.length≤6∧v.sh.hn≤100
 l:v.sh.ps.length≤4→S.allN v.sh.ps≤64
 n:v.n≤70
theorem StR.z{S0:Nat→Prop}{w:World}{s:StA}(h:StR S0 w s):StZ s.V:=by
 have hl:=h.sh.pr.len;have hll:s.sh.V.ps.length=s.sh.pn:=by rw[List.length_map,hl]
 have hcp:=h.sh.cap;refine⟨fun p hp=>?_,⟨?_,hcp.2.2.2⟩,fun k=>h.L (by have k':s.sh.V.ps.length≤4:=k;omega),h.cap.2⟩
 ·obtain⟨g,hg,rfl⟩:=List.mem_map.1 hp;have G:=h.sh.gi g hg;have h1:=G.cap;have h2:=G.len;exact⟨h1.2.2.1,by show g.ops.length≤70;omega⟩
 show s.sh.V.ps.length≤6;omega
theorem StK.own{S0:Nat→Prop}{w0:World}{L:List Ent}{s:StA}{v:S.StV}{F1:Ent→List Ent}{F2:Option Addr→Nat→Nat→List Int→List Ent}(h:StK v s)(z:StZ v)[R1:RE L (shW s.sh) F1][R2:RWO L s.oa 23 .u8 32 s.on s.oc s.os F2](w:World)(M:Mem S0 w0 L w):StR (fun _=>True) w s:=by
 obtain rfl:=h.V;obtain⟨B,_,b⟩:=M.get (R2.h s.oa s.on s.oc s.os).same;have b':=wown_row b;have hb:=(wown_len b).2;have hll:s.sh.V.ps.length=s.sh.gs.length:=List.length_map _;have hm:∀g∈s.sh.gs,g.m≤70∧g.ops.length≤70:=fun g hg=>z.m g.P (List.mem_map.2 ⟨g,hg,rfl⟩);have k:=ShR.ownB (R:=R1) h.k hm ⟨by have:=z.z.1;have k':s.sh.V.ps.length≤6:=this;omega,z.z.2⟩ w M;exact⟨k,b'.weaken fun _ _ _=>trivial,⟨hb,z.n⟩,fun hn=>z.l (by have:=k.pr.len;show s.sh.V.ps.length≤4;omega)⟩
theorem shOne{P:Program}{f:FuncId}{av:Array Value}{w w1:World}{v:ShA→Value}{p:ShA→Prop}(h:Calls P f av w1 (Gv w v (fun q=>shE q) p)):Calls P f av w1 (Gv w v (fun q=>[shW q]) p):=h.mono fun _ _ ⟨r,h1,h2,h3,h4⟩=>⟨r,h1,h2,h3,sep1 (all_i h4)⟩
theorem J.nilSh{S0:Nat→Prop}{w0:World}{L:List Ent}{X:World→Prop}(k:J S0 w0 (shW ShA.zero::L) X):J S0 w0 L X:=by
 refine J.nilWo 23 .u8 32 ?_;refine J.noA ?_;refine J.nilG (fun g:GrA=>grC g) 2 65 grC_len ?_;refine J.pair (.gown (fun g:GrA=>grC g) 2 65 none 0 0 []) (.all []) ?_;refine J.snocA [.gown (fun g:GrA=>grC g) 2 65 none 0 0 [], .all []] (.wown 23 .u8 32 none 0 0 []) ?_;refine J.re (.all ([.gown (fun g:GrA=>grC g) 2 65 none 0 0 [], .all []]++[.wown 23 .u8 32 none 0 0 []])) (shW ShA.zero) (fun _ _ h=>by unfold shW;exact h) ?_;exact J.drop (E:=shW ShA.zero::L) (by repeat(first|exact List.Sublist.refl _|refine List.Sublist.cons_cons _ ?_|refine List.Sublist.cons _ ?_)) k
theorem stZero{v:S.StV}(h:v=S.StV.zero):StK v StA.zero:=⟨h.symm,fun g hg=>by cases hg⟩
end W
namespace G
open Go.RowKit
section
variable{P:Program}{w:World}
theorem D.sliceM{l:List Value}{x hi mx:Operand}{t e sz:Nat}{a:Option Addr}{n c:Nat}{j k:Int}{dd:Option Tmp}{ty:TypeId}{pos:String}{af:Array Edge}{g:Option (Nat×Bool)}(hx:ev l x= .slice a n c)(h2:ev l hi= .int .i64 j)(h3:ev l mx= .int .i64 k)
  (hu:P.underlying t=some (.slice e))(hs:P.cellsOf e=sz)(hz:sz≠0)(hb:0≤j∧j≤k∧k≤c):
  (execOp (ev l) ⟨dd, .slice t x none (some hi) (some mx),ty,pos,af,g⟩).run P w= .ok (.value (.slice (subA a 0 sz k.toNat) j.toNat k.toNat)) w:=by
 have h0:0≤j:=by omega
 have hk:0≤k:=by omega
 have e1:max k 0=k:=Int.max_eq_left hk;have e2:max j 0=j:=Int.max_eq_left h0;have hsz:=size_run (P:=P) (w:=w) hs hz;simp only[execOp];rw[hx];simp[Instr.sliceAt,Instr.slice,run_underlying hu,Instr.sliceBounds,Instr.sliceBound,h2,h3,asIntOf,hb,h0,hk,e1,e2,hsz,subA]
end
section
variable{S0:Nat→Prop}{w0:World}{L:List Ent}{P:Program}{ops:Array Oper}{K:List Value→World→Prop}{rest:List (Oper×Kd)}{l l':List Value}{m:Md}{d:Tmp}{ty xt t e:TypeId}{pos:String}{af:Array Edge}{kd:Kd}{x y hi mx:Operand}{sz by_:Nat}{zs:List Value}
theorem J.slM{a:Option Addr}{n c:Nat}(j k:Nat)[U:Und P xt (.slice e)][Z:Siz P e sz](hk:pureK kd=true)(hx:ev l x= .slice a n c)(h2:ev l hi= .int .i64 (j:Nat))(h3:ev l mx= .int .i64 (k:Nat))(kk:J S0 w0 L (RY S0 w0 m P ops K rest l'))(hz:sz≠0:=by decide)(hb:j≤k∧k≤c:=by omega)
  (hl:l.set d (.slice (subA a 0 sz k) j k)=l':=by dsimp only[List.set]):
  J S0 w0 L (RY S0 w0 m P ops K ((⟨some d, .slice xt x none (some hi) (some mx),ty,pos,af,none⟩,kd)::rest) l):=
 J.pur hk (fun _=>D.sliceM (j:=((j:Nat):Int)) (k:=((k:Nat):Int)) hx h2 h3 U.h Z.h hz (by omega)) kk hl
end
end G
namespace W
open Go.RowKit G
set_option maxRecDepth 20000
set_option maxHeartbeats 8000000
attribute [local irreducible] RS RX RY Code.wp bodyPost J Ent.blk Ent.iown Ent.wrow Ent.wown Ent.gown Ent.all Ent.emp
instance:Ents prog 106:=⟨.mk func106 (by kernel_rfl) rfl⟩
instance:Fld prog 74 1 1:=⟨_,_,3,underlying74,rfl,by kernel_rfl,by decide,rfl⟩
instance:Ents prog 57:=⟨.mk func57 (by kernel_rfl) rfl⟩
instance:Fld prog 74 0 0:=⟨_,_,1,underlying74,rfl,by kernel_rfl,by decide,rfl⟩
instance:Fld prog 74 2 4:=⟨_,_,1,underlying74,rfl,by kernel_rfl,by decide,rfl⟩
instance:Inf prog 25 1 24 [.slice none 0 0]:=⟨TI.of (v:= .slice none 0 0) (by kernel_rfl) rfl⟩
instance:Agg prog 74 5:=⟨_,underlying74,rfl,by kernel_rfl⟩
instance:Ents prog 60:=⟨.mk func60 (by kernel_rfl) rfl⟩
theorem stGr1{S0:Nat→Prop}(a:Option Addr)(p c:Nat)(os x:List Int)(b:Nat)(T:TypeId)(w:World)(hB:Blk w b [.slice a p c] T)(D0:WRow .u8 32 S0 w a p os)(hx:Arr .u8 32 x)(hp:p≤1000):
  Calls prog 106 #[.agg (ints .u8 x).toArray, .pointer (some ⟨b,0,none⟩)] w (Ret w fun v _=>v= .bool (decide (¬S.inS p os x))):=by
 refine J.enter 6 func106 rfl rfl ?_;refine run ?_;refine J.box rfl rfl rfl fun b1=>?_
 refine run ?_;refine J.ldOq hB rfl ?_;refine run ?_;refine J.callp rfl rfl (fun w' M=>hasID _ _ _ _ _ w' (D0.ext M.ext) hx (by omega)) ?_;refine run ?_;exact J.fin (congrArg _ (by simp))
theorem idxGr1{S0 S1:Nat→Prop}(ba:Option Addr)(p bc:Nat)(os:List Int)(a:Option Addr)(n c:Nat)(ps:List Int)(b:Nat)(T:TypeId)(w:World)(hB:Blk w b [.slice ba p bc] T)(D0:WRow .u8 32 S0 w ba p os)(D1:WRow .u8 32 S1 w a n ps)(hp:p≤1000)(hn:n≤1000):
  Calls prog 90 #[.slice a n c, .func (.func 106) #[] #[.pointer (some ⟨b,0,none⟩)]] w (Gv w (fun r:Int=> .int .i64 r) (fun _=>[]) fun r=>0≤r↔¬S.allI p os n ps):=by
 have hl:=D1.len;refine J.enter 17 func90 rfl rfl ?_;refine run ?_;refine J.loopS (A:=Int) (fun p=>[(8, .int .i64 p)]) [4,5,9,10,11,12,13,14,15,16,17,18] (fun q=>(0≤q∧q≤n)∧∀i,i<q.toNat→S.inS p os (S.idAt ps i)) (fun q=>n - q.toNat) 0 (by kernel_rfl) ⟨by omega,fun i hi=>by omega⟩ (fun q j hI=>?_);obtain⟨h1,hI⟩:=hI;refine run ?_;refine J.ifd rfl (fun c1=>?_) (fun c1=>?_)
 ·refine run ?_;refine J.callvp rfl rfl rfl (fun w' M=>stGr1 ba p bc os _ b T w' (hB.ext M.ext) (D0.ext M.ext) (D1.elt_arr (by omega)) hp) ?_;refine run ?_;refine J.ifd rfl (fun c2=>?_) (fun c2=>?_)
  ·refine run ?_;exact J.finG q rfl ⟨fun _ h=>c2 (h q.toNat (by omega)),fun _=>by omega⟩ (List.nil_sublist _)
  refine run ?_;refine J.nextS (q+1) ⟨rfl,trivial⟩ (by kernel_rfl) ⟨by omega,fun i hi=>?_⟩ (by omega);rcases Nat.lt_or_ge i q.toNat with e|e
  ·exact hI i e
  obtain rfl:i=q.toNat:=by omega
  exact Classical.not_not.1 c2
 refine run ?_;exact J.finG (-1) rfl ⟨fun h=>by omega,fun h=>absurd (fun i hi=>hI i (by omega)) h⟩ (List.nil_sublist _)
theorem hasGr1{S0 S1:Nat→Prop}(ba:Option Addr)(p bc:Nat)(os:List Int)(a:Option Addr)(n c:Nat)(ps:List Int)(b:Nat)(T:TypeId)(w:World)(hB:Blk w b [.slice ba p bc] T)(D0:WRow .u8 32 S0 w ba p os)(D1:WRow .u8 32 S1 w a n ps)(hp:p≤1000)(hn:n≤1000):
  Calls prog 50 #[.slice a n c, .func (.func 106) #[] #[.pointer (some ⟨b,0,none⟩)]] w (Ret w fun v _=>v= .bool (decide (¬S.allI p os n ps))):=by
 refine J.enter 7 func50 rfl rfl ?_;refine run ?_;refine J.call rfl rfl (fun w' M=>idxGr1 ba p bc os a n c ps b T w' (hB.ext M.ext) (D0.ext M.ext) (D1.ext M.ext) hp hn) fun r hr2=>?_
 refine run ?_;exact J.fin (congrArg _ (decide_eq_decide.2 hr2))
theorem stGraph0{S0:Nat→Prop}(s:StA)(TK:TypeId)(w:World)(K0:Kst w TK)(H:StR S0 w s):
  Calls prog 60 #[.agg (srC s).toArray] w (Gv w (fun q:GrA=> .tuple #[.agg (grC q).toArray, .int .i64 (S.chkT s.V)]) (grE 23 34) (GrP (S.grT s.V).m (S.grT s.V).ids (S.grT s.V).ops)):=by
 have hcp:=H.cap;have hO:=H.os;have hwg:=S.whole_good (ps:=s.sh.V.ps) H.sh.ml;have bad:¬S.okT s.V→S.chkT s.V=8∧S.grT s.V=S.PG.nil:=fun h=>⟨S.chkT_8 h,S.grT_8 h⟩
 refine J.enter 86 func60 rfl rfl ?_;refine run ?_;refine J.box rfl rfl rfl fun b1=>?_
 refine J.alloc rfl fun b2=>?_
 refine run ?_;refine J.call rfl rfl (fun w' M=>shAll s.sh TK w' (K0.ext M.ext) (H.sh.ext M.ext) H.L) fun q hq=>?_
 dsimp only[grE,List.cons_append,List.nil_append];refine run ?_;refine J.alloc rfl fun b4=>?_
 refine run ?_;refine J.spn rfl rfl rfl (fun c1=>?_) (fun c1=>?_)
 ·obtain⟨e1,e2⟩:=bad fun h=>c1 (S.chkH_0 h.1.2.1);rw[e1,e2];refine run ?_;refine J.nilGr 23 34 ?_;exact J.finG GrA.nil rfl GrP.nil sb
 have hok:=S.chkH_iff.1 c1;obtain⟨n1,n4⟩:=ok_len H.sh hok;have hle:=H.sh.le H.L n4;rw[S.al_0 hok]at hq;have hver:s.sh.ver=((S.whole s.sh.V.ps).m:Nat):=((S.ok_iff (v:=s.sh.V) H.sh.ml).1 hok).2.2.2.1;have hqs:q.m≤70∧q.n≤70:=⟨by rw[hq.m];omega,by rw[hq.n,hwg.2];omega⟩
 have hqok:=hq.ok (refWholeOk H.sh);have hqi:=hq.ids;have hqm:=hq.m;have hqo:=hq.ops;refine run ?_;refine J.spd rfl rfl rfl (fun c2=>?_) (fun c2=>?_)
 ·obtain⟨e1,e2⟩:=bad fun h=>by have h1:1≤s.cap:=h.1.1.1;omega
  rw[e1,e2];refine run ?_;refine J.nilGr 23 34 ?_;exact J.finG GrA.nil rfl GrP.nil sb
 refine run ?_;refine J.spd rfl rfl rfl (fun c3=>?_) (fun c3=>?_)
 ·obtain⟨e1,e2⟩:=bad fun h=>by have h1:s.cap≤40:=h.1.1.2;omega
  rw[e1,e2];refine run ?_;refine J.nilGr 23 34 ?_;exact J.finG GrA.nil rfl GrP.nil sb
 refine run ?_;refine J.spd rfl rfl rfl (fun c4=>?_) (fun c4=>?_)
 ·obtain⟨e1,e2⟩:=bad fun h=>by have h1:s.sh.ver≤s.cap:=h.1.2.2.1;omega
  rw[e1,e2];refine run ?_;refine J.nilGr 23 34 ?_;exact J.finG GrA.nil rfl GrP.nil sb
 refine run ?_;refine J.ifn rfl (fun c5=>?_) (fun c5=>?_)
 ·obtain⟨e1,e2⟩:=bad fun h=>c5 (by have h1:(s.on:Int)=s.sh.ver:=h.1.2.2.2;rw[h1,hver,hqm]);rw[e1,e2];refine run ?_;refine J.nilGr 23 34 ?_;exact J.finG GrA.nil rfl GrP.nil sb
 have hfst:(1≤s.V.cap∧s.V.cap≤40)∧S.okR s.V.sh∧s.V.sh.ver≤s.V.cap∧(s.V.n:Int)=s.V.sh.ver:=⟨⟨by show 1≤s.cap;omega,by show s.cap≤40;omega⟩,hok,by show s.sh.ver≤s.cap;omega,by show(s.on:Int)=s.sh.ver;rw[hver,←hqm];exact c5⟩
 have hris:S.Rising q.m q.ids:=by
  rw[hqm,hqi];exact((S.chkP_fine hwg.1).1 hok.2.1).rising
 refine run ?_;refine J.loopS (A:=Nat) (fun p=>[(50, .int .i64 (p:Nat))]) [6,7,8,9,10,51,52,53,54,55,56,57,58,59,60,61,62,63,64,65,66,67,68,69,70,71,72,73,74,75,76,77,78,79,80,81,82,83,84,85] (fun p=>p≤s.on∧∀i,i<p→S.plcS (S.whole s.sh.V.ps) s.os i) (fun p=>s.on - p) 0 (by kernel_rfl) ⟨Nat.zero_le _,fun i hi=>by omega⟩ (fun p j hI=>?_);obtain⟨hp,hI⟩:=hI;refine run ?_;refine J.ifd rfl (fun d1=>?_) (fun d1=>?_)
 ·have hpl:p<s.on:=by omega
  obtain⟨y,hy⟩:=ex (elt 32 s.os ((p:Nat):Int).toNat);have hy':S.idAt s.os p=y:=by rw[hy,Int.toNat_natCast];rfl
  have hyA:Arr .u8 32 y:=hy▸hO.elt_arr (by omega);have no:∀ {e:Prop},(S.plcS (S.whole s.sh.V.ps) s.os p→e)→¬e→¬S.okT s.V:=fun h1 h2 h=>h2 (h1 (h.2 p hpl));have hplc:S.plcS (S.whole s.sh.V.ps) s.os p↔S.inS q.m q.ids y∧¬S.inS p s.os y∧S.allI p s.os ((S.whole s.sh.V.ps).opOf y).n ((S.whole s.sh.V.ps).opOf y).ids:=by
   unfold S.plcS;rw[hy',hqi,hqm]
  refine run ?_;refine J.alloc rfl fun b5=>?_
  refine run ?_;refine J.slM p p rfl rfl rfl rfl ?_;refine run ?_;refine J.alloc rfl fun b6=>?_
  refine run ?_;refine J.callp rfl rfl (fun w' M=>(RW.own' (a:=q.ia) w' M).elim fun _ k0=>bsID _ _ _ _ _ w' k0 hyA hris (by omega)) ?_;refine run ?_;refine J.spt rfl rfl rfl (fun d2=>?_) (fun d2=>?_)
  ·obtain⟨e1,e2⟩:=bad (no (fun h=>(hplc.1 h).1) (of_decide_eq_false d2));rw[e1,e2];refine run ?_;refine J.nilGr 23 34 ?_;exact J.finG GrA.nil rfl GrP.nil sb
  have hin:S.inS q.m q.ids y:=of_decide_eq_true d2;have hix:=(S.ix_in hin).1;rw[S.spotS_ix hris hin];refine run ?_;refine J.callp rfl rfl (fun w' M=>hasID _ _ _ _ _ w' (wTk (hO.ext M.ext) p p (by omega) (by omega)) hyA (by omega)) ?_;refine run ?_;refine J.spd rfl rfl rfl (fun d3=>?_) (fun d3=>?_)
  ·obtain⟨e1,e2⟩:=bad (no (fun h=>(hplc.1 h).2.1) (not_not_intro ((S.inS_take (Nat.le_refl _)).2 d3)));rw[e1,e2];refine run ?_;refine J.nilGr 23 34 ?_;exact J.finG GrA.nil rfl GrP.nil sb
  obtain⟨z,hz⟩:∃z,q.zs[((S.ixS q.m q.ids y:Nat):Int).toNat]? =some z:=⟨q.zs[S.ixS q.m q.ids y]'(by have h:=congrArg List.length hqo;unfold GrA.ops at h;rw[List.length_map,hwg.2,←hqm]at h;omega),by rw[Int.toNat_natCast];exact List.getElem?_eq_getElem _⟩
  have hz':=hz;rw[Int.toNat_natCast]at hz';have hzl:q.n=q.m:=by rw[hq.n,hwg.2,hqm]
  have hzo:z.o=(S.whole s.sh.V.ps).opOf y:=by
   have e:=GrA.opAt hz';rw[←e,hqo,hqi,hqm];rfl
  have hzn:z.o.n≤40:=(hqok z (List.mem_of_getElem? hz')).n;refine run ?_;refine J.fn rfl rfl rfl ?_;refine run ?_;refine J.callp rfl rfl (fun w' M=>hasGr1 (subA s.oa 0 32 p) p p (s.os.take (32*p)) _ _ _ _ b6 _ w' (blkC b6 M) (wTk (hO.ext M.ext) p p (by omega) (by omega)) ((GrR.own hqok hq.cap hqs w' M).op hz').row (by omega) (by omega)) ?_;refine run ?_;refine J.ifd rfl (fun d4=>?_) (fun d4=>?_)
  ·obtain⟨e1,e2⟩:=bad (no (fun h=>(hplc.1 h).2.2) (fun k=>d4 (by rw[hzo];exact(S.allI_pre (Nat.le_refl _)).1 k)));rw[e1,e2];refine run ?_;refine J.nilGr 23 34 ?_;exact J.finG GrA.nil rfl GrP.nil sb
  refine run ?_;refine J.nextS (p+1) ⟨rfl,trivial⟩ (by kernel_rfl) ⟨by omega,fun i hi=>?_⟩ (by omega);rcases Nat.lt_or_ge i p with c|c
  ·exact hI i c
  obtain rfl:i=p:=by omega
  have h4:=Classical.not_not.1 d4;rw[hzo]at h4;exact hplc.2 ⟨hin,fun h=>d3 ((S.inS_take (Nat.le_refl _)).1 h),(S.allI_pre (Nat.le_refl _)).2 h4⟩
 have hokT:S.okT s.V:=⟨hfst,fun i hi=>hI i (by have hi':i<s.on:=hi;omega)⟩
 rw[S.chkT_0 hokT,S.grT_0 hokT];refine run ?_;exact J.finG q rfl hq sb
theorem stCheck{S0:Nat→Prop}(s:StA)(TK:TypeId)(w:World)(K0:Kst w TK)(H:StR S0 w s):
  Calls prog 105 #[.agg (srC s).toArray] w (Ret w fun v _=>v= .int .i64 (S.chkT s.V)):=by
 refine J.enter 10 func105 rfl rfl ?_;refine run ?_;refine J.box rfl rfl rfl fun b1=>?_
 refine run ?_;refine J.call rfl rfl (fun w' M=>stGraph0 s _ w' (K0.ext M.ext) (H.ext M.ext)) fun q hq=>?_
 dsimp only[grE,List.cons_append,List.nil_append];refine run ?_;refine J.alloc rfl fun b3=>?_
 refine run ?_;exact J.fin rfl
theorem stGraph{S0:Nat→Prop}(s:StA)(TK:TypeId)(w:World)(K0:Kst w TK)(H:StR S0 w s):
  Calls prog 19 #[.agg (srC s).toArray] w (Gv w (fun q:GrA=> .tuple #[.agg (grC q).toArray, .int .i64 (S.chkT s.V)]) (grE 23 34) (GrP (S.grT s.V).m (S.grT s.V).ids (S.grT s.V).ops)):=by
 refine J.enter 7 func19 rfl rfl ?_;refine run ?_;refine J.box rfl rfl rfl fun b1=>?_
 refine run ?_;refine J.alloc rfl fun b2=>?_
 refine run ?_;refine J.call rfl rfl (fun w' M=>stGraph0 s _ w' (K0.ext M.ext) (H.ext M.ext)) fun q hq=>?_
 dsimp only[grE,List.cons_append,List.nil_append];refine run ?_;exact J.finG q rfl hq sb
end W
namespace G
open Go.RowKit
def Gm{α:Type}(w:World)(S:Nat→Prop)(g:α→Value)(E:α→List Ent)(p:α→Prop)(e:Ending)(w':World):Prop:=
 ∃x,e= .returned (g x)∧p x∧Pr S w w'∧Sep (E x) (fun b=>S b∨w.heap.size≤b) w'
theorem Sep.cut:∀ {E L:List Ent} {U:Nat→Prop} {w:World},Sep (E++L) U w→∃S T:Nat→Prop,(∀b,S b→U b)∧(∀b,T b→U b)∧(∀b,S b→T b→False)∧Sep E S w∧Sep L T w
 |[],_,U,_,h=>⟨no,U,fun _ h=>h.elim,fun _ h=>h,fun _ h=>h.elim,trivial,h⟩
 |e::E,L,U,w,⟨S1,T1,g1,g2,g3,g4,g5⟩=>by
  obtain⟨S,T,h1,h2,h3,h4,h5⟩:=Sep.cut (E:=E) g5;exact⟨fun b=>S1 b∨S b,T,fun b hb=>hb.elim (g1 b) fun k=>g2 b (h1 b k),fun b hb=>g2 b (h2 b hb),fun b hb hc=>hb.elim (fun k=>g3 b k (h2 b hc)) fun k=>h3 b k hc,⟨S1,S,fun _ h=> .inl h,fun _ h=> .inr h,fun b hb hc=>g3 b hb (h1 b hc),g4,h4⟩,h5⟩
section
end
section
variable{S0 S:Nat→Prop}{w0 w:World}{L E R:List Ent}{P:Program}{ops:Array Oper}{K:List Value→World→Prop}{rest:List (Oper×Kd)}{l:List Value}{m:Md}{d:Tmp}{ty:TypeId}{pos:String}{af:Array Edge}{kd:Kd}{f:FuncId}{args:Array Operand}{av cap:List Value}{ts:Array TypeId}{x:Operand}{v:Value}
theorem Mem.cut(M:Mem S0 w0 (E++R) w):∃S:Nat→Prop,(∀b,S b→(S0 b∨w0.heap.size≤b)∧b<w.heap.size)∧Sep E S w∧∀w' E',Pr S w w'→Sep E' (fun b=>S b∨w.heap.size≤b) w'→Mem S0 w0 (E'++R) w':=by
 obtain⟨S,T,h1,h2,h3,h4,h5⟩:=(M.sep.mono (V:=fun b=>(S0 b∨w0.heap.size≤b)∧b<w.heap.size) fun b hb hu=>⟨hu,hb⟩).cut;have hl:=M.le;refine⟨S,h1,h4,fun w' E' hp k=>⟨M.pr.prn hp fun b hb=>(h1 b hb).1,?_⟩⟩;refine k.app (h5.step fun b hb hl=>hp.block b hl fun hs=>h3 b hs hb) (fun b hb=>?_) (fun b hb=>(h2 b hb).1) fun b hb hc=>?_
 ·rcases hb with k|k
  ·exact(h1 b k).1
  ·exact .inr (by omega)
 ·rcases hb with k|k
  ·exact h3 b k hc
  ·have:=(h2 b hc).2;omega
theorem J.callMv{α:Type}(x0:α){g:α→Value}{Ex E':α→List Ent}{p:α→Prop}{l':α→List Value}[N:Ents P f](hx:ev l x= .func (.func f) #[] cap.toArray)(ha:args.toList.map (ev l)++cap=av)(hL:L=E++R)(h:∀w S,Mem S0 w0 L w→(∀b,S b→S0 b∨w0.heap.size≤b)→Sep E S w→Calls P f av.toArray w (Gm w S g Ex p))(k:∀x,p x→J S0 w0 (E' x) (RY S0 w0 m P ops K rest (l' x)))
  (hE:∀x,Ex x++R=E' x:=by intro x;dsimp only[List.cons_append,List.nil_append])(hl:∀x,l.set d (g x)=l' x:=by intro x;dsimp only[List.set])(hk:∀x,okG m kd (E' x):=by first|exact fun _=>trivial|(intro _;repeat(first|exact List.Sublist.refl _|refine List.Sublist.cons_cons _ ?_|refine List.Sublist.cons _ ?_))):
  J S0 w0 L (RY S0 w0 m P ops K ((⟨some d, .call {callee:= .value x,args:=args,argTypes:=ts},ty,pos,af,none⟩,kd)::rest) l):=
 J.bigs x0 hk fun w M K' hK=>by
  subst hL;obtain⟨S,hs0,hs,hm⟩:=M.cut;refine RS.callv N.h (h w S M (fun b hb=>(hs0 b hb).1) hs) hx ha fun nd w' hR=>?_
  obtain⟨x,h1,h2,h3,h4⟩:=hR;refine⟨_,h1,RS.nil ?_⟩;have M':=hm w' (Ex x) h3 h4;rw[hE]at M';refine hK _ w' x M' ?_;rw[hl];exact k x h2 w' M'
theorem J.enterM{fn:Func}{c0:Code}{Q:Ending→World→Prop}(u:Nat)(hE:Sep E S w0)(hf:P.funcs[f]? =some fn)(hb:fn.body=some c0)(hu:fn.ntmps - av.length=u)(h:J S w0 E (c0.wp P (bodyPost P fn Q) (fr l)))(hl:av++List.replicate u undef=l:=by dsimp only[List.reduceReplicate,List.cons_append,List.nil_append]):Calls P f av.toArray w0 Q:=
 enterU u hf hb hu (h w0 ⟨Pr.refl _ _,hE.mono fun b _ hb=> .inl hb⟩) hl
theorem J.finM{α:Type}{g:α→Value}{Ex:α→List Ent}{p:α→Prop}(x:α)(h:v=g x)(hp:p x)(hs:(Ex x).Sublist L):J S w0 L (Gm w0 S g Ex p (.returned v)):=fun w M=>⟨x,by rw[h],hp,M.pr,M.sep.sub hs⟩
end
section
end
section
variable{S0:Nat→Prop}{w0:World}{L:List Ent}{P:Program}{ops:Array Oper}{K:List Value→World→Prop}{rest:List (Oper×Kd)}{l:List Value}{m:Md}{d:Tmp}{ty t e:TypeId}{pos:String}{af:Array Edge}{kd:Kd}{α:Type}
theorem run0 {X : World → Prop} {q : Prop} (k : q) (h : Hold q → J S0 w0 L X := by
 intro k
 repeat (first
  | refine J.thn ?_
  | refine J.sq ?_
  | refine J.block ?_
  | refine J.skip ?_
  | refine J.exit ?_
  | refine J.the ?_
  | refine J.ibe ?_
  | refine J.ibn ?_
  | refine J.ibx rfl ?_
  | refine J.ift rfl ?_
  | refine J.iff rfl ?_)
 exact k.out) : J S0 w0 L X := h ⟨k⟩
end
abbrev FW(ro:Option Nat):Fence:= {Fence.wide with round:=ro}
def noDef(o:Oper):Bool:=match o.op with
 | .defer _=>false
 |_=>true
theorem noDef_ne{o:Oper}(h:noDef o=true)(c:Call):o.op≠ .defer c:=fun e=>by
 unfold noDef at h;rw[e]at h;cases h
section
variable{P:Program}{ops:Array Oper}{K:List Value→World→Prop}{Q:Exit→Act→World→Prop}{n:Nat}{ro:Option Nat}{ds:List Deferred}
theorem callsW{f:FuncId}{args:Array Value}{w:World}{R:Ending→World→Prop}(h:Calls P f args w R):CallsIn (FW ro) n P f args w R:=(callsIn_wide (n:=n)).2 h
theorem rowsW{row:String}{args:Array Value}{w:World}{R:Value→World→Prop}(h:Rows P row args w R):RowsIn (FW ro) n P row args w R:=fun c cs _=>let ⟨v,w',r,s⟩:=h c cs;⟨v,w',r,(stepsIn_wide (P:=P)).2 s⟩
theorem fr_inj{l l':List Value}(h:fr l=fr l'):l=l':=List.toArray_inj (congrArg Act.tmps h)
theorem put_ds(l:List Value)(d:Option Tmp)(v:Value):(⟨l.toArray,ds⟩:Act).put d v=⟨(putL d v l).toArray,ds⟩:=by cases d<;>simp[Act.put,putL]
theorem uponW{o:Oper}{l:List Value}{nx nx':Act→World→Prop}(hn:∀l' w',nx (fr l') w'→nx' ⟨l'.toArray,ds⟩ w'){r:Result Next}(h:o.upon P (fr l) (fun a' w'=>∃l',a'=fr l'∧nx (fr l') w') (fun _ _ _=>False) r):o.uponIn (FW ro) n P ⟨l.toArray,ds⟩ nx' Q r:=by
 have put1:∀v w',(∃l',(fr l).put o.dst v=fr l'∧nx (fr l') w')→nx' ((⟨l.toArray,ds⟩:Act).put o.dst v) w':=fun v w' ⟨l',e,k⟩=>by
  rw[put_fr]at e;rw[put_ds,fr_inj e];exact hn l' w' k
 cases r with
 |ok x w=>
  cases x with
  |value v=>exact put1 v w h
  |skip=>exact put1 undef w h
  |defer d=>
   obtain⟨l',e,_⟩:=h;have:({fr l with defers:=d::(fr l).defers}:Act).put o.dst undef=fr l':=e;have e2:=congrArg Act.defers this;cases hd:o.dst<;>simp[hd,Act.put,fr]at e2
  |enter f args=>
   refine⟨fun h=>absurd (show(none:Option Nat).isSome=true from h) (by decide),?_⟩;have h:Calls P f args w _:=h;refine callsW (h.mono fun e w' he=>?_);cases e with
   |returned v=>exact put1 v w' he
   |panicked chain=>exact he.elim
   |outgrown=>
    obtain⟨a,w,k⟩:=he;exact k.elim
  |row row args=>
   refine⟨fun h=>absurd (show(none:Option Nat).isSome=true from h) (by decide),?_⟩;have h:Rows P row args w _:=h;exact rowsW (fun c cs=>let ⟨v,w',r,s⟩:=h c cs;⟨v,w',put1 v w' r,s⟩)
  |_=>exact h.elim
 |halt x w=>cases x<;>exact h.elim
theorem eval_ds(l:List Value):(⟨l.toArray,ds⟩:Act).eval=ev l:=by
 rw[←eval_fr];funext x;cases x<;>rfl
theorem rs_in{tail:List Oper}:∀(pre:List Oper) (l:List Value) (w:World),pre.all noDef=true→RS P ops K pre l w→(∀l' w',K l' w'→wpListIn (FW ro) n P ops Q tail ⟨l'.toArray,ds⟩ w')→wpListIn (FW ro) n P ops Q (pre++tail) ⟨l.toArray,ds⟩ w
 |[],l,w,_,h,k=>k l w h
 |o::rest,l,w,hn,h,k=>by
  rw[List.all_cons,Bool.and_eq_true]at hn;unfold RS at h;rw[List.cons_append];unfold wpListIn;split
  ·rename_i hw;rw[if_pos (by exact hw)]at h;refine⟨fun _ _=>trivial,?_⟩;rw[Oper.semAt_eq _ _ _ (noDef_ne hn.1),eval_ds];unfold Oper.wp at h;rw[eval_fr]at h;refine uponW (nx:=fun a' w'=>∃l',a'=fr l'∧RS P ops K rest l' w') (fun l' w' ⟨l2,e,r⟩=>?_) (upon_mono (fun a w' ⟨l',e,r⟩=>⟨l',e,l',rfl,r⟩) (fun _ _ _ h=>h) h);obtain rfl:=fr_inj e;exact rs_in rest l' w' hn.2 r k
  ·rename_i hw;rw[if_neg (by exact hw)]at h;refine⟨fun _ _=>trivial,?_⟩;rw[put_ds];exact rs_in rest _ w hn.2 h k
theorem region_ds{id:Nat}{l0:List Oper}{l:List Value}{w:World}(hn:l0.all noDef=true)(h:RS P l0.toArray (fun l w=>Q .normal ⟨l.toArray,ds⟩ w) l0 l w):(Code.region id l0.toArray false).wpIn (FW ro) n P Q ⟨l.toArray,ds⟩ w:=by
 refine wpIn_region_lit ?_;have:=rs_in (P:=P) (ro:=ro) (n:=n) (ds:=ds) (Q:=Q) (tail:=[]) l0 l w hn h (fun l' w' k=>k);rwa[List.append_nil]at this
end
/-! ### over a memory that is a list of parts -/
def Ent.defd(D:Nat):Ent:=⟨fun S w=>S D∧w.heap[D]? =some (.deferred (some [])),fun {S w w'} h k=>⟨h.1,(k D h.1 (Array.getElem?_eq_some_iff.1 h.2).1).trans h.2⟩,fun {S T w} h k=>⟨k D (Array.getElem?_eq_some_iff.1 h.2).1 h.1,h.2⟩⟩
@[reducible] def markD(D:Nat):List Deferred:=[{target:= .collected D,args:= #[]}]
def KD(ds:List Deferred)(Q:Exit→Act→World→Prop)(l:List Value)(w:World):Prop:=Q .normal ⟨l.toArray,ds⟩ w
section
variable{S0:Nat→Prop}{w0:World}{L L':List Ent}{P:Program}{Q:Exit→Act→World→Prop}{l:List Value}{x y c:Code}{o:Operand}{id:Nat}{n:Nat}{ro:Option Nat}{ds:List Deferred}{N:Act→World→Prop}
theorem J.dreg{l0:List Oper}{pl:List (Oper×Kd)}(h:J S0 w0 L (RY S0 w0 .s P l0.toArray (KD ds Q) pl l))(hn:l0.all noDef=true:=by rfl)(hp:l0.map (fun o=>(o,Kd.q))=pl:=by dsimp only[List.map]):J S0 w0 L ((Code.region id l0.toArray false).wpIn (FW ro) n P Q ⟨l.toArray,ds⟩):=fun w M=>by
 refine region_ds hn ?_;have:=h w M;subst hp;unfold RY at this;rw[List.map_map]at this;have e:(Prod.fst ∘ fun o:Oper=>(o,Kd.q))=_root_.id:=rfl;rwa[e,List.map_id]at this
theorem J.dnil{ops:Array Oper}(h:J S0 w0 L (Q .normal ⟨l.toArray,ds⟩)):J S0 w0 L (RY S0 w0 .s P ops (KD ds Q) [] l):=J.nil h
theorem J.dsq{a:Act}(h:J S0 w0 L (x.wpIn (FW ro) n P (Exit.then (y.wpIn (FW ro) n P Q) Q) a)):J S0 w0 L ((Code.seq x y).wpIn (FW ro) n P Q a):=fun w M=>wpIn_seq (h w M)
theorem J.dblk{a:Act}(h:J S0 w0 L (c.wpIn (FW ro) n P (Exit.inBlock id Q) a)):J S0 w0 L ((Code.block id c).wpIn (FW ro) n P Q a):=fun w M=>wpIn_block (h w M)
theorem J.dret{a:Act}(h:J S0 w0 L (Q .ret a)):J S0 w0 L (Code.ret.wpIn (FW ro) n P Q a):=fun w M=>wpIn_ret (h w M)
theorem J.dskip{a:Act}(h:J S0 w0 L (Q .normal a)):J S0 w0 L (Code.skip.wpIn (FW ro) n P Q a):=fun w M=>wpIn_skip (h w M)
theorem J.dife{a b:Int}(hc:ev l o= .bool (a==b))(ht:a=b→J S0 w0 L (x.wpIn (FW ro) n P Q ⟨l.toArray,ds⟩))(hf:a≠b→J S0 w0 L (y.wpIn (FW ro) n P Q ⟨l.toArray,ds⟩)):J S0 w0 L ((Code.cond o x y).wpIn (FW ro) n P Q ⟨l.toArray,ds⟩):=fun w M=>
 wpIn_cond_split (t:=a==b) ((congrFun (eval_ds l) o).trans hc) (fun h=>ht (by simpa using h) w M) (fun h=>hf (by simpa using h) w M)
theorem J.retM{D:Nat}{F:Ent→List Ent}[R:RE L (.defd D) F]{fn:Func}{Rr:Ending→World→Prop}(k:J S0 w0 (F .emp) (bodyPost P fn Rr .ret (fr l))):J S0 w0 L (bodyPostM Fence.wide n P fn Rr .ret ⟨l.toArray,markD D⟩):=fun w M=>by
 obtain⟨S,hS,⟨hD,hK⟩,hput⟩:=M.foc (R.h .emp);have hg:=grownBy_putObj' w D (.deferred none);obtain⟨_,v,h2,h3⟩:=k _ (hput (w.putObj D (.deferred none)) S ⟨hg.os,hg.tape,hg.output,hg.size,fun k hk hs=>hg.block k hk fun e=>by cases e;exact hs hD⟩ trivial fun b hb=> .inl hb);exact⟨by simp, .inl ⟨D,_,rfl,run_takeDeferred hK,⟨v,h2,h3⟩⟩⟩
theorem J.toM{fn:Func}{Rr:Ending→World→Prop}(k:J S0 w0 L (bodyPost P fn Rr .ret (fr l))):J S0 w0 L (bodyPostM Fence.wide n P fn Rr .ret (fr l)):=fun w M=>let ⟨_,v,h2,h3⟩:=k w M;⟨v,h2,h3⟩
theorem J.enterR{f:FuncId}{av:List Value}{fn:Func}{Rr:Ending→World→Prop}(u:Nat)(hf:P.funcs[f]? =some fn)(hb:fn.body=some c)(hu:fn.ntmps - av.length=u)(h:J no w0 [] (c.wp P (bodyPostM Fence.wide 9 P fn Rr) (fr l)))(hl:av++List.replicate u undef=l:=by dsimp only[List.reduceReplicate,List.cons_append,List.nil_append]):Calls P f av.toArray w0 Rr:=
 (callsIn_wide (n := 9)).1 (callsIn_of_wp_marks hf hb trivial ((wpIn_wide (n := 9)).2 (by
  subst hl
  have h2 := h w0 (Mem.first w0)
  have e : (av ++ List.replicate u undef).toArray = av.toArray ++ Array.replicate (fn.ntmps - av.toArray.size) undef := by simp [hu]
  have e2 : fr (av ++ List.replicate u undef) = { tmps := av.toArray ++ Array.replicate (fn.ntmps - av.toArray.size) undef, defers := [] } := congrArg (fun t => (⟨t, []⟩ : Act)) e
  rw [e2] at h2
  exact h2)))
end
section
variable{w w' W W':World}{B b n c:Nat}{cs:List Value}{T e:TypeId}{row:Option Nat}{a:Option Addr}{k:IntKind}{sz:Nat}{xs:List Int}{S:Nat→Prop}
theorem blk_own(h:Blk W b cs T)(hg:W.grownBy W' row)(hr:∀r,row=some r→B≤r∧∃o:Obj,W.heap[r]? =some o∧o.isCells=false):Blk W' b cs T:=by
 have hlt:=h.lt;unfold Blk at h⊢;refine(hg.block b hlt fun e=>?_).trans h;obtain⟨_,o,ho,hc⟩:=hr b e.symm;rw[h]at ho;cases ho;cases hc
theorem ext_own(h:Ext w W)(hB:w.heap.size≤B)(hg:W.grownBy W' row)(hr:∀r,row=some r→B≤r∧∃o:Obj,W.heap[r]? =some o∧o.isCells=false):Ext w W':=h.grown hg h.size (fun j e=>Nat.le_trans hB (hr j e).1)
theorem pr_ext(h:Ext w W)(k:Pr S W W')(hS:∀b,S b→w.heap.size≤b):Ext w W':=Below.trans h (k.below hS h.size)
theorem pr_no(h:Ext w W):Pr no w W:=⟨h.os,h.tape,h.output,h.size,fun k hk _=>h.block k hk⟩
end
/-! ### an iterator -/
section
variable{S0:Nat→Prop}{w0:World}{L:List Ent}{P:Program}{Q:Exit→Act→World→Prop}{l:List Value}{ops:Array Oper}{id n:Nat}{post:List Oper}
theorem J.from{X:World→Prop}{w:World}(h:J no w [] X):X w:=h w (Mem.first w)
theorem J.at{X:World→Prop}{w:World}(M:Mem S0 w0 L w)(h:J S0 w0 L X):X w:=h w M
def KY(n:Nat)(P:Program)(ops:Array Oper)(Q:Exit→Act→World→Prop)(post:List Oper)(l:List Value)(w:World):Prop:=wpListIn Fence.wide n P ops Q post (fr l) w
theorem J.regY{l0:List Oper}{pl:List (Oper×Kd)}(k n:Nat)(h:J S0 w0 L (RY S0 w0 .s P l0.toArray (KY n P l0.toArray Q post) pl l))(hn:(l0.take k).all noDef=true:=by rfl)(hp:(l0.take k).map (fun o=>(o,Kd.q))=pl:=by dsimp only[List.take,List.map])(hq:l0.drop k=post:=by dsimp only[List.drop]):J S0 w0 L ((Code.region id l0.toArray false).wp P Q (fr l)):=fun w M=>by
 refine(wpIn_wide (n:=n)).1 (wpIn_region_lit ?_);have h2:=h w M;subst hp hq;unfold RY at h2;rw[List.map_map]at h2;have e:(Prod.fst ∘ fun o:Oper=>(o,Kd.q))=_root_.id:=rfl;rw[e,List.map_id]at h2;have:=rs_in (P:=P) (ro:=none) (n:=n) (ds:=[]) (Q:=Q) (tail:=l0.drop k) (l0.take k) l w hn h2 (fun l' w' k=>k);rwa[List.take_append_drop]at this
theorem yield_step{d:Tmp}{x:Operand}{args:Array Operand}{ts:Array TypeId}{ty:TypeId}{pos:String}{af:Array Edge}{j lp:Nat}{vs:List Value}{w:World}{R:Ending→World→Prop}(hv:yielded ops l.toArray j=some true)(hx:ev l x= .func (.yield lp) #[] #[])(ha:args.toList.map (ev l)=vs)(hy:YieldAt Fence.wide (n - 1) P lp vs.toArray w R)
  (k:∀e w',R e w'→∃v,e= .returned v∧wpListIn Fence.wide n P ops Q post (fr (l.set d v)) w'):wpListIn Fence.wide n P ops Q (⟨some d, .call {callee:= .value x,args:=args,argTypes:=ts},ty,pos,af,some (j,true)⟩::post) (fr l) w:=by
 obtain⟨fn,tmps,assign,body,hy1,hy2⟩:=hy;unfold wpListIn;rw[if_pos (by simp[Region.wanted,hv])];refine⟨fun _ _=>trivial,?_⟩;have hr:(execOp (ev l) ⟨some d, .call {callee:= .value x,args:=args,argTypes:=ts},ty,pos,af,some (j,true)⟩).run P w= .ok (.round lp fn tmps assign body) w:=by
  simp only[execOp,resolve,args_map ha];rw[hx];simp[Deferred.ofValue,invoke,go_sem,hy1]
 rw[Oper.semAt_eq _ _ _ (by intro c e;cases e),eval_fr,hr];refine⟨fun h=>absurd (show(none:Option Nat).isSome=true from h) (by decide),hy2.mono fun e w' he=>?_⟩;obtain⟨v,rfl,hk⟩:=k e w' he;show wpListIn _ _ _ _ _ _ ((fr l).put (some d) v) w';rw[put_fr];exact hk
theorem yield_skip{d:Tmp}{op:Op}{ty:TypeId}{pos:String}{af:Array Edge}{j:Nat}{w:World}(hv:(yielded ops l.toArray j==some true)=false)(k:wpListIn Fence.wide n P ops Q post (fr (l.set d undef)) w):wpListIn Fence.wide n P ops Q (⟨some d,op,ty,pos,af,some (j,true)⟩::post) (fr l) w:=by
 unfold wpListIn;rw[if_neg (by simp only[Region.wanted];rw[hv];decide)];refine⟨fun _ _=>trivial,?_⟩;rw[put_fr];exact k
theorem rest_in{w:World}(hn:post.all noDef=true)(h:RS P ops (fun l w=>Q .normal (fr l) w) post l w):wpListIn Fence.wide n P ops Q post (fr l) w:=by
 have:=rs_in (P:=P) (ro:=none) (n:=n) (ds:=[]) (Q:=Q) (tail:=[]) post l w hn h (fun l' w' k=>k);rwa[List.append_nil]at this
theorem J.restY{pl:List (Oper×Kd)}{w:World}(h:J S0 w0 L (RY S0 w0 .s P ops (KN Q) pl l))(M:Mem S0 w0 L w)(hn:post.all noDef=true:=by rfl)(hp:post.map (fun o=>(o,Kd.q))=pl:=by dsimp only[List.map]):wpListIn Fence.wide n P ops Q post (fr l) w:=by
 refine rest_in hn ?_;have h2:=h w M;subst hp;unfold RY at h2;rw[List.map_map]at h2;have e:(Prod.fst ∘ fun o:Oper=>(o,Kd.q))=_root_.id:=rfl;rwa[e,List.map_id]at h2
end
abbrev IdB:= {xs:List Int // Arr .u8 32 xs}
def flatB(l:List IdB):List Int:=l.flatMap fun x=>x.1
theorem flatB_snoc(l:List IdB)(x:IdB):flatB (l++[x])=flatB l++x.1:=by unfold flatB;simp
def IterC(P:Program)(g:FuncId)(lb:List Value)(n:Nat)(xs:List Int)(w:World):Prop:=SeqStopsK Fence.wide 8 P g lb.toArray (fun x:IdB=> #[.agg (ints .u8 x.1).toArray]) (Below w.heap.size) (fun l=>l.length=n∧flatB l=xs) (fun l=>0<l.length∧0<n) 1000 w
theorem grown_ext{w w':World}(h:Ext w w'):w.grownBy w' none:=⟨h.os,h.tape,h.output,h.size,fun k hk _=>h.block k hk⟩
theorem enters_run{P:Program}{f:FuncId}(he:Enters P f)(args:Array Value)(w:World):(callFunc f args).run P w= .ok (.enter f args) w:=by
 obtain⟨fn,h1,h2,h3⟩:=he;have h4:¬fn.name= "runtime.NumGoroutine" :=by simpa using h2
 have h5:¬fn.body=none:=by intro e;simp[e]at h3
 simp[callFunc,h1,h4,h5,program,Sem.run]
theorem zip1{f:Array Value→Tmp×Value→Array Value}(hf:∀t p v,f t (p,v)=t.setIfInBounds p v)(l:List Value)(p:Tmp)(v:Value):Array.foldl f (fr l).tmps (#[p].zip #[v])=(l.set p v).toArray:=by
 simp[hf]
section
variable{S0:Nat→Prop}{w W w':World}{b5 b2 n c D:Nat}{cs cs2:List Value}{T T2 e:TypeId}{a:Option Addr}{k:IntKind}{sz:Nat}{xs:List Int}{L:List Ent}
theorem not_defd{b:Nat}(h:Blk W b cs T)(hD:W.heap[D]? =some (.deferred (some []))):¬b=D:=fun e=>by
 subst e;unfold Blk at h;rw[h]at hD;cases hD
theorem J.dthn{P:Program}{N:Act→World→Prop}{Q:Exit→Act→World→Prop}{w0:World}{a:Act}(h:J S0 w0 L (N a)):J S0 w0 L (Exit.then N Q .normal a):=h
end
section
variable{S:Nat→Prop}{w W w':World}{b3 b6 D:Nat}{cs cs6:List Value}{T T6:TypeId}
theorem others_pr (h : Pr S w w') (hS : ∀ b, S b → ∃ cs T, Blk w b cs T) : KeepsOthers w w' := ⟨h.size, fun k o hk ho => (h.block k (Array.getElem?_eq_some_iff.1 hk).1 fun hs => by
 obtain ⟨cs, T, hb⟩ := hS k hs
 unfold Blk at hb
 rw [hb] at hk
 cases hk
 cases ho).trans hk⟩
theorem memB1(h6:Blk W b6 cs6 T6):Mem (fun b=>b=b6) W [.blk b6 cs6 T6] W:=⟨Pr.refl _ _,fun b=>b=b6,no,fun b h=> .inl h,fun b h=>h.elim,fun b _ g=>g,⟨rfl,h6⟩,trivial⟩
theorem memD2(hx:Ext w W)(hD:W.heap[D]? =some (.deferred (some [])))(h3:Blk W b3 cs T)(h6:Blk W b6 cs6 T6)(d:¬b3=b6)(l1:w.heap.size≤D)(l2:w.heap.size≤b3)(l3:w.heap.size≤b6):Mem no w [.defd D, .blk b3 cs T, .blk b6 cs6 T6] W:=
 ⟨pr_no hx, fun b => b = D, fun b => b = b3 ∨ b = b6, fun b h => .inr (h ▸ l1), fun b h => .inr (h.elim (fun h => h ▸ l2) fun h => h ▸ l3), fun b h g => by
  subst h
  rcases g with g | g
  ·exact not_defd h3 hD g.symm
  ·exact not_defd h6 hD g.symm, ⟨rfl, hD⟩, fun b => b = b3, fun b => b = b6, fun b h => .inl h, fun b h => .inr h, fun b h g => d (h.symm.trans g), ⟨rfl, h3⟩, fun b => b = b6, no, fun b h => h, fun b h => h.elim, fun b _ g => g, ⟨rfl, h6⟩, trivial⟩
theorem memD1(hx:Ext w W)(hD:W.heap[D]? =some (.deferred (some [])))(h6:Blk W b6 cs6 T6)(l1:w.heap.size≤D)(l3:w.heap.size≤b6):Mem no w [.defd D, .blk b6 cs6 T6] W:=
 ⟨pr_no hx,fun b=>b=D,fun b=>b=b6,fun b h=> .inr (h▸l1),fun b h=> .inr (h▸l3),fun b h g=>not_defd h6 hD (g.symm.trans h),⟨rfl,hD⟩,fun b=>b=b6,no,fun b h=>h,fun b h=>h.elim,fun b _ g=>g,⟨rfl,h6⟩,trivial⟩
theorem blk_two{S0:Nat→Prop}{L:List Ent}(M:Mem S0 W (.blk b6 cs6 T6:: .blk b3 cs T::L) w'):¬b3=b6:=fun e=>by
 obtain⟨S,U,h1,h2,h3,⟨k1,k2⟩,S',U',g1,g2,g3,⟨q1,q2⟩,_⟩:=M.sep;subst e;exact h3 _ k1 (g1 _ q1)
end
end G
namespace W
open Go.RowKit G
set_option maxRecDepth 20000
set_option maxHeartbeats 8000000
attribute [local irreducible] RS RX RY Code.wp bodyPost J Ent.blk Ent.iown Ent.wrow Ent.wown Ent.gown Ent.all Ent.emp
instance:Ents prog 175:=⟨.mk func175 (by kernel_rfl) rfl⟩
theorem stMissing0(s:StA)(z:OpA)(w:World):
  Calls prog 138 #[.agg (srC s).toArray, .agg (opC z).toArray] w (Gv w (fun q:Nat×Nat=> .func (.func 175) #[] #[.pointer (some ⟨q.1,0,none⟩), .pointer (some ⟨q.2,0,none⟩)]) (fun q=>[.blk q.1 (opC z) 34, .blk q.2 (srC s) 74]) (fun _=>True)):=by
 refine J.enter 4 func138 rfl rfl ?_;refine run ?_;refine J.box rfl rfl rfl fun b1=>?_
 refine J.box rfl rfl rfl fun b2=>?_
 refine run ?_;refine J.fn rfl rfl rfl ?_;refine run ?_;exact J.finG (b2,b1) rfl trivial sb
theorem missIter{S0 S1:Nat→Prop}(s:StA)(z:OpA)(bo bs:Nat)(T T2:TypeId)(w0:World)(hbo:Blk w0 bo (opC z) T)(hbs:Blk w0 bs (srC s) T2)(D0:WRow .u8 32 S0 w0 s.oa s.on s.os)(D1:WRow .u8 32 S1 w0 z.pa z.o.n z.o.ids)(hn:s.on≤70)(hz:z.o.n≤40):
  IterC prog 175 [.pointer (some ⟨bo,0,none⟩), .pointer (some ⟨bs,0,none⟩)] (S.numF (S.absF s.on s.os z.o.ids) z.o.n) (S.selF (S.absF s.on s.os z.o.ids) z.o.ids z.o.n) w0:=by
 intro lp JJ Jx Wb hW hJ hJx hY h0;have hW:Ext w0 Wb:=hW;obtain⟨F,hF⟩:=ex (S.absF s.on s.os z.o.ids);rw[←hF];refine(callsIn_wide (n:=8)).2 ?_;show Calls prog 175 ([.func (.yield lp) #[] #[], .pointer (some ⟨bo,0,none⟩), .pointer (some ⟨bs,0,none⟩)]:List Value).toArray Wb _;have hbW:=hbo.ext hW;refine J.enter 22 func175 rfl rfl ?_;refine run ?_;refine J.ldOq hbW rfl ?_;refine run ?_;unfold J;intro w M;refine C.loop (A:=Nat×List IdB) (fun p=>[(9, .int .i64 (p.1:Nat))]) [5,10,11,12,13,14,15,16,17,18,19,20,21,22,23,24] (fun p w=>(p.1≤z.o.n∧p.2.length=S.numF F p.1∧flatB p.2=S.selF F z.o.ids p.1)∧Ext w0 w∧JJ p.2 w) (fun p=>z.o.n - p.1) (0,[]) (by kernel_rfl) ⟨⟨Nat.zero_le _,rfl,rfl⟩,hW.tr M.ext,hJ _ _ _ none h0 (grown_ext M.ext) (fun r e=>by cases e)⟩ (fun p j w hI=>?_);obtain⟨⟨hp1,hp2,hp3⟩,hw0,hjj⟩:=hI;obtain⟨p,pre⟩:=p;dsimp only at hp1 hp2 hp3 hjj;simp only[upd,junk,List.map_cons,List.map_nil,List.set_cons_succ,List.set_cons_zero];refine J.from ?_;have D1':=D1.ext hw0;have hbsW:=hbs.ext hw0;refine run ?_;refine J.ifd rfl (fun c1=>?_) (fun c1=>?_)
 rotate_left
 ·refine run ?_;obtain rfl:p=z.o.n:=by omega
  unfold J;exact fun w' M=>⟨⟨_,rfl⟩, .inl ⟨pre,⟨hp2,hp3⟩,hJ _ _ _ none hjj (grown_ext M.ext) (fun r e=>by cases e)⟩⟩
 obtain⟨y,hy⟩:=ex (elt 32 z.o.ids ((p:Nat):Int).toNat);have hyA:Arr .u8 32 y:=hy▸D1.elt_arr (by omega);have hyi:S.idAt z.o.ids p=y:=by rw[hy,Int.toNat_natCast];rfl
 have hFp:F p=decide (¬S.inS s.on s.os y):=by rw[hF];unfold S.absF;rw[hyi]
 refine run ?_;refine J.alloc rfl fun b5=>?_
 refine J.staw rfl rfl ?_;refine J.nilN ?_;refine run0 ?_;refine J.regY 8 8 ?_;refine run ?_;refine J.ldOq hbsW rfl ?_;refine run ?_;refine J.callp rfl rfl (fun w' M=>hasID _ _ _ _ _ w' ((D0.ext hw0).ext M.ext) hyA (by omega)) ?_;refine run ?_;refine J.spt rfl rfl rfl (fun c2=>?_) (fun c2=>?_)
 ·have hFt:F p=true:=by rw[hFp];exact decide_eq_true (of_decide_eq_false c2)
  refine run ?_;refine J.nil ?_;unfold J;intro w1 M1;unfold KY;refine yield_step (vs:=[.agg (ints .u8 y).toArray]) rfl rfl rfl (hY pre ⟨y,hyA⟩ w1 (hJ _ _ _ none hjj (grown_ext M1.ext) (fun r e=>by cases e)) (by have:=S.numF_le F p;omega)) (fun e w2 he=>?_);rcases he with⟨rfl,hj2,hk2⟩|⟨rfl,hx2⟩
  ·refine⟨_,rfl,J.restY (S0:=no) ?_ (Mem.first w2)⟩;have hw2:Ext w0 w2:=(hw0.tr M1.ext).trans hk2;refine run ?_;unfold J;intro w3 M3;refine C.next (p+1,pre++[(⟨y,hyA⟩:IdB)]) ⟨rfl,trivial⟩ (by kernel_rfl) ⟨⟨by dsimp only;omega,?_,?_⟩,hw2.tr M3.ext,hJ _ _ _ none hj2 (grown_ext M3.ext) (fun r e=>by cases e)⟩ (by dsimp only;omega)
   ·dsimp only;rw[List.length_append,S.numF,hFt,hp2];rfl
   dsimp only;rw[flatB_snoc,hp3,S.selF,hFt,hyi];rfl
  refine⟨_,rfl,J.restY (S0:=no) ?_ (Mem.first w2)⟩;refine run ?_;unfold J;intro w3 M3;refine⟨⟨_,rfl⟩, .inr ⟨_,⟨by simp,?_⟩,hJx _ _ _ none hx2 (grown_ext M3.ext) (fun r e=>by cases e)⟩⟩;have h1:S.numF F (p+1)=S.numF F p+1:=by rw[S.numF,hFt];rfl
  exact Nat.pos_of_ne_zero fun h=>by have:=S.numF_zero.1 h p (by omega);rw[hFt]at this;cases this
 have hFf:F p=false:=by rw[hFp];exact decide_eq_false (not_not_intro (of_decide_eq_true c2))
 refine run ?_;refine J.nil ?_;unfold J;intro w1 M1;unfold KY;refine yield_skip rfl ?_;refine J.restY ?_ M1;refine run ?_;unfold J;intro w3 M3;refine C.next (p+1,pre) ⟨rfl,trivial⟩ (by kernel_rfl) ⟨⟨by dsimp only;omega,?_,?_⟩,hw0.tr M3.ext,hJ _ _ _ none hjj (grown_ext M3.ext) (fun r e=>by cases e)⟩ (by dsimp only;omega)
 ·dsimp only;rw[S.numF,hFf,hp2];rfl
 dsimp only;rw[S.selF,hFf,hp3];exact(List.append_nil _).symm
end W
end Go.Proofs.YtjjbdaiioociaaaGreatDoor
