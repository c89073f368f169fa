/-
  Part 16 of the lemmas of these laws: TopDag.
-/
import Derived.Test.YtjjbdaiioociaaaGreatDoorPTd15
set_option linter.unusedVariables false
set_option linter.unusedSimpArgs false
open Go.Proofs.Tryz
namespace Go.Proofs.YtjjbdaiioociaaaGreatDoor
namespace W
open Go.RowKit G
set_option maxRecDepth 20000
set_option maxHeartbeats 8000000
attribute [local irreducible] RS RX RY Code.wp bodyPost J Ent.blk Ent.iown Ent.wrow Ent.wown Ent.gown Ent.all Ent.emp
instance:Ents prog 152:=⟨.mk func152 (by kernel_rfl) rfl⟩
instance:Sca prog 213:=⟨_,underlying213,rfl⟩
instance:Inf prog 213 1 8 [.nilFunc]:=⟨TI.of (v:= .nilFunc) (by kernel_rfl) rfl⟩
instance:Siz prog 213 1:=⟨by kernel_rfl⟩
theorem GrR.pr{S0 T:Nat→Prop}{w w':World}{g:GrA}(h:GrR S0 w g)(x:Pr T w w')(hn:∀b,S0 b→T b→False):GrR S0 w' g:=⟨h.ids.pr x hn,h.ops.pr x hn,h.inn.pr x hn,h.ok,h.cap⟩
theorem GrR.here{S0:Nat→Prop}{w:World}{g:GrA}(h:GrR S0 w g):GrR (fun b=>b<w.heap.size) w g:=⟨⟨h.ids.row.weaken fun b hb _=>hb,h.ids.len,h.ids.bd⟩,⟨h.ops.row.weaken fun b hb _=>hb,h.ops.len,h.ops.szf⟩,fun z hz i hi=>⟨⟨(h.inn z hz i hi).1.row.weaken fun b hb _=>hb,(h.inn z hz i hi).1.len,(h.inn z hz i hi).1.bd⟩,(h.inn z hz i hi).2⟩,h.ok,h.cap⟩
@[reducible] def vsE(g:GrA)(l:List IdV)(b5 b6 b2 b7 bd bm:Nat)(f:List Bool):List Ent:=
  [.gown boC 1 4 (some ⟨bd,0,none⟩) g.m g.m f, .blk b6 [.slice (some ⟨bd,0,none⟩) g.m g.m] 112, .blk b5 [.map (some bm)] 110,mpiE bm l, .blk b2 (grC g) 65, .blk b7 [.func (.func 152) #[] #[.pointer (some ⟨b5,0,none⟩), .pointer (some ⟨b6,0,none⟩), .pointer (some ⟨b2,0,none⟩), .pointer (some ⟨b7,0,none⟩)]] 213]
structure ViA where
  (j:Nat)(f:List Bool)
theorem bx_get{f:List Bool}{i:Nat}{y:Bool}(h:f[((i:Nat):Int).toNat]? =some y):S.bX f i↔y=true:=by
  unfold S.bX;rw[Int.toNat_natCast]at h;rw[List.getD_eq_getElem?_getD,h];rfl
theorem ancVisit(g:GrA)(l:List IdV)(b5 b6 b2 b7 bd bm B:Nat)(h0:S.chkG g.m g.ids g.ops=0)(hl1:l.length=g.m)(hl2:flatI l=g.ids)(d:Nat→Nat)(hd:S.IsDp (S.prS g.m g.ids g.ops) g.m d):
    ∀(k i:Nat) (f:List Bool) (Z:Nat→Prop) (w:World),GrR (fun b=>b<B) w g→(∀b,Z b→B≤b)→B≤w.heap.size→Sep (vsE g l b5 b6 b2 b7 bd bm f) Z w→i<g.m→f.length=g.m→d i<k→
    Calls prog 152 #[.agg (ints .u8 (S.idAt g.ids i)).toArray, .pointer (some ⟨b5,0,none⟩), .pointer (some ⟨b6,0,none⟩), .pointer (some ⟨b2,0,none⟩), .pointer (some ⟨b7,0,none⟩)] w (Gm w Z (fun _:List Bool=> .tuple #[]) (fun q=>vsE g l b5 b6 b2 b7 bd bm q) (S.VisX (S.prS g.m g.ids g.ops) i f)):=by
  intro k
  induction k with
  |zero=>
    exact fun i f Z w _ _ _ _ _ _ h=>absurd h (Nat.not_lt_zero _)
  |succ k ih=>
    intro i f Z w G hZ hB hS hi hf hk;have D0:=G.ids;have G0:=G.ops;have hl:=G.len;have hcp:=G.cap;obtain⟨_,hmn,_,hr,ho,_⟩:=S.chkG_zero.1 h0;have hA:Arr .u8 32 (S.idAt g.ids i):=D0.elt_arr hi;have hfx:l.findIdx? (fun u=>decide (S.idAt g.ids i=u.xs))=some i:=by
      have:=find_ix hl1 hl2 hr (x:=S.idAt g.ids i) ⟨i,hi,rfl⟩;rwa[S.ix_eq hr hi]at this
    obtain⟨y,hy⟩:∃y,f[((i:Nat):Int).toNat]? =some y:=⟨_,List.getElem?_eq_getElem (by rw[Int.toNat_natCast];omega)⟩
    have hyb:=bx_get hy;obtain⟨z,hz⟩:=G0.ex (i:=((i:Nat):Int)) (by omega);have R:=G.op hz;have R0:=R.row;have h40:=R.ok.n;have hz':=hz;rw[Int.toNat_natCast]at hz';have hzo:=GrA.opAt hz';have hoi:=ho i (by omega);rw[hzo]at hoi;obtain⟨P,hP⟩:=ex (S.prS g.m g.ids g.ops);have hpl:(P i).length=z.o.n:=by rw[hP,S.prS_len,hzo]
    have hin0:i<g.n:=by omega
    rw[←hP]at hd ih⊢;have hdis:∀b,b<B→Z b→False:=fun b hb hb2=>absurd (hZ b hb2) (by omega);have hRG:∀L,RG Z w L opC 11 g.oa g.n g.zs:=fun L w' M=>⟨_,(G.pr M.pr hdis).ops⟩
    have hRW:∀L,RW Z w L .u8 32 z.pa z.o.n z.o.ids:=fun L w' M=>⟨_,((G.pr M.pr hdis).op hz).row⟩
    dsimp only[vsE]at hS⊢;refine J.enterM 29 hS func152 rfl rfl ?_;refine run ?_;refine J.box rfl rfl rfl fun b1=>?_
    refine run ?_;refine J.lookM (q:=⟨S.idAt g.ids i,hA.1⟩) rfl rfl hfx ?_;refine run ?_;refine J.drop (E:=[.gown boC 1 4 (some ⟨bd,0,none⟩) g.m g.m f, .blk b6 [.slice (some ⟨bd,0,none⟩) g.m g.m] 112, .blk b5 [.map (some bm)] 110,mpiE bm l, .blk b2 (grC g) 65, .blk b7 [.func (.func 152) #[] #[.pointer (some ⟨b5,0,none⟩), .pointer (some ⟨b6,0,none⟩), .pointer (some ⟨b2,0,none⟩), .pointer (some ⟨b7,0,none⟩)]] 213]) sb ?_;cases y with
    |true=>
      refine run ?_;exact J.finM f rfl (S.VisX.same (hyb.2 rfl)) sb
    |false=>
      refine run ?_;refine J.stG1 (i:=((i:Nat):Int)) rfl rfl (q:=true) rfl ?_;rw[Int.toNat_natCast i];refine run ?_;refine J.idxG rfl rfl (hRG _) ?_;refine run ?_;refine J.flG (i:=((i:Nat):Int)) rfl (hRG _) ?_;refine run ?_;refine J.ldGf (i:=((i:Nat):Int)) (off:=1) rfl (hRG _) ?_;refine run ?_;refine J.loop (A:=ViA) (fun p=>[(26, .int .i64 (p.j:Nat))]) [8,27,28,29,30,31,32,33] (fun p=>[.gown boC 1 4 (some ⟨bd,0,none⟩) g.m g.m p.f, .blk b6 [.slice (some ⟨bd,0,none⟩) g.m g.m] 112, .blk b5 [.map (some bm)] 110,mpiE bm l, .blk b2 (grC g) 65, .blk b7 [.func (.func 152) #[] #[.pointer (some ⟨b5,0,none⟩), .pointer (some ⟨b6,0,none⟩), .pointer (some ⟨b2,0,none⟩), .pointer (some ⟨b7,0,none⟩)]] 213]) (fun p=>p.j≤z.o.n∧S.VisL P i f p.j p.f) (fun p=>z.o.n - p.j) ⟨0,f.set i true⟩ (by kernel_rfl) ⟨Nat.zero_le _,S.VisL.first (by omega)⟩ (fun p j2 hI=>?_);obtain⟨j,f1⟩:=p;obtain⟨hj,V⟩:=hI;dsimp only at hj V⊢;have hfl:=V.len;refine run ?_;refine J.ifd rfl (fun c1=>?_) (fun c1=>?_)
      · have hAj:Arr .u8 32 (elt 32 z.o.ids j):=R0.elt_arr (by omega)
        have hin:S.inS g.m g.ids (elt 32 z.o.ids j):=hoi j (by omega);have hix:=S.ix_in hin;have hPj:(P i)[j]? =some (S.ixS g.m g.ids (elt 32 z.o.ids j)):=by
          have:=S.prS_get g.m g.ids g.ops i j (by rw[hzo];omega);rw[←hP,hzo]at this;rw[List.getElem?_eq_getElem (by omega)];rw[List.getD_eq_getElem?_getD,List.getElem?_eq_getElem (by omega),Option.getD_some]at this;rw[this];rfl
        obtain⟨q,hq⟩:=ex (S.ixS g.m g.ids (elt 32 z.o.ids j));rw[←hq]at hix hPj;have hdq:=S.isDp_pr hd hi (List.mem_of_getElem? hPj);have hgq:(P i).getD j 0=q:=by rw[List.getD_eq_getElem?_getD,hPj];rfl
        refine run ?_;refine J.idxW rfl rfl (hRW _) ?_;refine run ?_;refine J.ldW (i:=((j:Nat):Int)) (q:=S.idAt g.ids q) rfl (hRW _) ?_ (hq:=hix.2);refine run ?_;refine J.alloc rfl fun b8=>?_
        refine run ?_;refine J.drop (E:=[.gown boC 1 4 (some ⟨bd,0,none⟩) g.m g.m f1, .blk b6 [.slice (some ⟨bd,0,none⟩) g.m g.m] 112, .blk b5 [.map (some bm)] 110,mpiE bm l, .blk b2 (grC g) 65, .blk b7 [.func (.func 152) #[] #[.pointer (some ⟨b5,0,none⟩), .pointer (some ⟨b6,0,none⟩), .pointer (some ⟨b2,0,none⟩), .pointer (some ⟨b7,0,none⟩)]] 213]) sb ?_;refine J.callMv f1 (E:=vsE g l b5 b6 b2 b7 bd bm f1) (R:=[]) rfl rfl rfl (fun w' X M hx hs=>ih q f1 X w' (G.pr M.pr hdis) (fun b hb=>(hx b hb).elim (hZ b) fun h=>by omega) (Nat.le_trans hB M.le) hs hix.1 (by omega) (by omega)) fun f2 hf2=>?_
        refine run ?_;exact J.next ⟨j+1,f2⟩ ⟨rfl,trivial⟩ (by kernel_rfl) ⟨by dsimp only;omega,V.next (by omega) (by rw[hgq];exact hf2)⟩ (by dsimp only;omega)
      obtain rfl:j=z.o.n:=by omega
      refine run ?_;rw[←hpl]at V;exact J.finM f1 rfl V.done sb
def jsX(g:S.PG)(ids:List Int)(k:Nat):List Nat:=(List.range k).map fun j=>S.ixS g.m g.ids (S.idAt ids j)
theorem jsX_succ(g:S.PG)(ids:List Int)(k:Nat):jsX g ids (k+1)=jsX g ids k++[S.ixS g.m g.ids (S.idAt ids k)]:=by unfold jsX;rw[List.range_succ,List.map_append];rfl
theorem ancReach{S0 S1:Nat→Prop}(g:GrA)(a:Option Addr)(n c:Nat)(ids:List Int)(w:World)(G:GrR S0 w g)(h0:S.chkG g.m g.ids g.ops=0)(D1:WRow .u8 32 S1 w a n ids)(hin:S.allI g.m g.ids n ids)(hn:n≤1000):
    Calls prog 111 #[.agg (grC g).toArray, .slice a n c] w (Gv w (fun q:Nat×List Bool=> .slice (some ⟨q.1,0,none⟩) g.m g.m) (fun q=>[.gown boC 1 4 (some ⟨q.1,0,none⟩) g.m g.m q.2]) fun q=>S.RchX (S.prS g.m g.ids g.ops) (jsX g.P ids n) q.2):=by
  have G':=G.here;have D0:=G.ids;have hl:=G.len;have hcp:=G.cap;obtain⟨_,hmn,_,hr,ho,_⟩:=S.chkG_zero.1 h0;have F:g.P.fine:=(S.chk_fine (g:=g.P) D0.len).1 h0;obtain⟨l,hl1,hl2⟩:=chunks g.m g.ids D0.len;have GI:=wrow_grow hl2 hl1 D0;have hl3:=D1.len;obtain⟨rd,r1,r2,r3,r4⟩:=(S.found_ord (g:=g.P) F.good F.rising (fun i hi j hj=>ho i hi j hj)).2 F.ord;have hd:=S.dpL_is (N:=g.m) r1 r4 fun i hi=>S.nodup_all r1 r2 r3 hi;obtain⟨d,hd0⟩:=ex (S.dpL (S.prS g.m g.ids g.ops) rd);have hd:S.IsDp (S.prS g.m g.ids g.ops) g.m d:=hd0▸hd;refine J.enter 26 func111 rfl rfl ?_;refine run ?_;refine J.box rfl rfl rfl fun b2=>?_
  refine run ?_;refine J.call rfl rfl (fun w' M=>ancPlaces g l w' (GI.ext M.ext) hr hl2 (by omega)) fun bm _=>?_
  refine run ?_;refine J.alloc rfl fun b5=>?_
  refine run ?_;refine J.mkG boC false (fun _=>rfl) rfl rfl rfl rfl fun bd=>?_
  refine run ?_;refine J.alloc rfl fun b6=>?_
  refine run ?_;refine J.alloc rfl fun b7=>?_
  refine run ?_;refine J.fn (fs:=[]) (us:=[.pointer (some ⟨b5,0,none⟩), .pointer (some ⟨b6,0,none⟩), .pointer (some ⟨b2,0,none⟩), .pointer (some ⟨b7,0,none⟩)]) rfl rfl rfl ?_;refine run ?_;refine J.front (.blk b7 [.func (.func 152) #[] #[.pointer (some ⟨b5,0,none⟩), .pointer (some ⟨b6,0,none⟩), .pointer (some ⟨b2,0,none⟩), .pointer (some ⟨b7,0,none⟩)]] 213) ?_;refine J.front (.blk b2 (grC g) 65) ?_;refine J.front (mpiE bm l) ?_;refine J.front (.blk b5 [.map (some bm)] 110) ?_;refine J.front (.blk b6 [.slice (some ⟨bd,0,none⟩) g.m g.m] 112) ?_;refine J.front (.gown boC 1 4 (some ⟨bd,0,none⟩) g.m g.m (List.replicate g.m false)) ?_;refine J.drop (E:=[.gown boC 1 4 (some ⟨bd,0,none⟩) g.m g.m (List.replicate g.m false), .blk b6 [.slice (some ⟨bd,0,none⟩) g.m g.m] 112, .blk b5 [.map (some bm)] 110,mpiE bm l, .blk b2 (grC g) 65, .blk b7 [.func (.func 152) #[] #[.pointer (some ⟨b5,0,none⟩), .pointer (some ⟨b6,0,none⟩), .pointer (some ⟨b2,0,none⟩), .pointer (some ⟨b7,0,none⟩)]] 213]) sb ?_;refine J.loop (A:=ViA) (fun p=>[(19, .int .i64 (p.j:Nat))]) [9,20,21,22,23,24,25,26] (fun p=>[.gown boC 1 4 (some ⟨bd,0,none⟩) g.m g.m p.f, .blk b6 [.slice (some ⟨bd,0,none⟩) g.m g.m] 112, .blk b5 [.map (some bm)] 110,mpiE bm l, .blk b2 (grC g) 65, .blk b7 [.func (.func 152) #[] #[.pointer (some ⟨b5,0,none⟩), .pointer (some ⟨b6,0,none⟩), .pointer (some ⟨b2,0,none⟩), .pointer (some ⟨b7,0,none⟩)]] 213]) (fun p=>(p.j≤n∧p.f.length=g.m)∧S.RchX (S.prS g.m g.ids g.ops) (jsX g.P ids p.j) p.f) (fun p=>n - p.j) ⟨0,List.replicate g.m false⟩ (by kernel_rfl) ⟨⟨Nat.zero_le _,List.length_replicate⟩,S.RchX.first⟩ (fun p j2 hI=>?_);obtain⟨j,f1⟩:=p;obtain⟨⟨hj,hfl⟩,V⟩:=hI;dsimp only at hj hfl V⊢;refine run ?_;refine J.ifd rfl (fun c1=>?_) (fun c1=>?_)
  · have hix:=S.ix_in (hin j (by omega))
    obtain⟨q,hq⟩:=ex (S.ixS g.m g.ids (S.idAt ids j));rw[←hq]at hix;refine run ?_;rw[Int.toNat_natCast j,show elt 32 ids j=S.idAt g.ids q from hix.2.symm];refine J.alloc rfl fun b9=>?_
    refine run ?_;refine J.drop (E:=[.gown boC 1 4 (some ⟨bd,0,none⟩) g.m g.m f1, .blk b6 [.slice (some ⟨bd,0,none⟩) g.m g.m] 112, .blk b5 [.map (some bm)] 110,mpiE bm l, .blk b2 (grC g) 65, .blk b7 [.func (.func 152) #[] #[.pointer (some ⟨b5,0,none⟩), .pointer (some ⟨b6,0,none⟩), .pointer (some ⟨b2,0,none⟩), .pointer (some ⟨b7,0,none⟩)]] 213]) sb ?_;refine J.callMv f1 (E:=vsE g l b5 b6 b2 b7 bd bm f1) (R:=[]) rfl rfl rfl (fun w' X M hx hs=>ancVisit g l b5 b6 b2 b7 bd bm w.heap.size h0 hl1 hl2 d hd (d q+1) q f1 X w' (G'.ext M.ext) (fun b hb=>(hx b hb).elim (fun h=>h.elim) id) M.le hs hix.1 hfl (Nat.lt_succ_self _)) fun f2 hf2=>?_
    refine run ?_;exact J.next ⟨j+1,f2⟩ ⟨rfl,trivial⟩ (by kernel_rfl) ⟨⟨by dsimp only;omega,hf2.len.trans hfl⟩,by dsimp only;rw[jsX_succ,show S.ixS g.P.m g.P.ids (S.idAt ids j)=q from hq.symm];exact V.next hf2⟩ (by dsimp only;omega)
  obtain rfl:j=n:=by omega
  refine run ?_;exact J.finG (bd,f1) rfl V sb
instance:Ents prog 66:=⟨.mk func66 (by kernel_rfl) rfl⟩
instance:Ents prog 111:=⟨.mk func111 (by kernel_rfl) rfl⟩
structure BlA where
  (i n:Nat)(a:Option Addr)(c:Nat)(oa:Option Addr)(oc:Nat)(zs:List OpA)
theorem ancBelow{S0 S1:Nat→Prop}(g:GrA)(a:Option Addr)(n c:Nat)(ids:List Int)(TK:TypeId)(w:World)(K0:Kst w TK)(G:GrR S0 w g)(h0:S.chkG g.m g.ids g.ops=0)(D1:WRow .u8 32 S1 w a n ids)(hc:n≤c)(hrr:S.Rising n ids)(hn:n≤12)(hin:S.allI g.m g.ids n ids):
    Calls prog 65 #[.agg (grC g).toArray, .slice a n c] w (Gv w (fun q:GrA=> .tuple #[.agg (grC q).toArray, .int .i64 0]) (grE 23 34) fun q=>∃f,S.RchX (S.prS g.m g.ids g.ops) (jsX g.P ids n) f∧GrP (S.selP (fun a=>f.getD a false) g.P g.m).m (S.selP (fun a=>f.getD a false) g.P g.m).ids (S.selP (fun a=>f.getD a false) g.P g.m).ops q):=by
  have D0:=G.ids;have G0:=G.ops;have hl:=G.len;have hcp:=G.cap;obtain⟨_,hmn,_,hr,_,_⟩:=S.chkG_zero.1 h0;have hn0:S.numF (S.absF g.m g.ids ids) n=0:=S.abs_none.2 hin;refine J.enter 63 func65 rfl rfl ?_;refine run ?_;refine J.box rfl rfl rfl fun b2=>?_
  refine J.alloc rfl fun b4=>?_
  refine run ?_;refine J.call rfl rfl (fun w' M=>ancMissing g a n c ids TK w' (K0.ext M.ext) (G.ext M.ext) h0 (D1.ext M.ext) hc hrr hn) fun q hq=>?_
  obtain⟨qa,qn,qc⟩:=q;dsimp only at hq⊢;obtain rfl:qn=0:=hq.trans hn0;refine run ?_;refine J.alloc rfl fun b8=>?_
  refine run ?_;refine J.call rfl rfl (fun w' M=>ancReach g a n c ids w' (G.ext M.ext) h0 (D1.ext M.ext) hin (by omega)) fun q hq=>?_
  obtain⟨bd,f⟩:=q;dsimp only at hq⊢;refine J.fact (.gown boC 1 4 (some ⟨bd,0,none⟩) g.m g.m f) (fun _ _ h=>(gown_e h).1.len) fun hfl=>?_
  obtain⟨F,hF⟩:=ex (fun i=>f.getD i false);refine run ?_;refine J.nilWo 23 .u8 32 ?_;refine J.noA ?_;refine J.re (.all []) (.all (([]:List OpA).map (opE 23))) (fun _ _ h=>h) ?_;refine J.nilG opC 11 34 opC_len ?_;refine J.front (.blk b8 [.slice none 0 0, .slice none 0 0] 65) ?_;refine J.front (.wown 23 .u8 32 none 0 0 []) ?_;refine J.front (.all (([]:List OpA).map (opE 23))) ?_;refine J.front (.gown opC 11 34 none 0 0 []) ?_;refine J.drop (E:=[.gown opC 11 34 none 0 0 [], .all (([]:List OpA).map (opE 23)), .wown 23 .u8 32 none 0 0 [], .blk b8 [.slice none 0 0, .slice none 0 0] 65, .gown boC 1 4 (some ⟨bd,0,none⟩) g.m g.m f, .blk b4 [.slice none 0 0, .slice none 0 0] 65, .blk b2 (grC g) 65]) sb ?_;refine J.loop (A:=BlA) (fun p=>[(32, .int .i64 (p.i:Nat))]) [9,10,11,33,34,35,36,37,38,39,40,41,42,43,44,45,46,47,48,49,50,51,52,53,54,55,56,57,58,59,60,61,62,63] (fun p=>[.gown opC 11 34 p.oa p.n p.oc p.zs, .all (p.zs.map (opE 23)), .wown 23 .u8 32 p.a p.n p.c (S.selF F g.ids p.i), .blk b8 [.slice p.a p.n p.c, .slice p.oa p.n p.oc] 65, .gown boC 1 4 (some ⟨bd,0,none⟩) g.m g.m f, .blk b4 [.slice none 0 0, .slice none 0 0] 65, .blk b2 (grC g) 65]) (fun p=>p.i≤g.m∧p.n=S.numF F p.i∧p.zs.map OpA.o=S.selO F g.ops p.i∧∀z∈p.zs,z.o.n≤z.pc) (fun p=>g.m - p.i) ⟨0,0,none,0,none,0,[]⟩ (by kernel_rfl) ⟨Nat.zero_le _,rfl,rfl,fun z hz=>(by cases hz)⟩ (fun p j hI=>?_);obtain⟨pi,pn,pa,pc,poa,poc,zs⟩:=p;dsimp only at hI⊢;obtain⟨hp,hpn,hz1,hz2⟩:=hI;have hnle:=S.numF_le F pi;refine run ?_;refine J.ifd rfl (fun c1=>?_) (fun c1=>?_)
  · have hA:Arr .u8 32 (elt 32 g.ids pi):=D0.elt_arr (by omega)
    obtain⟨z,hz⟩:=G0.ex (i:=(pi:Nat)) (by omega);have R:=G.op hz;have R0:=R.row;have h40:=R.ok.n;have hz':=hz;rw[Int.toNat_natCast]at hz';have hzo:=GrA.opAt hz';obtain⟨y,hy⟩:∃y,f[((pi:Nat):Int).toNat]? =some y:=⟨_,List.getElem?_eq_getElem (by rw[Int.toNat_natCast];omega)⟩
    have ey:F pi=y:=by rw[hF];rw[Int.toNat_natCast]at hy;show f.getD pi false=y;rw[List.getD_eq_getElem?_getD,hy];rfl
    refine run ?_;cases y with
    |true=>
      have e3:S.selF F g.ids pi++elt 32 g.ids pi=S.selF F g.ids (pi+1):=by rw[S.selF,ey];rfl
      have e4:S.numF F (pi+1)=pn+1:=by rw[S.numF,ey,←hpn];rfl
      have e5:S.selO F g.ops (pi+1)=S.selO F g.ops pi++[z.o]:=by rw[S.selO,ey,hzo];rfl
      refine run ?_;refine J.alloc rfl fun b11=>?_
      refine run ?_;refine J.call rfl rfl (fun w' M=>cloneW _ _ _ _ w' (R0.ext M.ext) R.cap (by omega)) fun q hq1=>?_
      refine run ?_;refine J.re (.blk b11 [.int .u32 z.o.au, .slice q.1 z.o.n q.2, .int .u64 z.o.st, .int .u8 z.o.k, .string z.o.key, .int .u8 z.o.vk, .int .i64 z.o.num, .int .u64 z.o.bits, .string z.o.t, .int .u32 z.o.e, .int .u32 z.o.s] 34) (.blk b11 (opC ⟨z.o,q.1,q.2⟩) 34) (fun _ _ h=>h) ?_;refine J.snocA (zs.map (opE 23)) (.wown 23 .u8 32 q.1 z.o.n q.2 z.o.ids) ?_;refine J.re (.all (zs.map (opE 23)++[.wown 23 .u8 32 q.1 z.o.n q.2 z.o.ids])) (.all ((zs++[(⟨z.o,q.1,q.2⟩:OpA)]).map (opE 23))) (fun _ _ h=>by rw[List.map_append];exact h) ?_;refine J.regionG [.blk b11 (opC ⟨z.o,q.1,q.2⟩) 34, .blk b8 [.slice pa pn pc, .slice poa pn poc] 65, .blk b2 (grC g) 65] [15,17] [16] mixed ?_;refine J.gnode [(0, .q),(1, .q),(2, .q),(3, .q),(4, .q),(5, .q),(6, .q),(9, .q),(10, .q),(11, .q)] [7,12] 7 #[true,true,true,true,true,true,true,false,false,true,true,true,false,false,false,false,false,false] (by kernel_rfl) ?_;refine run ?_;refine J.nil ?_;refine J.gbr ?_ ?_
      · rw[Int.toNat_natCast pi]
        refine J.b1W rfl rfl hA fun bb=>?_
        refine J.nil ?_;refine J.gnode [] [8,12] 6 #[true,true,true,true,true,true,true,true,false,true,true,true,false,false,false,false,false,false] (by kernel_rfl) ?_;refine run ?_;refine J.nil ?_;refine J.gbr ?_ ?_
        · refine J.apW rfl rfl RW.own' fun a' c'=>?_
          refine J.nil ?_;refine J.gfin [(14, .q),(12, .e),(13, .e),(15, .g),(16, .c),(17, .g)] (by kernel_rfl) ?_;refine run ?_;refine J.b1G opC ⟨z.o,q.1,q.2⟩ opC_len rfl rfl rfl fun bc=>?_
          refine run ?_;refine J.apG rfl rfl RG.own' opC_one fun oa' oc'=>?_
          refine J.sw rfl ?_;refine run ?_;rw[e3];refine J.front (.blk b8 [.slice a' (pn+1) c', .slice oa' (pn+1) oc'] 65) ?_;refine J.front (.wown 23 .u8 32 a' (pn+1) c' (S.selF F g.ids (pi+1))) ?_;refine J.front (.all ((zs++[(⟨z.o,q.1,q.2⟩:OpA)]).map (opE 23))) ?_;refine J.front (.gown opC 11 34 oa' (pn+1) oc' (zs++[⟨z.o,q.1,q.2⟩])) ?_;refine run ?_;refine J.drop (E:=[.gown opC 11 34 oa' (pn+1) oc' (zs++[⟨z.o,q.1,q.2⟩]), .all ((zs++[(⟨z.o,q.1,q.2⟩:OpA)]).map (opE 23)), .wown 23 .u8 32 a' (pn+1) c' (S.selF F g.ids (pi+1)), .blk b8 [.slice a' (pn+1) c', .slice oa' (pn+1) oc'] 65, .gown boC 1 4 (some ⟨bd,0,none⟩) g.m g.m f, .blk b4 [.slice none 0 0, .slice none 0 0] 65, .blk b2 (grC g) 65]) sb ?_
          exact J.next ⟨pi + 1, pn + 1, a', c', oa', oc', zs ++ [⟨z.o, q.1, q.2⟩]⟩ ⟨rfl, trivial⟩ (by kernel_rfl) ⟨by dsimp only; omega, e4.symm, by dsimp only; rw [List.map_append, hz1, e5]; rfl, fun y hy => by
            rcases List.mem_append.1 hy with h | h
            · exact hz2 y h
            · rw [List.mem_singleton] at h; subst h; exact hq1⟩ (by dsimp only; omega)
        refine J.gbr ?_ ?_
        · refine J.b1G opC ⟨z.o,q.1,q.2⟩ opC_len rfl rfl rfl fun bc=>?_
          refine J.nil ?_;refine J.gfin [(8, .e),(14, .q),(13, .e),(15, .g),(16, .c),(17, .g)] (by kernel_rfl) ?_;refine run ?_;refine J.apW rfl rfl RW.own' fun a' c'=>?_
          refine run ?_;refine J.apG rfl rfl RG.own' opC_one fun oa' oc'=>?_
          refine J.sw rfl ?_;refine run ?_;rw[e3];refine J.front (.blk b8 [.slice a' (pn+1) c', .slice oa' (pn+1) oc'] 65) ?_;refine J.front (.wown 23 .u8 32 a' (pn+1) c' (S.selF F g.ids (pi+1))) ?_;refine J.front (.all ((zs++[(⟨z.o,q.1,q.2⟩:OpA)]).map (opE 23))) ?_;refine J.front (.gown opC 11 34 oa' (pn+1) oc' (zs++[⟨z.o,q.1,q.2⟩])) ?_;refine run ?_;refine J.drop (E:=[.gown opC 11 34 oa' (pn+1) oc' (zs++[⟨z.o,q.1,q.2⟩]), .all ((zs++[(⟨z.o,q.1,q.2⟩:OpA)]).map (opE 23)), .wown 23 .u8 32 a' (pn+1) c' (S.selF F g.ids (pi+1)), .blk b8 [.slice a' (pn+1) c', .slice oa' (pn+1) oc'] 65, .gown boC 1 4 (some ⟨bd,0,none⟩) g.m g.m f, .blk b4 [.slice none 0 0, .slice none 0 0] 65, .blk b2 (grC g) 65]) sb ?_
          exact J.next ⟨pi + 1, pn + 1, a', c', oa', oc', zs ++ [⟨z.o, q.1, q.2⟩]⟩ ⟨rfl, trivial⟩ (by kernel_rfl) ⟨by dsimp only; omega, e4.symm, by dsimp only; rw [List.map_append, hz1, e5]; rfl, fun y hy => by
            rcases List.mem_append.1 hy with h | h
            · exact hz2 y h
            · rw [List.mem_singleton] at h; subst h; exact hq1⟩ (by dsimp only; omega)
        exact J.gbr0
      refine J.gbr ?_ ?_
      · refine J.b1G opC ⟨z.o,q.1,q.2⟩ opC_len rfl rfl rfl fun bc=>?_
        refine J.nil ?_;refine J.gfin [(7, .e),(8, .e),(14, .q),(13, .e),(15, .g),(16, .c),(17, .g)] (by kernel_rfl) ?_;refine run ?_;rw[Int.toNat_natCast pi];refine J.b1W rfl rfl hA fun bb=>?_
        refine run ?_;refine J.apW rfl rfl RW.own' fun a' c'=>?_
        refine run ?_;refine J.apG rfl rfl RG.own' opC_one fun oa' oc'=>?_
        refine J.sw rfl ?_;refine run ?_;rw[e3];refine J.front (.blk b8 [.slice a' (pn+1) c', .slice oa' (pn+1) oc'] 65) ?_;refine J.front (.wown 23 .u8 32 a' (pn+1) c' (S.selF F g.ids (pi+1))) ?_;refine J.front (.all ((zs++[(⟨z.o,q.1,q.2⟩:OpA)]).map (opE 23))) ?_;refine J.front (.gown opC 11 34 oa' (pn+1) oc' (zs++[⟨z.o,q.1,q.2⟩])) ?_;refine run ?_;refine J.drop (E:=[.gown opC 11 34 oa' (pn+1) oc' (zs++[⟨z.o,q.1,q.2⟩]), .all ((zs++[(⟨z.o,q.1,q.2⟩:OpA)]).map (opE 23)), .wown 23 .u8 32 a' (pn+1) c' (S.selF F g.ids (pi+1)), .blk b8 [.slice a' (pn+1) c', .slice oa' (pn+1) oc'] 65, .gown boC 1 4 (some ⟨bd,0,none⟩) g.m g.m f, .blk b4 [.slice none 0 0, .slice none 0 0] 65, .blk b2 (grC g) 65]) sb ?_
        exact J.next ⟨pi + 1, pn + 1, a', c', oa', oc', zs ++ [⟨z.o, q.1, q.2⟩]⟩ ⟨rfl, trivial⟩ (by kernel_rfl) ⟨by dsimp only; omega, e4.symm, by dsimp only; rw [List.map_append, hz1, e5]; rfl, fun y hy => by
          rcases List.mem_append.1 hy with h | h
          · exact hz2 y h
          · rw [List.mem_singleton] at h; subst h; exact hq1⟩ (by dsimp only; omega)
      exact J.gbr0
    |false=>
      have e3:S.selF F g.ids pi=S.selF F g.ids (pi+1):=by rw[S.selF,ey];exact(List.append_nil _).symm
      have e4:S.numF F (pi+1)=pn:=by rw[S.numF,ey,←hpn];rfl
      have e5:S.selO F g.ops (pi+1)=S.selO F g.ops pi:=by rw[S.selO,ey];exact List.append_nil _
      rw[e3];refine run ?_;exact J.next ⟨pi+1,pn,pa,pc,poa,poc,zs⟩ ⟨rfl,trivial⟩ (by kernel_rfl) ⟨by dsimp only;omega,e4.symm,by rw[e5];exact hz1,hz2⟩ (by dsimp only;omega)
  obtain rfl:pi=g.m:=by omega
  refine run ?_;refine J.finG ⟨pa,poa,pn,pn,pc,poc,S.selF F g.ids g.m,zs⟩ rfl ⟨f,hq,?_⟩ (by unfold grE;repeat(first|exact List.nil_sublist _|refine List.Sublist.cons_cons _ ?_|refine List.Sublist.cons _ ?_));subst hF;exact⟨hpn,rfl,hpn.trans (S.selO_len _ _ _).symm,hz1,hz2⟩
theorem StZ.zero:StZ S.StV.zero:=⟨fun p hp=>(by cases hp),⟨Nat.zero_le _,Nat.zero_le _⟩,fun _=>Nat.zero_le _,Nat.zero_le _⟩
theorem StZ.nw(c n:Int):StZ (S.nwT c n):=by
 by_cases h:(1≤c∧c≤40)∧1≤n∧n≤4
 ·rw[(S.nwT_0 h).1];refine⟨fun p hp=>?_,⟨?_,Nat.zero_le _⟩,fun _=>Nat.le_trans (S.allN_made S.nil_fine) (Nat.zero_le _),Nat.zero_le _⟩
  ·obtain⟨i,hi,rfl⟩:=List.mem_map.1 hp;obtain⟨h1,h2⟩:=S.prt_size S.PG.nil n.toNat i;exact⟨Nat.le_trans h1 (Nat.zero_le _),Nat.le_trans h2 (Nat.zero_le _)⟩
  show(S.madeS _ _).ps.length≤6;rw[S.made_len];omega
 rw[(S.nwT_2 h).1];exact StZ.zero
theorem StZ.ofS{v:S.StV}(o:S.OpV)(hz:StZ v)(hg:S.StG v):StZ (S.ofS v o):=by
 by_cases c:S.askE v o=0
 ·obtain⟨hok,hv⟩:=S.askE_0 c;rw[(S.of_yes c).1];exact hz.off hg hok hv
 rw[(S.of_no c).1];exact StZ.zero
theorem StZ.runS{v:S.StV}(l:List S.OpV)(hz:StZ v)(hg:S.StG v):StZ (S.runS v l):=by
 by_cases c:S.runE v l=0
 ·rw[(S.run_yes c).1];have hok:S.okT v:=Classical.byContradiction fun h=>by rw[S.runE_8 h]at c;exact absurd c (by decide)
  have h60:¬60<l.length:=fun h=>by rw[S.runE_4 hok h]at c;exact absurd c (by decide)
  rw[S.runE_v hok h60]at c;exact hz.run hg hok (S.verL_zero.1 c) _ (Nat.le_refl _)
 rw[(S.run_no c).1];exact StZ.zero
theorem grI_ops {S0 : Nat → Prop} {w : World} {a : Option Addr} {n c : Nat} {zs : List OpA} (hR : GRow opC 11 S0 w a n zs) (hQ : ∀ z ∈ zs, z.o.rng ∧ z.o.n ≤ z.pc ∧ WRow .u8 32 S0 w z.pa z.o.n z.o.ids) (hc : n ≤ c) : GrI S0 w ⟨none, a, 0, n, 0, c, [], zs⟩ := ⟨WRow.nil, hR, fun z hz i hi => by
 obtain rfl := List.mem_singleton.1 hi
 exact ⟨(hQ z hz).2.2, (hQ z hz).2.1⟩, fun z hz => (hQ z hz).1, Nat.le_refl _, hc⟩
end W
namespace G
open Go.RowKit
theorem J.know{S0:Nat→Prop}{w0:World}{L:List Ent}{X:World→Prop}{p:Prop}(h:∀w,Mem S0 w0 L w→p)(k:p→J S0 w0 L X):J S0 w0 L X:=fun w M=>k (h w M) w M
theorem rs_mono{P:Program}{ops:Array Oper}{K K':List Value→World→Prop}(hk:∀l w,K l w→K' l w):∀(os:List Oper) (l:List Value) (w:World),RS P ops K os l w→RS P ops K' os l w
 |[],l,w,h=>by
  unfold RS at h⊢;exact hk l w h
 |o::rest,l,w,h=>by
  unfold RS at h⊢;split at h
  ·rename_i c;rw[if_pos c];unfold Oper.wp at h⊢;exact upon_mono (fun a w ⟨l',e,h⟩=>⟨l',e,rs_mono hk rest l' w h⟩) (fun _ _ _ h=>h) h
  ·rename_i c;rw[if_neg c];exact rs_mono hk rest _ w h
/-! ### parts in another order -/
theorem Sep.perm{E E':List Ent}(h:E.Perm E'):∀ {U:Nat→Prop} {w:World},Sep E U w→Sep E' U w:=by
 induction h with
 |nil=>exact fun h=>h
 |cons x _ ih=>exact fun⟨S,T,h1,h2,h3,h4,h5⟩=>⟨S,T,h1,h2,h3,h4,ih h5⟩
 |swap x y l=>
  rintro U w ⟨S1,T1,a1,a2,a3,a4,S2,T2,b1,b2,b3,b4,b5⟩;exact⟨S2,fun b=>S1 b∨T2 b,fun b hb=>a2 b (b1 b hb),fun b hb=>hb.elim (a1 b) (fun k=>a2 b (b2 b k)),fun b hb hc=>hc.elim (fun k=>a3 b k (b1 b hb)) (b3 b hb),b4,S1,T2,fun b hb=> .inl hb,fun b hb=> .inr hb,fun b hb hc=>a3 b hb (b2 b hc),a4,b5⟩
 |trans _ _ ih1 ih2=>exact fun h=>ih2 (ih1 h)
theorem Sep.parts:∀ {E L:List Ent} {U:Nat→Prop} {w:World},Sep (E++L) U w→∃S T:Nat→Prop,(∀b,S b→U b)∧(∀b,T b→U b)∧(∀b,S b→T b→False)∧Sep E S w∧Sep L T w
 |[],L,U,w,h=>⟨no,U,fun _ h=>h.elim,fun _ h=>h,fun _ h=>h.elim,trivial,h⟩
 |e::E,L,U,w,⟨A,B,h1,h2,h3,h4,h5⟩=>by
  obtain⟨S,T,g1,g2,g3,g4,g5⟩:=Sep.parts h5;exact⟨fun b=>A b∨S b,T,fun b hb=>hb.elim (h1 b) (fun k=>h2 b (g1 b k)),fun b hb=>h2 b (g2 b hb),fun b hb hc=>hb.elim (fun k=>h3 b k (g2 b hc)) (fun k=>g3 b k hc),⟨A,S,fun b hb=> .inl hb,fun b hb=> .inr hb,fun b hb hc=>h3 b hb (g1 b hc),h4,g4⟩,g5⟩
theorem Sep.pack{E V L:List Ent}{U:Nat→Prop}{w:World}(h:Sep (E++(V++L)) U w):Sep (E++ .all V::L) U w:=by
 obtain⟨S,T,h1,h2,h3,h4,h5⟩:=h.parts;obtain⟨S2,T2,g1,g2,g3,g4,g5⟩:=h5.parts;exact Sep.app (T:=T) h4 ⟨S2,T2,g1,g2,g3,(show(Ent.all V).ok S2 w by unfold Ent.all;exact g4),g5⟩ h1 h2 h3
theorem Sep.unpack{E V L:List Ent}{U:Nat→Prop}{w:World}(h:Sep (E++ .all V::L) U w):Sep (E++(V++L)) U w:=by
 obtain⟨S,T,h1,h2,h3,h4,h5⟩:=h.parts;obtain⟨S2,T2,g1,g2,g3,g4,g5⟩:=h5;exact Sep.app (T:=T) h4 (Sep.app (show Sep V S2 w by unfold Ent.all at g4;exact g4) g5 g1 g2 g3) h1 h2 h3
theorem Mem.perm{S0:Nat→Prop}{w0 w:World}{L L':List Ent}(M:Mem S0 w0 L w)(h:L.Perm L'):Mem S0 w0 L' w:=⟨M.pr,M.sep.perm h⟩
/-! ### what is said of each operation -/
structure Cl(δ:Type) where
 dst:Option Nat
 val:(Nat→δ)→Value
 own:(Nat→δ)→List Ent
 p:(Nat→δ)→Prop
 dep:List Nat
 use:List Nat
 eat:List Nat
def hasN(l:List Nat)(j:Nat):Bool:=l.any (Nat.beq j)
theorem hasN_iff{l:List Nat}{j:Nat}:hasN l j=true↔j∈l:=by
 unfold hasN;rw[List.any_eq_true];exact⟨fun⟨x,h1,h2⟩=>Nat.eq_of_beq_eq_true h2▸h1,fun h=>⟨j,h,Nat.beq_refl j⟩⟩
section
variable{δ:Type}
def msk(i:Nat)(dep:List Nat)(c:Nat→δ):Nat→δ:=fun j=>cond (Nat.beq j i||hasN dep j) (c j) (c i)
theorem msk_eq{i:Nat}{dep:List Nat}{c c':Nat→δ}(h0:c i=c' i)(h:∀j∈dep,c j=c' j):msk i dep c=msk i dep c':=by
 funext j;unfold msk;cases e:(Nat.beq j i||hasN dep j)
 ·exact h0
 ·rw[Bool.or_eq_true]at e;rcases e with e|e
  ·obtain rfl:=Nat.eq_of_beq_eq_true e;exact h0
  ·exact h j (hasN_iff.1 e)
def put(c:Nat→δ)(i:Nat)(x:δ):Nat→δ:=fun j=>cond (Nat.beq j i) x (c j)
theorem put_ne{c:Nat→δ}{i j:Nat}{x:δ}(h:j≠i):put c i x j=c j:=by
 unfold put;cases e:Nat.beq j i
 ·rfl
 ·exact absurd (Nat.eq_of_beq_eq_true e) h
variable(T:List (Cl δ))
def clAt(i:Nat):Cl δ:=T.getD i ⟨none,fun _=>undef,fun _=>[],fun _=>True,[],[],[]⟩
def clV(i:Nat)(c:Nat→δ):Value:=(clAt T i).val (msk i (clAt T i).dep c)
def clO(i:Nat)(c:Nat→δ):List Ent:=(clAt T i).own (msk i (clAt T i).dep c)
def clP(i:Nat)(c:Nat→δ):Prop:=(clAt T i).p (msk i (clAt T i).dep c)
def dstD:List Nat:=T.filterMap Cl.dst
def depD(i:Nat):List Nat:=(clAt T i).dep.filterMap fun j=>(clAt T j).dst
def useF(i:Nat)(c:Nat→δ):List Ent:=((List.range T.length).filter fun j=>hasN (clAt T i).use j).flatMap fun j=>clO T j c
def keepF(i:Nat)(c:Nat→δ):List Ent:=((List.range T.length).filter fun j=>hasN (clAt T i).use j&& !hasN (clAt T i).eat j).flatMap fun j=>clO T j c
def MF(i:Nat)(c:Nat→δ):List (Nat×Value):=(clAt T i).dep.filterMap fun j=>(clAt T j).dst.map fun d=>(d,clV T j c)
def JF(i:Nat):List Nat:=(dstD T).filter fun d=> !hasN (depD T i) d
def frF(lb:List Value)(i:Nat)(c:Nat→δ)(v:Nat→Value):List Value:=upd (upd lb (MF T i c)) (junk (JF T i) v)
def OutF(S0:Nat→Prop)(w0:World)(L:List Ent)(i:Nat)(F:Ent)(c:Nat→δ)(l l':List Value)(w':World):Prop:=∃x,clP T i (put c i x)∧l'=putL (clAt T i).dst (clV T i (put c i x)) l∧Mem S0 w0 (clO T i (put c i x)++(keepF T i c++F::L)) w'
def stepF(S0:Nat→Prop)(w0:World)(L:List Ent)(P:Program)(l0:List Oper)(lb:List Value)(i:Nat):Prop:=∀(F:Ent) (c:Nat→δ) (v:Nat→Value),(∀j∈(clAt T i).dep,clP T j c)→J S0 w0 (useF T i c++F::L) (RY S0 w0 .s P l0.toArray (OutF T S0 w0 L i F c (frF T lb i c v)) [(nth l0 i, .e)] (frF T lb i c v))
def stepsF(S0:Nat→Prop)(w0:World)(L:List Ent)(P:Program)(l0:List Oper)(lb:List Value):List Nat→Prop
 |[]=>True
 |i::r=>stepF T S0 w0 L P l0 lb i∧stepsF S0 w0 L P l0 lb r
def dn(n:Nat)(li:Array Bool)(j:Nat):Bool:=li.getD j false||Nat.ble n j
def slF(c:Nat→δ):List (Nat×Value):=(List.range T.length).filterMap fun j=>(clAt T j).dst.map fun d=>(d,clV T j c)
def endF(c:Nat→δ):List Ent:=((List.range T.length).filter fun j=> !(List.range T.length).any fun k=>hasN (clAt T k).eat j).flatMap fun j=>clO T j c
def allF(c:Nat→δ):List Nat→Prop
 |[]=>True
 |i::r=>clP T i c∧allF c r
def checkF(l0:List Oper)(n:Nat):Bool:=
 Nat.ble l0.length T.length && (((List.range T.length).all fun i => Nat.blt i l0.length || ((clAt T i).dst.isNone && ((clAt T i).dep.isEmpty && (clAt T i).eat.isEmpty))) && ((List.range l0.length).all fun i => (nth l0 i).dst == (clAt T i).dst && ((nth l0 i).guard.isNone && (((nth l0 i).after.all fun e => !Region.binds .any e || Nat.blt e.on i) &&
  (((clAt T i).dep.all fun j => Nat.blt j T.length && (hasN (ancL l0.toArray 5000 (depsL l0.toArray i) []) j || Nat.ble l0.length j)) && (((clAt T i).use.all fun j => hasN (clAt T i).dep j) && (((clAt T i).eat.all fun j => hasN (clAt T i).use j) &&
  ((List.range l0.length).all fun k => Nat.beq k i || (!((clAt T k).eat.any fun j => hasN (clAt T i).use j) || hasN (ancL l0.toArray 5000 (depsL l0.toArray k) []) i))))))))) && (decide (dstD T).Nodup && (dstD T).all fun d => Nat.blt d n)
variable{T}
theorem stepsF_mem{S0:Nat→Prop}{w0:World}{L:List Ent}{P:Program}{l0:List Oper}{lb:List Value}:∀ {is:List Nat},stepsF T S0 w0 L P l0 lb is→∀i∈is,stepF T S0 w0 L P l0 lb i
 |[],_,i,hi=>by cases hi
 |j::r,h,i,hi=>by
  rcases List.mem_cons.1 hi with rfl|hi
  ·exact h.1
  ·exact stepsF_mem h.2 i hi
theorem allF_of{c:Nat→δ}:∀ {is:List Nat},(∀i∈is,clP T i c)→allF T c is
 |[],_=>trivial
 |i::r,h=>⟨h i (List.mem_cons_self ..),allF_of fun j hj=>h j (List.mem_cons_of_mem _ hj)⟩
theorem FF_same{l lb:List Value}(ds:List Nat)(hl:l.length=lb.length)(h:∀s,s∉ds→l[s]? =lb[s]?):FF lb ds (fun s=>l.getD s undef)=l:=by
 apply List.ext_getElem?;intro s;rw[FF_get];by_cases c:s∈ds∧s<lb.length
 ·rw[if_pos c,List.getD_eq_getElem?_getD,List.getElem?_eq_getElem (by omega)];rfl
 ·rw[if_neg c];by_cases k:s∈ds
  ·have:¬s<lb.length:=fun h=>c ⟨k,h⟩;rw[List.getElem?_eq_none (by omega),List.getElem?_eq_none (by omega)]
  ·exact(h s k).symm
theorem fmap_slots{l:List Value}{c:Nat→δ}:∀(js:List Nat),(∀j∈js,∀d,(clAt T j).dst=some d→l.getD d undef=clV T j c)→(js.filterMap fun j=>(clAt T j).dst.map fun d=>(d,clV T j c))=(js.filterMap fun j=>(clAt T j).dst).map fun d=>(d,l.getD d undef)
 |[],_=>rfl
 |j::r,h=>by
  have ih:=fmap_slots r fun k hk=>h k (List.mem_cons_of_mem _ hk);cases e:(clAt T j).dst with
  |none=>rw[List.filterMap_cons_none (f:=fun j=>(clAt T j).dst.map fun d=>(d,clV T j c)) (by rw[e];rfl),List.filterMap_cons_none (f:=fun j=>(clAt T j).dst) e,ih]
  |some d=>rw[List.filterMap_cons_some (f:=fun j=>(clAt T j).dst.map fun d=>(d,clV T j c)) (by rw[e];rfl),List.filterMap_cons_some (f:=fun j=>(clAt T j).dst) e,ih,List.map_cons,h j (List.mem_cons_self ..) d e]
structure OkF(T:List (Cl δ))(S0:Nat→Prop)(w0:World)(L:List Ent)(l0:List Oper)(lb:List Value)(li:Array Bool)(c:Nat→δ)(l:List Value)(w:World):Prop where
 sz:li.size=l0.length
 cl:Closed l0.toArray li
 len:l.length=lb.length
 out:∀s,s∉dstD T→l[s]? =lb[s]?
 val:∀i,i<T.length→dn l0.length li i=true→∀d,(clAt T i).dst=some d→l.getD d undef=clV T i c
 p:∀i,i<T.length→dn l0.length li i=true→clP T i c
 mem:Mem S0 w0 (((List.range T.length).filter fun j=>dn l0.length li j&& !(List.range T.length).any fun k=>dn l0.length li k&&hasN (clAt T k).eat j).flatMap (fun j=>clO T j c)++L) w
theorem nodupF{n:Nat}(f:Nat→Bool):((List.range n).filter f).Nodup:=List.Pairwise.filter _ List.nodup_range
theorem flat_congr{α β:Type}{f g:α→List β}:∀ {l:List α},(∀x∈l,f x=g x)→l.flatMap f=l.flatMap g
 |[],_=>rfl
 |x::l,h=>by rw[List.flatMap_cons,List.flatMap_cons,h x (List.mem_cons_self ..),flat_congr fun y hy=>h y (List.mem_cons_of_mem _ hy)]
theorem anyF{S0:Nat→Prop}{w0:World}{L:List Ent}{P:Program}{l0:List Oper}{lb:List Value}{Q:Act→World→Prop}(hB:checkF T l0 lb.length=true)(hst:∀i,i<l0.length→stepF T S0 w0 L P l0 lb i)
  (hend:∀c w,(∀i,i<T.length→clP T i c)→Mem S0 w0 (endF T c++L) w→Q (fr (upd lb (slF T c))) w):
  ∀(n:Nat) (li:Array Bool) (c:Nat→δ) (l:List Value) (w:World),cntU l0.length li=n→OkF T S0 w0 L l0 lb li c l w→wpX P l0.toArray (fun _ _=>True) [] Q n li (fr l) w:=by
 simp only[checkF,Bool.and_eq_true,decide_eq_true_eq]at hB;obtain⟨⟨hN,hvt,hall⟩,hnd,hdl⟩:=hB;have hN:l0.length≤T.length:=Nat.le_of_ble_eq_true hN;have virt:∀i,l0.length≤i→i<T.length→(clAt T i).dst=none∧(clAt T i).dep=[]∧(clAt T i).eat=[]:=fun i h1 h2=>by
  have:=List.all_eq_true.1 hvt i (List.mem_range.2 h2);simp only[Bool.or_eq_true,Bool.and_eq_true,Option.isNone_iff_eq_none,List.isEmpty_iff]at this;rcases this with h|h
  ·rw[Nat.blt_eq]at h;omega
  ·exact h
 have dn_lt:∀ {li:Array Bool} {j:Nat},j<l0.length→dn l0.length li j=li.getD j false:=fun {li j} h=>by
  unfold dn;have:Nat.ble l0.length j=false:=by rw[Bool.eq_false_iff];intro e;have:=Nat.le_of_ble_eq_true e;omega
  rw[this,Bool.or_false]
 have dn_ge:∀ {li:Array Bool} {j:Nat},l0.length≤j→dn l0.length li j=true:=fun {li j} h=>by
  unfold dn;rw[Nat.ble_eq_true_of_le h,Bool.or_true]
 have one:∀i,i<l0.length→(nth l0 i).dst=(clAt T i).dst∧(nth l0 i).guard=none∧(∀e∈(nth l0 i).after,Region.binds .any e=true→e.on<i)∧(∀j∈(clAt T i).dep,j<T.length∧(j∈ancL l0.toArray 5000 (depsL l0.toArray i) []∨l0.length≤j))∧(∀j∈(clAt T i).use,j∈(clAt T i).dep)∧(∀j∈(clAt T i).eat,j∈(clAt T i).use)∧(∀k,k<l0.length→k≠i→∀j∈(clAt T k).eat,j∈(clAt T i).use→i∈ancL l0.toArray 5000 (depsL l0.toArray k) []):=by
  intro i hi;have:=List.all_eq_true.1 hall i (List.mem_range.2 hi);simp only[Bool.and_eq_true,beq_iff_eq,Option.isNone_iff_eq_none,List.all_eq_true,Array.all_eq_true_iff_forall_mem,Bool.or_eq_true,Bool.not_eq_true',hasN_iff,List.mem_range]at this;obtain⟨h1,h2,h3,h4,h5,h6,h7⟩:=this;refine⟨h1,h2,fun e he hb=>?_,fun j hj=>?_,h5,h6,fun k hk hne j hj hu=>?_⟩
  ·rcases h3 e he with h|h
   ·rw[hb]at h;cases h
   ·rwa[Nat.blt_eq]at h
  ·have:=h4 j hj;rw[Nat.blt_eq]at this;exact⟨this.1,this.2.imp_right Nat.le_of_ble_eq_true⟩
  ·rcases h7 k hk with h|h|h
   ·exact absurd (Nat.eq_of_beq_eq_true h) hne
   ·have:=List.any_eq_false.1 h j hj;exact absurd (hasN_iff.2 hu) this
   ·exact h
 have ancD:∀ {li:Array Bool},Closed l0.toArray li→∀k,k<l0.length→li.getD k false=true→∀j∈ancL l0.toArray 5000 (depsL l0.toArray k) [],li.getD j false=true:=fun hc k hk hl j hj=>by
  refine ancL_spec hc 5000 (depsL l0.toArray k) [] (fun q hq=>?_) (fun q hq=>by cases hq) j hj;unfold depsL at hq;rw[nth_mem_range hk]at hq;obtain⟨e,he,rfl⟩:=List.mem_map.1 hq;rw[List.mem_filter]at he;exact hc k _ (nth_mem_range hk) hl e (by simpa using he.1) he.2
 have dmem:∀i d,i<T.length→(clAt T i).dst=some d→d∈dstD T:=fun i d hi hd=>by
  unfold dstD;refine List.mem_filterMap.2 ⟨clAt T i,?_,hd⟩;unfold clAt;rw[List.getD_eq_getElem?_getD,List.getElem?_eq_getElem (by omega)];exact List.getElem_mem _
 have dinj:∀i j d,i<T.length→j<T.length→(clAt T i).dst=some d→(clAt T j).dst=some d→i=j:=fun i j d hi hj h1 h2=>by
  have e1:clAt T i=T[i]'(by omega):=by unfold clAt;rw[List.getD_eq_getElem?_getD,List.getElem?_eq_getElem (by omega)];rfl
  have e2:clAt T j=T[j]'(by omega):=by unfold clAt;rw[List.getD_eq_getElem?_getD,List.getElem?_eq_getElem (by omega)];rfl
  rw[e1]at h1;rw[e2]at h2;have hp:=hnd;unfold dstD at hp;rw[List.Nodup,List.pairwise_filterMap]at hp;rcases Nat.lt_trichotomy i j with c|c|c
  ·exact absurd rfl (List.pairwise_iff_getElem.1 hp i j (by omega) (by omega) c d h1 d h2)
  ·exact c
  ·exact absurd rfl (List.pairwise_iff_getElem.1 hp j i (by omega) (by omega) c d h2 d h1)
 intro n
 induction n with
 |zero=>
  intro li c l w hc H;have hall:∀i,i<l0.length→li.getD i false=true:=by
   intro i hi;have:=List.countP_eq_zero.1 hc i (by simpa using hi);simpa using this
  have hdn:∀i,dn l0.length li i=true:=fun i=>by
   rcases Nat.lt_or_ge i l0.length with h|h
   ·rw[dn_lt h];exact hall i h
   ·exact dn_ge h
  refine⟨?_,?_⟩
  ·cases hr:Region.ready .any l0.toArray li with
   |nil=>rfl
   |cons j r=>
    obtain⟨hj0,oj,hoj,_⟩:=mem_ready.1 (show j∈Region.ready .any l0.toArray li by rw[hr];exact List.mem_cons_self ..);have hjn:j<l0.length:=by simpa using(Array.getElem?_eq_some_iff.1 hoj).1
    have h1:=hall j hjn;have hlt:j<li.size:=by rw[H.sz];exact hjn
    simp[hlt]at hj0 h1;rw[h1]at hj0;cases hj0
  ·have e:l=upd lb (slF T c):=by
    have h1:=FF_same (dstD T) H.len H.out;unfold FF at h1;rw[←h1];congr 1;unfold slF;rw[fmap_slots (l:=l) _ fun j hj d hd=>H.val j (List.mem_range.1 hj) (hdn j) d hd];congr 1;unfold dstD clAt;have:∀(T:List (Cl δ)),T.filterMap Cl.dst=(List.range T.length).filterMap fun j=>(T.getD j ⟨none,fun _=>undef,fun _=>[],fun _=>True,[],[],[]⟩).dst:=fun T=>by
     have h2:T=(List.range T.length).map fun j=>T.getD j ⟨none,fun _=>undef,fun _=>[],fun _=>True,[],[],[]⟩:=by
      apply List.ext_getElem
      ·simp
      ·intro i h1 h2;simp[h1]
     conv=>lhs;rw[h2]
     rw[List.filterMap_map];rfl
    exact this T
   rw[e];refine hend c w (fun i hi=>H.p i hi (hdn i)) ?_;have hm:=H.mem;refine cast (congrArg (fun x=>Mem S0 w0 (x++L) w) ?_) hm;unfold endF;refine congrArg (fun q=>List.flatMap _ q) (List.filter_congr fun j hj=>?_);rw[hdn j,Bool.true_and];congr 1;rw[Bool.eq_iff_iff,List.any_eq_true,List.any_eq_true];constructor
   ·rintro⟨k,hk,h⟩;rw[Bool.and_eq_true]at h;exact⟨k,hk,h.2⟩
   ·rintro⟨k,hk,h⟩;exact⟨k,hk,by rw[hdn k,h];rfl⟩
 |succ n ih=>
  intro li c l w hc H;refine⟨fun h0=>?_,fun i hi=>?_⟩
  ·exfalso;have hex:∃s,s<l0.length∧li.getD s false=false:=by
    have hp:0<(List.range l0.length).countP fun i=> !li.getD i false:=by unfold cntU at hc;omega
    obtain⟨s,hs,h⟩:=List.countP_pos_iff.1 hp;exact⟨s,by simpa using hs,by simpa using h⟩
   obtain⟨s,hs,hmin⟩:∃s,(s<l0.length∧li.getD s false=false)∧∀t,t<s→li.getD t false=true:=by
    obtain⟨s,hs⟩:=hex
    induction s using Nat.strongRecOn with
    |_ s ihs=>
     by_cases h:∃t,t<s∧li.getD t false=false
     ·obtain⟨t,ht,hf⟩:=h;exact ihs t ht ⟨by omega,hf⟩
     ·refine⟨s,hs,fun t ht=>?_⟩;cases hb:li.getD t false
      ·exact absurd ⟨t,ht,hb⟩ h
      ·rfl
   have:s∈Region.ready .any l0.toArray li:=by
    refine mem_ready.2 ⟨?_,nth l0 s,nth_mem_range hs.1,fun e he hb=>hmin _ ((one s hs.1).2.2.1 e he hb)⟩;have:=hs.2;have hlt:s<li.size:=by rw[H.sz];exact hs.1
    simp[hlt]at this⊢;exact this
   rw[h0]at this;cases this
  ·obtain⟨hi0,oi,hoi,hia⟩:=mem_ready.1 hi;have him:i<l0.length:=by simpa using(Array.getElem?_eq_some_iff.1 hoi).1
   rw[nth_mem_range him]at hoi;obtain rfl:=Option.some.inj hoi;obtain⟨o1,o2,o3,o4,o5,o6,o7⟩:=one i him;have hif:li.getD i false=false:=by
    have hlt:i<li.size:=by rw[H.sz];exact him
    simp[hlt]at hi0⊢;exact hi0
   have hni:dn l0.length li i=false:=by rw[dn_lt him];exact hif
   have hdone:∀j∈(clAt T i).dep,dn l0.length li j=true:=fun j hj=>by
    rcases(o4 j hj).2 with h|h
    ·have := ancL_spec H.cl 5000 (depsL l0.toArray i) [] (fun q hq => by
      unfold depsL at hq
      rw [nth_mem_range him] at hq
      obtain ⟨e, he, rfl⟩ := List.mem_map.1 hq
      rw [List.mem_filter] at he
      exact hia e (by simpa using he.1) he.2) (fun q hq => by cases hq) j h
     unfold dn;rw[this];rfl
    ·exact dn_ge h
   have huse:∀j∈(clAt T i).use,(dn l0.length li j&& !(List.range T.length).any fun k=>dn l0.length li k&&hasN (clAt T k).eat j)=true:=fun j hj=>by
    rw[hdone j (o5 j hj),Bool.true_and,Bool.not_eq_true',List.any_eq_false];intro k hk h;rw[Bool.and_eq_true,hasN_iff]at h;have hkn:k<l0.length:=by
     rcases Nat.lt_or_ge k l0.length with c|c
     ·exact c
     ·rw[(virt k c (List.mem_range.1 hk)).2.2]at h;exact absurd h.2 (List.not_mem_nil)
    have hne:k≠i:=fun e=>by rw[e,hni]at h;cases h.1
    rw[dn_lt hkn]at h;have:=ancD H.cl k hkn h.1 i (o7 k hkn hne j h.2 hj);rw[hif]at this;cases this
   -- the others
   obtain⟨V,hV⟩:∃V:List Nat,V=(List.range T.length).filter fun j=>(dn l0.length li j&& !(List.range T.length).any fun k=>dn l0.length li k&&hasN (clAt T k).eat j)&& !hasN (clAt T i).use j:=⟨_,rfl⟩
   have hVn:V.Nodup:=hV▸nodupF _;have hVm:∀j,j∈V↔j<T.length∧(dn l0.length li j&& !(List.range T.length).any fun k=>dn l0.length li k&&hasN (clAt T k).eat j)=true∧j∉(clAt T i).use:=fun j=>by
    rw[hV,List.mem_filter,List.mem_range,Bool.and_eq_true,Bool.not_eq_true',←Bool.not_eq_true,hasN_iff]
   have hperm:((List.range T.length).filter fun j=>dn l0.length li j&& !(List.range T.length).any fun k=>dn l0.length li k&&hasN (clAt T k).eat j).Perm (((List.range T.length).filter fun j=>hasN (clAt T i).use j)++V):=by
    refine(List.perm_ext_iff_of_nodup (nodupF _) (List.nodup_append.2 ⟨nodupF _,hVn,fun a ha b hb e=>?_⟩)).2 fun a=>?_
    ·subst e;rw[List.mem_filter,hasN_iff]at ha;exact((hVm a).1 hb).2.2 ha.2
    ·rw[List.mem_append,hVm,List.mem_filter,List.mem_filter,List.mem_range,hasN_iff];constructor
     ·rintro⟨h1,h2⟩;by_cases hu:a∈(clAt T i).use
      ·exact .inl ⟨h1,hu⟩
      ·exact .inr ⟨h1,h2,hu⟩
     ·rintro(⟨h1,h2⟩|⟨h1,h2,_⟩)
      ·exact⟨h1,huse a h2⟩
      ·exact⟨h1,h2⟩
   have M1:Mem S0 w0 (useF T i c++ .all (V.flatMap fun j=>clO T j c)::L) w:=by
    have h1:=H.mem.perm ((hperm.flatMap_right fun j=>clO T j c).append_right L);rw[List.flatMap_append,List.append_assoc]at h1;exact⟨h1.pr,h1.sep.pack⟩
   have hfr:frF T lb i c (fun s=>l.getD s undef)=l:=by
    have e1:MF T i c=(depD T i).map fun d=>(d,l.getD d undef):=fmap_slots (l:=l) _ fun j hj d hd=>H.val j (o4 j hj).1 (hdone j hj) d hd;unfold frF junk;rw[e1];have e2:upd (upd lb ((depD T i).map fun d=>(d,l.getD d undef))) ((JF T i).map fun d=>(d,l.getD d undef))=FF (FF lb (depD T i) fun d=>l.getD d undef) (JF T i) fun d=>l.getD d undef:=rfl;rw[e2];refine FF_same (lb:=FF lb (depD T i) fun d=>l.getD d undef) (JF T i) (by rw[FF_len];exact H.len) fun s hs=>?_
    rw[FF_get];by_cases hsd:s∈depD T i∧s<lb.length
    ·rw[if_pos hsd,List.getD_eq_getElem?_getD,List.getElem?_eq_getElem (by rw[H.len];exact hsd.2)];rfl
    ·rw[if_neg hsd];by_cases hsl:s<lb.length
     ·refine H.out s fun hd=>hs ?_;unfold JF;rw[List.mem_filter,Bool.not_eq_true',←Bool.not_eq_true,hasN_iff];exact⟨hd,fun h=>hsd ⟨h,hsl⟩⟩
     ·rw[List.getElem?_eq_none (by have:=H.len;omega),List.getElem?_eq_none (by omega)]
   have hk:=hst i him (.all (V.flatMap fun j=>clO T j c)) c (fun s=>l.getD s undef) (fun j hj=>H.p j (o4 j hj).1 (hdone j hj)) w M1;rw[hfr]at hk;have hk:RS P l0.toArray (OutF T S0 w0 L i (.all (V.flatMap fun j=>clO T j c)) c l) [nth l0 i] l w:=hk;unfold RS at hk;unfold xOp;rw[nth_mem_range him];have hwn:Region.wanted (nth l0 i) (yielded l0.toArray (fr l).tmps)=true:=by simp[Region.wanted,o2]
   simp only[hwn,if_true];rw[if_pos (by simp[Region.wanted,o2])]at hk;unfold Oper.wp at hk⊢;refine upon_mono ?_ (fun _ _ _ h=>h) hk;rintro a' w' ⟨l',rfl,hO⟩;refine⟨fun _=>trivial,?_⟩;have hO:OutF T S0 w0 L i (.all (V.flatMap fun j=>clO T j c)) c l l' w':=hO;obtain⟨x,hp,rfl,hM⟩:=hO;have same:∀j,j<T.length→dn l0.length li j=true→msk j (clAt T j).dep (put c i x)=msk j (clAt T j).dep c:=fun j hjt hj=>by
    have hne:j≠i:=fun e=>by rw[e,hni]at hj;cases hj
    refine msk_eq (put_ne hne) fun q hq=>put_ne fun e=>?_
    rcases Nat.lt_or_ge j l0.length with c|c
    ·rw[dn_lt c]at hj;rcases((one j c).2.2.2.1 q hq).2 with h|h
     ·have:=ancD H.cl j c hj q h;rw[e,hif]at this;cases this
     ·omega
    ·rw[(virt j c hjt).2.1]at hq;cases hq
   have hg:∀j,dn l0.length (li.setIfInBounds i true) j=true↔j=i∨dn l0.length li j=true:=fun j=>by
    by_cases e:j=i
    ·subst e;have hlt:j<li.size:=by rw[H.sz];exact him
     rw[dn_lt him];simp[hlt]
    ·unfold dn;rw[getD_set_ne false (Ne.symm e)];simp[e]
   refine ih _ (put c i x) _ w' ?_ ⟨by simp[H.sz],H.cl.set hi,?_,?_,?_,?_,?_⟩
   ·have:=countP_set l0.length li i him (by rw[H.sz];exact him) hif;omega
   ·unfold putL;split
    ·rw[List.length_set];exact H.len
    ·exact H.len
   ·intro s hs;unfold putL;split
    ·rename_i d hd;rw[List.getElem?_set_ne (fun e=>hs (by rw[←e];exact dmem i d (by omega) hd))];exact H.out s hs
    ·exact H.out s hs
   ·intro j hj hl d hd;rcases(hg j).1 hl with rfl|hl
    ·rw[hd];have hdn:d<lb.length:=by
      have:=List.all_eq_true.1 hdl d (dmem j d hj hd);rwa[Nat.blt_eq]at this
     show(l.set d _).getD d undef=_;rw[List.getD_eq_getElem?_getD,List.getElem?_set,if_pos rfl,if_pos (by rw[H.len];exact hdn)];rfl
    ·have hne:j≠i:=fun e=>by rw[e,hni]at hl;cases hl
     have h1:=H.val j hj hl d hd;have h2:clV T j (put c i x)=clV T j c:=by unfold clV;rw[same j hj hl]
     rw[h2,←h1];unfold putL;split
     ·rename_i d' hd';rw[List.getD_eq_getElem?_getD,List.getElem?_set_ne (fun e=>hne (dinj j i d hj (by omega) hd (by rw[hd',e]))),←List.getD_eq_getElem?_getD]
     ·rfl
   ·intro j hj hl;rcases(hg j).1 hl with rfl|hl
    ·exact hp
    ·have h1:=H.p j hj hl;unfold clP at h1⊢;rwa[same j hj hl]
   ·have hM2:Mem S0 w0 (clO T i (put c i x)++(keepF T i c++(V.flatMap (fun j=>clO T j c)++L))) w':=by
     have h1:=hM.sep;rw[←List.append_assoc]at h1;have h2:=h1.unpack;rw[List.append_assoc]at h2;exact⟨hM.pr,h2⟩
    have e1:keepF T i c=keepF T i (put c i x):=by
     unfold keepF;refine flat_congr fun j hj=>?_
     rw[List.mem_filter,Bool.and_eq_true,hasN_iff]at hj;unfold clO;rw[same j (List.mem_range.1 hj.1) (hdone j (o5 j hj.2.1))]
    have e2:V.flatMap (fun j=>clO T j c)=V.flatMap fun j=>clO T j (put c i x):=flat_congr fun j hj=>by
     have:=((hVm j).1 hj).2.1;rw[Bool.and_eq_true]at this;unfold clO;rw[same j ((hVm j).1 hj).1 this.1]
    rw[e1,e2]at hM2;unfold keepF at hM2;rw[←List.append_assoc,←List.append_assoc]at hM2;refine hM2.perm (List.Perm.append_right L ?_);have e3:clO T i (put c i x)=[i].flatMap fun j=>clO T j (put c i x):=by simp
    rw[e3,←List.flatMap_append,←List.flatMap_append];refine List.Perm.flatMap_right _ ?_;have live:∀a,a≠i→((dn l0.length (li.setIfInBounds i true) a&& !(List.range T.length).any fun k=>dn l0.length (li.setIfInBounds i true) k&&hasN (clAt T k).eat a)=true↔(dn l0.length li a&& !(List.range T.length).any fun k=>dn l0.length li k&&hasN (clAt T k).eat a)=true∧a∉(clAt T i).eat):=fun a ha=>by
     rw[Bool.and_eq_true,Bool.and_eq_true,hg,Bool.not_eq_true',Bool.not_eq_true',List.any_eq_false,List.any_eq_false];constructor
     ·rintro⟨h1,h2⟩;refine⟨⟨h1.resolve_left ha,fun k hk h=>h2 k hk ?_⟩,fun h=>h2 i (List.mem_range.2 (by omega)) ?_⟩
      ·rw[Bool.and_eq_true]at h⊢;exact⟨(hg k).2 (.inr h.1),h.2⟩
      ·rw[Bool.and_eq_true];exact⟨(hg i).2 (.inl rfl),hasN_iff.2 h⟩
     ·rintro⟨⟨h1,h2⟩,h3⟩;refine⟨.inr h1,fun k hk h=>?_⟩;rw[Bool.and_eq_true]at h;rcases(hg k).1 h.1 with rfl|h4
      ·exact h3 (hasN_iff.1 h.2)
      ·exact h2 k hk (by rw[Bool.and_eq_true];exact⟨h4,h.2⟩)
    have livei:(dn l0.length (li.setIfInBounds i true) i&& !(List.range T.length).any fun k=>dn l0.length (li.setIfInBounds i true) k&&hasN (clAt T k).eat i)=true:=by
     rw[Bool.and_eq_true];refine⟨(hg i).2 (.inl rfl),?_⟩;rw[Bool.not_eq_true',List.any_eq_false];intro k hk h;rw[Bool.and_eq_true,hasN_iff]at h;have hkn:k<l0.length:=by
      rcases Nat.lt_or_ge k l0.length with c|c
      ·exact c
      ·rw[(virt k c (List.mem_range.1 hk)).2.2]at h;exact absurd h.2 (List.not_mem_nil)
     obtain⟨_,_,_,k4,k5,k6,_⟩:=one k hkn;have hia2:=(k4 i (k5 i (k6 i h.2))).2.resolve_right (by omega);rcases(hg k).1 h.1 with rfl|hkd
     ·have:=hdone k (k5 k (k6 k h.2));rw[hni]at this;cases this
     ·rw[dn_lt hkn]at hkd;have:=ancD H.cl k hkn hkd i hia2;rw[hif]at this;cases this
    refine(List.perm_ext_iff_of_nodup ?_ (nodupF _)).2 fun a=>?_
    ·rw[List.append_assoc,List.nodup_append];refine⟨List.nodup_cons.2 ⟨(by simp),List.nodup_nil⟩,List.nodup_append.2 ⟨nodupF _,hVn,fun a ha b hb e=>?_⟩,fun a ha b hb e=>?_⟩
     ·subst e;rw[List.mem_filter,Bool.and_eq_true,hasN_iff]at ha;exact((hVm a).1 hb).2.2 ha.2.1
     ·subst e;rw[List.mem_singleton]at ha;subst ha;rcases List.mem_append.1 hb with h|h
      ·rw[List.mem_filter,Bool.and_eq_true,hasN_iff]at h;have:=hdone a (o5 a h.2.1);rw[hni]at this;cases this
      ·have:=((hVm a).1 h).2.1;rw[hni]at this;cases this
    ·rw[List.append_assoc,List.mem_append,List.mem_append,List.mem_singleton,hVm,List.mem_filter,List.mem_filter,List.mem_range,Bool.and_eq_true,hasN_iff,Bool.not_eq_true',←Bool.not_eq_true,hasN_iff];by_cases ha:a=i
     ·subst ha;exact⟨fun _=>⟨by omega,livei⟩,fun _=> .inl rfl⟩
     ·rw[live a ha];constructor
      ·rintro(h|⟨h1,h2,h3⟩|⟨h1,h2,h3⟩)
       ·exact absurd h ha
       ·exact⟨h1,huse a h2,h3⟩
       ·exact⟨h1,h2,fun h=>h3 (o6 a h)⟩
      ·rintro⟨h1,h2,h3⟩;by_cases hu:a∈(clAt T i).use
       ·exact .inr (.inl ⟨h1,hu,h3⟩)
       ·exact .inr (.inr ⟨h1,h2,hu⟩)
end
section
variable{δ:Type}{T:List (Cl δ)}{S0:Nat→Prop}{w0:World}{L:List Ent}{P:Program}{Q:Exit→Act→World→Prop}{l0:List Oper}{lb:List Value}{id:Nat}
theorem J.regionF(d0:δ)(T:List (Cl δ))(V:List Ent)(M:(Nat→δ)→List (Nat×Value))(E:(Nat→δ)→List Ent){l1:(Nat→δ)→List Value}{La:List Ent}(hm:P.follows .mixedOrders=true)(hB:checkF T l0 lb.length=true)(hV:((List.range (T.length - l0.length)).flatMap fun j=>clO T (l0.length+j) fun _=>d0)=V)(hp0:allF T (fun _=>d0) ((List.range (T.length - l0.length)).map fun j=>l0.length+j))(hs:stepsF T S0 w0 L P l0 lb (List.range l0.length))(hM:∀c,slF T c=M c)(hE:∀c,endF T c=E c)
  {L1:(Nat→δ)→List Ent}(k:∀c,allF T c (List.range l0.length)→J S0 w0 (L1 c) (RY S0 w0 .s P l0.toArray (KN Q) [] (l1 c)))(hl:∀c,upd lb (M c)=l1 c:=by intro c;simp only[upd,List.set_cons_succ,List.set_cons_zero];exact rfl)(hL:∀c,E c++L=L1 c:=by intro c;dsimp only[List.cons_append,List.nil_append])
  (hA:V++L=La:=by first|rfl|dsimp only[List.cons_append,List.nil_append]):J S0 w0 La ((Code.region id l0.toArray true).wp P Q (fr lb)):=fun w Mm=>by
 subst hA hV;refine wp_region_any hm ?_;have hN:l0.length≤T.length:=by
  simp only[checkF,Bool.and_eq_true]at hB;exact Nat.le_of_ble_eq_true hB.1.1
 have hf:∀i,(Array.replicate l0.length false).getD i false=false:=fun i=>by
  rw[Array.getD_eq_getD_getElem?,Array.getElem?_replicate];split<;>rfl
 have hdn:∀i,dn l0.length (Array.replicate l0.length false) i=Nat.ble l0.length i:=fun i=>by
  unfold dn;rw[hf i,Bool.false_or]
 have allV:∀(is:List Nat) (c:Nat→δ),allF T c is→∀i∈is,clP T i c:=fun is=>by
  induction is with
  |nil=>intro c _ i hi;cases hi
  |cons j r ih=>
   intro c h i hi;rcases List.mem_cons.1 hi with rfl|hi
   ·exact h.1
   ·exact ih c h.2 i hi
 have hvt:∀i,l0.length≤i→i<T.length→(clAt T i).dst=none∧(clAt T i).eat=[]:=fun i h1 h2=>by
  simp only[checkF,Bool.and_eq_true]at hB;have:=List.all_eq_true.1 hB.1.2.1 i (List.mem_range.2 h2);simp only[Bool.or_eq_true,Bool.and_eq_true,Option.isNone_iff_eq_none,List.isEmpty_iff]at this;rcases this with h|h
  ·rw[Nat.blt_eq]at h;omega
  ·exact⟨h.1,h.2.2⟩
 have key := anyF (P := P) (Q := fun a w => ∃ l, a = fr l ∧ Q .normal (fr l) w) hB (fun i hi => stepsF_mem hs i (List.mem_range.2 hi)) (fun c w' hp hM' => by
  refine ⟨_, rfl, ?_⟩
  rw [hE, hL] at hM'
  rw [hM, hl]
  have := k c (allF_of fun i hi => hp i (by have := List.mem_range.1 hi; omega)) w' hM'
  unfold RY RS at this
  exact this) l0.length (Array.replicate l0.length false) (fun _ => d0) lb { w with drawn := w.drawn + 1 }
  (by
   unfold cntU
   rw [List.countP_eq_length.2 (fun i _ => by rw [hf i]; rfl), List.length_range])
  ⟨by simp, (by intro k ok _ h; rw [hf] at h; cases h), rfl, fun _ _ => rfl, (fun i hi h d hd => by
   rw [hdn] at h
   rw [(hvt i (Nat.le_of_ble_eq_true h) hi).1] at hd
   cases hd), (fun i hi h => by
   rw [hdn] at h
   have h := Nat.le_of_ble_eq_true h
   exact allV _ _ hp0 i (List.mem_map.2 ⟨i - l0.length, List.mem_range.2 (by omega), by omega⟩)), by
   have e : ((List.range T.length).filter fun j => dn l0.length (Array.replicate l0.length false) j && !(List.range T.length).any fun k => dn l0.length (Array.replicate l0.length false) k && hasN (clAt T k).eat j) = (List.range (T.length - l0.length)).map fun j => l0.length + j := by
    have e1 : ((List.range T.length).filter fun j => dn l0.length (Array.replicate l0.length false) j && !(List.range T.length).any fun k => dn l0.length (Array.replicate l0.length false) k && hasN (clAt T k).eat j) = (List.range T.length).filter fun j => Nat.ble l0.length j := List.filter_congr fun j _ => by
     rw [hdn]
     have : ((List.range T.length).any fun k => dn l0.length (Array.replicate l0.length false) k && hasN (clAt T k).eat j) = false := by
      rw [List.any_eq_false]
      intro k hk h
      rw [Bool.and_eq_true, hdn, hasN_iff] at h
      rw [(hvt k (Nat.le_of_ble_eq_true h.1) (List.mem_range.1 hk)).2] at h
      exact absurd h.2 (List.not_mem_nil)
     rw [this]
     simp
    rw [e1]
    obtain ⟨q, hq⟩ := Nat.le.dest hN
    rw [← hq, List.range_add, List.filter_append, show l0.length + q - l0.length = q by omega]
    rw [List.filter_eq_nil_iff.2 fun j hj => (by
     have := List.mem_range.1 hj
     intro h
     have := Nat.le_of_ble_eq_true h
     omega), List.nil_append]
    refine List.filter_eq_self.2 fun j hj => ?_
    obtain ⟨m, _, rfl⟩ := List.mem_map.1 hj
    exact Nat.ble_eq_true_of_le (by omega)
   rw [e, List.flatMap_map]
   exact Mm.grow ((Below.refl _ _).drew)⟩
 have h2:=wpAny_of_X (Q':=Q) (fun a w (h:∃l,a=fr l∧Q .normal (fr l) w)=>by obtain⟨l,rfl,h⟩:=h;exact h) l0.length (Array.replicate l0.length false) (fr lb) _ key;simpa using h2
theorem stepF.i{i:Nat}{o:Oper}(kd:Kd)(U K:(Nat→δ)→List Ent)(O:(Nat→δ)→δ→List Ent)(V:(Nat→δ)→δ→Value)(p:(Nat→δ)→Prop)(q:(Nat→δ)→δ→Prop)(M:(Nat→δ)→List (Nat×Value))(Jk:List Nat)(dd:Option Nat){l1:(Nat→δ)→(Nat→Value)→List Value}
  {L1:Ent→(Nat→δ)→List Ent}(h:∀F c v,p c→J S0 w0 (L1 F c) (RY S0 w0 .s P l0.toArray (fun l' w'=>∃x,q c x∧l'=putL dd (V c x) (l1 c v)∧Mem S0 w0 (O c x++(K c++F::L)) w') [(o,kd)] (l1 c v)))
  (hU:∀c,useF T i c=U c)(hK:∀c,keepF T i c=K c)(hO:∀c x,clO T i (put c i x)=O c x)(hV:∀c x,clV T i (put c i x)=V c x)(hp:∀c,(∀j∈(clAt T i).dep,clP T j c)→p c)(hq:∀c x,q c x→clP T i (put c i x))(hM:∀c,MF T i c=M c)(hJ:JF T i=Jk)(hd:(clAt T i).dst=dd)(ho:nth l0 i=o:=by dsimp only[nth])
  (hl:∀c v,upd (upd lb (M c)) (junk Jk v)=l1 c v:=by intro c v;simp only[upd,junk,List.map_cons,List.map_nil,List.set_cons_succ,List.set_cons_zero];exact rfl)
  (hL:∀F c,U c++F::L=L1 F c:=by intro F c;dsimp only[List.cons_append,List.nil_append]):stepF T S0 w0 L P l0 lb i:=fun F c v hpp=>by
 subst ho;unfold frF;rw[hM,hJ,hl,hU,hL];have:=h F c v (hp c hpp);unfold OutF;rw[hd,hK];intro w Mm;have h2:=this w Mm;unfold RY at h2⊢;have h2:RS P l0.toArray _ [nth l0 i] (l1 c v) w:=h2;show RS P l0.toArray _ [nth l0 i] (l1 c v) w;refine rs_mono (fun l' w' ⟨x,h1,h2,h3⟩=>⟨x,hq c x h1,?_,?_⟩) _ _ _ h2
 ·rw[hV];exact h2
 ·rw[hO];exact h3
theorem J.outF{δ:Type}{L' F:List Ent}{q:δ→Prop}{V:δ→Value}{O:δ→List Ent}{l l':List Value}{dd:Option Nat}(x:δ)(hq:q x)(hl:l'=putL dd (V x) l)(hs:(O x++F).Sublist L'):J S0 w0 L' (fun w'=>∃x,q x∧l'=putL dd (V x) l∧Mem S0 w0 (O x++F) w'):=fun w Mm=>⟨x,hq,hl,Mm.sub hs⟩
end
end G
namespace W
open Go.RowKit G
set_option maxRecDepth 20000
set_option maxHeartbeats 8000000
attribute [local irreducible] RS RX RY Code.wp bodyPost J Ent.blk Ent.iown Ent.wrow Ent.wown Ent.gown Ent.all Ent.emp
theorem ShK.ownZ{S0:Nat→Prop}{w0:World}{L:List Ent}{t:ShA}{v:S.StV}{F1:Ent→List Ent}(h:ShK v.sh t)(z:StZ v)[R1:RE L (shW t) F1](w:World)(M:Mem S0 w0 L w):ShR (fun _=>True) w t:=by
  have hV:=h.V;have hps:v.sh.ps=t.gs.map GrA.P:=(congrArg S.ShV.ps hV).symm;have hhn:v.sh.hn=t.hn:=(congrArg S.ShV.hn hV).symm;have hll:v.sh.ps.length=t.gs.length:=by rw[hps,List.length_map]
  have hm:∀g∈t.gs,g.m≤70∧g.ops.length≤70:=fun g hg=>z.m g.P (by rw[hps];exact List.mem_map.2 ⟨g,hg,rfl⟩);exact ShR.ownB (R:=R1) h.k hm ⟨by have:=z.z.1;omega,by have:=z.z.2;omega⟩ w M
theorem ShK.LZ{t:ShA}{v:S.StV}(h:ShK v.sh t)(z:StZ v){S0:Nat→Prop}{w:World}(H:ShR S0 w t):ShL t:=fun hn=>by
  have hV:=h.V;have hps:v.sh.ps=t.gs.map GrA.P:=(congrArg S.ShV.ps hV).symm;have hll:v.sh.ps.length=t.gs.length:=by rw[hps,List.length_map]
  have hl:=H.pr.len;have:=z.l (by omega);rw[hV];exact this
theorem getF{S0:Nat→Prop}(g:GrA)(x:Nat)(TK:TypeId)(w:World)(K0:Kst w TK)(G:GrR S0 w g)(h0:S.chkG g.m g.ids g.ops=0)(hx:x<g.m):
    Calls prog 54 #[.agg (grC g).toArray, .agg (ints .u8 (S.idAt g.ids x)).toArray] w (Gv w (fun q:OpA=> .tuple #[.agg (opC q).toArray, .int .i64 0]) (fun q=>[.wrow .u8 32 q.pa q.o.n q.o.ids]) fun q=>q.o.n≤q.pc∧q.o=g.ops.getD x S.OpV.zero):=by
  obtain⟨_,_,_,hr,_,_⟩:=S.chkG_zero.1 h0;have hin:S.inS g.m g.ids (S.idAt g.ids x):=⟨x,hx,rfl⟩
  have e1:S.getE g.m g.ids g.ops (S.idAt g.ids x)=0:=by unfold S.getE;rw[if_neg (not_not_intro h0),if_pos hin]
  have e2:S.getO g.m g.ids g.ops (S.idAt g.ids x)=g.ops.getD x S.OpV.zero:=by unfold S.getO;rw[if_neg (not_not_intro h0),if_pos hin,S.ix_eq hr hx]
  exact(dagGet g (S.idAt g.ids x) TK w K0 G (G.ids.elt_arr hx)).mono fun _ _ ⟨⟨z,d⟩,h1,⟨h2,h3,h4⟩,h5,h6⟩=>by
    dsimp only at h1 h2 h3 h4 h6;obtain rfl:d=0:=h4.trans e1;exact⟨z,h1,⟨h2,h3.trans e2⟩,h5,h6⟩
theorem shNewF{n:Int}(hn:1≤n∧n≤4)(w:World):Calls prog 53 #[.int .i64 n] w (Gv w (fun q:ShA=> .tuple #[.agg (shC q).toArray, .int .i64 0]) (fun q=>[shW q]) (ShK (S.nwT 40 n).sh)):=by
  have h:=shNew n w;rw[show S.nwE n=0 from if_pos hn,show S.nwS n=(S.nwT 40 n).sh from by rw[(S.nwT_0 (c:=40) ⟨by decide,hn⟩).1];exact if_pos hn]at h;exact shOne h
theorem shPutF{S0 S1:Nat→Prop}(t:ShA)(v:S.StV)(z:OpA)(TK:TypeId)(w:World)(K0:Kst w TK)(hv:ShK v.sh t)(H:ShR S0 w t)(hL:ShL t)(R:OpR S1 w z){u:S.ShV}{x:List Int}(h1:S.puE v.sh z.o=0)(h2:S.puI v.sh z.o=x)(h3:S.puS v.sh z.o=u):
    Calls prog 56 #[.agg (shC t).toArray, .agg (opC z).toArray] w (Gv w (fun q:ShA=> .tuple #[.agg (shC q).toArray, .agg (ints .u8 x).toArray, .int .i64 0]) (fun q=>[shW q]) (ShK u)):=by
  have h:=shPut t z TK w K0 H hL R;rw[hv.V,h1,h2,h3]at h;exact shOne h
theorem stOffF{S0 S1:Nat→Prop}(s:StA)(v:S.StV)(z:OpA)(TK:TypeId)(w:World)(K0:Kst w TK)(hs:StK v s)(H:StR S0 w s)(R:OpR S1 w z)(h1:S.askE v z.o=0)(h2:S.ofJ v z.o=1):
    Calls prog 55 #[.agg (srC s).toArray, .agg (opC z).toArray] w (Gv w (fun q:StA=> .tuple #[.agg (srC q).toArray, .int .u8 1, .int .i64 0]) (fun q=>stE q) (StK (S.ofS v z.o))):=by
  have h:=stOffer s z TK w K0 H R;rw[hs.V,h1,h2]at h;exact h
theorem stNewF{n:Int}(hn:1≤n∧n≤4)(w:World):Calls prog 52 #[.int .i64 40, .int .i64 n] w (Gv w (fun q:StA=> .tuple #[.agg (srC q).toArray, .int .i64 0]) (fun q=>stE q) (StK (S.nwT 40 n))):=by
  have h:=stNew 40 n w;rw[(S.nwT_0 (c:=40) ⟨by decide,hn⟩).2]at h;exact h
structure OdA where
  (i:Nat)(s:StA)(t:ShA)
structure OdW where
  (b:Nat)(z:OpA)
instance:Inhabited OdW:=⟨⟨0,⟨S.OpV.zero,none,0⟩⟩⟩
structure OdI(g:S.PG)(rd:List Nat)(i:Nat)(s:StA)(t:ShA):Prop where
  ex:∃v,S.AtX g rd i v∧StK v s∧ShK v.sh t∧StZ v
instance:Ents prog 52:=⟨.mk func52 (by kernel_rfl) rfl⟩
instance:Ents prog 54:=⟨.mk func54 (by kernel_rfl) rfl⟩
instance:Ents prog 20:=⟨.mk func20 (by kernel_rfl) rfl⟩
theorem topOrdered{S0 S1:Nat→Prop}(g:GrA)(oa:Option Addr)(oc:Nat)(rd:List Nat)(m:Int)(TK:TypeId)(w:World)(K0:Kst w TK)(G:GrR S0 w g)(h0:S.chkG g.m g.ids g.ops=0)(D1:WRow .u8 32 S1 w oa g.m (S.osX g.P rd))(O:S.OrdX g.P rd)(hrl:rd.length=g.m)(hm:1≤m∧m≤4)(hm12:g.m≤12):
    Calls prog 17 #[.agg (grC g).toArray, .slice oa g.m oc, .int .i64 m] w (Gv w (fun q:StA=> .tuple #[.agg (srC q).toArray, .bool true]) (fun q=>stE q) fun q=>∃v,S.AtX g.P rd g.m v∧StK v q∧StZ v):=by
  have D0:=G.ids;have hl:=G.len;have hcp:=G.cap;have F:g.P.fine:=(S.chk_fine (g:=g.P) D0.len).1 h0;have hlt:∀y∈rd,y<g.m:=O.lt;refine J.enter 110 func17 rfl rfl ?_;refine run ?_;refine J.box rfl rfl rfl fun b3=>?_
  refine J.alloc rfl fun b6=>?_
  refine run ?_;refine J.call rfl rfl (fun w' M=>stNewF hm w') fun s0 hs0=>?_
  refine run ?_;refine J.alloc rfl fun b8=>?_
  refine run ?_;refine J.call rfl rfl (fun w' M=>shNewF hm w') fun t0 ht0=>?_
  refine run ?_;refine J.alloc rfl fun b10=>?_
  refine run ?_;refine J.loop (A:=OdA) (fun p=>[(12, .int .i64 (p.i:Nat))]) [7,13,14,15,16,17,18,19,20,40,41,42,43,44,45,46,47,48,49,50,51,52,53,54,55,56,57,58,59,60,61,62,63,64,65,66,67,68,69,70,71,72,73,74,75,76,77,78,79,80,81,82,83,84,85,86,87,88,89,90,91,92,93] (fun p=>[.blk b10 (shC p.t) 72,shW p.t, .blk b8 (srC p.s) 74,shW p.s.sh, .wown 23 .u8 32 p.s.oa p.s.on p.s.oc p.s.os, .blk b6 (srC StA.zero) 74, .blk b3 (grC g) 65]) (fun p=>p.i≤g.m∧OdI g.P rd p.i p.s p.t) (fun p=>g.m - p.i) ⟨0,s0,t0⟩ (by kernel_rfl) ⟨Nat.zero_le _,⟨_,S.AtX.first g.P rd hm,hs0,ht0,StZ.nw 40 m⟩⟩ (fun p j hI=>?_);obtain⟨i,s,t⟩:=p;obtain⟨hi,v,A,hs,ht,hz⟩:=hI;dsimp only at hi A hs ht hz⊢;refine run ?_;refine J.ifd rfl (fun c1=>?_) (fun c1=>?_)
  · have him:i<rd.length:=by omega
    obtain⟨xi,hx⟩:=ex (rd.getD i 0);have hxm:xi<g.m:=hx▸hlt _ (S.getD_mem him);have he:S.idAt g.ids xi=elt 32 (S.osX g.P rd) i:=by rw[hx];exact(S.osX_at F.good hlt him).symm
    have hA:Arr .u8 32 (S.idAt g.ids xi):=D0.elt_arr hxm;obtain⟨o,ho⟩:=ex (g.ops.getD xi S.OpV.zero);obtain⟨z0,hz0⟩:=G.ops.ex (i:=((xi:Nat):Int)) (by have:=F.good.2;have e:g.ops.length=g.m:=this;omega);rw[Int.toNat_natCast]at hz0;have hok:o.ok:=by rw[ho,GrA.opAt hz0];exact G.ok z0 (List.mem_of_getElem? hz0)
    obtain⟨n1,n2,n3,n4,n5,n6⟩:=A.next F O him (show g.P.m≤39 from by show g.m≤39;omega) (o:=o) (by rw[←hx];exact ho.symm);rw[←hx]at n5;refine run ?_
    refine J.regionF (δ:=OdW) (default) [⟨some 47,fun c=> .agg (grC g).toArray,fun c=>[],fun c=>True,[],[],[]⟩,⟨some 48,fun c=> .slice oa g.m oc,fun c=>[],fun c=>True,[],[],[]⟩,⟨some 49,fun c=> .int .i64 (i:Nat),fun c=>[],fun c=>True,[],[],[]⟩,⟨some 50,fun c=>pt oa (((i:Nat):Int).toNat*32),fun c=>[],fun c=>True,[1,2],[],[]⟩,⟨some 51,fun c=> .agg (ints .u8 (S.idAt g.ids xi)).toArray,fun c=>[],fun c=>True,[3],[],[]⟩,⟨some 52,fun c=> .tuple #[.agg (opC (c 5).z).toArray, .int .i64 0],fun c=>[.wrow .u8 32 (c 5).z.pa (c 5).z.o.n (c 5).z.o.ids],fun c=>(c 5).z.o.n≤(c 5).z.pc∧(c 5).z.o=o,[0,4],[],[]⟩,⟨some 46,fun c=> .tuple #[.agg (opC (c 5).z).toArray, .int .i64 0],fun c=>[],fun c=>True,[5],[],[]⟩,⟨some 53,fun c=> .agg (opC (c 5).z).toArray,fun c=>[],fun c=>True,[5,6],[],[]⟩,⟨some 54,fun c=> .int .i64 0,fun c=>[],fun c=>True,[6],[],[]⟩,⟨some 13,fun c=> .pointer (some ⟨(c 9).b,0,none⟩),fun c=>[.blk (c 9).b (opC ⟨S.OpV.zero,none,0⟩) 34],fun c=>True,[],[],[]⟩,⟨none,fun c=>undef,fun c=>[.blk (c 9).b (opC (c 5).z) 34],fun c=>True,[5,7,9],[9],[9]⟩,⟨some 14,fun c=> .int .i64 0,fun c=>[],fun c=>True,[8],[],[]⟩] [] (fun c=>[(47, .agg (grC g).toArray),(48, .slice oa g.m oc),(49, .int .i64 (i:Nat)),(50,pt oa (((i:Nat):Int).toNat*32)),(51, .agg (ints .u8 (S.idAt g.ids xi)).toArray),(52, .tuple #[.agg (opC (c 5).z).toArray, .int .i64 0]),(46, .tuple #[.agg (opC (c 5).z).toArray, .int .i64 0]),(53, .agg (opC (c 5).z).toArray),(54, .int .i64 0),(13, .pointer (some ⟨(c 9).b,0,none⟩)),(14, .int .i64 0)]) (fun c=>[.wrow .u8 32 (c 5).z.pa (c 5).z.o.n (c 5).z.o.ids, .blk (c 9).b (opC (c 5).z) 34]) mixed (by kernel_rfl) rfl trivial ⟨?_,?_,?_,?_,?_,?_,?_,?_,?_,?_,?_,?_,trivial⟩ (fun _=>by kernel_rfl) (fun _=>by kernel_rfl) (fun c hp=>?_)
    · refine stepF.i .q (fun c=>[]) (fun c=>[]) (fun c x=>[]) (fun c x=> .agg (grC g).toArray) (fun c=>True) (fun c x=>True) (fun c=>[]) [47,48,49,50,51,52,46,53,54,13,14] (some 47) (fun F c v hp=>?_) (fun _=>by kernel_rfl) (fun _=>by kernel_rfl) (fun _ _=>by kernel_rfl) (fun _ _=>by kernel_rfl) (fun c h=>trivial) (fun c x h=>h) (fun _=>by kernel_rfl) (by kernel_rfl) (by kernel_rfl)
      refine run ?_
      (refine J.nil ?_;exact J.outF (default) (trivial) rfl (by(try dsimp only[List.cons_append,List.nil_append]);repeat(first|exact List.nil_sublist _|exact List.Sublist.refl _|refine List.Sublist.cons_cons _ ?_|refine List.Sublist.cons _ ?_)))
    · refine stepF.i .q (fun c=>[]) (fun c=>[]) (fun c x=>[]) (fun c x=> .slice oa g.m oc) (fun c=>True) (fun c x=>True) (fun c=>[]) [47,48,49,50,51,52,46,53,54,13,14] (some 48) (fun F c v hp=>?_) (fun _=>by kernel_rfl) (fun _=>by kernel_rfl) (fun _ _=>by kernel_rfl) (fun _ _=>by kernel_rfl) (fun c h=>trivial) (fun c x h=>h) (fun _=>by kernel_rfl) (by kernel_rfl) (by kernel_rfl)
      refine run ?_
      (refine J.nil ?_;exact J.outF (default) (trivial) rfl (by(try dsimp only[List.cons_append,List.nil_append]);repeat(first|exact List.nil_sublist _|exact List.Sublist.refl _|refine List.Sublist.cons_cons _ ?_|refine List.Sublist.cons _ ?_)))
    · refine stepF.i .q (fun c=>[]) (fun c=>[]) (fun c x=>[]) (fun c x=> .int .i64 (i:Nat)) (fun c=>True) (fun c x=>True) (fun c=>[]) [47,48,49,50,51,52,46,53,54,13,14] (some 49) (fun F c v hp=>?_) (fun _=>by kernel_rfl) (fun _=>by kernel_rfl) (fun _ _=>by kernel_rfl) (fun _ _=>by kernel_rfl) (fun c h=>trivial) (fun c x h=>h) (fun _=>by kernel_rfl) (by kernel_rfl) (by kernel_rfl)
      refine run ?_
      (refine J.nil ?_;exact J.outF (default) (trivial) rfl (by(try dsimp only[List.cons_append,List.nil_append]);repeat(first|exact List.nil_sublist _|exact List.Sublist.refl _|refine List.Sublist.cons_cons _ ?_|refine List.Sublist.cons _ ?_)))
    · refine stepF.i .q (fun c=>[]) (fun c=>[]) (fun c x=>[]) (fun c x=>pt oa (((i:Nat):Int).toNat*32)) (fun c=>True) (fun c x=>True) (fun c=>[(48, .slice oa g.m oc),(49, .int .i64 (i:Nat))]) [47,50,51,52,46,53,54,13,14] (some 50) (fun F c v hp=>?_) (fun _=>by kernel_rfl) (fun _=>by kernel_rfl) (fun _ _=>by kernel_rfl) (fun _ _=>by kernel_rfl) (fun c h=>trivial) (fun c x h=>h) (fun _=>by kernel_rfl) (by kernel_rfl) (by kernel_rfl)
      refine run ?_
      (refine J.nil ?_;exact J.outF (default) (trivial) rfl (by(try dsimp only[List.cons_append,List.nil_append]);repeat(first|exact List.nil_sublist _|exact List.Sublist.refl _|refine List.Sublist.cons_cons _ ?_|refine List.Sublist.cons _ ?_)))
    · refine stepF.i .q (fun c=>[]) (fun c=>[]) (fun c x=>[]) (fun c x=> .agg (ints .u8 (S.idAt g.ids xi)).toArray) (fun c=>True) (fun c x=>True) (fun c=>[(50,pt oa (((i:Nat):Int).toNat*32))]) [47,48,49,51,52,46,53,54,13,14] (some 51) (fun F c v hp=>?_) (fun _=>by kernel_rfl) (fun _=>by kernel_rfl) (fun _ _=>by kernel_rfl) (fun _ _=>by kernel_rfl) (fun c h=>trivial) (fun c x h=>h) (fun _=>by kernel_rfl) (by kernel_rfl) (by kernel_rfl)
      refine J.ldW (i:=((i:Nat):Int)) (q:=S.idAt g.ids xi) rfl (RW.arg D1) ?_ (hq:=he)
      (refine J.nil ?_;exact J.outF (default) (trivial) rfl (by(try dsimp only[List.cons_append,List.nil_append]);repeat(first|exact List.nil_sublist _|exact List.Sublist.refl _|refine List.Sublist.cons_cons _ ?_|refine List.Sublist.cons _ ?_)))
    · refine stepF.i .e (fun c=>[]) (fun c=>[]) (fun c x=>[.wrow .u8 32 (x).z.pa (x).z.o.n (x).z.o.ids]) (fun c x=> .tuple #[.agg (opC (x).z).toArray, .int .i64 0]) (fun c=>True) (fun c x=>(x).z.o.n≤(x).z.pc∧(x).z.o=o) (fun c=>[(47, .agg (grC g).toArray),(51, .agg (ints .u8 (S.idAt g.ids xi)).toArray)]) [48,49,50,52,46,53,54,13,14] (some 52) (fun F c v hp=>?_) (fun _=>by kernel_rfl) (fun _=>by kernel_rfl) (fun _ _=>by kernel_rfl) (fun _ _=>by kernel_rfl) (fun c h=>trivial) (fun c x h=>h) (fun _=>by kernel_rfl) (by kernel_rfl) (by kernel_rfl)
      refine run ?_;refine J.call rfl rfl (fun w' M=>getF g xi TK w' (K0.ext M.ext) (G.ext M.ext) h0 hxm) fun z hz5=>?_
      (refine J.nil ?_;exact J.outF (⟨0,z⟩) (⟨hz5.1,hz5.2.trans ho.symm⟩) rfl (by(try dsimp only[List.cons_append,List.nil_append]);repeat(first|exact List.nil_sublist _|exact List.Sublist.refl _|refine List.Sublist.cons_cons _ ?_|refine List.Sublist.cons _ ?_)))
    · refine stepF.i .q (fun c=>[]) (fun c=>[]) (fun c x=>[]) (fun c x=> .tuple #[.agg (opC (c 5).z).toArray, .int .i64 0]) (fun c=>((c 5).z.o.n≤(c 5).z.pc∧(c 5).z.o=o)∧True) (fun c x=>True) (fun c=>[(52, .tuple #[.agg (opC (c 5).z).toArray, .int .i64 0])]) [47,48,49,50,51,46,53,54,13,14] (some 46) (fun F c v hp=>?_) (fun _=>by kernel_rfl) (fun _=>by kernel_rfl) (fun _ _=>by kernel_rfl) (fun _ _=>by kernel_rfl) (fun c h=>⟨h 5 (hasN_iff.1 rfl),trivial⟩) (fun c x h=>h) (fun _=>by kernel_rfl) (by kernel_rfl) (by kernel_rfl)
      obtain⟨hzz,_⟩:=hp;refine run ?_
      (refine J.nil ?_;exact J.outF (default) (trivial) rfl (by(try dsimp only[List.cons_append,List.nil_append]);repeat(first|exact List.nil_sublist _|exact List.Sublist.refl _|refine List.Sublist.cons_cons _ ?_|refine List.Sublist.cons _ ?_)))
    · refine stepF.i .q (fun c=>[]) (fun c=>[]) (fun c x=>[]) (fun c x=> .agg (opC (c 5).z).toArray) (fun c=>((c 5).z.o.n≤(c 5).z.pc∧(c 5).z.o=o)∧True) (fun c x=>True) (fun c=>[(52, .tuple #[.agg (opC (c 5).z).toArray, .int .i64 0]),(46, .tuple #[.agg (opC (c 5).z).toArray, .int .i64 0])]) [47,48,49,50,51,53,54,13,14] (some 53) (fun F c v hp=>?_) (fun _=>by kernel_rfl) (fun _=>by kernel_rfl) (fun _ _=>by kernel_rfl) (fun _ _=>by kernel_rfl) (fun c h=>⟨h 5 (hasN_iff.1 rfl),trivial⟩) (fun c x h=>h) (fun _=>by kernel_rfl) (by kernel_rfl) (by kernel_rfl)
      obtain⟨hzz,_⟩:=hp;refine run ?_
      (refine J.nil ?_;exact J.outF (default) (trivial) rfl (by(try dsimp only[List.cons_append,List.nil_append]);repeat(first|exact List.nil_sublist _|exact List.Sublist.refl _|refine List.Sublist.cons_cons _ ?_|refine List.Sublist.cons _ ?_)))
    · refine stepF.i .q (fun c=>[]) (fun c=>[]) (fun c x=>[]) (fun c x=> .int .i64 0) (fun c=>True) (fun c x=>True) (fun c=>[(46, .tuple #[.agg (opC (c 5).z).toArray, .int .i64 0])]) [47,48,49,50,51,52,53,54,13,14] (some 54) (fun F c v hp=>?_) (fun _=>by kernel_rfl) (fun _=>by kernel_rfl) (fun _ _=>by kernel_rfl) (fun _ _=>by kernel_rfl) (fun c h=>trivial) (fun c x h=>h) (fun _=>by kernel_rfl) (by kernel_rfl) (by kernel_rfl)
      refine run ?_
      (refine J.nil ?_;exact J.outF (default) (trivial) rfl (by(try dsimp only[List.cons_append,List.nil_append]);repeat(first|exact List.nil_sublist _|exact List.Sublist.refl _|refine List.Sublist.cons_cons _ ?_|refine List.Sublist.cons _ ?_)))
    · refine stepF.i .e (fun c=>[]) (fun c=>[]) (fun c x=>[.blk (x).b (opC ⟨S.OpV.zero,none,0⟩) 34]) (fun c x=> .pointer (some ⟨(x).b,0,none⟩)) (fun c=>True) (fun c x=>True) (fun c=>[]) [47,48,49,50,51,52,46,53,54,13,14] (some 13) (fun F c v hp=>?_) (fun _=>by kernel_rfl) (fun _=>by kernel_rfl) (fun _ _=>by kernel_rfl) (fun _ _=>by kernel_rfl) (fun c h=>trivial) (fun c x h=>h) (fun _=>by kernel_rfl) (by kernel_rfl) (by kernel_rfl)
      refine run ?_;refine J.alloc rfl fun b=>?_
      (refine J.nil ?_;exact J.outF (⟨b,⟨S.OpV.zero,none,0⟩⟩) (trivial) rfl (by(try dsimp only[List.cons_append,List.nil_append]);repeat(first|exact List.nil_sublist _|exact List.Sublist.refl _|refine List.Sublist.cons_cons _ ?_|refine List.Sublist.cons _ ?_)))
    · refine stepF.i .e (fun c=>[.blk (c 9).b (opC ⟨S.OpV.zero,none,0⟩) 34]) (fun c=>[]) (fun c x=>[.blk (c 9).b (opC (c 5).z) 34]) (fun c x=>undef) (fun c=>((c 5).z.o.n≤(c 5).z.pc∧(c 5).z.o=o)∧True) (fun c x=>True) (fun c=>[(52, .tuple #[.agg (opC (c 5).z).toArray, .int .i64 0]),(53, .agg (opC (c 5).z).toArray),(13, .pointer (some ⟨(c 9).b,0,none⟩))]) [47,48,49,50,51,46,54,14] (none) (fun F c v hp=>?_) (fun _=>by kernel_rfl) (fun _=>by kernel_rfl) (fun _ _=>by kernel_rfl) (fun _ _=>by kernel_rfl) (fun c h=>⟨h 5 (hasN_iff.1 rfl),trivial⟩) (fun c x h=>h) (fun _=>by kernel_rfl) (by kernel_rfl) (by kernel_rfl)
      obtain⟨hzz,_⟩:=hp;refine run ?_
      (refine J.nil ?_;exact J.outF (default) (trivial) rfl (by(try dsimp only[List.cons_append,List.nil_append]);repeat(first|exact List.nil_sublist _|exact List.Sublist.refl _|refine List.Sublist.cons_cons _ ?_|refine List.Sublist.cons _ ?_)))
    · refine stepF.i .q (fun c=>[]) (fun c=>[]) (fun c x=>[]) (fun c x=> .int .i64 0) (fun c=>True) (fun c x=>True) (fun c=>[(54, .int .i64 0)]) [47,48,49,50,51,52,46,53,13,14] (some 14) (fun F c v hp=>?_) (fun _=>by kernel_rfl) (fun _=>by kernel_rfl) (fun _ _=>by kernel_rfl) (fun _ _=>by kernel_rfl) (fun c h=>trivial) (fun c x h=>h) (fun _=>by kernel_rfl) (by kernel_rfl) (by kernel_rfl)
      refine run ?_
      (refine J.nil ?_;exact J.outF (default) (trivial) rfl (by(try dsimp only[List.cons_append,List.nil_append]);repeat(first|exact List.nil_sublist _|exact List.Sublist.refl _|refine List.Sublist.cons_cons _ ?_|refine List.Sublist.cons _ ?_)))
    obtain⟨-, -, -, -, -,(hzz:(c 5).z.o.n≤(c 5).z.pc∧(c 5).z.o=o), -, -, -, -, -, -, -⟩:=hp;generalize c 5=u5 at*;generalize c 9=u9 at*;obtain⟨_,z⟩:=u5;obtain⟨b13,_⟩:=u9;dsimp only at hzz⊢;obtain⟨hzc,rfl⟩:=hzz;refine run ?_;refine J.call rfl rfl (fun w' M=>(RW.row' (a:=z.pa) w' M).elim fun _ k=>stOffF s v z TK w' (K0.ext M.ext) hs (hs.own hz w' M) ⟨hok,k,hzc⟩ n1 n2) fun s1 hs1=>?_
    refine run ?_;refine J.alloc rfl fun b15=>?_
    refine run ?_;refine J.call rfl rfl (fun w' M=>(RW.row' (a:=z.pa) w' M).elim fun _ k=>shPutF t v z TK w' (K0.ext M.ext) ht (ht.ownZ hz w' M) (ht.LZ hz (ht.ownZ hz w' M)) ⟨hok,k,hzc⟩ n4 n5 n6) fun t1 ht1=>?_
    refine run ?_;refine J.alloc rfl fun b18=>?_
    refine J.alloc rfl fun b19=>?_
    refine run ?_;refine J.regionX [(0, .q),(1, .q),(2, .q),(3, .q),(4, .q),(5, .q),(6, .q),(7, .q),(8, .q),(9, .q),(10, .q),(11, .q),(12, .q),(13, .q),(14, .q),(15, .q),(16, .q),(17, .q),(18, .q),(19, .q),(20, .q),(21, .q)] mixed (by kernel_rfl) ?_;refine run ?_;refine J.ifd rfl (fun c2=>absurd rfl c2) (fun _=>?_);refine run ?_;refine J.front (.blk b10 (shC t) 72) ?_;refine J.front (.blk b8 (srC s) 74) ?_;refine J.regionF (δ:=Nat) (0) [⟨some 92,fun c=> .agg (srC s1).toArray,fun c=>[],fun c=>True,[],[],[]⟩,⟨some 93,fun c=> .agg (shC t1).toArray,fun c=>[],fun c=>True,[],[],[]⟩,⟨none,fun c=>undef,fun c=>[.blk b8 (srC s1) 74],fun c=>True,[0,4],[4],[4]⟩,⟨none,fun c=>undef,fun c=>[.blk b10 (shC t1) 72],fun c=>True,[1,5],[5],[5]⟩,⟨none,fun c=>undef,fun c=>[.blk b8 (srC s) 74],fun c=>True,[],[],[]⟩,⟨none,fun c=>undef,fun c=>[.blk b10 (shC t) 72],fun c=>True,[],[],[]⟩] [.blk b8 (srC s) 74, .blk b10 (shC t) 72] (fun c=>[(92, .agg (srC s1).toArray),(93, .agg (shC t1).toArray)]) (fun c=>[.blk b8 (srC s1) 74, .blk b10 (shC t1) 72]) mixed (by kernel_rfl) rfl ⟨trivial,trivial,trivial⟩ ⟨?_,?_,?_,?_,trivial⟩ (fun _=>by kernel_rfl) (fun _=>by kernel_rfl) (fun c hp=>?_)
    · refine stepF.i .q (fun c=>[]) (fun c=>[]) (fun c x=>[]) (fun c x=> .agg (srC s1).toArray) (fun c=>True) (fun c x=>True) (fun c=>[]) [92,93] (some 92) (fun F c v hp=>?_) (fun _=>by kernel_rfl) (fun _=>by kernel_rfl) (fun _ _=>by kernel_rfl) (fun _ _=>by kernel_rfl) (fun c h=>trivial) (fun c x h=>h) (fun _=>by kernel_rfl) (by kernel_rfl) (by kernel_rfl)
      refine run ?_
      (refine J.nil ?_;exact J.outF (0) (trivial) rfl (by(try dsimp only[List.cons_append,List.nil_append]);repeat(first|exact List.nil_sublist _|exact List.Sublist.refl _|refine List.Sublist.cons_cons _ ?_|refine List.Sublist.cons _ ?_)))
    · refine stepF.i .q (fun c=>[]) (fun c=>[]) (fun c x=>[]) (fun c x=> .agg (shC t1).toArray) (fun c=>True) (fun c x=>True) (fun c=>[]) [92,93] (some 93) (fun F c v hp=>?_) (fun _=>by kernel_rfl) (fun _=>by kernel_rfl) (fun _ _=>by kernel_rfl) (fun _ _=>by kernel_rfl) (fun c h=>trivial) (fun c x h=>h) (fun _=>by kernel_rfl) (by kernel_rfl) (by kernel_rfl)
      refine run ?_
      (refine J.nil ?_;exact J.outF (0) (trivial) rfl (by(try dsimp only[List.cons_append,List.nil_append]);repeat(first|exact List.nil_sublist _|exact List.Sublist.refl _|refine List.Sublist.cons_cons _ ?_|refine List.Sublist.cons _ ?_)))
    · refine stepF.i .e (fun c=>[.blk b8 (srC s) 74]) (fun c=>[]) (fun c x=>[.blk b8 (srC s1) 74]) (fun c x=>undef) (fun c=>True) (fun c x=>True) (fun c=>[(92, .agg (srC s1).toArray)]) [93] (none) (fun F c v hp=>?_) (fun _=>by kernel_rfl) (fun _=>by kernel_rfl) (fun _ _=>by kernel_rfl) (fun _ _=>by kernel_rfl) (fun c h=>trivial) (fun c x h=>h) (fun _=>by kernel_rfl) (by kernel_rfl) (by kernel_rfl)
      refine run ?_
      (refine J.nil ?_;exact J.outF (0) (trivial) rfl (by(try dsimp only[List.cons_append,List.nil_append]);repeat(first|exact List.nil_sublist _|exact List.Sublist.refl _|refine List.Sublist.cons_cons _ ?_|refine List.Sublist.cons _ ?_)))
    · refine stepF.i .e (fun c=>[.blk b10 (shC t) 72]) (fun c=>[]) (fun c x=>[.blk b10 (shC t1) 72]) (fun c x=>undef) (fun c=>True) (fun c x=>True) (fun c=>[(93, .agg (shC t1).toArray)]) [92] (none) (fun F c v hp=>?_) (fun _=>by kernel_rfl) (fun _=>by kernel_rfl) (fun _ _=>by kernel_rfl) (fun _ _=>by kernel_rfl) (fun c h=>trivial) (fun c x h=>h) (fun _=>by kernel_rfl) (by kernel_rfl) (by kernel_rfl)
      refine run ?_
      (refine J.nil ?_;exact J.outF (0) (trivial) rfl (by(try dsimp only[List.cons_append,List.nil_append]);repeat(first|exact List.nil_sublist _|exact List.Sublist.refl _|refine List.Sublist.cons_cons _ ?_|refine List.Sublist.cons _ ?_)))
    obtain⟨-, -, -, -, -⟩:=hp;refine run ?_;refine J.front (.wown 23 .u8 32 s1.oa s1.on s1.oc s1.os) ?_;refine J.front (shW s1.sh) ?_;refine J.front (.blk b8 (srC s1) 74) ?_;refine J.front (shW t1) ?_;refine J.front (.blk b10 (shC t1) 72) ?_;refine J.drop (E:=[.blk b10 (shC t1) 72,shW t1, .blk b8 (srC s1) 74,shW s1.sh, .wown 23 .u8 32 s1.oa s1.on s1.oc s1.os, .blk b6 (srC StA.zero) 74, .blk b3 (grC g) 65]) sb ?_;exact J.next ⟨i+1,s1,t1⟩ ⟨rfl,trivial⟩ (by kernel_rfl) ⟨by dsimp only;omega,⟨_,n3,hs1,ht1,hz.ofS z.o A.sg⟩⟩ (by dsimp only;omega)
  obtain rfl:i=g.m:=by omega
  have A':S.AtX g.P rd rd.length v:=by rw[hrl];exact A
  have hall:=A'.all F O (by show g.m≤rd.length;omega);have hsh:S.okR v.sh:=A.ok.1.2.1;refine run ?_;refine J.know (fun w' M=>refWholeOk (hs.own hz w' M).sh) fun hokW=>?_
  refine J.call rfl rfl (fun w' M=>shAll t TK w' (K0.ext M.ext) (ht.ownZ hz w' M) (ht.LZ hz (ht.ownZ hz w' M))) fun q hq=>?_
  rw[ht.V,S.al_0 hsh,hall]at hq;rw[ht.V,S.chkH_0 hsh];dsimp only[grE,List.cons_append,List.nil_append];have s1:=GrP.sz (P:=g.P) hq ⟨F.good,F.le⟩;rw[show S.whole s.sh.V.ps=g.P from by rw[congrArg S.ShV.ps (congrArg S.StV.sh hs.V)];exact hall]at hokW;refine run ?_;refine J.alloc rfl fun b21=>?_
  refine run ?_;refine J.regionX [(0, .q),(1, .q),(2, .q),(3, .q),(4, .q),(5, .q),(6, .e),(7, .q),(8, .q),(9, .q),(10, .q),(11, .q),(12, .e),(13, .c),(14, .g),(15, .q)] mixed (by kernel_rfl) ?_;refine run ?_;have e1:s.os=S.osX g.P rd:=by
    have h1:s.os=v.os:=congrArg S.StV.os hs.V;have h2:=A.os;rw[List.take_of_length_le (by omega)]at h2;exact h1.trans h2
  have e2:s.on=g.m:=(congrArg S.StV.n hs.V).trans A.n;refine J.callp rfl rfl (fun w' M=>refGSame q g w' (GrR.own (hq.ok hokW) hq.cap s1 w' M) (G.ext M.ext)) ?_;rw[show decide (q.ids=g.ids∧q.ops=g.ops)=true from decide_eq_true ⟨hq.ids,hq.ops⟩];refine run ?_;refine J.callp rfl rfl (fun w' M=>(RW.own' (a:=s.oa) w' M).elim fun _ k0=>sameIDs _ _ _ _ _ _ _ _ w' k0 (D1.ext M.ext) (by omega) (by omega)) ?_;rw[show decide (s.os=S.osX g.P rd)=true from decide_eq_true e1];refine run ?_;exact J.finG s rfl ⟨v,A,hs,hz⟩ sb
instance:Ents prog 58:=⟨.mk func58 (by kernel_rfl) rfl⟩
instance:Ents prog 59:=⟨.mk func59 (by kernel_rfl) rfl⟩
structure RwA where
  (i d:Nat)
structure RzA where
  (r:Nat)(s:StA)
structure RzI(g:S.PG)(d:Nat→Nat)(r:Nat)(s:StA):Prop where
  ex:∃v,S.RnX g d r v∧StK v s∧StZ v
theorem stRunG{S0 S1:Nat→Prop}(s:StA)(v:S.StV)(a:Option Addr)(n c:Nat)(zs:List OpA)(TK:TypeId)(w:World)(K0:Kst w TK)(hs:StK v s)(H:StR S0 w s)(O:GRow opC 11 S1 w a n zs)(I0:Inns opI S1 w zs)(hok:∀z∈zs,z.o.ok)(hn:n≤100000){l:List S.OpV}(hl:zs.map OpA.o=l)(h1:S.runE v l=0)(h2:(S.runL v l).length=n):
    Calls prog 59 #[.agg (srC s).toArray, .slice a n c] w (Gv w (fun q:StA×Option Addr×Nat=> .tuple #[.agg (srC q.1).toArray, .slice q.2.1 n q.2.2, .int .i64 0]) (fun q=>[shW q.1.sh, .wown 23 .u8 32 q.1.oa q.1.on q.1.oc q.1.os, .iown 5 .u8 q.2.1 n q.2.2 (S.runL v l)]) fun q=>StK (S.runS v l) q.1):=by
  have h:=stRun s a n c zs TK w K0 H O I0 hok hn;rw[hs.V,hl,h1,h2]at h;exact h
theorem topRounds{S0 S1:Nat→Prop}(g:GrA)(la:Option Addr)(n lc:Nat)(zs:List OpA)(m:Int)(TK:TypeId)(w:World)(K0:Kst w TK)(G:GrR S0 w g)(h0:S.chkG g.m g.ids g.ops=0)(O:GRow opC 11 S1 w la n zs)(I0:Inns opI S1 w zs)(hok:∀z∈zs,z.o.ok)(hn:n≤12)(hgn:g.m=n)(hm:1≤m∧m≤4){l:List S.OpV}(hl:zs.map OpA.o=l)(hv:∀o∈l,S.verE o=0∧g.P.has (S.idOf o) o)(ha:∀i,i<g.m→g.ops.getD i S.OpV.zero∈l):
    Calls prog 18 #[.agg (grC g).toArray, .slice la n lc, .int .i64 m] w (Gv w (fun q:StA=> .tuple #[.agg (srC q).toArray, .bool true]) (fun q=>stE q) fun q=>∃v,StK v q∧StZ v∧S.RdX g.P v∧S.whole v.sh.ps=g.P):=by
  have D0:=G.ids;have hll:=G.len;have hcp:=G.cap;have hzl:=O.len;have hln:l.length=n:=by rw[←hl,List.length_map,hzl]
  obtain⟨_,hmn,_,hr,ho,_⟩:=S.chkG_zero.1 h0;have F:g.P.fine:=(S.chk_fine (g:=g.P) D0.len).1 h0;obtain⟨rd,r1,r2,r3,r4⟩:=(S.found_ord (g:=g.P) F.good F.rising (fun i hi j hj=>ho i hi j hj)).2 F.ord;have hd:=S.dpL_is (N:=g.m) r1 r4 fun i hi=>S.nodup_all r1 r2 r3 hi;obtain⟨d,hd0⟩:=ex (S.dpL (S.prS g.m g.ids g.ops) rd);have hd:S.IsDp (S.prS g.m g.ids g.ops) g.m d:=hd0▸hd;have hrd:rd.length≤g.m:=by
    have:=S.nodup_len r1 (m:=List.range g.m) fun x hx=>List.mem_range.2 (r2 x hx);rwa[List.length_range]at this
  have hdm:∀i,i<g.m→d i<g.m:=fun i hi=>by
    obtain⟨k,hk,e⟩:=List.getElem_of_mem (S.nodup_all r1 r2 r3 hi);rw[←S.getD_at (d:=0) hk]at e;have:=S.isDp_le r4 r2 hd k hk;rw[e]at this;omega
  clear hd0;refine J.enter 80 func18 rfl rfl ?_;refine run ?_;refine J.box rfl rfl rfl fun b3=>?_
  refine J.alloc rfl fun b6=>?_
  refine run ?_;refine J.call rfl rfl (fun w' M=>stNewF hm w') fun s0 hs0=>?_
  refine run ?_;refine J.alloc rfl fun b8=>?_
  refine run ?_;refine J.loopS (A:=RwA) (fun p=>[(10, .int .i64 (p.d:Nat)),(11, .int .i64 (p.i:Nat))]) [7,12,13,26,27,28,29,30,31,32,33,34,35,36,37,38,39,40,41,42,43,44,45,46,47,48,49,50,51,52,53,54,55,56,57,58] (fun p=>(p.i≤g.m∧p.d≤g.m)∧∀k,k<p.i→d k≤p.d) (fun p=>g.m - p.i) ⟨0,0⟩ (by kernel_rfl) ⟨⟨Nat.zero_le _,Nat.zero_le _⟩,fun k hk=>absurd hk (Nat.not_lt_zero _)⟩ (fun p j hI=>?_);obtain⟨i,dm⟩:=p;obtain⟨⟨hi,hdm0⟩,hI⟩:=hI;dsimp only at hi hdm0 hI⊢;refine run ?_;refine J.ifd rfl (fun c1=>?_) (fun c1=>?_)
  · have him:i<g.m:=by omega
    have hA:Arr .u8 32 (elt 32 g.ids i):=D0.elt_arr him;have hin:S.inS g.m g.ids (elt 32 g.ids i):=⟨i,him,rfl⟩
    have hix:S.ixS g.m g.ids (elt 32 g.ids i)=i:=S.ix_eq hr him;have hdi:=hdm i him;refine run ?_;refine J.regionX [(0, .q),(1, .q),(2, .q),(3, .q),(4, .q),(5, .q),(6, .e),(7, .q),(8, .q),(9, .q),(10, .q),(11, .q)] mixed (by kernel_rfl) ?_;refine run ?_;rw[Int.toNat_natCast i];refine J.call rfl rfl (fun w' M=>ancDepth g (elt 32 g.ids i) TK w' (K0.ext M.ext) (G.ext M.ext) h0 hA hin) fun nn hnn=>?_
    obtain rfl:nn=d i:=by
      obtain⟨d',k1,k2⟩:=hnn;rw[k2,hix];exact S.isDp_uniq r4 r2 k1 hd i (S.nodup_all r1 r2 r3 him)
    refine run ?_;refine J.ifd rfl (fun c3=>by omega) (fun c3=>?_);refine run ?_;obtain⟨dx,hx1,hx2,hx3,hx4⟩:∃x:Nat,(if((d i:Nat):Int)>((dm:Nat):Int)then((d i:Nat):Int)else((dm:Nat):Int))=((x:Nat):Int)∧d i≤x∧dm≤x∧x≤g.m:=by
      by_cases c:((d i:Nat):Int)>((dm:Nat):Int)
      · exact⟨d i,if_pos c,Nat.le_refl _,by omega,by omega⟩
      · exact⟨dm,if_neg c,by omega,Nat.le_refl _,hdm0⟩
    rw[hx1];refine J.nextS ⟨i+1,dx⟩ ⟨rfl,rfl,trivial⟩ (by kernel_rfl) ⟨⟨by dsimp only;omega,hx4⟩,fun k hk=>?_⟩ (by dsimp only;omega);dsimp only at hk⊢;rcases Nat.lt_or_ge k i with e|e
    · have:=hI k e
      omega
    · obtain rfl:k=i:=by omega
      exact hx2
  obtain rfl:i=g.m:=by omega
  refine run ?_;refine J.loop (A:=RzA) (fun p=>[(14, .int .i64 (p.r:Nat))]) [7,15,16,17,59,60,61,62,63,64,65,66,67,68,69,70,71,72,73,74,75,76,77,78,79,80,81] (fun p=>[.blk b8 (srC p.s) 74,shW p.s.sh, .wown 23 .u8 32 p.s.oa p.s.on p.s.oc p.s.os, .blk b6 (srC StA.zero) 74, .blk b3 (grC g) 65]) (fun p=>p.r≤dm+1∧RzI g.P d p.r p.s) (fun p=>dm+1 - p.r) ⟨0,s0⟩ (by kernel_rfl) ⟨Nat.zero_le _,⟨_,S.RnX.first g.P d hm,hs0,StZ.nw 40 m⟩⟩ (fun p j hJ=>?_);obtain⟨r,s⟩:=p;obtain⟨hr1,v,N,hs,hz⟩:=hJ;dsimp only at hr1 N hs hz⊢;refine run ?_;refine J.ifd rfl (fun c1=>?_) (fun c1=>?_)
  · obtain⟨k1,k2,k3⟩:=N.next F hd hv ha (show g.P.m≤39 from by show g.m≤39;omega) (by omega)
    refine run ?_;refine J.call rfl rfl (fun w' M=>stRunG s v la n lc zs TK w' (K0.ext M.ext) hs (hs.own hz w' M) (O.ext M.ext) (I0.ext M.ext) hok (by omega) hl k1 (by omega)) fun q hq=>?_
    obtain⟨s1,va,vc⟩:=q;dsimp only at hq⊢;refine run ?_;refine J.alloc rfl fun b15=>?_
    refine run ?_;refine J.ifn rfl (fun h=>absurd rfl h) (fun _=>?_);refine run ?_;refine J.front (.wown 23 .u8 32 s1.oa s1.on s1.oc s1.os) ?_;refine J.front (shW s1.sh) ?_;refine J.front (.blk b8 (srC s1) 74) ?_;refine J.drop (E:=[.blk b8 (srC s1) 74,shW s1.sh, .wown 23 .u8 32 s1.oa s1.on s1.oc s1.os, .blk b6 (srC StA.zero) 74, .blk b3 (grC g) 65]) sb ?_;exact J.next ⟨r+1,s1⟩ ⟨rfl,trivial⟩ (by kernel_rfl) ⟨by dsimp only;omega,⟨_,k3,hq,hz.runS l N.R.sg⟩⟩ (by dsimp only;omega)
  obtain rfl:r=dm+1:=by omega
  have hall:=N.all F fun i hi=>Nat.lt_succ_of_le (hI i hi);refine run ?_;exact J.finG s rfl ⟨v,hs,hz,N.R,hall⟩ sb
end W
namespace S
open G
theorem lost_all{g Q:PG}(F:g.fine){l:List Nat}(O:OrdX g l){i:Nat}(Pt:PartG g l i Q)(hi:i≤l.length){k:Nat}(h1:i≤k)(h2:k<l.length):inS (numF (absF Q.m Q.ids g.ids) g.m) (selF (absF Q.m Q.ids g.ids) g.ids g.m) (idAt g.ids (l.getD k 0)):=by
 obtain⟨_,_,r3⟩:=sel_rising (f:=absF Q.m Q.ids g.ids) F.good.1 F.rising;have ha:=O.lt _ (getD_mem h2);refine(r3 _).2 ⟨_,ha,?_,rfl⟩;unfold absF;refine decide_eq_true fun h=>?_
 obtain⟨u,hu⟩:=has_in.1 h;obtain⟨k2,hk2,e,_⟩:=(Pt.has _ _).1 hu;have e2:=rising_inj F.rising ha (O.lt _ (getD_mem (by omega))) e;have:=mem_take_getD (l:=l) (show k2<k by omega) (by omega);rw[←e2]at this;exact getD_notin O.nd h2 this
theorem idAt_drop(l:List Int)(a j:Nat):idAt (l.drop (32*a)) j=idAt l (a+j):=by
 unfold idAt;rw[List.drop_drop,Nat.mul_add]
theorem st_heads{g:PG}{v:StV}(sg:StG v)(ok:okT v)(h:whole v.sh.ps=g):hdL v.sh=hdI g∧hdV v.sh=(g.m:Nat)∧chkH v.sh=0∧v.n=g.m:=by
 have T:=ok_fineT sg ok;have hr:okR v.sh:=ok.1.2.1;have hv:=ok.1.2.2.2;have hm:=T.m;rw[h]at hm;refine⟨?_,?_,chkH_0 hr,hm.symm⟩
 ·unfold hdL;rw[if_pos hr,T.hs,h]
 ·unfold hdV;rw[if_pos hr];omega
/-! ### the example -/
theorem top_one:lstE [hxP]=0∧(lstP [hxP]).m=1∧hdN (lstP [hxP])=1∧hdI (lstP [hxP])=(lstP [hxP]).ids∧(lstP [hxP]).fine:=by
 have a:addE .nil hxP=0:=addE_0 hx_chk hx_verP (nil_in _) (fun j hj=>absurd hj (Nat.not_lt_zero _)) (by decide);obtain⟨_,_,f3,f4,_,f6⟩:=add_fine rfl a;obtain⟨G,hG⟩:∃G,addP .nil hxP=G:=⟨_,rfl⟩
 rw[hG]at f3 f4 f6;have hm:G.m=1:=f4;have ho:G.ops=[hxP]:=by
  have h1:G.ops.length=1:=by rw[f3.good.2];exact hm
  obtain⟨x,hx⟩:=List.length_eq_one_iff.1 h1;have h2:G.has (idAt G.ids 0) (G.ops.getD 0 OpV.zero):=⟨0,by omega,rfl,rfl⟩
  rw[hx]at h2;rcases(f6 _ _).1 h2 with h|h
  ·exact absurd h (nil_has _ _)
  ·rw[hx];exact congrArg (fun u=>[u]) h.2
 obtain⟨l1,l2⟩:=lst_perm f3 (l:=[hxP]) (by rw[ho]);obtain⟨d1,d2,d3⟩:=hd_all f3
 obtain ⟨e1, e2⟩ := idsG_ext d1 f3.good.1 d2 f3.rising fun x => (d3 x).trans ⟨fun h => h.1, fun h => ⟨h, fun y u hu => by
  rcases (f6 _ _).1 hu with k | k
  ·exact absurd k (nil_has _ _)
  ·rw [k.2]
   exact fun ⟨j, hj, _⟩ => absurd hj (Nat.not_lt_zero _)⟩⟩
 rw[l2];exact⟨l1,hm,e1.trans hm,e2,f3⟩
/-! ### lists that make a graph -/
theorem lst_list{l:List OpV}(h:lstE l=0):(lstP l).fine∧(lstP l).m=l.length∧(∀o∈l,verE o=0∧(lstP l).has (idOf o) o)∧∀i,i<(lstP l).m→(lstP l).ops.getD i OpV.zero∈l:=by
 have hv:verL l=0:=by
  apply Classical.byContradiction;intro c;unfold lstE at h;split at h
  ·exact absurd h (by decide)
  ·exact c h
 have h60:¬60<l.length:=fun c=>by rw[lstE_4 c]at h;exact absurd h (by decide)
 cases hk:mkN l l.length with
 |none=>
  rw[lstE_14 h60 hv hk]at h;exact absurd h (by decide)
 |some g=>
  have e:=lstP_yes h hk;obtain⟨g1,g2,g3,g4⟩:=mkN_good hk;rw[lstE_s h60 hv hk]at h;rw[e];have hin:∀o∈l,verE o=0∧g.has (idOf o) o:=fun o ho=>by
   obtain⟨k,hk,rfl⟩:=List.getElem_of_mem ho;exact⟨verL_zero.1 hv _ ho,(g4 _ _).2 ⟨k,hk,by rw[getD_at hk],by rw[getD_at hk]⟩⟩
  have hall:∀i,i<g.m→g.ops.getD i OpV.zero∈l:=fun i hi=>by
   obtain⟨k,hk,_,e2⟩:=(g4 (idAt g.ids i) (g.ops.getD i OpV.zero)).1 ⟨i,hi,rfl,rfl⟩;rw[e2,getD_at hk];exact List.getElem_mem _
  refine⟨?_,g3,hin,hall⟩;refine(chkP_fine g1.1).1 ?_;unfold chkP chkG;have hown:ownsS g.ids g.ops:=fun i hi=>by
   rw[g1.2]at hi;obtain⟨k,hk,e1,e2⟩:=(g4 (idAt g.ids i) (g.ops.getD i OpV.zero)).1 ⟨i,hi,rfl,rfl⟩;rw[e1,e2];exact⟨verL_zero.1 hv _ (by rw[getD_at hk];exact List.getElem_mem _),rfl⟩
  rw[if_neg (by rw[g1.2,g3];exact h60),if_neg (by rw[g1.2];exact not_not_intro rfl),if_neg (not_not_intro hown)];exact h
end S
namespace W
open Go.RowKit G
set_option maxRecDepth 20000
set_option maxHeartbeats 8000000
attribute [local irreducible] RS RX RY Code.wp bodyPost J Ent.blk Ent.iown Ent.wrow Ent.wown Ent.gown Ent.all Ent.emp
instance:Ents prog 62:=⟨.mk func62 (by kernel_rfl) rfl⟩
theorem topHeads{S0 S1 S2:Nat→Prop}(g:GrA)(s1 s2:StA)(TK:TypeId)(w:World)(K0:Kst w TK)(G:GrR S0 w g)(h0:S.chkG g.m g.ids g.ops=0)(H1:StR S1 w s1)(H2:StR S2 w s2)(o1:S.okT s1.V∧S.whole s1.V.sh.ps=g.P)(o2:S.okT s2.V∧S.whole s2.V.sh.ps=g.P):
    Calls prog 21 #[.agg (grC g).toArray, .agg (srC s1).toArray, .agg (srC s2).toArray] w (Ret w fun v _=>v= .bool true):=by
  have hcp:=G.cap;obtain⟨a1,a2,a3,a4⟩:=S.st_heads H1.g o1.1 o1.2;obtain⟨b1,b2,b3,b4⟩:=S.st_heads H2.g o2.1 o2.2;have hnh:S.hdN g.P≤g.m:=S.numF_le _ _;obtain⟨hI,hhI⟩:=ex (S.hdI g.P);refine J.enter 63 func21 rfl rfl ?_;refine run ?_;refine J.box rfl rfl rfl fun c3=>?_
  refine J.box rfl rfl rfl fun c4=>?_
  refine J.box rfl rfl rfl fun c5=>?_
  refine run ?_;refine J.call rfl rfl (fun w' M=>ancHeads g TK w' (K0.ext M.ext) (G.ext M.ext) h0) fun q hq=>?_
  rw[←hhI]at a1 b1⊢;refine run ?_;refine J.call rfl rfl (fun w' M=>shHeads s1.sh TK w' (K0.ext M.ext) (H1.sh.ext M.ext) H1.L) fun q1 hq1=>?_
  rw[show S.hdL s1.sh.V=hI from a1,show S.hdV s1.sh.V=_ from a2,show S.chkH s1.sh.V=0 from a3];refine run ?_;refine J.call rfl rfl (fun w' M=>shHeads s2.sh TK w' (K0.ext M.ext) (H2.sh.ext M.ext) H2.L) fun q2 hq2=>?_
  rw[show S.hdL s2.sh.V=hI from b1,show S.hdV s2.sh.V=_ from b2,show S.chkH s2.sh.V=0 from b3];refine run ?_;refine J.spe rfl rfl rfl (fun _=>?_) (fun c=>absurd rfl c);refine run ?_;refine J.spe rfl rfl rfl (fun _=>?_) (fun c=>absurd rfl c);refine run ?_;refine J.callp rfl rfl (fun w' M=>(RW.own' (a:=q.1) w' M).elim fun _ k0=>(RW.row' (a:=q1.1) w' M).elim fun _ k1=>sameIDs _ _ _ _ _ _ _ _ w' k0 k1 (by omega) (by omega)) ?_;rw[show decide (hI=hI)=true from decide_eq_true rfl];refine run ?_;refine J.callp rfl rfl (fun w' M=>(RW.own' (a:=q.1) w' M).elim fun _ k0=>(RW.row' (a:=q2.1) w' M).elim fun _ k1=>sameIDs _ _ _ _ _ _ _ _ w' k0 k1 (by omega) (by omega)) ?_;rw[show decide (hI=hI)=true from decide_eq_true rfl];refine run ?_;exact J.fin rfl
@[reducible] def bwW(z:OpA):Ent:= .wrow .u8 32 z.pa z.o.n z.o.ids
theorem bwInn{S0:Nat→Prop}{w0:World}{L:List Ent}{zs:List OpA}{F:Ent→List Ent}[R:RE L (.all (zs.map bwW)) F](hc:∀z∈zs,z.o.n≤z.pc)(w:World)(M:Mem S0 w0 L w):Inns opI (fun _=>True) w zs:=fun z hz i hi=>by
  obtain⟨C,_,c⟩:=M.get (R.h (.all (zs.map bwW))).same;obtain⟨S',_,k⟩:=sep_mem (List.mem_map.2 ⟨z,hz,rfl⟩) (all_e c);obtain rfl:=List.mem_singleton.1 hi;have k:(Ent.wrow .u8 32 z.pa z.o.n z.o.ids).ok S' w:=k;unfold Ent.wrow at k;exact⟨k.weaken fun _ _ _=>trivial,hc z hz⟩
theorem ofFine{S0:Nat→Prop}(a:Option Addr)(n c:Nat)(zs:List OpA)(TK:TypeId)(w:World)(K0:Kst w TK)(O:GRow opC 11 S0 w a n zs)(I0:Inns opI (fun _=>True) w zs)(hok:∀z∈zs,z.o.ok)(hn:n≤100000){l:List S.OpV}(hl:zs.map OpA.o=l){Q:S.PG}(h1:S.lstE l=0)(h2:S.lstP l=Q):
    Calls prog 15 #[.slice a n c] w (Gv w (fun q:GrA=> .tuple #[.agg (grC q).toArray, .int .i64 0]) (grE 23 34) (GrP Q.m Q.ids Q.ops)):=by
  have h:=dagOf a n c zs TK w K0 (O.weaken fun _ _ _=>trivial) I0 hok hn;rw[hl,h1,h2]at h;exact h
structure BwA where
  (i:Nat)(a:Option Addr)(c:Nat)(zs:List OpA)
end W
end Go.Proofs.YtjjbdaiioociaaaGreatDoor
