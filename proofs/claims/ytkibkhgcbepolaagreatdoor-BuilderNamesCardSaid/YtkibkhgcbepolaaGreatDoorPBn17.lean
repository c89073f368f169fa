/-
  Part 17 of the lemmas of these laws: BuilderNames.
-/
import Derived.Test.YtkibkhgcbepolaaGreatDoorPBn16
set_option linter.unusedVariables false
set_option linter.unusedSimpArgs false
open Go.Proofs.Tryz
namespace Go.Proofs.YtkibkhgcbepolaaGreatDoor
namespace W
open Go.RowKit G
set_option maxRecDepth 20000
set_option maxHeartbeats 8000000
attribute [local irreducible] RS RX RY Code.wp bodyPost J Ent.blk Ent.irow Ent.iown Ent.wrow Ent.wown Ent.gown Ent.all Ent.emp
instance:Ents prog 15:=⟨.mk func15 (by kernel_rfl) rfl⟩
instance:Ents prog 21:=⟨.mk func21 (by kernel_rfl) rfl⟩
theorem idsLit{S:Nat→Prop}{w:World}{T:TypeId}{b n:Nat}(l:List IdV)(xs:List Int)(e:flatI l=xs)(hb:Bd .u8 xs)(h:(Ent.gown idC 32 T (some ⟨b,0,none⟩) n n l).ok S w):(Ent.wown T .u8 32 (some ⟨b,0,none⟩) n n xs).ok S w:=e▸gown_wown (e.symm▸hb) h
theorem ofOne{S0 S1:Nat→Prop}(z:OpA)(b:Nat)(w:World)(R:OpR S0 w z)(O:GRow opC 11 S1 w (some ⟨b,0,none⟩) 1 [z]):
  Calls prog 15 #[.slice (some ⟨b,0,none⟩) 1 1] w (Gv w (fun q:GrA=> .tuple #[.agg (grC q).toArray, .int .i64 (S.lstE [z.o])]) (grE 24 37) (GrP (S.lstP [z.o]).m (S.lstP [z.o]).ids (S.lstP [z.o]).ops)):=
 refOf (S0 := fun _ => True) (some ⟨b, 0, none⟩) 1 1 [z] w (O.weaken fun _ _ _ => trivial) (fun y hy i hi => by
  obtain rfl := List.mem_singleton.1 hi
  obtain rfl := List.mem_singleton.1 hy
  exact ⟨R.row.weaken fun _ _ _ => trivial, R.cap⟩) (fun y hy => by
  obtain rfl := List.mem_singleton.1 hy
  exact R.ok) (by decide)
structure BnA where
 (b:Nat)(q:OpA×Option Addr×Nat×Nat)
instance:Inhabited BnA:=⟨⟨0,⟨S.OpV.zero,none,0⟩,none,0,0⟩⟩
instance:Inhabited (OpA×Option Addr×Nat×Nat):=⟨⟨⟨S.OpV.zero,none,0⟩,none,0,0⟩⟩
theorem builderNames(TK:TypeId)(w:World)(K0:Kst w TK):Calls prog 3 #[] w (Ret w fun v _=>v= .bool true):=by
 have hb:=fun(i:Int) (hi:0≤i∧i<256)=>S.hb_arr hi;have hZ:Bd .u8 (List.replicate 32 (0:Int)):=fun x hx=>by rw[List.eq_of_mem_replicate hx];decide
 have hbZ:StZ S.bnT:=by
  have h:=(StZ.nw 2 1).off S.bn_okT.2.1 S.bn_okT.1 S.bn_ver;rwa[S.off_1 S.bn_jud]at h
 have f1:Arr .u8 32 (S.bldR 0 61 (S.bnM 61) 0 S.hbN).i:=(S.bld_fit (x:=0) (n:=61) (ids:=S.bnM 61) (st:=0) S.hb_okN (by decide) (S.bnM_len 61)).i;have f2:Arr .u8 32 (S.bldR 5 0 [] 1000000000001 S.hbN).i:=(S.bld_fit (x:=5) (n:=0) (ids:=[]) (st:=1000000000001) S.hb_okN (by decide) rfl).i;have f3:Arr .u8 32 (S.bldR 5 0 [] 0 S.OpV.zero).i:=(S.bld_fit (x:=5) (n:=0) (ids:=[]) (st:=0) S.OpV.zero_ok (by decide) rfl).i;have f4:Arr .u8 32 (S.bldR 0 0 [] 0 S.hbN).i:=(S.bld_fit (x:=0) (n:=0) (ids:=[]) (st:=0) S.hb_okN (by decide) rfl).i;have f5:Arr .u8 32 (S.wrtR S.bnT 5 S.hbN).i:=(S.wrt_fit S.bnT_ok.2.1 S.hb_okN).i;have f6:Arr .u8 32 (S.wrtR S.StV.zero 5 S.hbN).i:=(S.wrt_fit (zeroStR w).g S.hb_okN).i;have f7:Arr .u8 32 (S.wrtR (S.nwT 2 1) 5 S.OpV.zero).i:=(S.wrt_fit S.bn_okT.2.1 S.OpV.zero_ok).i;refine J.enter 260 func3 rfl rfl ?_;refine run ?_;refine J.nilWo 24 .u8 32 ?_;refine J.loop (A:=GtA) (fun p=>[(1, .slice p.a p.n p.c),(2, .int .i64 (p.n:Nat))]) [54,55,56,57,58,59,60,61,62,63] (fun p=>[.wown 24 .u8 32 p.a p.n p.c (S.bnM p.n)]) (fun p=>p.n≤61) (fun p=>61 - p.n) ⟨0,none,0,[]⟩ (by kernel_rfl) (Nat.zero_le _) (fun p j hI=>?_);refine run ?_;refine J.ifd rfl (fun d1=>?_) (fun d1=>?_)
 ·have hx:Arr .u8 32 (S.hbI (p.n:Nat)):=hb _ (by omega);refine run ?_
  refine J.bI .u8 (List.replicate 32 0) [(0, ((p.n : Nat) : Int))] (S.hbI (p.n : Nat)) rfl rfl rfl rfl ?_ (hb := fun q hq => by
   obtain rfl := List.mem_singleton.1 hq
   show 0 < 32
   decide)
  refine run ?_;refine J.b1W rfl rfl hx fun bb=>?_
  refine J.apW rfl rfl RW.own' fun a' c'=>?_
  rw[show S.bnM p.n++S.hbI ((p.n:Nat):Int)=S.bnM (p.n+1)from rfl];refine run ?_;exact J.next ⟨p.n+1,a',c',[]⟩ ⟨rfl,rfl,trivial⟩ (by kernel_rfl) (by dsimp only;omega) (by dsimp only;omega)
 obtain⟨pn,ma,mc,pz⟩:=p;dsimp only at hI d1⊢;obtain rfl:pn=61:=by omega
 refine J.fact (.wown 24 .u8 32 ma 61 mc (S.bnM 61)) (fun _ _ h=>(wown_len h).2) fun hmc=>?_
 refine run ?_;refine J.call rfl rfl (fun w' M=>(RW.own' (a:=ma) w' M).elim fun _ k=>bPreds ma 61 mc (S.bnM 61) w' k hmc (by decide)) fun q1 hq1=>?_
 rw[S.bn_many];refine run ?_;refine J.call rfl rfl (fun w' M=>(RW.own' (a:=ma) w' M).elim fun _ k=>bPreds (subA ma 0 32 mc) 60 mc ((S.bnM 61).take 1920) w' (wTake k 60 mc (by decide) (by omega)) (by omega) (by decide)) fun q2 hq2=>?_
 rw[S.bn_most.1,S.bn_most.2.1,S.bn_most.2.2];refine run ?_;refine J.bI .u8 (List.replicate 32 0) [(0,2)] (S.hbI 2) rfl rfl rfl rfl ?_;refine run ?_;refine J.bI .u8 (List.replicate 32 0) [(0,1)] (S.hbI 1) rfl rfl rfl rfl ?_;refine run ?_
 refine J.bnG (vs := [.agg (ints .u8 (S.hbI 2)).toArray, .agg (ints .u8 (S.hbI 1)).toArray]) idC [⟨S.hbI 2, rfl⟩, ⟨S.hbI 1, rfl⟩] idC_len rfl rfl rfl (fun v hv => by
  simp only [List.mem_cons, List.not_mem_nil, or_false] at hv
  rcases hv with rfl | rfl <;> rfl) fun b1 => ?_
 refine J.re (.gown idC 32 24 (some ⟨b1,0,none⟩) 2 2 [⟨S.hbI 2,rfl⟩,⟨S.hbI 1,rfl⟩]) (.wown 24 .u8 32 (some ⟨b1,0,none⟩) 2 2 (S.hbI 2++S.hbI 1)) (fun _ _ h=>idsLit _ _ (by decide) ((hb 2 (by decide)).2.append (hb 1 (by decide)).2) h) ?_;refine run ?_;refine J.call rfl rfl (fun w' M=>(RW.own' (a:=some ⟨b1,0,none⟩) w' M).elim fun _ k=>bPreds _ 2 2 (S.hbI 2++S.hbI 1) w' k (Nat.le_refl _) (by decide)) fun q3 hq3=>?_
 rw[S.bn_turn];refine run ?_;refine J.bI .u8 (List.replicate 32 0) [(0,1)] (S.hbI 1) rfl rfl rfl rfl ?_;refine run ?_;refine J.bI .u8 (List.replicate 32 0) [(0,1)] (S.hbI 1) rfl rfl rfl rfl ?_;refine run ?_
 refine J.bnG (vs := [.agg (ints .u8 (S.hbI 1)).toArray, .agg (ints .u8 (S.hbI 1)).toArray]) idC [⟨S.hbI 1, rfl⟩, ⟨S.hbI 1, rfl⟩] idC_len rfl rfl rfl (fun v hv => by
  simp only [List.mem_cons, List.not_mem_nil, or_false] at hv
  rcases hv with rfl | rfl <;> rfl) fun b2 => ?_
 refine J.re (.gown idC 32 24 (some ⟨b2,0,none⟩) 2 2 [⟨S.hbI 1,rfl⟩,⟨S.hbI 1,rfl⟩]) (.wown 24 .u8 32 (some ⟨b2,0,none⟩) 2 2 (S.hbI 1++S.hbI 1)) (fun _ _ h=>idsLit _ _ (by decide) ((hb 1 (by decide)).2.append (hb 1 (by decide)).2) h) ?_;refine run ?_;refine J.call rfl rfl (fun w' M=>(RW.own' (a:=some ⟨b2,0,none⟩) w' M).elim fun _ k=>bPreds _ 2 2 (S.hbI 1++S.hbI 1) w' k (Nat.le_refl _) (by decide)) fun q4 hq4=>?_
 rw[S.bn_same];refine J.drop (E:=[.wown 24 .u8 32 q2.1 4 q2.2 ((S.bnM 61).take 128), .wown 24 .u8 32 ma 61 mc (S.bnM 61)]) sb ?_;refine run ?_;refine J.callp rfl rfl (fun w' M=>none24 w') ?_;refine run ?_;refine J.call rfl rfl (fun w' M=>signBR (S0:=no) 5 (by decide) ⟨S.bnA,none,0⟩ w' ⟨S.bn_okA,WRow.nil,Nat.le_refl _⟩) fun z hz=>?_
 obtain⟨⟨o,pa,pc⟩,e⟩:=z;obtain⟨h1,h2,h3⟩:=hz;dsimp only at h1 h2 h3⊢;obtain rfl:o=S.bnO:=h2;refine run ?_;refine J.alloc rfl fun b11=>?_
 refine run ?_;refine J.b1G opC ⟨S.bnO,pa,pc⟩ opC_len rfl rfl rfl fun b3=>?_
 refine run ?_;refine J.call rfl rfl (fun w' M=>(RG.own' (a:=some ⟨b3,0,none⟩) w' M).elim fun _ k=>(RW.row' (a:=pa) w' M).elim fun _ k2=>ofOne ⟨S.bnO,pa,pc⟩ b3 w' ⟨S.bn_ok,k2,h1⟩ k) fun g hg=>?_
 dsimp only[grE,List.cons_append,List.nil_append];have hgs:=GrP.sz hg (lst_size _)
 have hgok := hg.ok (lst_ok fun o ho => by
  obtain rfl := List.mem_singleton.1 ho
  exact S.bn_ok)
 have hgP:=GrP.P hg;rw[S.bn_of.1];refine run ?_;refine J.alloc rfl fun b13=>?_
 refine run ?_;refine J.callp rfl rfl (fun w' M=>bStamp g TK w' (K0.ext M.ext) (GrR.own hgok hg.cap hgs w' M)) ?_;rw[hgP,S.bn_of.2,S.bn_stm];refine run ?_;refine J.mkG (n:=1) idC ⟨List.replicate 32 0,rfl⟩ idC_len rfl rfl rfl rfl fun b4=>?_
 refine J.re (.gown idC 32 24 (some ⟨b4,0,none⟩) 1 1 (List.replicate 1 ⟨List.replicate 32 0,rfl⟩)) (.wown 24 .u8 32 (some ⟨b4,0,none⟩) 1 1 (List.replicate 32 0)) (fun _ _ h=>idsLit _ _ (by decide) hZ h) ?_;refine run ?_;refine J.callp rfl rfl (fun w' M=>(RW.own' (a:=some ⟨b4,0,none⟩) w' M).elim fun _ k=>bStamp (S0:=fun _=>True) ⟨some ⟨b4,0,none⟩,none,1,0,1,0,List.replicate 32 0,[]⟩ TK w' (K0.ext M.ext) ⟨k.weaken fun _ _ _=>trivial,GRow.nil' opC_len,Inns.nil,fun z hz=>(by cases hz),Nat.le_refl _,Nat.le_refl _,(show 1≤70 by decide),Nat.zero_le _⟩) ?_;rw[show GrA.P ⟨some ⟨b4,0,none⟩,none,1,0,1,0,List.replicate 32 0,[]⟩=⟨1,List.replicate 32 0,[]⟩from rfl,S.bn_bad];refine J.drop (E:=[.blk b11 (opC ⟨S.bnO,pa,pc⟩) 37, .wrow .u8 32 pa S.bnO.n S.bnO.ids, .wown 24 .u8 32 q2.1 4 q2.2 ((S.bnM 61).take 128), .wown 24 .u8 32 ma 61 mc (S.bnM 61)]) sb ?_;refine run ?_;refine J.callp rfl rfl (fun w' M=>none24 w') ?_;refine run ?_;refine J.call rfl rfl (fun w' M=>(RW.own' (a:=ma) w' M).elim fun _ k=>bBuildR 0 (by decide) ma 61 mc (S.bnM 61) 0 (by decide) S.hbN S.hb_okN TK w' (K0.ext M.ext) k hmc (by decide)) fun y1 hy1=>?_
 refine run ?_;refine J.alloc rfl fun b19=>?_
 refine J.alloc rfl fun b21=>?_
 refine run ?_;refine J.callp rfl rfl (fun w' M=>none24 w') ?_;rw[S.bn_b1e];refine run ?_;refine J.call rfl rfl (fun w' M=>bBuildR (S0:=no) 5 (by decide) none 0 0 [] 1000000000001 (by decide) S.hbN S.hb_okN TK w' (K0.ext M.ext) WRow.nil (Nat.le_refl _) (by decide)) fun y2 hy2=>?_
 refine run ?_;refine J.alloc rfl fun b23=>?_
 refine J.alloc rfl fun b25=>?_
 refine run ?_;rw[S.bn_b2];refine J.call rfl rfl (fun w' M=>bBuildR (S0:=no) 5 (by decide) none 0 0 [] 0 (by decide) S.OpV.zero S.OpV.zero_ok TK w' (K0.ext M.ext) WRow.nil (Nat.le_refl _) (by decide)) fun y3 hy3=>?_
 refine run ?_;refine J.alloc rfl fun b27=>?_
 refine J.alloc rfl fun b29=>?_
 refine run ?_;rw[S.bn_b3 S.hb_nil.1 S.hb_nil.2.1];refine J.callp rfl rfl (fun w' M=>none24 w') ?_;refine run ?_;refine J.call rfl rfl (fun w' M=>signBR (S0:=no) 0 (by decide) ⟨S.hbN,none,0⟩ w' ⟨S.hb_okN,WRow.nil,Nat.le_refl _⟩) fun z2 hz2=>?_
 obtain⟨⟨o2,pa2,pc2⟩,e2⟩:=z2;obtain⟨i1,i2,i3⟩:=hz2;dsimp only at i1 i2 i3⊢;obtain rfl:e2=2:=i3;refine run ?_;refine J.alloc rfl fun b31=>?_
 refine run ?_;refine J.callp rfl rfl (fun w' M=>none24 w') ?_;refine run ?_;refine J.call rfl rfl (fun w' M=>bBuildR (S0:=no) 0 (by decide) none 0 0 [] 0 (by decide) S.hbN S.hb_okN TK w' (K0.ext M.ext) WRow.nil (Nat.le_refl _) (by decide)) fun y4 hy4=>?_
 refine run ?_;refine J.alloc rfl fun b33=>?_
 refine J.alloc rfl fun b35=>?_
 refine run ?_;rw[S.bn_b4.1];refine J.drop (E:=[.blk b11 (opC ⟨S.bnO,pa,pc⟩) 37, .wrow .u8 32 pa S.bnO.n S.bnO.ids, .wown 24 .u8 32 q2.1 4 q2.2 ((S.bnM 61).take 128), .wown 24 .u8 32 ma 61 mc (S.bnM 61)]) sb ?_;refine J.call rfl rfl (fun w' M=>refStNew 2 1 w') fun u hu=>?_
 rw[S.bn_nwE];refine run ?_;refine J.alloc rfl fun b37=>?_
 refine run ?_;refine J.call rfl rfl (fun w' M=>(RW.row' (a:=pa) w' M).elim fun _ k=>refStOffer u ⟨S.bnO,pa,pc⟩ w' (hu.own (StZ.nw 2 1) w' M) ⟨S.bn_ok,k,h1⟩) fun t ht=>?_
 rw[hu.V,S.bnT_of.1]at ht;rw[hu.V,S.bnT_of.2];refine run ?_;refine J.alloc rfl fun b39=>?_
 refine run ?_
 refine J.regionF (δ:=BnA) (default) [⟨some 159,fun c=> .agg (srC t).toArray,fun c=>[],fun c=>True,[],[],[]⟩,⟨some 160,fun c=> .agg (acC S.hbN).toArray,fun c=>[],fun c=>True,[],[],[]⟩,⟨some 161,fun c=>bdC (S.wrtR S.bnT 5 S.hbN) (c 2).q,fun c=>[.wrow .u8 32 (c 2).q.1.pa (c 2).q.1.o.n (c 2).q.1.o.ids, .irow .u8 (c 2).q.2.1 (c 2).q.2.2.1 (S.wrtR S.bnT 5 S.hbN).b],fun c=>True,[0,1],[],[]⟩,⟨some 158,fun c=>bdC (S.wrtR S.bnT 5 S.hbN) (c 2).q,fun c=>[],fun c=>True,[2],[],[]⟩,⟨some 162,fun c=> .agg (opC (c 2).q.1).toArray,fun c=>[],fun c=>True,[2,3],[],[]⟩,⟨some 163,fun c=> .slice (c 2).q.2.1 (c 2).q.2.2.1 (c 2).q.2.2.2,fun c=>[],fun c=>True,[2,3],[],[]⟩,⟨some 164,fun c=> .agg (ints .u8 (S.wrtR S.bnT 5 S.hbN).i).toArray,fun c=>[],fun c=>True,[3],[],[]⟩,⟨some 165,fun c=> .int .i64 (S.wrtR S.bnT 5 S.hbN).e,fun c=>[],fun c=>True,[3],[],[]⟩,⟨some 42,fun c=> .pointer (some ⟨(c 8).b,0,none⟩),fun c=>[.blk (c 8).b [.int .u32 0, .slice none 0 0, .int .u64 0, .int .u8 0, .string .empty, .int .u8 0, .int .i64 0, .int .u64 0, .string .empty, .int .u32 0, .int .u32 0] 37],fun c=>True,[],[],[]⟩,⟨some 44,fun c=> .pointer (some ⟨(c 9).b,0,none⟩),fun c=>[.blk (c 9).b (ints .u8 (List.replicate 32 0)) 24],fun c=>True,[],[],[]⟩,⟨none,fun c=>undef,fun c=>[.blk (c 8).b (opC (c 2).q.1) 37],fun c=>True,[2,4,8],[8],[8]⟩,⟨some 43,fun c=> .slice (c 2).q.2.1 (c 2).q.2.2.1 (c 2).q.2.2.2,fun c=>[],fun c=>True,[2,5],[],[]⟩,⟨none,fun c=>undef,fun c=>[.blk (c 9).b (ints .u8 (S.wrtR S.bnT 5 S.hbN).i) 24],fun c=>True,[6,9],[9],[9]⟩,⟨some 45,fun c=> .int .i64 (S.wrtR S.bnT 5 S.hbN).e,fun c=>[],fun c=>True,[7],[],[]⟩] [] (fun c=>[(159, .agg (srC t).toArray),(160, .agg (acC S.hbN).toArray),(161,bdC (S.wrtR S.bnT 5 S.hbN) (c 2).q),(158,bdC (S.wrtR S.bnT 5 S.hbN) (c 2).q),(162, .agg (opC (c 2).q.1).toArray),(163, .slice (c 2).q.2.1 (c 2).q.2.2.1 (c 2).q.2.2.2),(164, .agg (ints .u8 (S.wrtR S.bnT 5 S.hbN).i).toArray),(165, .int .i64 (S.wrtR S.bnT 5 S.hbN).e),(42, .pointer (some ⟨(c 8).b,0,none⟩)),(44, .pointer (some ⟨(c 9).b,0,none⟩)),(43, .slice (c 2).q.2.1 (c 2).q.2.2.1 (c 2).q.2.2.2),(45, .int .i64 (S.wrtR S.bnT 5 S.hbN).e)]) (fun c=>[.wrow .u8 32 (c 2).q.1.pa (c 2).q.1.o.n (c 2).q.1.o.ids, .irow .u8 (c 2).q.2.1 (c 2).q.2.2.1 (S.wrtR S.bnT 5 S.hbN).b, .blk (c 8).b (opC (c 2).q.1) 37, .blk (c 9).b (ints .u8 (S.wrtR S.bnT 5 S.hbN).i) 24]) mixed (by kernel_rfl) rfl trivial ⟨?_,?_,?_,?_,?_,?_,?_,?_,?_,?_,?_,?_,?_,?_,trivial⟩ (fun _=>rfl) (fun _=>rfl) (fun c hp=>?_)
 ·refine stepF.i .q (fun c=>[]) (fun c=>[]) (fun c x=>[]) (fun c x=> .agg (srC t).toArray) (fun c=>True) (fun c x=>True) (fun c=>[]) [159,160,161,158,162,163,164,165,42,44,43,45] (some 159) (fun F c v hp=>?_) (fun _=>rfl) (fun _=>rfl) (fun _ _=>rfl) (fun _ _=>rfl) (fun c h=>trivial) (fun c x h=>h) (fun _=>rfl) rfl rfl;refine run ?_
  (refine J.nil ?_;exact J.outF (default) (trivial) rfl (by(try dsimp only[List.cons_append,List.nil_append]);repeat(first|exact List.nil_sublist _|exact List.Sublist.refl _|refine List.Sublist.cons_cons _ ?_|refine List.Sublist.cons _ ?_)))
 ·refine stepF.i .e (fun c=>[]) (fun c=>[]) (fun c x=>[]) (fun c x=> .agg (acC S.hbN).toArray) (fun c=>True) (fun c x=>True) (fun c=>[]) [159,160,161,158,162,163,164,165,42,44,43,45] (some 160) (fun F c v hp=>?_) (fun _=>rfl) (fun _=>rfl) (fun _ _=>rfl) (fun _ _=>rfl) (fun c h=>trivial) (fun c x h=>h) (fun _=>rfl) rfl rfl;refine run ?_;refine J.callp rfl rfl (fun w' M=>none24 w') ?_
  (refine J.nil ?_;exact J.outF (default) (trivial) rfl (by(try dsimp only[List.cons_append,List.nil_append]);repeat(first|exact List.nil_sublist _|exact List.Sublist.refl _|refine List.Sublist.cons_cons _ ?_|refine List.Sublist.cons _ ?_)))
 ·refine stepF.i .e (fun c=>[]) (fun c=>[]) (fun c x=>[.wrow .u8 32 (x).q.1.pa (x).q.1.o.n (x).q.1.o.ids, .irow .u8 (x).q.2.1 (x).q.2.2.1 (S.wrtR S.bnT 5 S.hbN).b]) (fun c x=>bdC (S.wrtR S.bnT 5 S.hbN) (x).q) (fun c=>True) (fun c x=>True) (fun c=>[(159, .agg (srC t).toArray),(160, .agg (acC S.hbN).toArray)]) [161,158,162,163,164,165,42,44,43,45] (some 161) (fun F c v hp=>?_) (fun _=>rfl) (fun _=>rfl) (fun _ _=>rfl) (fun _ _=>rfl) (fun c h=>trivial) (fun c x h=>h) (fun _=>rfl) rfl rfl;refine run ?_;refine J.call rfl rfl (fun w' M=>by have h:=bWrite 5 (by decide) t S.hbN S.hb_okN TK w' (K0.ext M.ext) (ht.own hbZ w' M);rwa[ht.V]at h) fun q hq=>?_
  (refine J.nil ?_;exact J.outF (⟨0,q⟩) (trivial) rfl (by(try dsimp only[List.cons_append,List.nil_append]);repeat(first|exact List.nil_sublist _|exact List.Sublist.refl _|refine List.Sublist.cons_cons _ ?_|refine List.Sublist.cons _ ?_)))
 ·refine stepF.i .q (fun c=>[]) (fun c=>[]) (fun c x=>[]) (fun c x=>bdC (S.wrtR S.bnT 5 S.hbN) (c 2).q) (fun c=>True) (fun c x=>True) (fun c=>[(161,bdC (S.wrtR S.bnT 5 S.hbN) (c 2).q)]) [159,160,158,162,163,164,165,42,44,43,45] (some 158) (fun F c v hp=>?_) (fun _=>rfl) (fun _=>rfl) (fun _ _=>rfl) (fun _ _=>rfl) (fun c h=>trivial) (fun c x h=>h) (fun _=>rfl) rfl rfl;refine run ?_
  (refine J.nil ?_;exact J.outF (default) (trivial) rfl (by(try dsimp only[List.cons_append,List.nil_append]);repeat(first|exact List.nil_sublist _|exact List.Sublist.refl _|refine List.Sublist.cons_cons _ ?_|refine List.Sublist.cons _ ?_)))
 ·refine stepF.i .q (fun c=>[]) (fun c=>[]) (fun c x=>[]) (fun c x=> .agg (opC (c 2).q.1).toArray) (fun c=>True) (fun c x=>True) (fun c=>[(161,bdC (S.wrtR S.bnT 5 S.hbN) (c 2).q),(158,bdC (S.wrtR S.bnT 5 S.hbN) (c 2).q)]) [159,160,162,163,164,165,42,44,43,45] (some 162) (fun F c v hp=>?_) (fun _=>rfl) (fun _=>rfl) (fun _ _=>rfl) (fun _ _=>rfl) (fun c h=>trivial) (fun c x h=>h) (fun _=>rfl) rfl rfl;refine run ?_
  (refine J.nil ?_;exact J.outF (default) (trivial) rfl (by(try dsimp only[List.cons_append,List.nil_append]);repeat(first|exact List.nil_sublist _|exact List.Sublist.refl _|refine List.Sublist.cons_cons _ ?_|refine List.Sublist.cons _ ?_)))
 ·refine stepF.i .q (fun c=>[]) (fun c=>[]) (fun c x=>[]) (fun c x=> .slice (c 2).q.2.1 (c 2).q.2.2.1 (c 2).q.2.2.2) (fun c=>True) (fun c x=>True) (fun c=>[(161,bdC (S.wrtR S.bnT 5 S.hbN) (c 2).q),(158,bdC (S.wrtR S.bnT 5 S.hbN) (c 2).q)]) [159,160,162,163,164,165,42,44,43,45] (some 163) (fun F c v hp=>?_) (fun _=>rfl) (fun _=>rfl) (fun _ _=>rfl) (fun _ _=>rfl) (fun c h=>trivial) (fun c x h=>h) (fun _=>rfl) rfl rfl;refine run ?_
  (refine J.nil ?_;exact J.outF (default) (trivial) rfl (by(try dsimp only[List.cons_append,List.nil_append]);repeat(first|exact List.nil_sublist _|exact List.Sublist.refl _|refine List.Sublist.cons_cons _ ?_|refine List.Sublist.cons _ ?_)))
 ·refine stepF.i .q (fun c=>[]) (fun c=>[]) (fun c x=>[]) (fun c x=> .agg (ints .u8 (S.wrtR S.bnT 5 S.hbN).i).toArray) (fun c=>True) (fun c x=>True) (fun c=>[(158,bdC (S.wrtR S.bnT 5 S.hbN) (c 2).q)]) [159,160,161,162,163,164,165,42,44,43,45] (some 164) (fun F c v hp=>?_) (fun _=>rfl) (fun _=>rfl) (fun _ _=>rfl) (fun _ _=>rfl) (fun c h=>trivial) (fun c x h=>h) (fun _=>rfl) rfl rfl;refine run ?_
  (refine J.nil ?_;exact J.outF (default) (trivial) rfl (by(try dsimp only[List.cons_append,List.nil_append]);repeat(first|exact List.nil_sublist _|exact List.Sublist.refl _|refine List.Sublist.cons_cons _ ?_|refine List.Sublist.cons _ ?_)))
 ·refine stepF.i .q (fun c=>[]) (fun c=>[]) (fun c x=>[]) (fun c x=> .int .i64 (S.wrtR S.bnT 5 S.hbN).e) (fun c=>True) (fun c x=>True) (fun c=>[(158,bdC (S.wrtR S.bnT 5 S.hbN) (c 2).q)]) [159,160,161,162,163,164,165,42,44,43,45] (some 165) (fun F c v hp=>?_) (fun _=>rfl) (fun _=>rfl) (fun _ _=>rfl) (fun _ _=>rfl) (fun c h=>trivial) (fun c x h=>h) (fun _=>rfl) rfl rfl;refine run ?_
  (refine J.nil ?_;exact J.outF (default) (trivial) rfl (by(try dsimp only[List.cons_append,List.nil_append]);repeat(first|exact List.nil_sublist _|exact List.Sublist.refl _|refine List.Sublist.cons_cons _ ?_|refine List.Sublist.cons _ ?_)))
 ·refine stepF.i .e (fun c=>[]) (fun c=>[]) (fun c x=>[.blk (x).b [.int .u32 0, .slice none 0 0, .int .u64 0, .int .u8 0, .string .empty, .int .u8 0, .int .i64 0, .int .u64 0, .string .empty, .int .u32 0, .int .u32 0] 37]) (fun c x=> .pointer (some ⟨(x).b,0,none⟩)) (fun c=>True) (fun c x=>True) (fun c=>[]) [159,160,161,158,162,163,164,165,42,44,43,45] (some 42) (fun F c v hp=>?_) (fun _=>rfl) (fun _=>rfl) (fun _ _=>rfl) (fun _ _=>rfl) (fun c h=>trivial) (fun c x h=>h) (fun _=>rfl) rfl rfl;refine run ?_;refine J.alloc rfl fun b=>?_
  (refine J.nil ?_;exact J.outF (⟨b,default⟩) (trivial) rfl (by(try dsimp only[List.cons_append,List.nil_append]);repeat(first|exact List.nil_sublist _|exact List.Sublist.refl _|refine List.Sublist.cons_cons _ ?_|refine List.Sublist.cons _ ?_)))
 ·refine stepF.i .e (fun c=>[]) (fun c=>[]) (fun c x=>[.blk (x).b (ints .u8 (List.replicate 32 0)) 24]) (fun c x=> .pointer (some ⟨(x).b,0,none⟩)) (fun c=>True) (fun c x=>True) (fun c=>[]) [159,160,161,158,162,163,164,165,42,44,43,45] (some 44) (fun F c v hp=>?_) (fun _=>rfl) (fun _=>rfl) (fun _ _=>rfl) (fun _ _=>rfl) (fun c h=>trivial) (fun c x h=>h) (fun _=>rfl) rfl rfl;refine run ?_;refine J.alloc rfl fun b=>?_
  (refine J.nil ?_;exact J.outF (⟨b,default⟩) (trivial) rfl (by(try dsimp only[List.cons_append,List.nil_append]);repeat(first|exact List.nil_sublist _|exact List.Sublist.refl _|refine List.Sublist.cons_cons _ ?_|refine List.Sublist.cons _ ?_)))
 ·refine stepF.i .e (fun c=>[.blk (c 8).b [.int .u32 0, .slice none 0 0, .int .u64 0, .int .u8 0, .string .empty, .int .u8 0, .int .i64 0, .int .u64 0, .string .empty, .int .u32 0, .int .u32 0] 37]) (fun c=>[]) (fun c x=>[.blk (c 8).b (opC (c 2).q.1) 37]) (fun c x=>undef) (fun c=>True) (fun c x=>True) (fun c=>[(161,bdC (S.wrtR S.bnT 5 S.hbN) (c 2).q),(162, .agg (opC (c 2).q.1).toArray),(42, .pointer (some ⟨(c 8).b,0,none⟩))]) [159,160,158,163,164,165,44,43,45] (none) (fun F c v hp=>?_) (fun _=>rfl) (fun _=>rfl) (fun _ _=>rfl) (fun _ _=>rfl) (fun c h=>trivial) (fun c x h=>h) (fun _=>rfl) rfl rfl;refine run ?_
  (refine J.nil ?_;exact J.outF (default) (trivial) rfl (by(try dsimp only[List.cons_append,List.nil_append]);repeat(first|exact List.nil_sublist _|exact List.Sublist.refl _|refine List.Sublist.cons_cons _ ?_|refine List.Sublist.cons _ ?_)))
 ·refine stepF.i .q (fun c=>[]) (fun c=>[]) (fun c x=>[]) (fun c x=> .slice (c 2).q.2.1 (c 2).q.2.2.1 (c 2).q.2.2.2) (fun c=>True) (fun c x=>True) (fun c=>[(161,bdC (S.wrtR S.bnT 5 S.hbN) (c 2).q),(163, .slice (c 2).q.2.1 (c 2).q.2.2.1 (c 2).q.2.2.2)]) [159,160,158,162,164,165,42,44,43,45] (some 43) (fun F c v hp=>?_) (fun _=>rfl) (fun _=>rfl) (fun _ _=>rfl) (fun _ _=>rfl) (fun c h=>trivial) (fun c x h=>h) (fun _=>rfl) rfl rfl;refine run ?_
  (refine J.nil ?_;exact J.outF (default) (trivial) rfl (by(try dsimp only[List.cons_append,List.nil_append]);repeat(first|exact List.nil_sublist _|exact List.Sublist.refl _|refine List.Sublist.cons_cons _ ?_|refine List.Sublist.cons _ ?_)))
 ·refine stepF.i .e (fun c=>[.blk (c 9).b (ints .u8 (List.replicate 32 0)) 24]) (fun c=>[]) (fun c x=>[.blk (c 9).b (ints .u8 (S.wrtR S.bnT 5 S.hbN).i) 24]) (fun c x=>undef) (fun c=>True) (fun c x=>True) (fun c=>[(164, .agg (ints .u8 (S.wrtR S.bnT 5 S.hbN).i).toArray),(44, .pointer (some ⟨(c 9).b,0,none⟩))]) [159,160,161,158,162,163,165,42,43,45] (none) (fun F c v hp=>?_) (fun _=>rfl) (fun _=>rfl) (fun _ _=>rfl) (fun _ _=>rfl) (fun c h=>trivial) (fun c x h=>h) (fun _=>rfl) rfl rfl;refine run ?_
  (refine J.nil ?_;exact J.outF (default) (trivial) rfl (by(try dsimp only[List.cons_append,List.nil_append]);repeat(first|exact List.nil_sublist _|exact List.Sublist.refl _|refine List.Sublist.cons_cons _ ?_|refine List.Sublist.cons _ ?_)))
 ·refine stepF.i .q (fun c=>[]) (fun c=>[]) (fun c x=>[]) (fun c x=> .int .i64 (S.wrtR S.bnT 5 S.hbN).e) (fun c=>True) (fun c x=>True) (fun c=>[(165, .int .i64 (S.wrtR S.bnT 5 S.hbN).e)]) [159,160,161,158,162,163,164,42,44,43,45] (some 45) (fun F c v hp=>?_) (fun _=>rfl) (fun _=>rfl) (fun _ _=>rfl) (fun _ _=>rfl) (fun c h=>trivial) (fun c x h=>h) (fun _=>rfl) rfl rfl;refine run ?_
  (refine J.nil ?_;exact J.outF (default) (trivial) rfl (by(try dsimp only[List.cons_append,List.nil_append]);repeat(first|exact List.nil_sublist _|exact List.Sublist.refl _|refine List.Sublist.cons_cons _ ?_|refine List.Sublist.cons _ ?_)))
 obtain⟨-, -, -, -, -, -, -, -, -, -, -, -, -, -, -⟩:=hp;rw[S.bn_w1];refine J.drop (E:=[.blk b37 (srC u) 55,shW u.sh, .wown 24 .u8 32 u.oa u.on u.oc u.os, .wown 24 .u8 32 q2.1 4 q2.2 ((S.bnM 61).take 128), .wown 24 .u8 32 ma 61 mc (S.bnM 61)]) sb ?_;refine run ?_;refine J.callp rfl rfl (fun w' M=>none24 w') ?_;refine run ?_;refine J.call rfl rfl (fun w' M=>bWrite 5 (by decide) StA.zero S.hbN S.hb_okN TK w' (K0.ext M.ext) (zeroStR w')) fun y6 hy6=>?_
 rw[show StA.zero.V=S.StV.zero from rfl];refine run ?_;refine J.alloc rfl fun b46=>?_
 refine J.alloc rfl fun b48=>?_
 refine run ?_;rw[S.bn_w2];refine J.call rfl rfl (fun w' M=>by have h:=bWrite 5 (by decide) u S.OpV.zero S.OpV.zero_ok TK w' (K0.ext M.ext) (hu.own (StZ.nw 2 1) w' M);rwa[hu.V]at h) fun y7 hy7=>?_
 refine run ?_;refine J.alloc rfl fun b50=>?_
 refine J.alloc rfl fun b52=>?_
 refine run ?_;rw[S.bn_w3];refine J.callp rfl rfl (fun w' M=>bdAlive TK w' (K0.ext M.ext)) ?_;refine run ?_;refine J.callp rfl rfl (fun w' M=>(RW.own' (a:=q2.1) w' M).elim fun _ k0=>(RW.own' (a:=ma) w' M).elim fun _ k1=>sameIDs _ _ _ _ _ 4 _ _ w' k0 (wTk k1 4 mc (by decide) (by omega)) (by omega) (by omega)) ?_;refine run ?_;exact J.fin rfl
end W
end Go.Proofs.YtkibkhgcbepolaaGreatDoor
