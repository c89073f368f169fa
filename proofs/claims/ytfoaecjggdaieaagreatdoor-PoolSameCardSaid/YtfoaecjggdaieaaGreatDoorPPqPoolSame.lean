/-
  PoolSame: which worker does which job changes no finding. Condition: the table digest.constants is as its initialiser lays it (tied by the card).
-/
import Derived.Test.YtfoaecjggdaieaaGreatDoorPPqPoolSameb
namespace Go.Proofs.YtfoaecjggdaieaaGreatDoor.W
open Go.RowKit Go.Proofs.YtfoaecjggdaieaaGreatDoor.G
set_option linter.unusedVariables false
set_option linter.unusedSimpArgs false
set_option maxRecDepth 20000
set_option maxHeartbeats 8000000
attribute [local irreducible] RS RX RY Code.wp bodyPost J Ent.blk Ent.irow Ent.iown Ent.wrow Ent.wown Ent.grow Ent.gown Ent.all Ent.emp
instance:Und Tryz.prog 41 (.slice 63):=⟨Tryz.underlying41⟩
theorem PRow.g{k:IntKind}{S0:Nat→Prop}{w:World}{a:Option Addr}{n:Nat}{ps:List Pc}(h:PRow k S0 w a n ps):GRow pcC 1 S0 w a n ps:=by
 have e:ps.flatMap pcC=ps.map Pc.val:=by
  clear h
  induction ps with
  |nil=>rfl
  |cons p ps ih=>rw[List.flatMap_cons,List.map_cons,ih];rfl
 exact⟨by rw[e];exact h.row,h.len,fun _=>rfl⟩
theorem plLong{S0:Nat→Prop}(a:Option Addr)(m c:Nat)(ps:List Pc)(w:World)(D:PRow .u8 S0 w a m ps):
  Calls Tryz.prog 16 #[.slice a m c] w (Gv w (fun q:Bool=> .bool q) (fun _=>[]) fun q=>q=false→m≤8∧∀p∈ps,p.n≤600):=by
 have G2:=PRow.g D;have hl:=D.len;refine J.enter 18 Tryz.func16 rfl rfl ?_;refine run ?_;refine J.ifd rfl (fun c1=>?_) (fun c1=>?_)
 ·refine run ?_;exact J.finG true rfl (fun h=>by cases h) (List.nil_sublist _)
 refine run ?_;refine J.loopS (A:=Int) (fun i=>[(3, .int .i64 i)]) [2,7,8,9,10,11,12,13,14,15,16,17,18] (fun i=>(0≤i∧i≤m)∧∀p∈ps.take i.toNat,p.n≤600) (fun i=>m - i.toNat) 0 (by kernel_rfl) ⟨by omega,fun p hp=>by simp at hp⟩ (fun i j hI=>?_);obtain⟨hi,hI⟩:=hI;refine run ?_;refine J.ifd rfl (fun c2=>?_) (fun c2=>?_)
 ·obtain⟨y,hy⟩:=G2.ex (i:=i) (by omega);refine run ?_;refine J.ifd rfl (fun c3=>?_) (fun c3=>?_)
  ·refine run ?_;exact J.finG true rfl (fun h=>by cases h) (List.nil_sublist _)
  refine run ?_;refine J.nextS (i+1) ⟨rfl,trivial⟩ (by kernel_rfl) ⟨by omega,fun p hp=>?_⟩ (by omega);rw[show(i+1).toNat=i.toNat+1 by omega,List.take_add_one,hy,Option.toList_some]at hp;rcases List.mem_append.1 hp with e|e
  ·exact hI p e
  rw[List.mem_singleton]at e;rw[e];omega
 refine run ?_;rw[List.take_of_length_le (by omega)]at hI;exact J.finG false rfl (fun _=>⟨by omega,hI⟩) (List.nil_sublist _)
structure FiA where
 (i:Nat)(p:PlA)
theorem plFilled{S0:Nat→Prop}(k:Nat)(a:Option Addr)(m c:Nat)(ps:List Pc)(TK:TypeId)(w:World)(K0:Kst w TK)(D:PRow .u8 S0 w a m ps)(hk:1≤k∧k≤3)(hm:m≤8)(h6:∀p∈ps,p.n≤600):
  Calls Tryz.prog 17 #[.int .i64 k, .slice a m c] w (Gv w (fun q:PlA=> .tuple #[.agg (plC q).toArray, .bool true]) (fun q=>plE q) (PlP (S.filV k (ps.map Pc.xs)))):=by
 have G2:=PRow.g D;have hl:=D.len;have hml:(ps.map Pc.xs).length=m:=by rw[List.length_map,hl]
 refine J.enter 39 Tryz.func17 rfl rfl ?_;refine run ?_;refine J.alloc rfl fun b4=>?_
 refine run ?_;refine J.call rfl rfl (fun w' M=>poolNew 8 k w') fun u hu=>?_
 obtain⟨u,e⟩:=u;obtain⟨hu,he⟩:=hu;dsimp only at hu he⊢;subst he;rw[(S.filV_new hk).1];rw[(S.filV_new hk).2]at hu;refine run ?_;refine J.alloc rfl fun b6=>?_
 refine run ?_;refine J.loop (A:=FiA) (fun r=>[(8, .int .i64 (r.i:Nat))]) [5,9,10,19,20,21,22,23,24,25,26,27,28,29,30,31,32,33,34,35,36,37,38,39] (fun r=>[.blk b6 (plC r.p) 26, .gown jbC 2 65 r.p.ja r.p.jn r.p.jc r.p.js, .gown hdC 48 67 r.p.ha r.p.hn r.p.hc r.p.hs, .gown jdC 45 61 r.p.da r.p.dn r.p.dc r.p.ds, .all (r.p.js.map jbE), .all (r.p.hs.map hdE), .all (r.p.ds.map jdE), .blk b4 [.int .i64 0, .slice none 0 0, .slice none 0 0, .slice none 0 0] 26]) (fun r=>r.i≤m∧PlP (S.filV k ((ps.map Pc.xs).take r.i)) r.p) (fun r=>m - r.i) ⟨0,u⟩ (by kernel_rfl) ⟨Nat.zero_le _,hu⟩ (fun r j hI=>?_);obtain⟨hi,hr⟩:=hI;refine run ?_;refine J.ifd rfl (fun d1=>?_) (fun d1=>?_)
 ·obtain⟨y,hy⟩:=G2.ex (i:=(r.i:Nat)) (by omega);have hy':ps[r.i]? =some y:=hy;obtain⟨hy1,hy2⟩:=D.each y (List.mem_of_getElem? hy');have hy6:=h6 y (List.mem_of_getElem? hy');have hv:=S.filV_vld (l:=ps.map Pc.xs) hk (by omega) r.i (by omega);have htl:((ps.map Pc.xs).take r.i).length=r.i:=List.length_take_of_le (by omega);obtain⟨hp1,hp2⟩:=S.filV_put hv (by omega) y.xs;rw[htl]at hp1 hp2;have et:(ps.map Pc.xs).take r.i++[y.xs]=(ps.map Pc.xs).take (r.i+1):=by
   rw[List.take_add_one,List.getElem?_map,hy'];rfl
  rw[et]at hp2;refine run ?_;refine J.joinX (A:=PlA×Nat) (fun u=>[(9, .pointer (some ⟨u.2,0,none⟩)),(10, .int .i64 0)]) [25,26,27,28,29,30,31,32,33,34,35] (fun u=>[.blk u.2 (plC u.1) 26, .gown jbC 2 65 u.1.ja u.1.jn u.1.jc u.1.js, .gown hdC 48 67 u.1.ha u.1.hn u.1.hc u.1.hs, .gown jdC 45 61 u.1.da u.1.dn u.1.dc u.1.ds, .all (u.1.js.map jbE), .all (u.1.hs.map hdE), .all (u.1.ds.map jdE), .blk b6 (plC r.p) 26, .gown jbC 2 65 r.p.ja r.p.jn r.p.jc r.p.js, .gown hdC 48 67 r.p.ha r.p.hn r.p.hc r.p.hs, .gown jdC 45 61 r.p.da r.p.dn r.p.dc r.p.ds, .all (r.p.js.map jbE), .all (r.p.hs.map hdE), .all (r.p.ds.map jdE), .blk b4 [.int .i64 0, .slice none 0 0, .slice none 0 0, .slice none 0 0] 26]) (fun u=>PlP (S.filV k ((ps.map Pc.xs).take (r.i+1))) u.1) ?_ (fun u j2 hu2=>?_)
  ·refine J.regionT [.blk b6 (plC r.p) 26] (.br [(0, .q),(1, .q),(2, .q),(3, .q),(4, .q),(5, .q),(6, .q)] 7 (.fin [(8, .q),(9, .q),(10, .q),(11, .e),(12, .e),(13, .q)]) 11 (.fin [(7, .e),(8, .q),(9, .q),(10, .q),(12, .e),(13, .q)])) mixed (by kernel_rfl) (by repeat(first|exact List.Sublist.refl _|refine List.Sublist.cons_cons _ ?_|refine List.Sublist.cons _ ?_)) ?_;refine run ?_;refine J.nil (J.kt ?_ ?_)
   ·refine J.call rfl rfl (fun w' M => by
     have := poolPut r.p ⟨(r.i : Nat), y.a, y.n, y.c, y.xs⟩ TK w' (K0.ext M.ext) (PlR.own hr w' M) ⟨⟨hy2, hy6⟩, hy1.ext M.ext⟩
     rwa [hr.V] at this) fun q hq => ?_
    obtain⟨q,e⟩:=q;obtain⟨hq,he⟩:=hq;dsimp only at hq he⊢;subst he;rw[hp1];rw[hp2]at hq;refine run ?_;refine J.alloc rfl fun b9=>?_
    refine run ?_;refine J.front (.blk b9 (plC q) 26) ?_;refine J.drop (E:=[.blk b9 (plC q) 26, .gown jbC 2 65 q.ja q.jn q.jc q.js, .gown hdC 48 67 q.ha q.hn q.hc q.hs, .gown jdC 45 61 q.da q.dn q.dc q.ds, .all (q.js.map jbE), .all (q.hs.map hdE), .all (q.ds.map jdE), .blk b6 (plC r.p) 26, .gown jbC 2 65 r.p.ja r.p.jn r.p.jc r.p.js, .gown hdC 48 67 r.p.ha r.p.hn r.p.hc r.p.hs, .gown jdC 45 61 r.p.da r.p.dn r.p.dc r.p.ds, .all (r.p.js.map jbE), .all (r.p.hs.map hdE), .all (r.p.ds.map jdE), .blk b4 [.int .i64 0, .slice none 0 0, .slice none 0 0, .slice none 0 0] 26]) sb ?_;exact J.cut (q,b9) ⟨rfl,rfl,trivial⟩ (by kernel_rfl) hq
   refine J.alloc rfl fun b9=>?_
   refine run ?_
   refine J.call rfl rfl (fun w' M => by
    have := poolPut r.p ⟨(r.i : Nat), y.a, y.n, y.c, y.xs⟩ TK w' (K0.ext M.ext) (PlR.own hr w' M) ⟨⟨hy2, hy6⟩, hy1.ext M.ext⟩
    rwa [hr.V] at this) fun q hq => ?_
   obtain⟨q,e⟩:=q;obtain⟨hq,he⟩:=hq;dsimp only at hq he⊢;subst he;rw[hp1];rw[hp2]at hq;refine run ?_;refine J.front (.blk b9 (plC q) 26) ?_;refine J.drop (E:=[.blk b9 (plC q) 26, .gown jbC 2 65 q.ja q.jn q.jc q.js, .gown hdC 48 67 q.ha q.hn q.hc q.hs, .gown jdC 45 61 q.da q.dn q.dc q.ds, .all (q.js.map jbE), .all (q.hs.map hdE), .all (q.ds.map jdE), .blk b6 (plC r.p) 26, .gown jbC 2 65 r.p.ja r.p.jn r.p.jc r.p.js, .gown hdC 48 67 r.p.ha r.p.hn r.p.hc r.p.hs, .gown jdC 45 61 r.p.da r.p.dn r.p.dc r.p.ds, .all (r.p.js.map jbE), .all (r.p.hs.map hdE), .all (r.p.ds.map jdE), .blk b4 [.int .i64 0, .slice none 0 0, .slice none 0 0, .slice none 0 0] 26]) sb ?_;exact J.cut (q,b9) ⟨rfl,rfl,trivial⟩ (by kernel_rfl) hq
  obtain⟨q,b9⟩:=u;dsimp only at hu2⊢;refine run ?_;refine J.front (.blk b6 (plC q) 26) ?_;refine J.drop (E:=[.blk b6 (plC q) 26, .gown jbC 2 65 q.ja q.jn q.jc q.js, .gown hdC 48 67 q.ha q.hn q.hc q.hs, .gown jdC 45 61 q.da q.dn q.dc q.ds, .all (q.js.map jbE), .all (q.hs.map hdE), .all (q.ds.map jdE), .blk b4 [.int .i64 0, .slice none 0 0, .slice none 0 0, .slice none 0 0] 26]) sb ?_;exact J.next ⟨r.i+1,q⟩ ⟨rfl,trivial⟩ (by kernel_rfl) ⟨by dsimp only;omega,hu2⟩ (by dsimp only;omega)
 rw[List.take_of_length_le (by omega)]at hr;refine run ?_;exact J.finG r.p rfl hr sb
end Go.Proofs.YtfoaecjggdaieaaGreatDoor.W
namespace Go.Proofs.YtfoaecjggdaieaaGreatDoor.S
open G
set_option linter.unusedVariables false
theorem fil_run{w:Nat}{l:List (List Int)}(hw:1≤w∧w≤3)(hl:l.length≤8){xs:List Int}(hx:∀x∈xs,0≤x∧x<w)(hn:xs.length≤300)(hi:idleP (runP (filV w l) (xs.map Int.toNat))):
  runE (filV w l) xs=0∧(runV (filV w l) xs).ds=filF l∧runM (filV w l) xs=3*l.length:=by
 have hh:(filV w l).hs.length=w:=List.length_replicate;have e:runE (filV w l) xs=0:=runE_0 ((vld_iff _).2 (filV_all hw hl)) (by omega) (fun x h=>by rw[hh];exact hx x h);obtain⟨h1,h2⟩:=run_yes e
 obtain ⟨g1, g2⟩ := fil_end hw hl (ps := xs.map Int.toNat) (fun i h => by
  obtain ⟨x, h3, rfl⟩ := List.mem_map.1 h
  have := hx x h3
  omega) hi
 exact⟨e,by rw[h1];exact g1,by rw[h2];exact g2⟩
def turnI(w n:Nat):List Int:=(List.range n).map fun k=>((k % w:Nat):Int)
theorem turnI_snoc(w n:Nat):turnI w (n+1)=turnI w n++[((n % w:Nat):Int)]:=by
 unfold turnI;rw[List.range_succ,List.map_append];rfl
theorem turnI_nat(w:Nat):(turnI w 60).map Int.toNat=turns w:=by
 unfold turnI turns;rw[List.map_map];rfl
theorem turnI_len(w n:Nat):(turnI w n).length=n:=by unfold turnI;rw[List.length_map,List.length_range]
theorem turnI_lt{w n:Nat}(hw:0<w):∀x∈turnI w n,0≤x∧x<w:=fun x hx=>by
 obtain⟨k,_,rfl⟩:=List.mem_map.1 hx;have:=Nat.mod_lt k hw;omega
theorem fil_run1{l:List (List Int)}(hl:l.length≤8):runE (filV 1 l) (List.replicate (3*l.length) 0)=0∧(runV (filV 1 l) (List.replicate (3*l.length) 0)).ds=filF l∧runM (filV 1 l) (List.replicate (3*l.length) 0)=3*l.length:=
 fil_run (by omega) hl (fun x hx=>by rw[(List.mem_replicate.1 hx).2];omega) (by rw[List.length_replicate];omega) (by rw[List.map_replicate];exact fil_alone hl)
theorem fil_run3{l:List (List Int)}(hl:l.length≤8){xs:List Int}(hx:∀x∈xs,0≤x∧x<(3:Nat))(hn:xs.length≤100):runE (filV 3 l) (xs++turnI 3 60)=0∧(runV (filV 3 l) (xs++turnI 3 60)).ds=filF l∧runM (filV 3 l) (xs++turnI 3 60)=3*l.length:=
 fil_run (by omega) hl (fun x h => (List.mem_append.1 h).elim (hx x) (turnI_lt (by omega) x)) (by rw [List.length_append, turnI_len]; omega) (by
  rw [List.map_append, turnI_nat]
  refine fil_turns (by omega) hl fun i hi => ?_
  obtain ⟨x, h3, rfl⟩ := List.mem_map.1 hi
  have := hx x h3
  omega)
end Go.Proofs.YtfoaecjggdaieaaGreatDoor.S
namespace Go.Proofs.YtfoaecjggdaieaaGreatDoor.W
open Go.RowKit Go.Proofs.YtfoaecjggdaieaaGreatDoor.G
set_option linter.unusedVariables false
set_option linter.unusedSimpArgs false
set_option maxRecDepth 20000
set_option maxHeartbeats 2000000
attribute [local irreducible] RS RX RY Code.wp bodyPost J Ent.blk Ent.irow Ent.iown Ent.wrow Ent.wown Ent.grow Ent.gown Ent.all Ent.emp
instance:Ents Tryz.prog 15:=⟨.mk Tryz.func15 (by kernel_rfl) rfl⟩
instance:Ents Tryz.prog 16:=⟨.mk Tryz.func16 (by kernel_rfl) rfl⟩
instance:Ents Tryz.prog 17:=⟨.mk Tryz.func17 (by kernel_rfl) rfl⟩
structure OrA where
 (i:Nat)(a:Option Addr)(n c:Nat)(l:List Int)
def pk3(x:Int):Bool:=decide (0≤x)&&decide (x<3)
theorem poolSame{S0 S1:Nat→Prop}(a:Option Addr)(m c:Nat)(ps:List Pc)(a2:Option Addr)(m2 c2:Nat)(xs:List Int)(TK:TypeId)(w:World)(K0:Kst w TK)(D:PRow .u8 S0 w a m ps)(D0:GRow inC 1 S1 w a2 m2 xs):
  Calls Tryz.prog 4 #[.slice a m c, .slice a2 m2 c2] w (Ret w fun v _=>v= .bool true):=by
 have hl:=D.len;have hl2:=D0.len;have hml:(ps.map Pc.xs).length=m:=by rw[List.length_map,hl]
 refine J.enter 151 Tryz.func4 rfl rfl ?_;refine run ?_;refine J.callp rfl rfl (fun w' M=>plAlive TK w' (K0.ext M.ext)) ?_;refine run ?_;refine J.call rfl rfl (fun w' M=>plLong a m c ps w' (D.ext M.ext)) fun g hg=>?_
 refine run ?_;cases g with
 |true=>
  refine run ?_;exact J.fin rfl
 |false=>
 obtain⟨hm,h6⟩:=hg rfl;refine run ?_;refine J.spd rfl rfl rfl (fun c1=>?_) (fun c1=>?_)
 ·refine run ?_;exact J.fin rfl
 refine run ?_;refine J.call rfl rfl (fun w' M=>plFilled 1 a m c ps TK w' (K0.ext M.ext) (D.ext M.ext) (by omega) hm h6) fun u1 hu1=>?_
 refine run ?_;refine J.alloc rfl fun b6=>?_
 refine run ?_;refine J.call rfl rfl (fun w' M=>plFilled 3 a m c ps TK w' (K0.ext M.ext) (D.ext M.ext) (by omega) hm h6) fun u2 hu2=>?_
 refine run ?_;refine J.alloc rfl fun b8=>?_
 refine run ?_;refine J.nilG inC 1 3 (fun _=>rfl) ?_;refine J.loop (A:=OrA) (fun r=>[(10, .slice r.a r.n r.c),(11, .int .i64 (r.i:Nat))]) [49,50,51,52,53,54,55,56,57,58,59,60,61,62,63,64,65,66,67,68,69,70,71,72,73] (fun r=>[.gown inC 1 3 r.a r.n r.c r.l, .blk b8 (plC u2) 26, .gown jbC 2 65 u2.ja u2.jn u2.jc u2.js, .gown hdC 48 67 u2.ha u2.hn u2.hc u2.hs, .gown jdC 45 61 u2.da u2.dn u2.dc u2.ds, .all (u2.js.map jbE), .all (u2.hs.map hdE), .all (u2.ds.map jdE), .blk b6 (plC u1) 26, .gown jbC 2 65 u1.ja u1.jn u1.jc u1.js, .gown hdC 48 67 u1.ha u1.hn u1.hc u1.hs, .gown jdC 45 61 u1.da u1.dn u1.dc u1.ds, .all (u1.js.map jbE), .all (u1.hs.map hdE), .all (u1.ds.map jdE)]) (fun r=>r.i≤m2∧r.l=(xs.take r.i).filter pk3∧r.l.length=r.n∧r.n≤r.i) (fun r=>m2 - r.i) ⟨0,none,0,0,[]⟩ (by kernel_rfl) ⟨Nat.zero_le _,rfl,rfl,Nat.le_refl _⟩ (fun r j hI=>?_);obtain⟨hi,hrl,hrn,hri⟩:=hI;refine run ?_;refine J.ifd rfl (fun d1=>?_) (fun d1=>?_)
 ·obtain⟨x,hx⟩:=D0.ex (i:=(r.i:Nat)) (by omega);have hx':xs[r.i]? =some x:=hx;have ef:(xs.take (r.i+1)).filter pk3=r.l++if pk3 x then [x]else []:=by
   rw[List.take_add_one,hx',Option.toList_some,List.filter_append,←hrl];cases h:pk3 x with
   |true=>rw[List.filter_cons_of_pos h];rfl
   |false=>rw[List.filter_cons_of_neg (by rw[h];decide)];rfl
  have no:¬(0≤x∧x<3)→(xs.take (r.i+1)).filter pk3=r.l:=fun h=>by
   rw[ef,show pk3 x=false from by unfold pk3;simp;omega];simp
  refine run ?_;refine J.spd rfl rfl rfl (fun d2=>?_) (fun d2=>?_)
  rotate_left
  ·refine run ?_;exact J.next ⟨r.i+1,r.a,r.n,r.c,r.l⟩ ⟨rfl,rfl,trivial⟩ (by kernel_rfl) ⟨by dsimp only;omega,(no (by omega)).symm,hrn,by dsimp only;omega⟩ (by dsimp only;omega)
  refine run ?_;refine J.ifd rfl (fun d3=>?_) (fun d3=>?_)
  ·refine run ?_;refine J.b1V inC x (fun _=>rfl) rfl rfl rfl rfl fun bx=>?_
   refine run ?_;refine J.apG rfl rfl RG.own' inC_one fun a' c'=>?_
   refine run ?_;refine J.drop (E:=[.gown inC 1 3 a' (r.n+1) c' (r.l++[x]), .blk b8 (plC u2) 26, .gown jbC 2 65 u2.ja u2.jn u2.jc u2.js, .gown hdC 48 67 u2.ha u2.hn u2.hc u2.hs, .gown jdC 45 61 u2.da u2.dn u2.dc u2.ds, .all (u2.js.map jbE), .all (u2.hs.map hdE), .all (u2.ds.map jdE), .blk b6 (plC u1) 26, .gown jbC 2 65 u1.ja u1.jn u1.jc u1.js, .gown hdC 48 67 u1.ha u1.hn u1.hc u1.hs, .gown jdC 45 61 u1.da u1.dn u1.dc u1.ds, .all (u1.js.map jbE), .all (u1.hs.map hdE), .all (u1.ds.map jdE)]) sb ?_;refine J.next ⟨r.i+1,a',r.n+1,c',r.l++[x]⟩ ⟨rfl,rfl,trivial⟩ (by kernel_rfl) ⟨by dsimp only;omega,?_,by dsimp only;rw[List.length_append,hrn];rfl,by dsimp only;omega⟩ (by dsimp only;omega);dsimp only;rw[ef,show pk3 x=true from by unfold pk3;simp;omega,if_pos rfl]
  refine run ?_;exact J.next ⟨r.i+1,r.a,r.n,r.c,r.l⟩ ⟨rfl,rfl,trivial⟩ (by kernel_rfl) ⟨by dsimp only;omega,(no (by omega)).symm,hrn,by dsimp only;omega⟩ (by dsimp only;omega)
 obtain⟨i,ra,rn,rc,rl⟩:=r;dsimp only at hi hrl hrn hri d1⊢;obtain rfl:i=m2:=by omega
 rw[List.take_of_length_le (by omega)]at hrl;have hxs:∀x∈rl,0≤x∧x<(3:Nat):=fun x hx=>by
  rw[hrl]at hx;have:=(List.mem_filter.1 hx).2;unfold pk3 at this;simp at this;omega
 refine run ?_;refine J.loop (A:=OrA) (fun r=>[(10, .slice r.a r.n r.c),(12, .int .i64 (r.i:Nat))]) [74,75,76,77,78,79,80,81,82] (fun r=>[.gown inC 1 3 r.a r.n r.c r.l, .blk b8 (plC u2) 26, .gown jbC 2 65 u2.ja u2.jn u2.jc u2.js, .gown hdC 48 67 u2.ha u2.hn u2.hc u2.hs, .gown jdC 45 61 u2.da u2.dn u2.dc u2.ds, .all (u2.js.map jbE), .all (u2.hs.map hdE), .all (u2.ds.map jdE), .blk b6 (plC u1) 26, .gown jbC 2 65 u1.ja u1.jn u1.jc u1.js, .gown hdC 48 67 u1.ha u1.hn u1.hc u1.hs, .gown jdC 45 61 u1.da u1.dn u1.dc u1.ds, .all (u1.js.map jbE), .all (u1.hs.map hdE), .all (u1.ds.map jdE)]) (fun r=>r.i≤60∧r.l=rl++S.turnI 3 r.i∧r.n=rn+r.i∧r.l.length=r.n) (fun r=>60 - r.i) ⟨0,ra,rn,rc,rl⟩ (by kernel_rfl) ⟨Nat.zero_le _,(List.append_nil _).symm,rfl,hrn⟩ (fun r j hI=>?_);obtain⟨hj,hsl,hsn,hsm⟩:=hI;refine run ?_;refine J.ifd rfl (fun d2=>?_) (fun d2=>?_)
 ·refine run ?_;refine J.b1V inC (((r.i:Nat):Int) % 3) (fun _=>rfl) rfl rfl rfl rfl fun bx=>?_
  refine run ?_;refine J.apG rfl rfl RG.own' inC_one fun a' c'=>?_
  refine run ?_;refine J.drop (E:=[.gown inC 1 3 a' (r.n+1) c' (r.l++[((r.i:Nat):Int) % 3]), .blk b8 (plC u2) 26, .gown jbC 2 65 u2.ja u2.jn u2.jc u2.js, .gown hdC 48 67 u2.ha u2.hn u2.hc u2.hs, .gown jdC 45 61 u2.da u2.dn u2.dc u2.ds, .all (u2.js.map jbE), .all (u2.hs.map hdE), .all (u2.ds.map jdE), .blk b6 (plC u1) 26, .gown jbC 2 65 u1.ja u1.jn u1.jc u1.js, .gown hdC 48 67 u1.ha u1.hn u1.hc u1.hs, .gown jdC 45 61 u1.da u1.dn u1.dc u1.ds, .all (u1.js.map jbE), .all (u1.hs.map hdE), .all (u1.ds.map jdE)]) sb ?_;refine J.next ⟨r.i+1,a',r.n+1,c',r.l++[((r.i:Nat):Int) % 3]⟩ ⟨rfl,rfl,trivial⟩ (by kernel_rfl) ⟨by dsimp only;omega,?_,by dsimp only;omega,by dsimp only;rw[List.length_append,hsm];rfl⟩ (by dsimp only;omega);dsimp only;rw[hsl,S.turnI_snoc,List.append_assoc];rfl
 obtain⟨k,ra2,rn2,rc2,rl2⟩:=r;dsimp only at hj hsl hsn hsm d2⊢;obtain rfl:k=60:=by omega
 subst hsl hsn;have hrl100:rl.length≤100:=by omega
 obtain⟨f1,f2,f3⟩:=S.fil_run1 (l:=ps.map Pc.xs) (by omega);obtain⟨g1,g2,g3⟩:=S.fil_run3 (l:=ps.map Pc.xs) (by omega) hxs hrl100;rw[hml]at f1 f2 f3 g3;refine run0 ?_;refine J.joinX (A:=PlA×Nat) (fun u=>[(13, .pointer (some ⟨u.2,0,none⟩)),(14, .int .i64 ((3*m:Nat):Int)),(15, .int .i64 0)]) [83,84,85,86,87,88,89,90,91,92] (fun u=>[.blk u.2 (plC u.1) 26, .grow jbC 2 u.1.ja u.1.jn u.1.js, .gown hdC 48 67 u.1.ha u.1.hn u.1.hc u.1.hs, .gown jdC 45 61 u.1.da u.1.dn u.1.dc u.1.ds, .all (u.1.js.map jbE), .all (u.1.hs.map hdE), .all (u.1.ds.map jdE), .gown inC 1 3 ra2 (rn+60) rc2 (rl++S.turnI 3 60), .blk b8 (plC u2) 26, .gown jbC 2 65 u2.ja u2.jn u2.jc u2.js, .gown hdC 48 67 u2.ha u2.hn u2.hc u2.hs, .gown jdC 45 61 u2.da u2.dn u2.dc u2.ds, .all (u2.js.map jbE), .all (u2.hs.map hdE), .all (u2.ds.map jdE), .blk b6 (plC u1) 26, .gown jbC 2 65 u1.ja u1.jn u1.jc u1.js, .gown hdC 48 67 u1.ha u1.hn u1.hc u1.hs, .gown jdC 45 61 u1.da u1.dn u1.dc u1.ds, .all (u1.js.map jbE), .all (u1.hs.map hdE), .all (u1.ds.map jdE)]) (fun u=>PlQ (S.runV (S.filV 1 (ps.map Pc.xs)) (List.replicate (3*m) 0)) u.1) ?_ (fun u j3 hu3=>?_)
 ·refine J.regionW [.gown inC 1 3 ra2 (rn+60) rc2 (rl++S.turnI 3 60), .blk b8 (plC u2) 26, .gown jbC 2 65 u2.ja u2.jn u2.jc u2.js, .gown hdC 48 67 u2.ha u2.hn u2.hc u2.hs, .gown jdC 45 61 u2.da u2.dn u2.dc u2.ds, .all (u2.js.map jbE), .all (u2.hs.map hdE), .all (u2.ds.map jdE), .blk b6 (plC u1) 26, .gown jbC 2 65 u1.ja u1.jn u1.jc u1.js, .gown hdC 48 67 u1.ha u1.hn u1.hc u1.hs, .gown jdC 45 61 u1.da u1.dn u1.dc u1.ds, .all (u1.js.map jbE), .all (u1.hs.map hdE), .all (u1.ds.map jdE)] mixed ?_;refine J.wnode [(0, .q),(1, .q),(2, .q),(3, .q)] [4,10] 9 #[true,true,true,true,false,false,false,false,false,false,false,false,false,false] (by kernel_rfl) ?_;refine run ?_;refine J.nil ?_;refine J.wbr ?_ ?_
  ·rw[show(3:Int)*((m:Nat):Int)=((3*m:Nat):Int)by omega];refine J.mkG inC 0 (fun _=>rfl) rfl rfl rfl rfl fun bm=>?_
   refine J.nil ?_;refine J.wnode [] [5,10] 8 #[true,true,true,true,true,false,false,false,false,false,false,false,false,false] (by kernel_rfl) ?_;refine run ?_;refine J.nil ?_;refine J.wbr ?_ ?_
   ·refine J.call rfl rfl (fun w' M => (RG.own' (a := some ⟨bm, 0, none⟩) w' M).elim fun _ k0 => by
     have := poolRun u1 (some ⟨bm, 0, none⟩) (3 * m) (3 * m) (List.replicate (3 * m) 0) TK w' (K0.ext M.ext) (PlR.own hu1 w' M) k0 (by omega)
     rwa [hu1.V] at this) fun v hv => ?_
    obtain⟨v,n,e⟩:=v;obtain⟨hv,hn,he⟩:=hv;dsimp only at hv hn he⊢;subst hn he;rw[f1,f3];refine J.nil ?_;refine J.wfin [(6, .q),(7, .q),(8, .q),(9, .q),(10, .e),(11, .e),(12, .q),(13, .q)] (by kernel_rfl) ?_;refine run ?_;refine J.alloc rfl fun bn=>?_
    refine run ?_;refine run ?_;refine J.front (.blk bn (plC v) 26) ?_;refine J.drop (E:=[.blk bn (plC v) 26, .grow jbC 2 v.ja v.jn v.js, .gown hdC 48 67 v.ha v.hn v.hc v.hs, .gown jdC 45 61 v.da v.dn v.dc v.ds, .all (v.js.map jbE), .all (v.hs.map hdE), .all (v.ds.map jdE), .gown inC 1 3 ra2 (rn+60) rc2 (rl++S.turnI 3 60), .blk b8 (plC u2) 26, .gown jbC 2 65 u2.ja u2.jn u2.jc u2.js, .gown hdC 48 67 u2.ha u2.hn u2.hc u2.hs, .gown jdC 45 61 u2.da u2.dn u2.dc u2.ds, .all (u2.js.map jbE), .all (u2.hs.map hdE), .all (u2.ds.map jdE), .blk b6 (plC u1) 26, .gown jbC 2 65 u1.ja u1.jn u1.jc u1.js, .gown hdC 48 67 u1.ha u1.hn u1.hc u1.hs, .gown jdC 45 61 u1.da u1.dn u1.dc u1.ds, .all (u1.js.map jbE), .all (u1.hs.map hdE), .all (u1.ds.map jdE)]) sb ?_;exact J.cut (v,bn) ⟨rfl,rfl,rfl,trivial⟩ (by kernel_rfl) hv
   refine J.wbr ?_ ?_
   ·refine J.alloc rfl fun bn=>?_
    refine J.nil ?_;refine J.wfin [(5, .e),(6, .q),(7, .q),(8, .q),(9, .q),(11, .e),(12, .q),(13, .q)] (by kernel_rfl) ?_;refine run ?_
    refine J.call rfl rfl (fun w' M => (RG.own' (a := some ⟨bm, 0, none⟩) w' M).elim fun _ k0 => by
     have := poolRun u1 (some ⟨bm, 0, none⟩) (3 * m) (3 * m) (List.replicate (3 * m) 0) TK w' (K0.ext M.ext) (PlR.own hu1 w' M) k0 (by omega)
     rwa [hu1.V] at this) fun v hv => ?_
    obtain⟨v,n,e⟩:=v;obtain⟨hv,hn,he⟩:=hv;dsimp only at hv hn he⊢;subst hn he;rw[f1,f3];refine run ?_;refine run ?_;refine J.front (.blk bn (plC v) 26) ?_;refine J.drop (E:=[.blk bn (plC v) 26, .grow jbC 2 v.ja v.jn v.js, .gown hdC 48 67 v.ha v.hn v.hc v.hs, .gown jdC 45 61 v.da v.dn v.dc v.ds, .all (v.js.map jbE), .all (v.hs.map hdE), .all (v.ds.map jdE), .gown inC 1 3 ra2 (rn+60) rc2 (rl++S.turnI 3 60), .blk b8 (plC u2) 26, .gown jbC 2 65 u2.ja u2.jn u2.jc u2.js, .gown hdC 48 67 u2.ha u2.hn u2.hc u2.hs, .gown jdC 45 61 u2.da u2.dn u2.dc u2.ds, .all (u2.js.map jbE), .all (u2.hs.map hdE), .all (u2.ds.map jdE), .blk b6 (plC u1) 26, .gown jbC 2 65 u1.ja u1.jn u1.jc u1.js, .gown hdC 48 67 u1.ha u1.hn u1.hc u1.hs, .gown jdC 45 61 u1.da u1.dn u1.dc u1.ds, .all (u1.js.map jbE), .all (u1.hs.map hdE), .all (u1.ds.map jdE)]) sb ?_;exact J.cut (v,bn) ⟨rfl,rfl,rfl,trivial⟩ (by kernel_rfl) hv
   exact J.wbr0
  refine J.wbr ?_ ?_
  ·refine J.alloc rfl fun bn=>?_
   refine J.nil ?_;refine J.wfin [(4, .e),(5, .e),(6, .q),(7, .q),(8, .q),(9, .q),(11, .e),(12, .q),(13, .q)] (by kernel_rfl) ?_;refine run ?_;rw[show(3:Int)*((m:Nat):Int)=((3*m:Nat):Int)by omega];refine J.mkG inC 0 (fun _=>rfl) rfl rfl rfl rfl fun bm=>?_
   refine run ?_
   refine J.call rfl rfl (fun w' M => (RG.own' (a := some ⟨bm, 0, none⟩) w' M).elim fun _ k0 => by
    have := poolRun u1 (some ⟨bm, 0, none⟩) (3 * m) (3 * m) (List.replicate (3 * m) 0) TK w' (K0.ext M.ext) (PlR.own hu1 w' M) k0 (by omega)
    rwa [hu1.V] at this) fun v hv => ?_
   obtain⟨v,n,e⟩:=v;obtain⟨hv,hn,he⟩:=hv;dsimp only at hv hn he⊢;subst hn he;rw[f1,f3];refine run ?_;refine run ?_;refine J.front (.blk bn (plC v) 26) ?_;refine J.drop (E:=[.blk bn (plC v) 26, .grow jbC 2 v.ja v.jn v.js, .gown hdC 48 67 v.ha v.hn v.hc v.hs, .gown jdC 45 61 v.da v.dn v.dc v.ds, .all (v.js.map jbE), .all (v.hs.map hdE), .all (v.ds.map jdE), .gown inC 1 3 ra2 (rn+60) rc2 (rl++S.turnI 3 60), .blk b8 (plC u2) 26, .gown jbC 2 65 u2.ja u2.jn u2.jc u2.js, .gown hdC 48 67 u2.ha u2.hn u2.hc u2.hs, .gown jdC 45 61 u2.da u2.dn u2.dc u2.ds, .all (u2.js.map jbE), .all (u2.hs.map hdE), .all (u2.ds.map jdE), .blk b6 (plC u1) 26, .gown jbC 2 65 u1.ja u1.jn u1.jc u1.js, .gown hdC 48 67 u1.ha u1.hn u1.hc u1.hs, .gown jdC 45 61 u1.da u1.dn u1.dc u1.ds, .all (u1.js.map jbE), .all (u1.hs.map hdE), .all (u1.ds.map jdE)]) sb ?_;exact J.cut (v,bn) ⟨rfl,rfl,rfl,trivial⟩ (by kernel_rfl) hv
  exact J.wbr0
 obtain⟨v1,b13⟩:=u;dsimp only at hu3⊢;refine run ?_
 refine J.call rfl rfl (fun w' M => (RG.own' (a := ra2) w' M).elim fun _ k0 => by
  have := poolRun u2 ra2 (rn + 60) rc2 (rl ++ S.turnI 3 60) TK w' (K0.ext M.ext) (PlR.own hu2 w' M) k0 (by omega)
  rwa [hu2.V] at this) fun v2 hv2 => ?_
 obtain⟨v2,n,e⟩:=v2;obtain⟨hv2,hn,he⟩:=hv2;dsimp only at hv2 hn he⊢;subst hn he;rw[g1,g3];have q1:=hu3.dn;have q2:=hv2.dn;rw[f2,S.filF_len,hml]at q1;rw[g2,S.filF_len,hml]at q2;refine run ?_;refine J.alloc rfl fun b16=>?_
 refine run ?_;refine J.spn rfl rfl rfl (fun c=>absurd (by omega) c) (fun _=>?_);refine run ?_;refine J.spn rfl rfl rfl (fun c=>absurd rfl c) (fun _=>?_);refine run ?_;refine J.spn rfl rfl rfl (fun c=>absurd (by omega) c) (fun _=>?_);refine run ?_;refine J.ifn rfl (fun c=>absurd (by omega) c) (fun _=>?_);refine run ?_;refine J.loopS (A:=Nat) (fun k=>[(19, .int .i64 (k:Nat))]) [4,134,135,136,137,138,139,140,141,142,143,144,145,146,147,148,149,150,151] (fun k=>k≤m) (fun k=>m - k) 0 (by kernel_rfl) (Nat.zero_le _) (fun k j4 hk=>?_);refine run ?_;refine J.ifd rfl (fun d3=>?_) (fun d3=>?_)
 ·obtain⟨z1,hz1⟩:∃z,v1.ds[k]? =some z:=⟨_,List.getElem?_eq_getElem (by have:=hu3.l.2.2;omega)⟩
  obtain⟨z2,hz2⟩:∃z,v2.ds[k]? =some z:=⟨_,List.getElem?_eq_getElem (by have:=hv2.l.2.2;omega)⟩
  have hz1':v1.ds[((k:Nat):Int).toNat]? =some z1:=hz1;have hz2':v2.ds[((k:Nat):Int).toNat]? =some z2:=hz2;have ez:z1.V=z2.V:=by
   have h1:v1.V.ds=v2.V.ds:=by rw[hu3.k.V,hv2.k.V,f2,g2]
   exact lAt h1 hz1 hz2
  have hl1:=jdC_len' z1;have hl2':=jdC_len' z2;refine run ?_;refine J.regionX [(0, .q),(1, .q),(2, .q),(3, .q),(4, .q),(5, .q),(6, .q),(7, .q),(8, .q),(9, .q),(10, .e),(11, .q)] mixed (by kernel_rfl) ?_;refine run ?_;refine J.callp rfl rfl (fun w' M=>refSameJdT z1 z2 w' ((PlR.ownF hu3 w' M).d hz1) ((PlR.ownF hv2 w' M).d hz2) ez) ?_;refine run ?_;exact J.nextS (k+1) ⟨rfl,trivial⟩ (by kernel_rfl) (by omega) (by omega)
 refine run ?_;exact J.fin rfl
end Go.Proofs.YtfoaecjggdaieaaGreatDoor.W
namespace Go.Proofs.YtfoaecjggdaieaaGreatDoor.L
open Go Go.Proofs.YtfoaecjggdaieaaGreatDoor Go.Proofs.YtfoaecjggdaieaaGreatDoor.G Go.Proofs.YtfoaecjggdaieaaGreatDoor.W
open Go.ChangeShapes Go.WideShapes Go.ChangeAt Go.RowKit
set_option linter.unusedVariables false
set_option maxRecDepth 100000
theorem poolSame_door(os:Os)(args:Array Value):laidMetH Tryz.prog [("braid/digest.constants",Rows.laid_braid_digest_constants)] ((World.doorLaid Tryz.prog 400 os).forCall (fun _ _=>0) ⟨#[],args,[]⟩).memory:=
  laidMetH_of_parts3 (fuel:=8) (laidMet_of_run' 8 (by kernel_rfl) (by kernel_rfl)) (by kernel_rfl) (by kernel_rfl)
theorem poolSame_lifted(os:Os)(started:os.Started)(H:Type)(enc:TypeId×Value→H):
    ReturnsInHanded {} Tryz.checked os 4 .any (fun w args=>(Rows.poolSameSpec.pre enc Tryz.prog Tryz.f4 [] false w args∧laidMetH Tryz.prog [("braid/digest.constants",Rows.laid_braid_digest_constants)] w)∧sizedMet enc Tryz.prog Tryz.f4 (OpenSpec.ofChange Rows.poolSameSpec) false w args)
      (Rows.poolSameSpec.post enc Tryz.prog Tryz.f4 false true false false):=by
  refine returnsInHanded_of_change_and (C:=Tryz.checked) (X:=fun w _=>laidMetH Tryz.prog [("braid/digest.constants",Rows.laid_braid_digest_constants)] w) (fun _ _ _ hh h=>h.of_heap hh) own started (by kernel_rfl) Tryz.func4
    (ChangeSpec.witness_shaped (enc:=enc) (C:=Tryz.checked) (os:=os) (X:=fun w _=>laidMetH Tryz.prog [("braid/digest.constants",Rows.laid_braid_digest_constants)] w) false (World.doorLaid Tryz.prog 400 os) #[.slice none 0 0, .slice none 0 0] 8 rfl (World.shaped_of_RefB (by kernel_rfl) (by kernel_rfl)) (by kernel_rfl) (by kernel_rfl) (by kernel_rfl) (poolSame_door os _)) ?_
  intro W base args ds gs before hval0 hW _ _ hL _;have hval:∀(j:Nat) t v,Tryz.f4.params[j]? =some t→args[j]? =some v→Value.okWide Tryz.prog W .any base t v:=hval0;have hW':=hW;obtain⟨p,q,hA0,hV,rfl,hfz,hnd⟩:=hW;have hA:DataW.TrodAll enc Tryz.prog W 0 (fun _=>true) true Tryz.f4.params.toList args.toList ds p:=hA0;rw[Tryz.params4]at hA hval;obtain⟨v0,vs0,d0,ds0,p0,q0,hargs,rfl,rfl,h0,r0⟩:=trodAll_cons hA;obtain⟨v1,vs1,d1,ds1,p1,q1,e1,rfl,rfl,h1,r1⟩:=trodAll_cons r0;obtain⟨rfl,rfl,rfl⟩:=trodAll_nil r1;subst e1;obtain rfl:args= #[v0,v1]:=by cases args;simp_all
  obtain⟨rfl,rfl⟩:=trodVars_none hV;obtain⟨a0,m0,c0,rfl⟩:=okWide_slice Tryz.underlying41 (hval 0 41 v0 rfl rfl);obtain⟨a1,m1,c1,rfl⟩:=okWide_slice Tryz.underlying27 (hval 1 27 v1 rfl rfl);have k0:=h0;have lt0:∀x∈p0,x.block<W.heap.size:=by obtain⟨m,hm⟩:=k0;exact DataW.trod_lt m _ _ _ hm
  obtain⟨fuel0,hf0⟩:=h0;obtain⟨_,_,_,ps0,he0,hc0,hR0⟩:=listS_in hf0;obtain⟨rfl,rfl,rfl⟩:=Value.slice.inj (List.cons.inj he0).1;have k1:=h1;have lt1:∀x∈p1,x.block<W.heap.size:=by obtain⟨m,hm⟩:=k1;exact DataW.trod_lt m _ _ _ hm
  obtain⟨fuel1,hf1⟩:=h1;obtain⟨_,_,_,fs1,he1,hc1,hR1⟩:=intsS_in hf1;obtain⟨rfl,rfl,rfl⟩:=Value.slice.inj (List.cons.inj he1).1;have K0:=of_laid hL;clear hA0 hval0;have hwalk:=poolSame a0 m0 c0 ps0 a1 m1 c1 fs1 0 W K0 hR0 hR1;refine hwalk.mono fun e W' hret=>?_
  obtain⟨v,rfl,bel,rfl⟩:=hret;exact⟨_,rfl,_,_,_,[],_,[],hW',trodAll_mk1 (shut_bool Tryz.underlying4 _),(trodAll_cons_mk (Below.trod laidOut (by kernel_rfl) (of_decide_eq_true (by kernel_rfl)) k0 bel lt0) (trodAll_cons_mk (Below.trod laidOut (by kernel_rfl) (of_decide_eq_true (by kernel_rfl)) k1 bel lt1) trodAll_mk0)),rfl,bel.frame _,fun h=>by cases h⟩
theorem poolSame_closed:joinedFacts Tryz.prog 4 Tryz.f4 Rows.poolSameSpec Rows.poolSameRow=true:=by
  unfold joinedFacts;rw[poolSame_f1,poolSame_f2,poolSame_f3,poolSame_f4]
  kernel_rfl
theorem poolSame_holds:Rows.PoolSameSaid:=
  OpenClaim.holds_of_wide 4 Tryz.f4 rfl rfl rfl rfl rfl rfl rfl ⟨rfl,rfl,rfl,rfl,rfl⟩ rfl rfl rfl rfl rfl (by kernel_rfl) Tryz.func4 poolSame_closed
    (of_decide_eq_true (by kernel_rfl)) (by unfold Func.isWrapper;first|(rw[if_pos (by decide+kernel)];kernel_rfl)|(rw[if_neg (by decide+kernel)];exact⟨rfl,rfl⟩))
    (fun os started H enc _=>poolSame_lifted os started H enc)
theorem poolSame_card:Rows.PoolSameCardSaid:=
  Claim7.holds_tied_plain_at .later [] [.data] true (true, "a8d80fc8e61850ac956e92974a507f8242847565356b489832ef312e3c5ef41c") false
    poolSame_holds (fun _ h=>by cases h) (by kernel_rfl) (fun _ h=>by cases h) poolSame_row_tie rfl ⟨rfl,rfl⟩ (by kernel_rfl) rfl
    (fun f fn hf hfn => by
      obtain rfl : f = 4 := Option.some.inj ((show Tryz.prog.funcNamed "braid/braidlaw18.PoolSame" = some 4 by kernel_rfl).symm.trans hf) |>.symm
      obtain rfl : fn = Tryz.f4 := (Option.some.inj (Tryz.func4.symm.trans hfn)).symm
      exact ⟨by kernel_rfl, fun j t ht => by
        rw [Tryz.params4] at ht
        have hm : t ∈ [41, 27] := by simpa using Array.mem_of_getElem? ht
        have hall : ([41, 27].all fun u => !Tryz.prog.wantsStandIn u) = true := by kernel_rfl
        exact (show Tryz.prog.wantsStandIn t = false by simpa using List.all_eq_true.1 hall t hm)⟩)
    (by kernel_rfl)
end Go.Proofs.YtfoaecjggdaieaaGreatDoor.L
