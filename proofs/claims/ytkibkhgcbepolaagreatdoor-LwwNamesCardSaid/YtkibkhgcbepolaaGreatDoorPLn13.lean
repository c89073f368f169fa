/-
  Part 13 of the lemmas of these laws: LwwNames.
-/
import Derived.Test.YtkibkhgcbepolaaGreatDoorPLn12
set_option linter.unusedVariables false
set_option linter.unusedSimpArgs false
open Go.Proofs.Tryz
namespace Go.Proofs.YtkibkhgcbepolaaGreatDoor
namespace W
open Go.RowKit G
set_option maxRecDepth 20000
set_option maxHeartbeats 8000000
attribute [local irreducible] RS RX RY Code.wp bodyPost J Ent.blk Ent.iown Ent.wrow Ent.wown Ent.gown Ent.all Ent.emp
instance:Fld prog 37 3 3:=⟨_,_,6,underlying37,rfl,by kernel_rfl,by decide,rfl⟩
instance:Fld prog 33 0 0:=⟨_,_,1,underlying33,rfl,by kernel_rfl,by decide,rfl⟩
instance:Sca prog 5:=⟨_,underlying5,rfl⟩
instance:Fld prog 33 1 1:=⟨_,_,1,underlying33,rfl,by kernel_rfl,by decide,rfl⟩
instance:Fld prog 33 2 2:=⟨_,_,4,underlying33,rfl,by kernel_rfl,by decide,rfl⟩
instance:Agg prog 31 4:=⟨_,underlying31,rfl,by kernel_rfl⟩
instance:Fld prog 37 2 2:=⟨_,_,1,underlying37,rfl,by kernel_rfl,by decide,rfl⟩
instance:SInf prog 118 [(0,1),(1,4),(5,1),(6,32)]:=⟨_,underlying118,by kernel_rfl,by kernel_rfl⟩
instance:Ents prog 141:=⟨.mk func141 (by kernel_rfl) rfl⟩
instance:Ents prog 221:=⟨.mk func221 (by kernel_rfl) rfl⟩
instance:Ents prog 222:=⟨.mk func222 (by kernel_rfl) rfl⟩
instance:Fld prog 121 0 0:=⟨_,_,1,underlying121,rfl,by kernel_rfl,by decide,rfl⟩
instance:Sca prog 119:=⟨_,underlying119,rfl⟩
instance:SInf prog 33 [(0,1),(1,1),(2,4)]:=⟨_,underlying33,by kernel_rfl,by kernel_rfl⟩
instance:Inf prog 33 6 64 [.int .u8 0, .string .empty, .int .u8 0, .int .i64 0, .int .u64 0, .string .empty]:=⟨TI.of (v:= .agg #[.int .u8 0, .string .empty, .int .u8 0, .int .i64 0, .int .u64 0, .string .empty]) (by kernel_rfl) rfl⟩
instance:Ents prog 143:=⟨.mk func143 (by kernel_rfl) rfl⟩
instance:Fld prog 118 1 1:=⟨_,_,4,underlying118,rfl,by kernel_rfl,by decide,rfl⟩
instance:Ents prog 144:=⟨.mk func144 (by kernel_rfl) rfl⟩
instance:Ents prog 106:=⟨.mk func106 (by kernel_rfl) rfl⟩
theorem stC_one(s:ByteArray):∀u∈stC s,u.oneCell'=true:=by intro u hu;simp only[stC,List.mem_cons,List.not_mem_nil,or_false]at hu;subst hu;rfl
@[reducible] def vlC(x:S.RgV):List Value:=[.int .u8 x.vk, .int .i64 x.num, .int .u64 x.bits, .string x.t]
structure LsA(α:Type) where
 (a:Option Addr)(n c:Nat)(l:List α)
theorem lwwApply0(a:Option Addr)(n c:Nat)(l:List S.RgV)(z:OpA)(id:List Int)(w:World)(hO:GOwn rgC 38 0 w 118 a n c l)(hz:z.o.ok)(hid:Arr .u8 32 id)(hok:∀x∈l,x.ok)(hs:S.SortK l)(hn:n≤100):
  Calls prog 139 #[.slice a n c, .agg (opC z).toArray, .agg (ints .u8 id).toArray] w (Gw w rgC 38 118 a (S.applR l z.o id hid.1)):=by
 have hl:=hO.len;have hsp:=S.spK_le l z.o.key;obtain⟨x,hx⟩:=ex (S.regO z.o id hid.1);have hxk:x.key=z.o.key:=by rw[hx];rfl
 have hxo:x.ok:=by rw[hx];exact⟨⟨hz.vk,hz.num,hz.bits,hz.st,hid.2⟩,hz.key,hz.t⟩
 refine J.enterG 47 hO func139 rfl rfl ?_;refine run ?_;refine J.box rfl rfl rfl fun b1=>?_
 refine J.box rfl rfl rfl fun b2=>?_
 refine run ?_;refine J.ifn rfl (fun c1=>?_) (fun c1=>?_)
 ·refine run ?_;have e:S.applR l z.o id hid.1=l:=if_neg c1;rw[e];exact J.finW rfl
 have e:S.applR l z.o id hid.1=S.putR l x:=by rw[hx];exact if_pos c1
 rw[e];refine run ?_;refine J.bs rfl rfl ?_ (fill_rg z.o id hid.1);rw[←hx];refine J.alloc rfl fun b3=>?_
 refine run ?_;refine J.callp rfl rfl (fun w' M=>(RG.own' (a:=a) w' M).elim fun _ k1=>findReg a n c l _ w' k1 hs hn) ?_;refine run ?_;refine J.ifnot rfl (fun c2=>?_) (fun c2=>?_)
 ·have hh:¬S.hasK l x.key:=of_decide_eq_false c2;refine run ?_;refine J.b1G rgC x rgC_len rfl rfl rfl fun b4=>?_
  rw[S.put_ins hh]
  refine J.callG rfl (fun w' M hO' => insReg a n c l (S.spK l x.key) x b4 w' hO' (by rw [hxk]; omega) (by omega) (let ⟨_, _, q⟩ := M.get (GO.h (a := some ⟨b4, 0, none⟩) (some ⟨b4, 0, none⟩) 1 1 [x]).same; gown_one (gown_e q).1) (fun he => by
   obtain ⟨S1, S2, h1, h2, h3⟩ := M.two (.gown rgC 38 118 a n c l) (.gown rgC 38 118 (some ⟨b4, 0, none⟩) 1 1 [x])
   exact h1 b4 ((gown_e h2).2 _ he) ((gown_e h3).2 _ rfl))) fun a' c' => ?_
  refine run ?_;exact J.finW rfl
 have hh:=of_decide_eq_true c2;have hp:=(S.has_spK hs).1 hh;have hq:=S.rg_at hp.1;refine run ?_;refine J.regionX [(0, .q),(1, .q),(2, .q),(3, .q),(4, .q),(5, .e)] mixed (by kernel_rfl) ?_;refine run ?_;refine J.callp rfl rfl (fun w' M=>later x _ hxo (hok _ (S.rg_mem hp.1)) w') ?_;refine run ?_;refine J.ifd rfl (fun c3=>?_) (fun c3=>?_)
 ·refine run ?_;refine J.stG rfl rfl rfl ?_ (hv:=LenC.c (vs:=rgC x));refine run ?_;have e2:S.putR l x=l.set (S.spK l x.key) x:=by unfold S.putR;rw[if_pos hh,if_pos c3]
  rw[e2];exact J.finW rfl
 refine run ?_;have e2:S.putR l x=l:=by unfold S.putR;rw[if_pos hh,if_neg c3]
 rw[e2];exact J.finW rfl
theorem lwwCheck{S0:Nat→Prop}(a:Option Addr)(n c:Nat)(l:List S.RgV)(w:World)(G:RsR S0 w a n c l):
  Calls prog 57 #[.agg ([.slice a n c]:List Value).toArray] w (Ret w fun v _=>v= .int .i64 (S.chkR l)):=by
 have D0:=G.row;have hl:=G.len;refine J.enter 49 func57 rfl rfl ?_;refine run ?_;refine J.box rfl rfl rfl fun b1=>?_
 refine run ?_;refine J.ifd rfl (fun c0=>?_) (fun c0=>?_)
 ·refine run ?_;exact J.fin (congrArg _ (S.chkR_4 (by omega)))
 refine run ?_;refine J.loopS (A:=Int) (fun p=>[(12, .int .i64 p)]) [2,3,4,13,14,15,16,17,18,19,20,21,22,23,24,25,26,27,28,29,30,31,32,33,34,35,36,37,38,39,40,41,42,43,44,45,46,47,48,49] (fun p=>(0≤p∧p≤n)∧∀i,i<p.toNat→S.rowOk l i) (fun p=>n - p.toNat) 0 (by kernel_rfl) ⟨by omega,fun i hi=>by omega⟩ (fun p j hI=>?_);obtain⟨h1,hI⟩:=hI;refine run ?_;refine J.ifd rfl (fun c3=>?_) (fun c3=>?_)
 ·have hq:=S.rg_at (l:=l) (i:=p.toNat) (by omega);have hq1:=S.rg_at (l:=l) (i:=(p - 1).toNat) (by omega);have hok:=G.okAt (i:=p.toNat) (by omega);have h8:¬S.rowOk l p.toNat→(8:Int)=S.chkR l:=S.chkR_8 (by omega) (by omega);unfold S.rowOk at h8;rw[show p.toNat - 1=(p - 1).toNat by omega]at h8;have hnext:S.rowOk l p.toNat→∀i,i<(p+1).toNat→S.rowOk l i:=fun h i hi=>by
   rcases Nat.lt_or_ge i p.toNat with e|e
   ·exact hI i e
   obtain rfl:i=p.toNat:=by omega
   exact h
  unfold S.rowOk at hnext;rw[show p.toNat - 1=(p - 1).toNat by omega]at hnext;obtain⟨x,hx⟩:=ex (S.rg l p.toNat);obtain⟨y,hy⟩:=ex (S.rg l (p - 1).toNat);rw[←hx]at hq hok h8 hnext;rw[←hy]at hq1 h8 hnext;refine run ?_;refine J.alloc rfl fun b2=>?_
  refine run ?_;refine J.regionX [(0, .q),(1, .q),(2, .q),(3, .e),(4, .q),(5, .q),(6, .q),(7, .q),(8, .e),(9, .q),(10, .q),(11, .q),(12, .q),(13, .q),(14, .q),(15, .q),(16, .q),(17, .q),(18, .q),(19, .q),(20, .q),(21, .q),(22, .q),(23, .q),(24, .q),(25, .q),(26, .q),(27, .q),(28, .q),(29, .q),(30, .q),(31, .q)] mixed (by kernel_rfl) ?_;refine run ?_;refine J.callp rfl rfl (fun w' M=>checkAct _ _ _ _ _ _ (by omega) (by omega) (by omega) (by omega) (Nat.le_trans hok.key (by decide)) (by decide) w') ?_;refine run ?_;refine J.spn rfl rfl rfl (fun c4=>?_) (fun c4=>?_)
  ·refine run ?_;exact J.fin (congrArg _ (h8 fun h=>c4 (S.act_add h.1.1 rfl)))
  refine run ?_;refine J.callp rfl rfl (fun w' M=>checkV _ _ _ _ hok.vk hok.num hok.bits w') ?_;refine run ?_;refine J.spn rfl rfl rfl (fun c5=>?_) (fun c5=>?_)
  ·refine run ?_;exact J.fin (congrArg _ (h8 fun h=>c5 (S.valE_zero.2 h.1.2.1)))
  refine run ?_;refine J.spd rfl rfl rfl (fun c6=>?_) (fun c6=>?_)
  ·refine run ?_;exact J.fin (congrArg _ (h8 fun h=>by have:=h.1.2.2;omega))
  have hf:x.fine:=⟨S.act_key c4,S.valE_zero.1 c5,by omega⟩
  refine run ?_;refine J.spd rfl rfl rfl (fun c7=>?_) (fun c7=>?_)
  ·refine run ?_;refine J.ifd rfl (fun c8=>?_) (fun c8=>?_)
   ·refine run ?_;exact J.fin (congrArg _ (h8 fun h=>by have:=h.2 (by omega);omega))
   refine run ?_;exact J.nextS (p+1) ⟨rfl,trivial⟩ (by kernel_rfl) ⟨by omega,hnext ⟨hf,fun _=>by omega⟩⟩ (by omega)
  refine run ?_;exact J.nextS (p+1) ⟨rfl,trivial⟩ (by kernel_rfl) ⟨by omega,hnext ⟨hf,fun h=>by omega⟩⟩ (by omega)
 refine run ?_;exact J.fin (congrArg _ (S.chkR_0 (by omega) fun i hi=>hI i (by omega)))
theorem refLater(st:Int)(id:List Int)(y:S.RgV)(w:World)(hid:Arr .u8 32 id)(hy:y.ok):
  Calls prog 60 #[.int .u64 st, .agg (ints .u8 id).toArray, .agg (rgC y).toArray] w (Ret w fun v _=>v= .bool (decide (S.lateR st id y))):=by
 refine J.enter 21 func60 rfl rfl ?_;refine run ?_;refine J.box rfl rfl rfl fun b1=>?_
 refine J.box rfl rfl rfl fun b2=>?_
 refine run ?_;refine J.spd rfl rfl rfl (fun c1=>?_) (fun c1=>?_)
 ·refine run ?_;exact J.fin (congrArg _ (decide_eq_true (.inl c1)).symm)
 refine run ?_;refine J.spe rfl rfl rfl (fun c2=>?_) (fun c2=>?_)
 ·refine run ?_;refine J.ldp rfl ?_ (hv:=rgC_id y) (hn:=by rw[ints_length,y.h32]);refine run ?_;refine J.callp rfl rfl (fun w' M=>rcmp _ _ hid hy.arr w') ?_;refine run ?_;refine J.fin (congrArg _ (decide_eq_decide.2 ⟨fun h=> .inr ⟨c2,h⟩,fun h=>h.elim (fun h=>absurd h c1) fun h=>h.2⟩))
 refine run ?_;exact J.fin (congrArg _ (decide_eq_false fun h=>h.elim c1 fun h=>c2 h.1).symm)
instance:Inf prog 121 1 24 [.slice none 0 0]:=⟨TI.of (v:= .agg #[.slice none 0 0]) (by kernel_rfl) rfl⟩
instance:SInf prog 121 [(0,1)]:=⟨_,underlying121,by kernel_rfl,by kernel_rfl⟩
instance:Siz prog 121 1:=⟨by kernel_rfl⟩
instance:Agg prog 121 1:=⟨_,underlying121,rfl,by kernel_rfl⟩
instance:Ents prog 57:=⟨.mk func57 (by kernel_rfl) rfl⟩
instance:Ents prog 140:=⟨.mk func140 (by kernel_rfl) rfl⟩
instance:Ents prog 139:=⟨.mk func139 (by kernel_rfl) rfl⟩
instance:Inf prog 31 4 40 [.int .u8 0, .int .i64 0, .int .u64 0, .string .empty]:=⟨TI.of (v:= .agg #[.int .u8 0, .int .i64 0, .int .u64 0, .string .empty]) (by kernel_rfl) rfl⟩
instance:SInf prog 31 [(0,1),(1,1),(2,1),(3,1)]:=⟨_,underlying31,by kernel_rfl,by kernel_rfl⟩
instance:Siz prog 31 4:=⟨by kernel_rfl⟩
instance:Und prog 127 (.slice 9):=⟨underlying127⟩
instance:Inf prog 9 1 16 [.string .empty]:=⟨TI.of (v:= .string .empty) (by kernel_rfl) rfl⟩
@[reducible] def rsC(q:LsA S.RgV×Int):Value:= .tuple #[.agg ([.slice q.1.a q.1.n q.1.c]:List Value).toArray, .int .i64 q.2]
def rsP(L:List S.RgV)(e:Int)(q:LsA S.RgV×Int):Prop:=q.1.n≤q.1.c∧q.1.n=q.1.l.length∧q.1.l=L∧q.2=e
@[reducible] def rsE(q:LsA S.RgV×Int):List Ent:=[.gown rgC 38 118 q.1.a q.1.n q.1.c q.1.l]
theorem lwwNew(w:World):Calls prog 145 #[] w (Ret w fun v _=>v= .agg #[.slice none 0 0]):=by
 refine J.enter 2 func145 rfl rfl ?_;refine run ?_;refine J.alloc rfl fun b1=>?_
 refine run ?_;exact J.fin rfl
theorem lwwApply{S0 S1:Nat→Prop}(a:Option Addr)(n c:Nat)(l:List S.RgV)(z:OpA)(TK:TypeId)(w:World)(K0:Kst w TK)(G:RsR S0 w a n c l)(R:OpR S1 w z):
  Calls prog 54 #[.agg ([.slice a n c]:List Value).toArray, .agg (opC z).toArray] w (Gv w rsC rsE (rsP (S.appL l z.o) (S.appE l z.o))):=by
 have hl:=G.len;have hn:=G.n;have hsa:=S.idX_arr z.o;refine J.enter 34 func54 rfl rfl ?_;refine run ?_;refine J.box rfl rfl rfl fun b1=>?_
 refine J.box rfl rfl rfl fun b2=>?_
 refine J.alloc rfl fun b3=>?_
 refine run ?_;refine J.callp rfl rfl (fun w' M=>lwwCheck a n c l w' (G.ext M.ext)) ?_;refine run ?_;refine J.ifn rfl (fun c1=>?_) (fun c1=>?_)
 ·have h8:=S.appE_chk (o:=z.o) c1;refine run ?_;refine J.nilG rgC 38 118 rgC_len ?_;exact J.finG (⟨none,0,0,[]⟩,S.chkR l) rfl ⟨Nat.le_refl _,rfl,h8.2.symm,h8.1.symm⟩ (.cons_cons _ (List.nil_sublist _))
 have hg:=S.chkR_good.1 c1;refine run ?_;refine J.callp rfl rfl (fun w' M=>idO z.o R.ok _ _ _ _ (K0.ext M.ext) (R.row.ext M.ext) R.cap) ?_;refine run ?_;refine J.alloc rfl fun b4=>?_
 refine run ?_;refine J.ifn rfl (fun c2=>?_) (fun c2=>?_)
 ·have h8:=S.appE_bad (o:=z.o) c1 c2;refine run ?_;refine J.nilG rgC 38 118 rgC_len ?_;exact J.finG (⟨none,0,0,[]⟩,8) rfl ⟨Nat.le_refl _,rfl,h8.2.symm,h8.1.symm⟩ (.cons_cons _ (List.nil_sublist _))
 refine run ?_;refine J.regionR [.blk b4 (ints .u8 (S.idX z.o)) 24, .blk b2 (opC z) 37, .blk b1 [.slice a n c] 121] [(0, .q),(1, .q),(3, .q),(4, .q),(2, .e),(5, .e),(6, .q)] mixed (by kernel_rfl) (by repeat(first|exact List.Sublist.refl _|refine List.Sublist.cons_cons _ ?_|refine List.Sublist.cons _ ?_)) ?_;refine run ?_;refine J.call rfl rfl (fun w' M=>cloneG a n c l w' (G.row.ext M.ext) (by omega)) fun q hq=>?_
 refine run ?_;refine J.callG rfl (fun w' M hO=>lwwApply0 q.1 n q.2 l z (S.idX z.o) w' hO R.ok hsa G.ok hg.2.2 (by omega)) fun a' c'=>?_
 have e1:S.applR l z.o (S.idX z.o) hsa.1=if z.o.k=4 then S.putR l (S.opR z.o)else l:=rfl;have e2:=S.appl_18 (o:=z.o) hg;rw[←e1]at e2;have e3:¬(z.o.k=4∧¬S.hasK l z.o.key∧l.length=60)→S.appE l z.o=0∧S.appL l z.o=S.applR l z.o (S.idX z.o) hsa.1:=S.appE_ok c1 c2;obtain⟨l2,hl2⟩:=ex (S.applR l z.o (S.idX z.o) hsa.1);rw[←hl2]at e2 e3⊢;refine run ?_;refine J.ifd rfl (fun c3=>?_) (fun c3=>?_)
 ·have h8:=S.appE_full c1 c2 (e2.1 (by omega));refine run ?_;refine J.nilG rgC 38 118 rgC_len ?_;exact J.finG (⟨none,0,0,[]⟩,18) rfl ⟨Nat.le_refl _,rfl,h8.2.symm,h8.1.symm⟩ (.cons_cons _ (List.nil_sublist _))
 refine run ?_;have h8:=e3 (fun h=>c3 (by have:=e2.2 h;omega));refine J.fact (.gown rgC 38 118 a' l2.length c' l2) (fun _ _ h=>(gown_e h).1.capn) fun hcap=>?_
 exact J.finG (⟨a',l2.length,c',l2⟩,0) rfl ⟨hcap,rfl,h8.2.symm,h8.1.symm⟩ (.cons_cons _ (List.nil_sublist _))
theorem lwwGet{S0:Nat→Prop}(a:Option Addr)(n c:Nat)(l:List S.RgV)(k:ByteArray)(w:World)(G:RsR S0 w a n c l):
  Calls prog 55 #[.agg ([.slice a n c]:List Value).toArray, .string k] w (Ret w fun v _=>v= .tuple #[.agg (vlC (S.getR l k)).toArray, .int .i64 (S.getRE l k)]):=by
 have D0:=G.row;have hl:=G.len;have hn:=G.n;refine J.enter 29 func55 rfl rfl ?_;refine run ?_;refine J.box rfl rfl rfl fun b1=>?_
 refine run ?_;refine J.alloc rfl fun b2=>?_
 refine run ?_;refine J.callp rfl rfl (fun w' M=>lwwCheck a n c l w' (G.ext M.ext)) ?_;refine run ?_;refine J.ifn rfl (fun c1=>?_) (fun c1=>?_)
 ·refine run ?_;exact J.fin (by unfold S.getR S.getRE;rw[if_pos c1,if_pos c1];rfl)
 have hg:=S.chkR_good.1 c1;have hp:=S.has_spK hg.2.2 (k:=k);refine run ?_;refine J.callp rfl rfl (fun w' M=>findReg a n c l k w' (D0.ext M.ext) hg.2.2 (by omega)) ?_;refine run ?_;refine J.ifnot rfl (fun c2=>?_) (fun c2=>?_)
 ·have hh:=of_decide_eq_false c2;refine run ?_;exact J.fin (by unfold S.getR S.getRE;rw[if_neg (not_not_intro c1),if_neg hh,if_neg (not_not_intro c1),if_neg hh];rfl)
 have hh:=of_decide_eq_true c2;have hlt:=(hp.1 hh).1;have hq:=S.rg_at hlt;refine run ?_;refine J.fin ?_;unfold S.getR S.getRE;rw[if_neg (not_not_intro c1),if_pos hh,if_neg (not_not_intro c1),if_pos hh]
structure KqA where
 (n:Nat)(a:Option Addr)(c:Nat)
@[reducible] def ksC(q:LsA ByteArray×Int):Value:= .tuple #[.slice q.1.a q.1.n q.1.c, .int .i64 q.2]
def ksP(L:List ByteArray)(e:Int)(q:LsA ByteArray×Int):Prop:=q.1.n=q.1.l.length∧q.1.l=L∧q.2=e
theorem lwwKeys{S0:Nat→Prop}(a:Option Addr)(n c:Nat)(l:List S.RgV)(w:World)(G:RsR S0 w a n c l):
  Calls prog 56 #[.agg ([.slice a n c]:List Value).toArray] w (Gv w ksC (fun q=>[.gown stC 1 9 q.1.a q.1.n q.1.c q.1.l]) (ksP (S.keysR l) (S.chkR l))):=by
 have D0:=G.row;have hl:=G.len;have hn:=G.n;refine J.enter 26 func56 rfl rfl ?_;refine run ?_;refine J.box rfl rfl rfl fun b1=>?_
 refine run ?_;refine J.callp rfl rfl (fun w' M=>lwwCheck a n c l w' (G.ext M.ext)) ?_;refine run ?_;refine J.nilG stC 1 9 (fun _=>rfl) ?_;refine J.ifn rfl (fun c1=>?_) (fun c1=>?_)
 ·refine run ?_;exact J.finG (⟨none,0,0,[]⟩,S.chkR l) rfl ⟨rfl,(if_neg c1).symm,rfl⟩ (.cons_cons _ (List.nil_sublist _))
 rw[c1];refine run ?_;refine J.loop (A:=KqA) (fun p=>[(5, .slice p.a p.n p.c),(16, .int .i64 (p.n:Nat))]) [7,17,18,19,20,21,22,23,24,25] (fun p=>[.gown stC 1 9 p.a p.n p.c ((l.take p.n).map S.RgV.key), .blk b1 [.slice a n c] 121]) (fun p=>p.n≤n) (fun p=>n - p.n) ⟨0,none,0⟩ (by kernel_rfl) (Nat.zero_le _) (fun p j hI=>?_);refine run ?_;refine J.ifd rfl (fun c3=>?_) (fun c3=>?_)
 ·obtain⟨x,hx⟩:=ex (S.rg l p.n);have hq:=S.rg_at (l:=l) (i:=((p.n:Nat):Int).toNat) (by omega);rw[Int.toNat_natCast,←hx]at hq;refine run ?_;refine J.alloc rfl fun b3=>?_;refine run ?_;refine J.b1V stC x.key (fun _=>rfl) rfl rfl rfl rfl fun b4=>?_
  refine J.apG rfl rfl RG.own' stC_one fun a' c'=>?_
  refine run ?_;refine J.re (.gown stC 1 9 a' (p.n+1) c' ((l.take p.n).map S.RgV.key++[x.key])) (.gown stC 1 9 a' (p.n+1) c' ((l.take (p.n+1)).map S.RgV.key)) (fun S w h=>by rw[List.take_add_one,hq,List.map_append];exact h) ?_;exact J.next ⟨p.n+1,a',c'⟩ ⟨rfl,rfl,trivial⟩ (by kernel_rfl) (by dsimp only;omega) (by dsimp only;omega)
 obtain rfl:p.n=n:=by omega
 refine run ?_;refine J.re (.gown stC 1 9 p.a p.n p.c ((l.take p.n).map S.RgV.key)) (.gown stC 1 9 p.a p.n p.c (l.map S.RgV.key)) (fun S w h=>by rw[List.take_of_length_le (by omega)]at h;exact h) ?_;exact J.finG (⟨p.a,p.n,p.c,l.map S.RgV.key⟩,0) rfl ⟨by simp[hl],(if_pos c1).symm,rfl⟩ (.cons_cons _ (List.nil_sublist _))
theorem refRSame{S0 S1:Nat→Prop}(a a2:Option Addr)(n n2 c c2:Nat)(l m:List S.RgV)(w:World)(D0:GRow rgC 38 S0 w a n l)(D1:GRow rgC 38 S1 w a2 n2 m)(hn:n≤1000):
  Calls prog 62 #[.agg ([.slice a n c]:List Value).toArray, .agg ([.slice a2 n2 c2]:List Value).toArray] w (Ret w fun v _=>v= .bool (decide (l=m))):=by
 have hl:=D0.len;have hm:=D1.len;refine J.enter 29 func62 rfl rfl ?_;refine run ?_;refine J.box rfl rfl rfl fun b1=>?_
 refine J.box rfl rfl rfl fun b2=>?_
 refine run ?_;refine J.ifn rfl (fun c1=>?_) (fun c1=>?_)
 ·refine run ?_;exact J.fin (congrArg _ (decide_eq_false fun h=>c1 (by rw[←hl,←hm,h])).symm)
 refine run ?_;refine J.loopS (A:=Int) (fun p=>[(5, .int .i64 p)]) [4,13,14,15,16,17,18,19,20,21,22,23,24,25,26,27,28,29,30] (fun p=>(0≤p∧p≤n)∧∀i,i<p.toNat→S.rg l i=S.rg m i) (fun p=>n - p.toNat) 0 (by kernel_rfl) ⟨by omega,fun i hi=>by omega⟩ (fun p j hI=>?_);obtain⟨h1,hI⟩:=hI;refine run ?_;refine J.ifd rfl (fun c3=>?_) (fun c3=>?_)
 ·have hq:=S.rg_at (l:=l) (i:=p.toNat) (by omega);have hq2:=S.rg_at (l:=m) (i:=p.toNat) (by omega);refine run ?_;refine J.regionX [(0, .q),(1, .q),(2, .q),(3, .q),(4, .q),(5, .q),(6, .q),(7, .q),(8, .q),(9, .q),(10, .q)] mixed (by kernel_rfl) ?_;refine run ?_;refine J.neR rfl rfl rfl (fits_rg _) (fits_rg _) (eq_rg _ _) ?_;refine run ?_;refine J.ifd rfl (fun c4=>?_) (fun c4=>?_)
  ·refine run ?_;exact J.fin (congrArg _ (decide_eq_false fun h=>c4 (by rw[h])).symm)
  refine run ?_;refine J.nextS (p+1) ⟨rfl,trivial⟩ (by kernel_rfl) ⟨by omega,fun i hi=>?_⟩ (by omega);rcases Nat.lt_or_ge i p.toNat with e|e
  ·exact hI i e
  obtain rfl:i=p.toNat:=by omega
  exact Decidable.not_not.1 c4
 refine run ?_;refine J.fin (congrArg _ (decide_eq_true ?_).symm);refine List.ext_getElem? fun i=>?_
 by_cases hi:i<n
 ·rw[S.rg_at (by omega),S.rg_at (by omega),hI i (by omega)]
 rw[List.getElem?_eq_none (by omega),List.getElem?_eq_none (by omega)]
instance:Ents prog 53:=⟨.mk func53 (by kernel_rfl) rfl⟩
instance:Ents prog 13:=⟨.mk func13 (by kernel_rfl) rfl⟩
instance:Ents prog 58:=⟨.mk func58 (by kernel_rfl) rfl⟩
instance:Ents prog 145:=⟨.mk func145 (by kernel_rfl) rfl⟩
instance:Ents prog 54:=⟨.mk func54 (by kernel_rfl) rfl⟩
instance:Ents prog 55:=⟨.mk func55 (by kernel_rfl) rfl⟩
theorem signRG(x:Int)(hx:0≤x∧x<4294967296){S0:Nat→Prop}(z:OpA)(w:World)(R:OpR S0 w z):
  Calls prog 13 #[.int .u32 x, .agg (opC z).toArray] w (Gv w (fun q:OpA×Int=> .tuple #[.agg (opC q.1).toArray, .int .i64 q.2]) (fun q=>[.wrow .u8 32 q.1.pa q.1.o.n q.1.o.ids]) fun q=>q.1.o.n≤q.1.pc∧q.1.o=S.signS x z.o∧q.2=S.signE x z.o):=
 Gv.of (signOR x hx z.o R.ok _ _ w R.row R.cap) fun v w' _ ⟨a',c',hv,hc,W⟩=>⟨(⟨S.signS x z.o,a',c'⟩,S.signE x z.o),hv,⟨hc,rfl,rfl⟩,sep1 (show(Ent.wrow .u8 32 a' (S.signS x z.o).n (S.signS x z.o).ids).ok _ _ by unfold Ent.wrow;exact W)⟩
theorem fits_val(a b c:Int)(t:ByteArray):FitsT prog 9 31 [.int .u8 a, .int .i64 b, .int .u64 c, .string t]=true:=by kernel_rfl
theorem lawNumber(n:Int)(w:World):Calls prog 53 #[.int .i64 n] w (Ret w fun v _=>v= .agg #[.int .u8 1, .int .i64 n, .int .u64 0, .string .empty]):=by
 refine J.enter 4 func53 rfl rfl ?_;refine run ?_;refine J.alloc rfl fun b1=>?_
 refine run ?_;exact J.fin rfl
theorem lawMade(st n:Int)(hs:0≤st∧st<18446744073709551616)(hn: -9223372036854775808≤n∧n≤9223372036854775807)(w:World):
  Calls prog 58 #[.int .u64 st, .int .i64 n] w (Gv w (fun q:OpA=> .agg (opC q).toArray) (fun q=>[.wrow .u8 32 q.pa q.o.n q.o.ids]) fun q=>q.o.n≤q.pc∧q.o=S.mdO st n):=by
 refine J.enter 15 func58 rfl rfl ?_;refine run ?_;refine J.alloc rfl fun b1=>?_
 refine run ?_;refine J.callp rfl rfl (fun w' M=>lawNumber n w') ?_;refine run ?_;refine J.call rfl rfl (fun w' M=>signRG 5 (by decide) (S0:=no) ⟨S.mkO st n,none,0⟩ w' ⟨S.mkO_ok hs hn,WRow.nil,Nat.le_refl _⟩) fun q hq=>?_
 refine run ?_;refine J.alloc rfl fun b2=>?_
 refine run ?_;exact J.finG q.1 rfl ⟨hq.1,hq.2.1⟩ sb
theorem lwwAlive(TK:TypeId)(w:World)(K0:Kst w TK):Calls prog 61 #[] w (Ret w fun v _=>v= .bool true):=by
 have m1:=S.mdO_all (st:=5) (n:=1) (by decide) (by decide) (by decide);have m2:=S.mdO_all (st:=4) (n:=2) (by decide) (by decide) (by decide);refine J.enter 94 func61 rfl rfl ?_;refine run ?_;refine J.call rfl rfl (fun w' M=>lawMade 5 1 (by decide) (by decide) w') fun z1 hz1=>?_
 refine J.call rfl rfl (fun w' M=>lawMade 4 2 (by decide) (by decide) w') fun z2 hz2=>?_
 refine J.alloc rfl fun b1=>?_
 refine J.alloc rfl fun b2=>?_
 obtain⟨c1,e1⟩:=hz1;obtain⟨c2,e2⟩:=hz2;rw[←e1]at m1;rw[←e2]at m2;have a1:=S.app_nil m1.2.1 m1.2.2.1;have a2:=S.app_nil m2.2.1 m2.2.2.1;have a3:=S.app_one m2.2.1 m2.2.2.1 m1.2.1 m1.2.2.1 (by rw[m1.2.2.2.1,m2.2.2.2.1]);have a4:=S.app_one m1.2.1 m1.2.2.1 m2.2.1 m2.2.2.1 (by rw[m1.2.2.2.1,m2.2.2.2.1]);rw[if_neg (fun h=>by have h1:(S.opR z1.o).st=5:=m1.2.2.2.2.2.2.2.2.1;have h2:=m2.2.2.2.2.2.2.2.2.1;unfold S.lateR at h;omega)]at a3;rw[if_pos (.inl (by have h1:(S.opR z2.o).st=4:=m2.2.2.2.2.2.2.2.2.1;have h2:=m1.2.2.2.2.2.2.2.2.1;omega))]at a4;have hg:=S.goodR_one (S.opR_fine m1.2.1 m1.2.2.1);have hk:(S.opR z1.o).key=⟨#[107]⟩:=m1.2.2.2.1;have g1:=S.get_one hg;have g2:=S.get_none (k:=⟨#[122]⟩) hg (by rw[hk];decide);rw[hk]at g1;have hv:vlC (S.opR z1.o)=[.int .u8 1, .int .i64 1, .int .u64 0, .string .empty]:=by
  show [Value.int .u8 z1.o.vk, .int .i64 z1.o.num, .int .u64 z1.o.bits, .string z1.o.t]=_;rw[m1.2.2.2.2.1,m1.2.2.2.2.2.1,m1.2.2.2.2.2.2.1,m1.2.2.2.2.2.2.2.1]
 have hok1:∀x∈[S.opR z1.o],x.ok:=by
  have:=S.appL_ok (l:=[]) (fun _ h=>by cases h) m1.1;rwa[a1.2]at this
 have hok2:∀x∈[S.opR z2.o],x.ok:=by
  have:=S.appL_ok (l:=[]) (fun _ h=>by cases h) m2.1;rwa[a2.2]at this
 refine run ?_;refine J.joinX (A:=(LsA S.RgV×Int)×Nat) (fun p=>[(3, .pointer (some ⟨p.2,0,none⟩)),(4, .int .i64 p.1.2)]) [19,20,21,22,23,24] (fun p=> .blk p.2 [.slice p.1.1.a p.1.1.n p.1.1.c] 121:: .gown rgC 38 118 p.1.1.a p.1.1.n p.1.1.c p.1.1.l::[.blk b2 (opC z2) 37, .blk b1 (opC z1) 37, .wrow .u8 32 z2.pa z2.o.n z2.o.ids, .wrow .u8 32 z1.pa z1.o.n z1.o.ids]) (fun p=>rsP (S.appL [] z1.o) (S.appE [] z1.o) p.1) ?_ (fun p j hI=>?_)
 ·refine J.regionT [.blk b1 (opC z1) 37] (.br [(1, .q)] 0 (.br [] 2 (.fin [(3, .q),(4, .q),(5, .q),(6, .e),(7, .e),(8, .q)]) 6 (.fin [(2, .e),(3, .q),(4, .q),(5, .q),(7, .e),(8, .q)])) 6 (.fin [(0, .e),(2, .e),(3, .q),(4, .q),(5, .q),(7, .e),(8, .q)])) mixed (by kernel_rfl) (by repeat(first|exact List.Sublist.refl _|refine List.Sublist.cons_cons _ ?_|refine List.Sublist.cons _ ?_)) ?_;refine run ?_;refine J.nil (J.kt ?_ ?_)
  ·refine J.callp rfl rfl (fun w' M=>lwwNew w') ?_;refine J.nil (J.kr (J.tbr (J.nil (J.kt ?_ ?_))))
   ·refine J.call rfl rfl (fun w' M=>(RW.row' (a:=z1.pa) w' M).elim fun _ k1=>lwwApply (S0:=no) none 0 0 [] z1 TK w' (K0.ext M.ext) ⟨GRow.nil' rgC_len,(fun _ h=>by cases h),Nat.le_refl _,by decide⟩ ⟨m1.1,k1,c1⟩) fun q hq=>?_
    refine run ?_;refine J.alloc rfl fun b=>?_
    refine run ?_;exact J.cut (q,b) ⟨rfl,rfl,trivial⟩ (by kernel_rfl) hq
   refine J.alloc rfl fun b=>?_
   refine run ?_;refine J.call rfl rfl (fun w' M=>(RW.row' (a:=z1.pa) w' M).elim fun _ k1=>lwwApply (S0:=no) none 0 0 [] z1 TK w' (K0.ext M.ext) ⟨GRow.nil' rgC_len,(fun _ h=>by cases h),Nat.le_refl _,by decide⟩ ⟨m1.1,k1,c1⟩) fun q hq=>?_
   refine run ?_;refine J.swap ?_;exact J.cut (q,b) ⟨rfl,rfl,trivial⟩ (by kernel_rfl) hq
  refine J.alloc rfl fun b=>?_
  refine run ?_;refine J.callp rfl rfl (fun w' M=>lwwNew w') ?_;refine J.call rfl rfl (fun w' M=>(RW.row' (a:=z1.pa) w' M).elim fun _ k1=>lwwApply (S0:=no) none 0 0 [] z1 TK w' (K0.ext M.ext) ⟨GRow.nil' rgC_len,(fun _ h=>by cases h),Nat.le_refl _,by decide⟩ ⟨m1.1,k1,c1⟩) fun q hq=>?_
  refine run ?_;refine J.swap ?_;exact J.cut (q,b) ⟨rfl,rfl,trivial⟩ (by kernel_rfl) hq
 obtain⟨⟨⟨xa,xn,xc,xl⟩,xe⟩,bx⟩:=p;obtain⟨hx1,hx2,hx3,hx4⟩:=hI;dsimp only at hx1 hx2 hx3 hx4⊢;obtain rfl:xl=[S.opR z1.o]:=hx3.trans a1.2;obtain rfl:xe=0:=hx4.trans a1.1;obtain rfl:xn=1:=hx2;refine run ?_;refine J.call rfl rfl (fun w' M=>(RG.own' (a:=xa) w' M).elim fun _ k0=>(RW.row' (a:=z2.pa) w' M).elim fun _ k1=>lwwApply _ _ _ _ z2 TK w' (K0.ext M.ext) ⟨k0,hok1,hx1,by decide⟩ ⟨m2.1,k1,c2⟩) fun q hq=>?_
 obtain⟨⟨ya,yn,yc,yl⟩,ye⟩:=q;obtain⟨hy1,hy2,hy3,hy4⟩:=hq;dsimp only at hy1 hy2 hy3 hy4⊢;obtain rfl:yl=[S.opR z1.o]:=hy3.trans a3.2;obtain rfl:ye=0:=hy4.trans a3.1;obtain rfl:yn=1:=hy2;refine run ?_;refine J.alloc rfl fun by_=>?_
 refine run ?_;refine J.joinX (A:=(LsA S.RgV×Int)×Nat) (fun p=>[(7, .pointer (some ⟨p.2,0,none⟩)),(8, .int .i64 p.1.2)]) [31,32,33,34,35,36] (fun p=> .blk p.2 [.slice p.1.1.a p.1.1.n p.1.1.c] 121:: .gown rgC 38 118 p.1.1.a p.1.1.n p.1.1.c p.1.1.l::[.blk by_ [.slice ya 1 yc] 121, .gown rgC 38 118 ya 1 yc [S.opR z1.o], .blk b2 (opC z2) 37, .blk b1 (opC z1) 37, .wrow .u8 32 z2.pa z2.o.n z2.o.ids, .wrow .u8 32 z1.pa z1.o.n z1.o.ids]) (fun p=>rsP (S.appL [] z2.o) (S.appE [] z2.o) p.1) ?_ (fun p j hI=>?_)
 ·refine J.regionT [.blk b2 (opC z2) 37] (.br [(1, .q)] 0 (.br [] 2 (.fin [(3, .q),(4, .q),(5, .q),(6, .e),(7, .e),(8, .q)]) 6 (.fin [(2, .e),(3, .q),(4, .q),(5, .q),(7, .e),(8, .q)])) 6 (.fin [(0, .e),(2, .e),(3, .q),(4, .q),(5, .q),(7, .e),(8, .q)])) mixed (by kernel_rfl) (by repeat(first|exact List.Sublist.refl _|refine List.Sublist.cons_cons _ ?_|refine List.Sublist.cons _ ?_)) ?_;refine run ?_;refine J.nil (J.kt ?_ ?_)
  ·refine J.callp rfl rfl (fun w' M=>lwwNew w') ?_;refine J.nil (J.kr (J.tbr (J.nil (J.kt ?_ ?_))))
   ·refine J.call rfl rfl (fun w' M=>(RW.row' (a:=z2.pa) w' M).elim fun _ k1=>lwwApply (S0:=no) none 0 0 [] z2 TK w' (K0.ext M.ext) ⟨GRow.nil' rgC_len,(fun _ h=>by cases h),Nat.le_refl _,by decide⟩ ⟨m2.1,k1,c2⟩) fun q hq=>?_
    refine run ?_;refine J.alloc rfl fun b=>?_
    refine run ?_;exact J.cut (q,b) ⟨rfl,rfl,trivial⟩ (by kernel_rfl) hq
   refine J.alloc rfl fun b=>?_
   refine run ?_;refine J.call rfl rfl (fun w' M=>(RW.row' (a:=z2.pa) w' M).elim fun _ k1=>lwwApply (S0:=no) none 0 0 [] z2 TK w' (K0.ext M.ext) ⟨GRow.nil' rgC_len,(fun _ h=>by cases h),Nat.le_refl _,by decide⟩ ⟨m2.1,k1,c2⟩) fun q hq=>?_
   refine run ?_;refine J.swap ?_;exact J.cut (q,b) ⟨rfl,rfl,trivial⟩ (by kernel_rfl) hq
  refine J.alloc rfl fun b=>?_
  refine run ?_;refine J.callp rfl rfl (fun w' M=>lwwNew w') ?_;refine J.call rfl rfl (fun w' M=>(RW.row' (a:=z2.pa) w' M).elim fun _ k1=>lwwApply (S0:=no) none 0 0 [] z2 TK w' (K0.ext M.ext) ⟨GRow.nil' rgC_len,(fun _ h=>by cases h),Nat.le_refl _,by decide⟩ ⟨m2.1,k1,c2⟩) fun q hq=>?_
  refine run ?_;refine J.swap ?_;exact J.cut (q,b) ⟨rfl,rfl,trivial⟩ (by kernel_rfl) hq
 obtain⟨⟨⟨ua,un,uc,ul⟩,ue⟩,bu⟩:=p;obtain⟨hu1,hu2,hu3,hu4⟩:=hI;dsimp only at hu1 hu2 hu3 hu4⊢;obtain rfl:ul=[S.opR z2.o]:=hu3.trans a2.2;obtain rfl:ue=0:=hu4.trans a2.1;obtain rfl:un=1:=hu2;refine run ?_;refine J.call rfl rfl (fun w' M=>(RG.own' (a:=ua) w' M).elim fun _ k0=>(RW.row' (a:=z1.pa) w' M).elim fun _ k1=>lwwApply _ _ _ _ z1 TK w' (K0.ext M.ext) ⟨k0,hok2,hu1,by decide⟩ ⟨m1.1,k1,c1⟩) fun q hq=>?_
 obtain⟨⟨va,vn,vc,vl⟩,ve⟩:=q;obtain⟨hv1,hv2,hv3,hv4⟩:=hq;dsimp only at hv1 hv2 hv3 hv4⊢;obtain rfl:vl=[S.opR z1.o]:=hv3.trans a4.2;obtain rfl:ve=0:=hv4.trans a4.1;obtain rfl:vn=1:=hv2;refine run ?_;refine J.alloc rfl fun bv=>?_
 refine run ?_;refine J.callp rfl rfl (fun w' M=>(RG.own' (a:=ya) w' M).elim fun _ k0=>by have h:=lwwGet ya 1 yc _ ⟨#[107]⟩ w' ⟨k0,hok1,hy1,by decide⟩;rw[g1.1,g1.2,hv]at h;exact h) ?_;refine run ?_;refine J.alloc rfl fun b8=>?_
 refine run ?_;refine J.callp rfl rfl (fun w' M=>(RG.own' (a:=va) w' M).elim fun _ k0=>by have h:=lwwGet va 1 vc _ ⟨#[107]⟩ w' ⟨k0,hok1,hv1,by decide⟩;rw[g1.1,g1.2,hv]at h;exact h) ?_;refine run ?_;refine J.alloc rfl fun b9=>?_
 refine run ?_;refine J.callp rfl rfl (fun w' M=>(RG.own' (a:=va) w' M).elim fun _ k0=>by have h:=lwwGet va 1 vc _ ⟨#[122]⟩ w' ⟨k0,hok1,hv1,by decide⟩;rw[g2]at h;exact h) ?_;refine run ?_;refine J.alloc rfl fun b10=>?_
 refine run ?_;refine J.regionX [(0, .q),(1, .q),(2, .q),(3, .q),(4, .q),(5, .q),(6, .q),(7, .q),(8, .q),(9, .q),(10, .q),(11, .q),(12, .q),(13, .q),(14, .q),(15, .q),(16, .q),(17, .q),(18, .q),(19, .q),(20, .q),(21, .q),(22, .q),(23, .q),(24, .q),(25, .q),(26, .q),(27, .q),(28, .e),(29, .q),(30, .q),(31, .q),(32, .q),(33, .e),(34, .q),(35, .q),(36, .q)] mixed (by kernel_rfl) ?_;refine run ?_;refine J.callp rfl rfl (fun w' M=>lawNumber 1 w') ?_;refine run ?_;refine J.eqR rfl rfl rfl (fits_val _ _ _ _) (fits_val _ _ _ _) (S.eqV _ _ _ _ _ _ _ _) ?_;refine run ?_;refine J.callp rfl rfl (fun w' M=>lawNumber 1 w') ?_;refine run ?_;refine J.eqR rfl rfl rfl (fits_val _ _ _ _) (fits_val _ _ _ _) (S.eqV _ _ _ _ _ _ _ _) ?_;refine run ?_;exact J.fin rfl
instance:Siz prog 119 1:=⟨by kernel_rfl⟩
theorem GrR.rok{S0:Nat→Prop}{w:World}{g:GrA}(h:GrR S0 w g){n:Nat}(hn:n≤g.m):∀x∈S.ofL g.ids g.ops (List.range n),x.ok:=
 S.ofL_ok fun i hi=>S.regI_ok (h.zok i) h.ids.bd h.ids.len (by have:=List.mem_range.1 hi;omega)
theorem lwwOf{S0:Nat→Prop}(g:GrA)(TK:TypeId)(w:World)(K0:Kst w TK)(G:GrR S0 w g):
  Calls prog 59 #[.agg (grC g).toArray] w (Gv w rsC rsE (rsP (S.ofG g.m g.ids g.ops) (S.chkG g.m g.ids g.ops))):=by
 have D0:=G.ids;have G0:=G.ops;have hl:=G.len;have hcp:=G.cap;have hlen:=D0.len;refine J.enter 33 func59 rfl rfl ?_;refine run ?_;refine J.box rfl rfl rfl fun b1=>?_
 refine J.alloc rfl fun b2=>?_
 refine run ?_;refine J.callp rfl rfl (fun w' M=>dagCheck g TK w' (K0.ext M.ext) (G.ext M.ext)) ?_;refine run ?_;refine J.ifn rfl (fun c1=>?_) (fun c1=>?_)
 ·have h8:=c1;refine run ?_;refine J.nilG rgC 38 118 rgC_len ?_;exact J.finG (⟨none,0,0,[]⟩,S.chkG g.m g.ids g.ops) rfl ⟨Nat.le_refl _,rfl,(S.ofG_bad c1).symm,rfl⟩ (.cons_cons _ (List.nil_sublist _))
 have hz:=S.chkG_zero.1 c1;refine run ?_;refine J.alloc rfl fun b3=>?_
 refine run ?_;refine J.nilG rgC 38 118 rgC_len ?_;refine J.loop (A:=KqA) (fun p=>[(17, .int .i64 (p.n:Nat))]) [6,7,18,19,20,21,22,23,24,25,26,27,28,29,30,31,32] (fun p=>[.gown rgC 38 118 p.a (S.ofL g.ids g.ops (List.range p.n)).length p.c (S.ofL g.ids g.ops (List.range p.n)), .blk b3 [.slice p.a (S.ofL g.ids g.ops (List.range p.n)).length p.c] 121, .blk b2 [.slice none 0 0] 121, .blk b1 (grC g) 43]) (fun p=>p.n≤g.n) (fun p=>g.n - p.n) ⟨0,none,0⟩ (by kernel_rfl) (Nat.zero_le _) (fun p j hI=>?_);refine run ?_;refine J.ifd rfl (fun c3=>?_) (fun c3=>?_)
 ·obtain⟨z,hzz⟩:=G0.ex (i:=(p.n:Nat)) (by omega);have R:=G.op hzz;rw[Int.toNat_natCast]at hzz;have hzo:=GrA.opAt hzz;have hA:Arr .u8 32 (elt 32 g.ids p.n):=D0.elt_arr (by omega);have e:S.applR (S.ofL g.ids g.ops (List.range p.n)) z.o (elt 32 g.ids p.n) hA.1=S.ofL g.ids g.ops (List.range (p.n+1)):=by rw[S.ofL_range];exact S.step_app hzo _
  have hr:=S.ofL_range_len g.ids g.ops p.n;refine run ?_;refine J.alloc rfl fun b4=>?_
  refine run ?_;refine J.regionX [(0, .q),(1, .q),(2, .q),(3, .q),(4, .q),(5, .q),(6, .q),(7, .q),(8, .g),(9, .q),(10, .g)] mixed (by kernel_rfl) ?_;refine run ?_;refine J.callG rfl (fun w' M hO=>lwwApply0 p.a _ p.c (S.ofL g.ids g.ops (List.range p.n)) z (elt 32 g.ids p.n) w' hO R.ok hA (G.rok (by omega)) (S.ofL_sort ..) (by omega)) fun a' c'=>?_
  rw[e];refine run ?_;exact J.next ⟨p.n+1,a',c'⟩ ⟨rfl,trivial⟩ (by kernel_rfl) (by dsimp only;omega) (by dsimp only;omega)
 have hpn:p.n=g.ops.length:=by omega
 refine run ?_;refine J.fact (.gown rgC 38 118 p.a (S.ofL g.ids g.ops (List.range p.n)).length p.c (S.ofL g.ids g.ops (List.range p.n))) (fun _ _ h=>(gown_e h).1.capn) fun hcap=>?_
 exact J.finG (⟨p.a,_,p.c,S.ofL g.ids g.ops (List.range p.n)⟩,0) rfl ⟨hcap,rfl,by rw[S.ofG_ok c1,hpn],c1.symm⟩ sb
end W
namespace S
open G
set_option maxRecDepth 100000
instance(x:RgV):Decidable x.fine:=by unfold RgV.fine;infer_instance
instance(l:List RgV)(i:Nat):Decidable (rowOk l i):=by unfold rowOk;infer_instance
def lnZ:List Int:=List.replicate 32 0
def lnK(k:ByteArray)(vk num st:Int):RgV:=⟨k,vk,num,0, .empty,st,lnZ,rfl⟩
def lnGood:RgV:=lnK ⟨#[97]⟩ 1 1 0
def lnBad:Nat→List RgV
 |0=>[RgV.zero]
 |1=>[lnK ⟨#[97]⟩ 0 0 0]
 |2=>[lnK ⟨#[97,32,98]⟩ 1 1 0]
 |3=>[lnK ⟨#[97]⟩ 1 1 1000000000001]
 |4=>[lnGood,lnGood]
 |_=>[lnK ⟨#[98]⟩ 1 1 0,lnGood]
theorem ln_row:∀i,i<6→¬rowOk (lnBad i) ((lnBad i).length - 1):=by decide+kernel
theorem ln_len:∀i,i<6→(lnBad i).length≤2∧0<(lnBad i).length:=by decide
theorem ln_bad{i:Nat}(h:i<6):chkR (lnBad i)=8:=by
 have:=ln_len i h;exact(chkR_8 (i:=(lnBad i).length - 1) (by omega) (by omega) (ln_row i h)).symm
theorem ln_app{i:Nat}(h:i<6)(o:OpV):appE (lnBad i) o=8:=(appE_chk (by rw[ln_bad h];decide)).1.trans (ln_bad h)
theorem ln_get{i:Nat}(h:i<6)(k:ByteArray):getRE (lnBad i) k=8:=by
 unfold getRE;rw[if_pos (by rw[ln_bad h];decide),ln_bad h]
/-! sixty registers -/
def lnR(i:Nat):RgV:=⟨strOfNums [97,40+(i:Int)],1,i,0, .empty,9,255::List.replicate 31 0,rfl⟩
def lnF(n:Nat):List RgV:=(List.range n).map lnR
theorem lnF_len(n:Nat):(lnF n).length=n:=by unfold lnF;simp
theorem lnF_succ(n:Nat):lnF (n+1)=lnF n++[lnR n]:=by unfold lnF;rw[List.range_succ,List.map_append];rfl
theorem ln_rows:∀i,i<60→rowOk (lnF 60) i:=by decide+kernel
theorem ln_full:chkR (lnF 60)=0:=(chkR_0 (by rw[lnF_len];decide) fun i hi=>ln_rows i (by rw[lnF_len]at hi;exact hi)).symm
theorem ln_key:∀i,i<60→(lnR i).key≠⟨#[107]⟩:=by decide+kernel
theorem ln_no:¬hasK (lnF 60) ⟨#[107]⟩:=fun⟨x,hx,e⟩=>by
 obtain⟨i,hi,rfl⟩:=List.mem_map.1 hx;exact ln_key i (List.mem_range.1 hi) e
theorem ln_made(st n:Int)(h0:0≤st)(hs:st≤1000000000000)(hn: -9223372036854775808≤n∧n≤9223372036854775807):appE (lnF 60) (mdO st n)=18:=by
 obtain⟨m1,m2,m3,m4,_⟩:=mdO_all h0 hs hn;exact(appE_full ln_full m2 ⟨m3,by rw[m4];exact ln_no,lnF_len 60⟩).1
theorem ln_zero:appE (lnF 60) OpV.zero=8:=(appE_bad ln_full (by decide+kernel)).1
theorem ln_many{l:List RgV}(h:60<l.length):chkR l=4:=(chkR_4 h).symm
/-! equal stamps -/
def lnO:OpV:=⟨1024,5,4,1,1,0,327620270,330382399,0,[],⟨#[107]⟩, .empty⟩
def lnI:List Int:=[79,95,165,128,186,33,154,103,12,252,192,143,208,239,130,19,47,77,47,198,11,91,148,49,20,202,208,31,126,204,29,54]
theorem ln_pub:pubS 5=1024:=by decide+kernel
theorem ln_non:nonceS 5 (msgS ((mkO 5 1).wit 5))=192281058:=by decide+kernel
theorem ln_r:pubS 192281058=272413842:=by
 unfold pubS;rw[pw_fast _ _ _ (by decide) (by decide)];decide+kernel
theorem ln_e:sigE 5 (msgS ((mkO 5 1).wit 5))=327620270:=by
 unfold sigE;rw[ln_non,ln_r,ln_pub];decide+kernel
theorem ln_s:sigS 5 (msgS ((mkO 5 1).wit 5))=330382399:=by
 unfold sigS;rw[ln_non,ln_e];decide
theorem ln_sign:mdO 5 1=lnO:=by
 unfold mdO signS;rw[if_pos (mkO_sign (by decide)),ln_e,ln_s];unfold OpV.wit;rw[ln_pub];rfl
theorem ln_id:sha (encS lnO)=lnI:=by decide+kernel
theorem ln_5:(mdO 5 1).ok∧checkE (mdO 5 1)=0∧(mdO 5 1).k=4∧(mdO 5 1).key=⟨#[107]⟩∧(mdO 5 1).vk=1∧(mdO 5 1).num=1∧(mdO 5 1).bits=0∧(mdO 5 1).t= .empty∧(mdO 5 1).st=5∧(mdO 5 1).n=0∧(mdO 5 1).ids=[]:=mdO_all (by decide) (by decide) (by decide)
theorem ln_idX:idX (mdO 5 1)=lnI:=by
 unfold idX;rw[if_pos ln_5.2.1,ln_sign,ln_id]
def lnN:RgV:=⟨⟨#[107]⟩,1,1,0, .empty,5,lnI,rfl⟩
theorem op_ext{o:OpV}{x:RgV}(h1:o.key=x.key)(h2:o.vk=x.vk)(h3:o.num=x.num)(h4:o.bits=x.bits)(h5:o.t=x.t)(h6:o.st=x.st)(h7:idX o=x.id):opR o=x:=RgV.ext h1 h2 h3 h4 h5 h6 h7
theorem ln_op:opR (mdO 5 1)=lnN:=by
 obtain⟨_,_,_,h4,h5,h6,h7,h8,h9,_⟩:=ln_5;exact op_ext h4 h5 h6 h7 h8 h9 ln_idX
def lnHi:List Int:=[255,255,255,255,255,255,255,255,0,0,0,0,0,0,0,0,0,0,0,0,0,0,0,0,0,0,0,0,0,0,0,0]
def lnLow:RgV:=⟨⟨#[107]⟩,1,7,0, .empty,5,lnZ,rfl⟩
def lnHigh:RgV:=⟨⟨#[107]⟩,1,7,0, .empty,5,lnHi,rfl⟩
theorem ln_late : lateR 5 lnI lnLow ∧ ¬ lateR 5 lnI lnHigh := ⟨.inr ⟨rfl, by decide⟩, by
 rintro (h | h)
 ·exact absurd h (by decide)
 ·exact absurd h.2 (by decide)⟩
theorem ln_fine:lnLow.fine∧lnHigh.fine∧lnN.fine:=by decide+kernel
theorem put_k{o:OpV}{x y:RgV}(hc:checkE o=0)(h4:o.k=4)(ho:opR o=x)(hy:y.fine)(hk:y.key=x.key):appE [y] o=0∧appL [y] o=if lateR x.st x.id y then [x]else [y]:=by
 have hk2:o.key=x.key:=congrArg RgV.key ho;have hh:hasK [y] o.key:=has_one.2 (hk.trans hk2.symm);obtain⟨h1,h2⟩:=appE_ok (l:=[y]) (o:=o) (chkR_good.2 (goodR_one hy)) hc fun h=>h.2.1 hh;refine⟨h1,h2.trans ?_⟩;rw[if_pos h4,ho,put_one hk]
theorem ln_put{y:RgV}(hy:y.fine)(hk:y.key=⟨#[107]⟩):appE [y] (mdO 5 1)=0∧appL [y] (mdO 5 1)=if lateR 5 lnI y then [lnN]else [y]:=put_k (x:=lnN) ln_5.2.1 ln_5.2.2.1 ln_op hy hk
theorem ln_x:appE [lnLow] (mdO 5 1)=0∧appL [lnLow] (mdO 5 1)=[lnN]:=by
 obtain⟨h1,h2⟩:=ln_put ln_fine.1 rfl;exact⟨h1,h2.trans (if_pos ln_late.1)⟩
theorem ln_y:appE [lnHigh] (mdO 5 1)=0∧appL [lnHigh] (mdO 5 1)=[lnHigh]:=by
 obtain⟨h1,h2⟩:=ln_put ln_fine.2.1 rfl;exact⟨h1,h2.trans (if_neg ln_late.2)⟩
theorem ln_z:appE [lnN] (mdO 5 1)=0∧appL [lnN] (mdO 5 1)=[lnN]:=by
 obtain⟨h1,h2⟩:=ln_put ln_fine.2.2 rfl;refine⟨h1,h2.trans ?_⟩;split<;>rfl
theorem ln_low:getRE [lnLow] .empty=6:=get_none (goodR_one ln_fine.1) (by decide)
/-! registers of graphs -/
theorem ln_ofBad{x:List Int}:chkG 1 x []=8∧ofG 1 x []=[]:=by
 have e:chkG 1 x []=8:=by
  unfold chkG;rw[if_neg (show ¬60<([]:List OpV).length by decide),if_pos (show 1≠([]:List OpV).length by decide)]
 exact⟨e,ofG_bad (by rw[e];decide)⟩
end S
namespace G
open Go.RowKit
section
variable{S0:Nat→Prop}{w0:World}{L Lq:List Ent}{P:Program}{Q:Exit→Act→World→Prop}{l:List Value}{id n n':Nat}{l0:List Oper}{K:List Value→World→Prop}{li:Array Bool}{rd:List Nat}
theorem J.front{X:World→Prop}{F:Ent→List Ent}(e:Ent)[R:RE L e F](k:J S0 w0 (e::F .emp) X):J S0 w0 L X:=fun w M=>by
 exact k w (M.split (R.h .emp) fun S h=>⟨no,S,fun _ h=>h.elim,fun _ h=>h,fun _ h=>h.elim,trivial,h⟩)
end
section
end
section
variable{S0:Nat→Prop}{w0:World}{L Lq:List Ent}{P:Program}{l:List Value}{l0:List Oper}{K:List Value→World→Prop}
def bs(k n:Nat):Array Bool:=((List.range k).map fun i=>n.testBit i).toArray
end
section
variable{S0:Nat→Prop}{w0:World}{L:List Ent}{P:Program}{ops:Array Oper}{K:List Value→World→Prop}{rest:List (Oper×Kd)}{l:List Value}{m:Md}{d:Tmp}{ty t e:TypeId}{pos:String}{af:Array Edge}{kd:Kd}{α:Type}
theorem J.bnG{n sz by_:Nat}{parts:Array (Nat×Operand)}{zs vs:List Value}(f:α→List Value)(qs:List α)(hf:∀x,(f x).length=sz)[U:Und P t (.slice e)][I:Inf P e sz by_ zs]{l':Nat→List Value}(hk:okE m kd=true)(hv:(parts.toList.map Prod.snd).map (ev l)=vs)(hc:vs.flatMap (·.cells.toList)=qs.flatMap f)(hcs:∀v∈vs,v.cells.size=sz)
  (kk:∀b,J S0 w0 (.gown f sz e (some ⟨b,0,none⟩) n n qs::L) (RY S0 w0 m P ops K rest (l' b)))(hp:parts.toList=enumV 0 (parts.toList.map Prod.snd):=by rfl)(hl2:vs.length=n:=by rfl)(hq:qs.length=n:=by rfl)(hz:0<sz:=by decide)(hn:Nat.ble n 1000=true:=by rfl)(hz2:Nat.ble sz 1000=true:=by rfl)(h0:Nat.ble 1 n=true:=by rfl)
  (hl:∀b,l.set d (.slice (some ⟨b,0,none⟩) n n)=l' b:=by intro b;dsimp only[List.set]):J S0 w0 L (RY S0 w0 m P ops K ((⟨some d, .buildSlice t n parts,ty,pos,af,none⟩,kd)::rest) l):=
 J.eff hk fun w M K' hK => RS.buildSlice (vs := vs) (cs := qs.flatMap f) U.h I.h hz hn hz2 hp hv hl2 hc hcs h0 fun b w' e1 s1 x1 B => RS.nil (hK _ w' x1 (by
  rw [hl]
  exact kk b w' (M.new x1 (gown_blk (lst := qs) ⟨by subst e1; exact Nat.le_refl _, B⟩ hf rfl hq (by have := Nat.le_of_ble_eq_true hn; omega)))))
end
section
variable{S0:Nat→Prop}{w0:World}{L:List Ent}{P:Program}{ops:Array Oper}{K:List Value→World→Prop}{rest:List (Oper×Kd)}{l:List Value}{m:Md}{d:Tmp}{ty t e:TypeId}{pos:String}{af:Array Edge}{kd:Kd}
theorem ints_flat(k:IntKind):∀xs:List Int,(ints k xs).flatMap (·.cells.toList)=ints k xs
 |[]=>rfl
 |x::xs=>by
  have h:=ints_flat k xs;unfold ints at h⊢;rw[List.map_cons,List.flatMap_cons,h];rfl
theorem J.bnI{n by_:Nat}{parts:Array (Nat×Operand)}{zs:List Value}(k:IntKind)(xs:List Int)[U:Und P t (.slice e)][I:Inf P e 1 by_ zs]{l':Nat→List Value}(hk:okE m kd=true)(hv:(parts.toList.map Prod.snd).map (ev l)=ints k xs)(hbd:Bd k xs)
  (kk:∀b,J S0 w0 (.iown e k (some ⟨b,0,none⟩) n n xs::L) (RY S0 w0 m P ops K rest (l' b)))(hp:parts.toList=enumV 0 (parts.toList.map Prod.snd):=by rfl)(hq:xs.length=n:=by rfl)(hn:Nat.ble n 1000=true:=by rfl)(h0:Nat.ble 1 n=true:=by rfl)
  (hl:∀b,l.set d (.slice (some ⟨b,0,none⟩) n n)=l' b:=by intro b;dsimp only[List.set]):J S0 w0 L (RY S0 w0 m P ops K ((⟨some d, .buildSlice t n parts,ty,pos,af,none⟩,kd)::rest) l):=
 J.eff hk fun w M K' hK => RS.buildSlice (vs := ints k xs) (cs := ints k xs) U.h I.h (by decide) hn rfl hp hv (by rw [ints_length, hq]) (ints_flat k xs) (fun v h => by
  unfold ints at h
  obtain ⟨x, _, rfl⟩ := List.mem_map.1 h
  rfl) h0 fun b w' e1 s1 x1 B => RS.nil (hK _ w' x1 (by
  rw [hl]
  exact kk b w' (M.new x1 (own_blk (xs := xs) ⟨by subst e1; exact Nat.le_refl _, B⟩ hq hbd (by have := Nat.le_of_ble_eq_true hn; omega)))))
end
section
variable{S0:Nat→Prop}{w0:World}{L:List Ent}{P:Program}{ops:Array Oper}{K:List Value→World→Prop}{rest:List (Oper×Kd)}{l l':List Value}{m:Md}{d:Tmp}{ty xt:TypeId}{pos:String}{af:Array Edge}{x:Operand}
theorem J.cvB{s e:TypeId}{a:Option Addr}{n c:Nat}{xs:List Int}[U1:Und P s (.slice e)][U2:Und P e (.int .u8)][U:Und P xt .string](hx:ev l x= .slice a n c)(hR:RI S0 w0 (Lv m L) .u8 a n xs)(kk:J S0 w0 L (RY S0 w0 m P ops K rest l'))(hl:l.set d (.string (strOfNums xs))=l':=by dsimp only[List.set]):
  J S0 w0 L (RY S0 w0 m P ops K ((⟨some d, .convert s xt x,ty,pos,af,none⟩, .q)::rest) l):=
 J.val (fun w M=>let ⟨_,h⟩:=hR w M;D.convBS h hx U1.h U2.h U.h) kk hl
end
theorem rs_mono{P:Program}{ops:Array Oper}{K K':List Value→World→Prop}(hk:∀l w,K l w→K' l w):∀(os:List Oper) (l:List Value) (w:World),RS P ops K os l w→RS P ops K' os l w
 |[],l,w,h=>by
  unfold RS at h⊢;exact hk l w h
 |o::rest,l,w,h=>by
  unfold RS at h⊢;split at h
  ·rename_i c;rw[if_pos c];unfold Oper.wp at h⊢;exact upon_mono (fun a w ⟨l',e,h⟩=>⟨l',e,rs_mono hk rest l' w h⟩) (fun _ _ _ h=>h) h
  ·rename_i c;rw[if_neg c];exact rs_mono hk rest _ w h
/-! ### parts in another order -/
theorem Sep.perm{E E':List Ent}(h:E.Perm E'):∀ {U:Nat→Prop} {w:World},Sep E U w→Sep E' U w:=by
 induction h with
 |nil=>exact fun h=>h
 |cons x _ ih=>exact fun⟨S,T,h1,h2,h3,h4,h5⟩=>⟨S,T,h1,h2,h3,h4,ih h5⟩
 |swap x y l=>
  rintro U w ⟨S1,T1,a1,a2,a3,a4,S2,T2,b1,b2,b3,b4,b5⟩;exact⟨S2,fun b=>S1 b∨T2 b,fun b hb=>a2 b (b1 b hb),fun b hb=>hb.elim (a1 b) (fun k=>a2 b (b2 b k)),fun b hb hc=>hc.elim (fun k=>a3 b k (b1 b hb)) (b3 b hb),b4,S1,T2,fun b hb=> .inl hb,fun b hb=> .inr hb,fun b hb hc=>a3 b hb (b2 b hc),a4,b5⟩
 |trans _ _ ih1 ih2=>exact fun h=>ih2 (ih1 h)
theorem Sep.parts:∀ {E L:List Ent} {U:Nat→Prop} {w:World},Sep (E++L) U w→∃S T:Nat→Prop,(∀b,S b→U b)∧(∀b,T b→U b)∧(∀b,S b→T b→False)∧Sep E S w∧Sep L T w
 |[],L,U,w,h=>⟨no,U,fun _ h=>h.elim,fun _ h=>h,fun _ h=>h.elim,trivial,h⟩
 |e::E,L,U,w,⟨A,B,h1,h2,h3,h4,h5⟩=>by
  obtain⟨S,T,g1,g2,g3,g4,g5⟩:=Sep.parts h5;exact⟨fun b=>A b∨S b,T,fun b hb=>hb.elim (h1 b) (fun k=>h2 b (g1 b k)),fun b hb=>h2 b (g2 b hb),fun b hb hc=>hb.elim (fun k=>h3 b k (g2 b hc)) (fun k=>g3 b k hc),⟨A,S,fun b hb=> .inl hb,fun b hb=> .inr hb,fun b hb hc=>h3 b hb (g1 b hc),h4,g4⟩,g5⟩
theorem Sep.pack{E V L:List Ent}{U:Nat→Prop}{w:World}(h:Sep (E++(V++L)) U w):Sep (E++ .all V::L) U w:=by
 obtain⟨S,T,h1,h2,h3,h4,h5⟩:=h.parts;obtain⟨S2,T2,g1,g2,g3,g4,g5⟩:=h5.parts;exact Sep.app (T:=T) h4 ⟨S2,T2,g1,g2,g3,(show(Ent.all V).ok S2 w by unfold Ent.all;exact g4),g5⟩ h1 h2 h3
theorem Sep.unpack{E V L:List Ent}{U:Nat→Prop}{w:World}(h:Sep (E++ .all V::L) U w):Sep (E++(V++L)) U w:=by
 obtain⟨S,T,h1,h2,h3,h4,h5⟩:=h.parts;obtain⟨S2,T2,g1,g2,g3,g4,g5⟩:=h5;exact Sep.app (T:=T) h4 (Sep.app (show Sep V S2 w by unfold Ent.all at g4;exact g4) g5 g1 g2 g3) h1 h2 h3
theorem Mem.perm{S0:Nat→Prop}{w0 w:World}{L L':List Ent}(M:Mem S0 w0 L w)(h:L.Perm L'):Mem S0 w0 L' w:=⟨M.pr,M.sep.perm h⟩
/-! ### what is said of each operation -/
structure Cl(δ:Type) where
 dst:Option Nat
 val:(Nat→δ)→Value
 own:(Nat→δ)→List Ent
 p:(Nat→δ)→Prop
 dep:List Nat
 use:List Nat
 eat:List Nat
def hasN(l:List Nat)(j:Nat):Bool:=l.any (Nat.beq j)
theorem hasN_iff{l:List Nat}{j:Nat}:hasN l j=true↔j∈l:=by
 unfold hasN;rw[List.any_eq_true];exact⟨fun⟨x,h1,h2⟩=>Nat.eq_of_beq_eq_true h2▸h1,fun h=>⟨j,h,Nat.beq_refl j⟩⟩
section
variable{δ:Type}
def msk(i:Nat)(dep:List Nat)(c:Nat→δ):Nat→δ:=fun j=>cond (Nat.beq j i||hasN dep j) (c j) (c i)
theorem msk_eq{i:Nat}{dep:List Nat}{c c':Nat→δ}(h0:c i=c' i)(h:∀j∈dep,c j=c' j):msk i dep c=msk i dep c':=by
 funext j;unfold msk;cases e:(Nat.beq j i||hasN dep j)
 ·exact h0
 ·rw[Bool.or_eq_true]at e;rcases e with e|e
  ·obtain rfl:=Nat.eq_of_beq_eq_true e;exact h0
  ·exact h j (hasN_iff.1 e)
def put(c:Nat→δ)(i:Nat)(x:δ):Nat→δ:=fun j=>cond (Nat.beq j i) x (c j)
theorem put_ne{c:Nat→δ}{i j:Nat}{x:δ}(h:j≠i):put c i x j=c j:=by
 unfold put;cases e:Nat.beq j i
 ·rfl
 ·exact absurd (Nat.eq_of_beq_eq_true e) h
variable(T:List (Cl δ))
def clAt(i:Nat):Cl δ:=T.getD i ⟨none,fun _=>undef,fun _=>[],fun _=>True,[],[],[]⟩
def clV(i:Nat)(c:Nat→δ):Value:=(clAt T i).val (msk i (clAt T i).dep c)
def clO(i:Nat)(c:Nat→δ):List Ent:=(clAt T i).own (msk i (clAt T i).dep c)
def clP(i:Nat)(c:Nat→δ):Prop:=(clAt T i).p (msk i (clAt T i).dep c)
def dstD:List Nat:=T.filterMap Cl.dst
def depD(i:Nat):List Nat:=(clAt T i).dep.filterMap fun j=>(clAt T j).dst
def useF(i:Nat)(c:Nat→δ):List Ent:=((List.range T.length).filter fun j=>hasN (clAt T i).use j).flatMap fun j=>clO T j c
def keepF(i:Nat)(c:Nat→δ):List Ent:=((List.range T.length).filter fun j=>hasN (clAt T i).use j&& !hasN (clAt T i).eat j).flatMap fun j=>clO T j c
def MF(i:Nat)(c:Nat→δ):List (Nat×Value):=(clAt T i).dep.filterMap fun j=>(clAt T j).dst.map fun d=>(d,clV T j c)
def JF(i:Nat):List Nat:=(dstD T).filter fun d=> !hasN (depD T i) d
def frF(lb:List Value)(i:Nat)(c:Nat→δ)(v:Nat→Value):List Value:=upd (upd lb (MF T i c)) (junk (JF T i) v)
def OutF(S0:Nat→Prop)(w0:World)(L:List Ent)(i:Nat)(F:Ent)(c:Nat→δ)(l l':List Value)(w':World):Prop:=∃x,clP T i (put c i x)∧l'=putL (clAt T i).dst (clV T i (put c i x)) l∧Mem S0 w0 (clO T i (put c i x)++(keepF T i c++F::L)) w'
def stepF(S0:Nat→Prop)(w0:World)(L:List Ent)(P:Program)(l0:List Oper)(lb:List Value)(i:Nat):Prop:=∀(F:Ent) (c:Nat→δ) (v:Nat→Value),(∀j∈(clAt T i).dep,clP T j c)→J S0 w0 (useF T i c++F::L) (RY S0 w0 .s P l0.toArray (OutF T S0 w0 L i F c (frF T lb i c v)) [(nth l0 i, .e)] (frF T lb i c v))
def stepsF(S0:Nat→Prop)(w0:World)(L:List Ent)(P:Program)(l0:List Oper)(lb:List Value):List Nat→Prop
 |[]=>True
 |i::r=>stepF T S0 w0 L P l0 lb i∧stepsF S0 w0 L P l0 lb r
def dn(n:Nat)(li:Array Bool)(j:Nat):Bool:=li.getD j false||Nat.ble n j
def slF(c:Nat→δ):List (Nat×Value):=(List.range T.length).filterMap fun j=>(clAt T j).dst.map fun d=>(d,clV T j c)
def endF(c:Nat→δ):List Ent:=((List.range T.length).filter fun j=> !(List.range T.length).any fun k=>hasN (clAt T k).eat j).flatMap fun j=>clO T j c
def allF(c:Nat→δ):List Nat→Prop
 |[]=>True
 |i::r=>clP T i c∧allF c r
def checkF(l0:List Oper)(n:Nat):Bool:=
 Nat.ble l0.length T.length && (((List.range T.length).all fun i => Nat.blt i l0.length || ((clAt T i).dst.isNone && ((clAt T i).dep.isEmpty && (clAt T i).eat.isEmpty))) && ((List.range l0.length).all fun i => (nth l0 i).dst == (clAt T i).dst && ((nth l0 i).guard.isNone && (((nth l0 i).after.all fun e => !Region.binds .any e || Nat.blt e.on i) &&
  (((clAt T i).dep.all fun j => Nat.blt j T.length && (hasN (ancL l0.toArray 5000 (depsL l0.toArray i) []) j || Nat.ble l0.length j)) && (((clAt T i).use.all fun j => hasN (clAt T i).dep j) && (((clAt T i).eat.all fun j => hasN (clAt T i).use j) &&
  ((List.range l0.length).all fun k => Nat.beq k i || (!((clAt T k).eat.any fun j => hasN (clAt T i).use j) || hasN (ancL l0.toArray 5000 (depsL l0.toArray k) []) i))))))))) && (decide (dstD T).Nodup && (dstD T).all fun d => Nat.blt d n)
variable{T}
theorem stepsF_mem{S0:Nat→Prop}{w0:World}{L:List Ent}{P:Program}{l0:List Oper}{lb:List Value}:∀ {is:List Nat},stepsF T S0 w0 L P l0 lb is→∀i∈is,stepF T S0 w0 L P l0 lb i
 |[],_,i,hi=>by cases hi
 |j::r,h,i,hi=>by
  rcases List.mem_cons.1 hi with rfl|hi
  ·exact h.1
  ·exact stepsF_mem h.2 i hi
theorem allF_of{c:Nat→δ}:∀ {is:List Nat},(∀i∈is,clP T i c)→allF T c is
 |[],_=>trivial
 |i::r,h=>⟨h i (List.mem_cons_self ..),allF_of fun j hj=>h j (List.mem_cons_of_mem _ hj)⟩
theorem FF_same{l lb:List Value}(ds:List Nat)(hl:l.length=lb.length)(h:∀s,s∉ds→l[s]? =lb[s]?):FF lb ds (fun s=>l.getD s undef)=l:=by
 apply List.ext_getElem?;intro s;rw[FF_get];by_cases c:s∈ds∧s<lb.length
 ·rw[if_pos c,List.getD_eq_getElem?_getD,List.getElem?_eq_getElem (by omega)];rfl
 ·rw[if_neg c];by_cases k:s∈ds
  ·have:¬s<lb.length:=fun h=>c ⟨k,h⟩;rw[List.getElem?_eq_none (by omega),List.getElem?_eq_none (by omega)]
  ·exact(h s k).symm
theorem fmap_slots{l:List Value}{c:Nat→δ}:∀(js:List Nat),(∀j∈js,∀d,(clAt T j).dst=some d→l.getD d undef=clV T j c)→(js.filterMap fun j=>(clAt T j).dst.map fun d=>(d,clV T j c))=(js.filterMap fun j=>(clAt T j).dst).map fun d=>(d,l.getD d undef)
 |[],_=>rfl
 |j::r,h=>by
  have ih:=fmap_slots r fun k hk=>h k (List.mem_cons_of_mem _ hk);cases e:(clAt T j).dst with
  |none=>rw[List.filterMap_cons_none (f:=fun j=>(clAt T j).dst.map fun d=>(d,clV T j c)) (by rw[e];rfl),List.filterMap_cons_none (f:=fun j=>(clAt T j).dst) e,ih]
  |some d=>rw[List.filterMap_cons_some (f:=fun j=>(clAt T j).dst.map fun d=>(d,clV T j c)) (by rw[e];rfl),List.filterMap_cons_some (f:=fun j=>(clAt T j).dst) e,ih,List.map_cons,h j (List.mem_cons_self ..) d e]
structure OkF(T:List (Cl δ))(S0:Nat→Prop)(w0:World)(L:List Ent)(l0:List Oper)(lb:List Value)(li:Array Bool)(c:Nat→δ)(l:List Value)(w:World):Prop where
 sz:li.size=l0.length
 cl:Closed l0.toArray li
 len:l.length=lb.length
 out:∀s,s∉dstD T→l[s]? =lb[s]?
 val:∀i,i<T.length→dn l0.length li i=true→∀d,(clAt T i).dst=some d→l.getD d undef=clV T i c
 p:∀i,i<T.length→dn l0.length li i=true→clP T i c
 mem:Mem S0 w0 (((List.range T.length).filter fun j=>dn l0.length li j&& !(List.range T.length).any fun k=>dn l0.length li k&&hasN (clAt T k).eat j).flatMap (fun j=>clO T j c)++L) w
theorem nodupF{n:Nat}(f:Nat→Bool):((List.range n).filter f).Nodup:=List.Pairwise.filter _ List.nodup_range
theorem flat_congr{α β:Type}{f g:α→List β}:∀ {l:List α},(∀x∈l,f x=g x)→l.flatMap f=l.flatMap g
 |[],_=>rfl
 |x::l,h=>by rw[List.flatMap_cons,List.flatMap_cons,h x (List.mem_cons_self ..),flat_congr fun y hy=>h y (List.mem_cons_of_mem _ hy)]
theorem anyF{S0:Nat→Prop}{w0:World}{L:List Ent}{P:Program}{l0:List Oper}{lb:List Value}{Q:Act→World→Prop}(hB:checkF T l0 lb.length=true)(hst:∀i,i<l0.length→stepF T S0 w0 L P l0 lb i)
  (hend:∀c w,(∀i,i<T.length→clP T i c)→Mem S0 w0 (endF T c++L) w→Q (fr (upd lb (slF T c))) w):
  ∀(n:Nat) (li:Array Bool) (c:Nat→δ) (l:List Value) (w:World),cntU l0.length li=n→OkF T S0 w0 L l0 lb li c l w→wpX P l0.toArray (fun _ _=>True) [] Q n li (fr l) w:=by
 simp only[checkF,Bool.and_eq_true,decide_eq_true_eq]at hB;obtain⟨⟨hN,hvt,hall⟩,hnd,hdl⟩:=hB;have hN:l0.length≤T.length:=Nat.le_of_ble_eq_true hN;have virt:∀i,l0.length≤i→i<T.length→(clAt T i).dst=none∧(clAt T i).dep=[]∧(clAt T i).eat=[]:=fun i h1 h2=>by
  have:=List.all_eq_true.1 hvt i (List.mem_range.2 h2);simp only[Bool.or_eq_true,Bool.and_eq_true,Option.isNone_iff_eq_none,List.isEmpty_iff]at this;rcases this with h|h
  ·rw[Nat.blt_eq]at h;omega
  ·exact h
 have dn_lt:∀ {li:Array Bool} {j:Nat},j<l0.length→dn l0.length li j=li.getD j false:=fun {li j} h=>by
  unfold dn;have:Nat.ble l0.length j=false:=by rw[Bool.eq_false_iff];intro e;have:=Nat.le_of_ble_eq_true e;omega
  rw[this,Bool.or_false]
 have dn_ge:∀ {li:Array Bool} {j:Nat},l0.length≤j→dn l0.length li j=true:=fun {li j} h=>by
  unfold dn;rw[Nat.ble_eq_true_of_le h,Bool.or_true]
 have one:∀i,i<l0.length→(nth l0 i).dst=(clAt T i).dst∧(nth l0 i).guard=none∧(∀e∈(nth l0 i).after,Region.binds .any e=true→e.on<i)∧(∀j∈(clAt T i).dep,j<T.length∧(j∈ancL l0.toArray 5000 (depsL l0.toArray i) []∨l0.length≤j))∧(∀j∈(clAt T i).use,j∈(clAt T i).dep)∧(∀j∈(clAt T i).eat,j∈(clAt T i).use)∧(∀k,k<l0.length→k≠i→∀j∈(clAt T k).eat,j∈(clAt T i).use→i∈ancL l0.toArray 5000 (depsL l0.toArray k) []):=by
  intro i hi;have:=List.all_eq_true.1 hall i (List.mem_range.2 hi);simp only[Bool.and_eq_true,beq_iff_eq,Option.isNone_iff_eq_none,List.all_eq_true,Array.all_eq_true_iff_forall_mem,Bool.or_eq_true,Bool.not_eq_true',hasN_iff,List.mem_range]at this;obtain⟨h1,h2,h3,h4,h5,h6,h7⟩:=this;refine⟨h1,h2,fun e he hb=>?_,fun j hj=>?_,h5,h6,fun k hk hne j hj hu=>?_⟩
  ·rcases h3 e he with h|h
   ·rw[hb]at h;cases h
   ·rwa[Nat.blt_eq]at h
  ·have:=h4 j hj;rw[Nat.blt_eq]at this;exact⟨this.1,this.2.imp_right Nat.le_of_ble_eq_true⟩
  ·rcases h7 k hk with h|h|h
   ·exact absurd (Nat.eq_of_beq_eq_true h) hne
   ·have:=List.any_eq_false.1 h j hj;exact absurd (hasN_iff.2 hu) this
   ·exact h
 have ancD:∀ {li:Array Bool},Closed l0.toArray li→∀k,k<l0.length→li.getD k false=true→∀j∈ancL l0.toArray 5000 (depsL l0.toArray k) [],li.getD j false=true:=fun hc k hk hl j hj=>by
  refine ancL_spec hc 5000 (depsL l0.toArray k) [] (fun q hq=>?_) (fun q hq=>by cases hq) j hj;unfold depsL at hq;rw[nth_mem_range hk]at hq;obtain⟨e,he,rfl⟩:=List.mem_map.1 hq;rw[List.mem_filter]at he;exact hc k _ (nth_mem_range hk) hl e (by simpa using he.1) he.2
 have dmem:∀i d,i<T.length→(clAt T i).dst=some d→d∈dstD T:=fun i d hi hd=>by
  unfold dstD;refine List.mem_filterMap.2 ⟨clAt T i,?_,hd⟩;unfold clAt;rw[List.getD_eq_getElem?_getD,List.getElem?_eq_getElem (by omega)];exact List.getElem_mem _
 have dinj:∀i j d,i<T.length→j<T.length→(clAt T i).dst=some d→(clAt T j).dst=some d→i=j:=fun i j d hi hj h1 h2=>by
  have e1:clAt T i=T[i]'(by omega):=by unfold clAt;rw[List.getD_eq_getElem?_getD,List.getElem?_eq_getElem (by omega)];rfl
  have e2:clAt T j=T[j]'(by omega):=by unfold clAt;rw[List.getD_eq_getElem?_getD,List.getElem?_eq_getElem (by omega)];rfl
  rw[e1]at h1;rw[e2]at h2;have hp:=hnd;unfold dstD at hp;rw[List.Nodup,List.pairwise_filterMap]at hp;rcases Nat.lt_trichotomy i j with c|c|c
  ·exact absurd rfl (List.pairwise_iff_getElem.1 hp i j (by omega) (by omega) c d h1 d h2)
  ·exact c
  ·exact absurd rfl (List.pairwise_iff_getElem.1 hp j i (by omega) (by omega) c d h2 d h1)
 intro n
 induction n with
 |zero=>
  intro li c l w hc H;have hall:∀i,i<l0.length→li.getD i false=true:=by
   intro i hi;have:=List.countP_eq_zero.1 hc i (by simpa using hi);simpa using this
  have hdn:∀i,dn l0.length li i=true:=fun i=>by
   rcases Nat.lt_or_ge i l0.length with h|h
   ·rw[dn_lt h];exact hall i h
   ·exact dn_ge h
  refine⟨?_,?_⟩
  ·cases hr:Region.ready .any l0.toArray li with
   |nil=>rfl
   |cons j r=>
    obtain⟨hj0,oj,hoj,_⟩:=mem_ready.1 (show j∈Region.ready .any l0.toArray li by rw[hr];exact List.mem_cons_self ..);have hjn:j<l0.length:=by simpa using(Array.getElem?_eq_some_iff.1 hoj).1
    have h1:=hall j hjn;have hlt:j<li.size:=by rw[H.sz];exact hjn
    simp[hlt]at hj0 h1;rw[h1]at hj0;cases hj0
  ·have e:l=upd lb (slF T c):=by
    have h1:=FF_same (dstD T) H.len H.out;unfold FF at h1;rw[←h1];congr 1;unfold slF;rw[fmap_slots (l:=l) _ fun j hj d hd=>H.val j (List.mem_range.1 hj) (hdn j) d hd];congr 1;unfold dstD clAt;have:∀(T:List (Cl δ)),T.filterMap Cl.dst=(List.range T.length).filterMap fun j=>(T.getD j ⟨none,fun _=>undef,fun _=>[],fun _=>True,[],[],[]⟩).dst:=fun T=>by
     have h2:T=(List.range T.length).map fun j=>T.getD j ⟨none,fun _=>undef,fun _=>[],fun _=>True,[],[],[]⟩:=by
      apply List.ext_getElem
      ·simp
      ·intro i h1 h2;simp[h1]
     conv=>lhs;rw[h2]
     rw[List.filterMap_map];rfl
    exact this T
   rw[e];refine hend c w (fun i hi=>H.p i hi (hdn i)) ?_;have hm:=H.mem;refine cast (congrArg (fun x=>Mem S0 w0 (x++L) w) ?_) hm;unfold endF;refine congrArg (fun q=>List.flatMap _ q) (List.filter_congr fun j hj=>?_);rw[hdn j,Bool.true_and];congr 1;rw[Bool.eq_iff_iff,List.any_eq_true,List.any_eq_true];constructor
   ·rintro⟨k,hk,h⟩;rw[Bool.and_eq_true]at h;exact⟨k,hk,h.2⟩
   ·rintro⟨k,hk,h⟩;exact⟨k,hk,by rw[hdn k,h];rfl⟩
 |succ n ih=>
  intro li c l w hc H;refine⟨fun h0=>?_,fun i hi=>?_⟩
  ·exfalso;have hex:∃s,s<l0.length∧li.getD s false=false:=by
    have hp:0<(List.range l0.length).countP fun i=> !li.getD i false:=by unfold cntU at hc;omega
    obtain⟨s,hs,h⟩:=List.countP_pos_iff.1 hp;exact⟨s,by simpa using hs,by simpa using h⟩
   obtain⟨s,hs,hmin⟩:∃s,(s<l0.length∧li.getD s false=false)∧∀t,t<s→li.getD t false=true:=by
    obtain⟨s,hs⟩:=hex
    induction s using Nat.strongRecOn with
    |_ s ihs=>
     by_cases h:∃t,t<s∧li.getD t false=false
     ·obtain⟨t,ht,hf⟩:=h;exact ihs t ht ⟨by omega,hf⟩
     ·refine⟨s,hs,fun t ht=>?_⟩;cases hb:li.getD t false
      ·exact absurd ⟨t,ht,hb⟩ h
      ·rfl
   have:s∈Region.ready .any l0.toArray li:=by
    refine mem_ready.2 ⟨?_,nth l0 s,nth_mem_range hs.1,fun e he hb=>hmin _ ((one s hs.1).2.2.1 e he hb)⟩;have:=hs.2;have hlt:s<li.size:=by rw[H.sz];exact hs.1
    simp[hlt]at this⊢;exact this
   rw[h0]at this;cases this
  ·obtain⟨hi0,oi,hoi,hia⟩:=mem_ready.1 hi;have him:i<l0.length:=by simpa using(Array.getElem?_eq_some_iff.1 hoi).1
   rw[nth_mem_range him]at hoi;obtain rfl:=Option.some.inj hoi;obtain⟨o1,o2,o3,o4,o5,o6,o7⟩:=one i him;have hif:li.getD i false=false:=by
    have hlt:i<li.size:=by rw[H.sz];exact him
    simp[hlt]at hi0⊢;exact hi0
   have hni:dn l0.length li i=false:=by rw[dn_lt him];exact hif
   have hdone:∀j∈(clAt T i).dep,dn l0.length li j=true:=fun j hj=>by
    rcases(o4 j hj).2 with h|h
    ·have := ancL_spec H.cl 5000 (depsL l0.toArray i) [] (fun q hq => by
      unfold depsL at hq
      rw [nth_mem_range him] at hq
      obtain ⟨e, he, rfl⟩ := List.mem_map.1 hq
      rw [List.mem_filter] at he
      exact hia e (by simpa using he.1) he.2) (fun q hq => by cases hq) j h
     unfold dn;rw[this];rfl
    ·exact dn_ge h
   have huse:∀j∈(clAt T i).use,(dn l0.length li j&& !(List.range T.length).any fun k=>dn l0.length li k&&hasN (clAt T k).eat j)=true:=fun j hj=>by
    rw[hdone j (o5 j hj),Bool.true_and,Bool.not_eq_true',List.any_eq_false];intro k hk h;rw[Bool.and_eq_true,hasN_iff]at h;have hkn:k<l0.length:=by
     rcases Nat.lt_or_ge k l0.length with c|c
     ·exact c
     ·rw[(virt k c (List.mem_range.1 hk)).2.2]at h;exact absurd h.2 (List.not_mem_nil)
    have hne:k≠i:=fun e=>by rw[e,hni]at h;cases h.1
    rw[dn_lt hkn]at h;have:=ancD H.cl k hkn h.1 i (o7 k hkn hne j h.2 hj);rw[hif]at this;cases this
   -- the others
   obtain⟨V,hV⟩:∃V:List Nat,V=(List.range T.length).filter fun j=>(dn l0.length li j&& !(List.range T.length).any fun k=>dn l0.length li k&&hasN (clAt T k).eat j)&& !hasN (clAt T i).use j:=⟨_,rfl⟩
   have hVn:V.Nodup:=hV▸nodupF _;have hVm:∀j,j∈V↔j<T.length∧(dn l0.length li j&& !(List.range T.length).any fun k=>dn l0.length li k&&hasN (clAt T k).eat j)=true∧j∉(clAt T i).use:=fun j=>by
    rw[hV,List.mem_filter,List.mem_range,Bool.and_eq_true,Bool.not_eq_true',←Bool.not_eq_true,hasN_iff]
   have hperm:((List.range T.length).filter fun j=>dn l0.length li j&& !(List.range T.length).any fun k=>dn l0.length li k&&hasN (clAt T k).eat j).Perm (((List.range T.length).filter fun j=>hasN (clAt T i).use j)++V):=by
    refine(List.perm_ext_iff_of_nodup (nodupF _) (List.nodup_append.2 ⟨nodupF _,hVn,fun a ha b hb e=>?_⟩)).2 fun a=>?_
    ·subst e;rw[List.mem_filter,hasN_iff]at ha;exact((hVm a).1 hb).2.2 ha.2
    ·rw[List.mem_append,hVm,List.mem_filter,List.mem_filter,List.mem_range,hasN_iff];constructor
     ·rintro⟨h1,h2⟩;by_cases hu:a∈(clAt T i).use
      ·exact .inl ⟨h1,hu⟩
      ·exact .inr ⟨h1,h2,hu⟩
     ·rintro(⟨h1,h2⟩|⟨h1,h2,_⟩)
      ·exact⟨h1,huse a h2⟩
      ·exact⟨h1,h2⟩
   have M1:Mem S0 w0 (useF T i c++ .all (V.flatMap fun j=>clO T j c)::L) w:=by
    have h1:=H.mem.perm ((hperm.flatMap_right fun j=>clO T j c).append_right L);rw[List.flatMap_append,List.append_assoc]at h1;exact⟨h1.pr,h1.sep.pack⟩
   have hfr:frF T lb i c (fun s=>l.getD s undef)=l:=by
    have e1:MF T i c=(depD T i).map fun d=>(d,l.getD d undef):=fmap_slots (l:=l) _ fun j hj d hd=>H.val j (o4 j hj).1 (hdone j hj) d hd;unfold frF junk;rw[e1];have e2:upd (upd lb ((depD T i).map fun d=>(d,l.getD d undef))) ((JF T i).map fun d=>(d,l.getD d undef))=FF (FF lb (depD T i) fun d=>l.getD d undef) (JF T i) fun d=>l.getD d undef:=rfl;rw[e2];refine FF_same (lb:=FF lb (depD T i) fun d=>l.getD d undef) (JF T i) (by rw[FF_len];exact H.len) fun s hs=>?_
    rw[FF_get];by_cases hsd:s∈depD T i∧s<lb.length
    ·rw[if_pos hsd,List.getD_eq_getElem?_getD,List.getElem?_eq_getElem (by rw[H.len];exact hsd.2)];rfl
    ·rw[if_neg hsd];by_cases hsl:s<lb.length
     ·refine H.out s fun hd=>hs ?_;unfold JF;rw[List.mem_filter,Bool.not_eq_true',←Bool.not_eq_true,hasN_iff];exact⟨hd,fun h=>hsd ⟨h,hsl⟩⟩
     ·rw[List.getElem?_eq_none (by have:=H.len;omega),List.getElem?_eq_none (by omega)]
   have hk:=hst i him (.all (V.flatMap fun j=>clO T j c)) c (fun s=>l.getD s undef) (fun j hj=>H.p j (o4 j hj).1 (hdone j hj)) w M1;rw[hfr]at hk;have hk:RS P l0.toArray (OutF T S0 w0 L i (.all (V.flatMap fun j=>clO T j c)) c l) [nth l0 i] l w:=hk;unfold RS at hk;unfold xOp;rw[nth_mem_range him];have hwn:Region.wanted (nth l0 i) (yielded l0.toArray (fr l).tmps)=true:=by simp[Region.wanted,o2]
   simp only[hwn,if_true];rw[if_pos (by simp[Region.wanted,o2])]at hk;unfold Oper.wp at hk⊢;refine upon_mono ?_ (fun _ _ _ h=>h) hk;rintro a' w' ⟨l',rfl,hO⟩;refine⟨fun _=>trivial,?_⟩;have hO:OutF T S0 w0 L i (.all (V.flatMap fun j=>clO T j c)) c l l' w':=hO;obtain⟨x,hp,rfl,hM⟩:=hO;have same:∀j,j<T.length→dn l0.length li j=true→msk j (clAt T j).dep (put c i x)=msk j (clAt T j).dep c:=fun j hjt hj=>by
    have hne:j≠i:=fun e=>by rw[e,hni]at hj;cases hj
    refine msk_eq (put_ne hne) fun q hq=>put_ne fun e=>?_
    rcases Nat.lt_or_ge j l0.length with c|c
    ·rw[dn_lt c]at hj;rcases((one j c).2.2.2.1 q hq).2 with h|h
     ·have:=ancD H.cl j c hj q h;rw[e,hif]at this;cases this
     ·omega
    ·rw[(virt j c hjt).2.1]at hq;cases hq
   have hg:∀j,dn l0.length (li.setIfInBounds i true) j=true↔j=i∨dn l0.length li j=true:=fun j=>by
    by_cases e:j=i
    ·subst e;have hlt:j<li.size:=by rw[H.sz];exact him
     rw[dn_lt him];simp[hlt]
    ·unfold dn;rw[getD_set_ne false (Ne.symm e)];simp[e]
   refine ih _ (put c i x) _ w' ?_ ⟨by simp[H.sz],H.cl.set hi,?_,?_,?_,?_,?_⟩
   ·have:=countP_set l0.length li i him (by rw[H.sz];exact him) hif;omega
   ·unfold putL;split
    ·rw[List.length_set];exact H.len
    ·exact H.len
   ·intro s hs;unfold putL;split
    ·rename_i d hd;rw[List.getElem?_set_ne (fun e=>hs (by rw[←e];exact dmem i d (by omega) hd))];exact H.out s hs
    ·exact H.out s hs
   ·intro j hj hl d hd;rcases(hg j).1 hl with rfl|hl
    ·rw[hd];have hdn:d<lb.length:=by
      have:=List.all_eq_true.1 hdl d (dmem j d hj hd);rwa[Nat.blt_eq]at this
     show(l.set d _).getD d undef=_;rw[List.getD_eq_getElem?_getD,List.getElem?_set,if_pos rfl,if_pos (by rw[H.len];exact hdn)];rfl
    ·have hne:j≠i:=fun e=>by rw[e,hni]at hl;cases hl
     have h1:=H.val j hj hl d hd;have h2:clV T j (put c i x)=clV T j c:=by unfold clV;rw[same j hj hl]
     rw[h2,←h1];unfold putL;split
     ·rename_i d' hd';rw[List.getD_eq_getElem?_getD,List.getElem?_set_ne (fun e=>hne (dinj j i d hj (by omega) hd (by rw[hd',e]))),←List.getD_eq_getElem?_getD]
     ·rfl
   ·intro j hj hl;rcases(hg j).1 hl with rfl|hl
    ·exact hp
    ·have h1:=H.p j hj hl;unfold clP at h1⊢;rwa[same j hj hl]
   ·have hM2:Mem S0 w0 (clO T i (put c i x)++(keepF T i c++(V.flatMap (fun j=>clO T j c)++L))) w':=by
     have h1:=hM.sep;rw[←List.append_assoc]at h1;have h2:=h1.unpack;rw[List.append_assoc]at h2;exact⟨hM.pr,h2⟩
    have e1:keepF T i c=keepF T i (put c i x):=by
     unfold keepF;refine flat_congr fun j hj=>?_
     rw[List.mem_filter,Bool.and_eq_true,hasN_iff]at hj;unfold clO;rw[same j (List.mem_range.1 hj.1) (hdone j (o5 j hj.2.1))]
    have e2:V.flatMap (fun j=>clO T j c)=V.flatMap fun j=>clO T j (put c i x):=flat_congr fun j hj=>by
     have:=((hVm j).1 hj).2.1;rw[Bool.and_eq_true]at this;unfold clO;rw[same j ((hVm j).1 hj).1 this.1]
    rw[e1,e2]at hM2;unfold keepF at hM2;rw[←List.append_assoc,←List.append_assoc]at hM2;refine hM2.perm (List.Perm.append_right L ?_);have e3:clO T i (put c i x)=[i].flatMap fun j=>clO T j (put c i x):=by simp
    rw[e3,←List.flatMap_append,←List.flatMap_append];refine List.Perm.flatMap_right _ ?_;have live:∀a,a≠i→((dn l0.length (li.setIfInBounds i true) a&& !(List.range T.length).any fun k=>dn l0.length (li.setIfInBounds i true) k&&hasN (clAt T k).eat a)=true↔(dn l0.length li a&& !(List.range T.length).any fun k=>dn l0.length li k&&hasN (clAt T k).eat a)=true∧a∉(clAt T i).eat):=fun a ha=>by
     rw[Bool.and_eq_true,Bool.and_eq_true,hg,Bool.not_eq_true',Bool.not_eq_true',List.any_eq_false,List.any_eq_false];constructor
     ·rintro⟨h1,h2⟩;refine⟨⟨h1.resolve_left ha,fun k hk h=>h2 k hk ?_⟩,fun h=>h2 i (List.mem_range.2 (by omega)) ?_⟩
      ·rw[Bool.and_eq_true]at h⊢;exact⟨(hg k).2 (.inr h.1),h.2⟩
      ·rw[Bool.and_eq_true];exact⟨(hg i).2 (.inl rfl),hasN_iff.2 h⟩
     ·rintro⟨⟨h1,h2⟩,h3⟩;refine⟨.inr h1,fun k hk h=>?_⟩;rw[Bool.and_eq_true]at h;rcases(hg k).1 h.1 with rfl|h4
      ·exact h3 (hasN_iff.1 h.2)
      ·exact h2 k hk (by rw[Bool.and_eq_true];exact⟨h4,h.2⟩)
    have livei:(dn l0.length (li.setIfInBounds i true) i&& !(List.range T.length).any fun k=>dn l0.length (li.setIfInBounds i true) k&&hasN (clAt T k).eat i)=true:=by
     rw[Bool.and_eq_true];refine⟨(hg i).2 (.inl rfl),?_⟩;rw[Bool.not_eq_true',List.any_eq_false];intro k hk h;rw[Bool.and_eq_true,hasN_iff]at h;have hkn:k<l0.length:=by
      rcases Nat.lt_or_ge k l0.length with c|c
      ·exact c
      ·rw[(virt k c (List.mem_range.1 hk)).2.2]at h;exact absurd h.2 (List.not_mem_nil)
     obtain⟨_,_,_,k4,k5,k6,_⟩:=one k hkn;have hia2:=(k4 i (k5 i (k6 i h.2))).2.resolve_right (by omega);rcases(hg k).1 h.1 with rfl|hkd
     ·have:=hdone k (k5 k (k6 k h.2));rw[hni]at this;cases this
     ·rw[dn_lt hkn]at hkd;have:=ancD H.cl k hkn hkd i hia2;rw[hif]at this;cases this
    refine(List.perm_ext_iff_of_nodup ?_ (nodupF _)).2 fun a=>?_
    ·rw[List.append_assoc,List.nodup_append];refine⟨List.nodup_cons.2 ⟨(by simp),List.nodup_nil⟩,List.nodup_append.2 ⟨nodupF _,hVn,fun a ha b hb e=>?_⟩,fun a ha b hb e=>?_⟩
     ·subst e;rw[List.mem_filter,Bool.and_eq_true,hasN_iff]at ha;exact((hVm a).1 hb).2.2 ha.2.1
     ·subst e;rw[List.mem_singleton]at ha;subst ha;rcases List.mem_append.1 hb with h|h
      ·rw[List.mem_filter,Bool.and_eq_true,hasN_iff]at h;have:=hdone a (o5 a h.2.1);rw[hni]at this;cases this
      ·have:=((hVm a).1 h).2.1;rw[hni]at this;cases this
    ·rw[List.append_assoc,List.mem_append,List.mem_append,List.mem_singleton,hVm,List.mem_filter,List.mem_filter,List.mem_range,Bool.and_eq_true,hasN_iff,Bool.not_eq_true',←Bool.not_eq_true,hasN_iff];by_cases ha:a=i
     ·subst ha;exact⟨fun _=>⟨by omega,livei⟩,fun _=> .inl rfl⟩
     ·rw[live a ha];constructor
      ·rintro(h|⟨h1,h2,h3⟩|⟨h1,h2,h3⟩)
       ·exact absurd h ha
       ·exact⟨h1,huse a h2,h3⟩
       ·exact⟨h1,h2,fun h=>h3 (o6 a h)⟩
      ·rintro⟨h1,h2,h3⟩;by_cases hu:a∈(clAt T i).use
       ·exact .inr (.inl ⟨h1,hu,h3⟩)
       ·exact .inr (.inr ⟨h1,h2,hu⟩)
end
section
variable{δ:Type}{T:List (Cl δ)}{S0:Nat→Prop}{w0:World}{L:List Ent}{P:Program}{Q:Exit→Act→World→Prop}{l0:List Oper}{lb:List Value}{id:Nat}
theorem J.regionF(d0:δ)(T:List (Cl δ))(V:List Ent)(M:(Nat→δ)→List (Nat×Value))(E:(Nat→δ)→List Ent){l1:(Nat→δ)→List Value}{La:List Ent}(hm:P.follows .mixedOrders=true)(hB:checkF T l0 lb.length=true)(hV:((List.range (T.length - l0.length)).flatMap fun j=>clO T (l0.length+j) fun _=>d0)=V)(hp0:allF T (fun _=>d0) ((List.range (T.length - l0.length)).map fun j=>l0.length+j))(hs:stepsF T S0 w0 L P l0 lb (List.range l0.length))(hM:∀c,slF T c=M c)(hE:∀c,endF T c=E c)
  {L1:(Nat→δ)→List Ent}(k:∀c,allF T c (List.range l0.length)→J S0 w0 (L1 c) (RY S0 w0 .s P l0.toArray (KN Q) [] (l1 c)))(hl:∀c,upd lb (M c)=l1 c:=by intro c;simp only[upd,List.set_cons_succ,List.set_cons_zero];exact rfl)(hL:∀c,E c++L=L1 c:=by intro c;dsimp only[List.cons_append,List.nil_append])
  (hA:V++L=La:=by first|rfl|dsimp only[List.cons_append,List.nil_append]):J S0 w0 La ((Code.region id l0.toArray true).wp P Q (fr lb)):=fun w Mm=>by
 subst hA hV;refine wp_region_any hm ?_;have hN:l0.length≤T.length:=by
  simp only[checkF,Bool.and_eq_true]at hB;exact Nat.le_of_ble_eq_true hB.1.1
 have hf:∀i,(Array.replicate l0.length false).getD i false=false:=fun i=>by
  rw[Array.getD_eq_getD_getElem?,Array.getElem?_replicate];split<;>rfl
 have hdn:∀i,dn l0.length (Array.replicate l0.length false) i=Nat.ble l0.length i:=fun i=>by
  unfold dn;rw[hf i,Bool.false_or]
 have allV:∀(is:List Nat) (c:Nat→δ),allF T c is→∀i∈is,clP T i c:=fun is=>by
  induction is with
  |nil=>intro c _ i hi;cases hi
  |cons j r ih=>
   intro c h i hi;rcases List.mem_cons.1 hi with rfl|hi
   ·exact h.1
   ·exact ih c h.2 i hi
 have hvt:∀i,l0.length≤i→i<T.length→(clAt T i).dst=none∧(clAt T i).eat=[]:=fun i h1 h2=>by
  simp only[checkF,Bool.and_eq_true]at hB;have:=List.all_eq_true.1 hB.1.2.1 i (List.mem_range.2 h2);simp only[Bool.or_eq_true,Bool.and_eq_true,Option.isNone_iff_eq_none,List.isEmpty_iff]at this;rcases this with h|h
  ·rw[Nat.blt_eq]at h;omega
  ·exact⟨h.1,h.2.2⟩
 have key := anyF (P := P) (Q := fun a w => ∃ l, a = fr l ∧ Q .normal (fr l) w) hB (fun i hi => stepsF_mem hs i (List.mem_range.2 hi)) (fun c w' hp hM' => by
  refine ⟨_, rfl, ?_⟩
  rw [hE, hL] at hM'
  rw [hM, hl]
  have := k c (allF_of fun i hi => hp i (by have := List.mem_range.1 hi; omega)) w' hM'
  unfold RY RS at this
  exact this) l0.length (Array.replicate l0.length false) (fun _ => d0) lb { w with drawn := w.drawn + 1 }
  (by
   unfold cntU
   rw [List.countP_eq_length.2 (fun i _ => by rw [hf i]; rfl), List.length_range])
  ⟨by simp, (by intro k ok _ h; rw [hf] at h; cases h), rfl, fun _ _ => rfl, (fun i hi h d hd => by
   rw [hdn] at h
   rw [(hvt i (Nat.le_of_ble_eq_true h) hi).1] at hd
   cases hd), (fun i hi h => by
   rw [hdn] at h
   have h := Nat.le_of_ble_eq_true h
   exact allV _ _ hp0 i (List.mem_map.2 ⟨i - l0.length, List.mem_range.2 (by omega), by omega⟩)), by
   have e : ((List.range T.length).filter fun j => dn l0.length (Array.replicate l0.length false) j && !(List.range T.length).any fun k => dn l0.length (Array.replicate l0.length false) k && hasN (clAt T k).eat j) = (List.range (T.length - l0.length)).map fun j => l0.length + j := by
    have e1 : ((List.range T.length).filter fun j => dn l0.length (Array.replicate l0.length false) j && !(List.range T.length).any fun k => dn l0.length (Array.replicate l0.length false) k && hasN (clAt T k).eat j) = (List.range T.length).filter fun j => Nat.ble l0.length j := List.filter_congr fun j _ => by
     rw [hdn]
     have : ((List.range T.length).any fun k => dn l0.length (Array.replicate l0.length false) k && hasN (clAt T k).eat j) = false := by
      rw [List.any_eq_false]
      intro k hk h
      rw [Bool.and_eq_true, hdn, hasN_iff] at h
      rw [(hvt k (Nat.le_of_ble_eq_true h.1) (List.mem_range.1 hk)).2] at h
      exact absurd h.2 (List.not_mem_nil)
     rw [this]
     simp
    rw [e1]
    obtain ⟨q, hq⟩ := Nat.le.dest hN
    rw [← hq, List.range_add, List.filter_append, show l0.length + q - l0.length = q by omega]
    rw [List.filter_eq_nil_iff.2 fun j hj => (by
     have := List.mem_range.1 hj
     intro h
     have := Nat.le_of_ble_eq_true h
     omega), List.nil_append]
    refine List.filter_eq_self.2 fun j hj => ?_
    obtain ⟨m, _, rfl⟩ := List.mem_map.1 hj
    exact Nat.ble_eq_true_of_le (by omega)
   rw [e, List.flatMap_map]
   exact Mm.grow ((Below.refl _ _).drew)⟩
 have h2:=wpAny_of_X (Q':=Q) (fun a w (h:∃l,a=fr l∧Q .normal (fr l) w)=>by obtain⟨l,rfl,h⟩:=h;exact h) l0.length (Array.replicate l0.length false) (fr lb) _ key;simpa using h2
theorem stepF.i{i:Nat}{o:Oper}(kd:Kd)(U K:(Nat→δ)→List Ent)(O:(Nat→δ)→δ→List Ent)(V:(Nat→δ)→δ→Value)(p:(Nat→δ)→Prop)(q:(Nat→δ)→δ→Prop)(M:(Nat→δ)→List (Nat×Value))(Jk:List Nat)(dd:Option Nat){l1:(Nat→δ)→(Nat→Value)→List Value}
  {L1:Ent→(Nat→δ)→List Ent}(h:∀F c v,p c→J S0 w0 (L1 F c) (RY S0 w0 .s P l0.toArray (fun l' w'=>∃x,q c x∧l'=putL dd (V c x) (l1 c v)∧Mem S0 w0 (O c x++(K c++F::L)) w') [(o,kd)] (l1 c v)))
  (hU:∀c,useF T i c=U c)(hK:∀c,keepF T i c=K c)(hO:∀c x,clO T i (put c i x)=O c x)(hV:∀c x,clV T i (put c i x)=V c x)(hp:∀c,(∀j∈(clAt T i).dep,clP T j c)→p c)(hq:∀c x,q c x→clP T i (put c i x))(hM:∀c,MF T i c=M c)(hJ:JF T i=Jk)(hd:(clAt T i).dst=dd)(ho:nth l0 i=o:=by dsimp only[nth])
  (hl:∀c v,upd (upd lb (M c)) (junk Jk v)=l1 c v:=by intro c v;simp only[upd,junk,List.map_cons,List.map_nil,List.set_cons_succ,List.set_cons_zero];exact rfl)
  (hL:∀F c,U c++F::L=L1 F c:=by intro F c;dsimp only[List.cons_append,List.nil_append]):stepF T S0 w0 L P l0 lb i:=fun F c v hpp=>by
 subst ho;unfold frF;rw[hM,hJ,hl,hU,hL];have:=h F c v (hp c hpp);unfold OutF;rw[hd,hK];intro w Mm;have h2:=this w Mm;unfold RY at h2⊢;have h2:RS P l0.toArray _ [nth l0 i] (l1 c v) w:=h2;show RS P l0.toArray _ [nth l0 i] (l1 c v) w;refine rs_mono (fun l' w' ⟨x,h1,h2,h3⟩=>⟨x,hq c x h1,?_,?_⟩) _ _ _ h2
 ·rw[hV];exact h2
 ·rw[hO];exact h3
theorem J.outF{δ:Type}{L' F:List Ent}{q:δ→Prop}{V:δ→Value}{O:δ→List Ent}{l l':List Value}{dd:Option Nat}(x:δ)(hq:q x)(hl:l'=putL dd (V x) l)(hs:(O x++F).Sublist L'):J S0 w0 L' (fun w'=>∃x,q x∧l'=putL dd (V x) l∧Mem S0 w0 (O x++F) w'):=fun w Mm=>⟨x,hq,hl,Mm.sub hs⟩
end
end G
namespace W
open Go.RowKit G
section
variable{S0:Nat→Prop}{w0:World}{L:List Ent}{P:Program}{ops:Array Oper}{K:List Value→World→Prop}{rest:List (Oper×Kd)}{l l':List Value}{m:Md}{d:Tmp}{ty xt e:TypeId}{pos:String}{af:Array Edge}{kd:Kd}{n sz by_:Nat}{z:List Value}
theorem J.bI{parts:Array (Nat×Operand)}(k:IntKind)(zs:List Int)(ps:List (Nat×Int))(xs:List Int)[U:Und P xt (.array n e)][I:Inf P xt sz by_ z][Z:Siz P e 1](hk:pureK kd=true)(hz:z=ints k zs)(hv:parts.toList.map (fun p=>(p.1,ev l p.2))=ps.map fun p=>(p.1,Value.int k p.2))(hx:ps.foldl (fun z p=>z.set p.1 p.2) zs=xs)(kk:J S0 w0 L (RY S0 w0 m P ops K rest l'))(hb:∀p∈ps,p.1<zs.length:=by decide)(hl:l.set d (.agg (ints k xs).toArray)=l':=by dsimp only[List.set]):
  J S0 w0 L (RY S0 w0 m P ops K ((⟨some d, .build xt parts,ty,pos,af,none⟩,kd)::rest) l):=
 J.pur hk (fun w => by
  subst hz hx
  exact D.buildI U.h I.h Z.h hv hb) kk hl
end
end W
namespace G
open Go.RowKit
def bitN(m i:Nat):Bool:=Nat.beq (Nat.land (Nat.shiftRight m i) 1) 1
theorem bitN_eq(m i:Nat):bitN m i=m.testBit i:=by
 unfold bitN Nat.testBit;have h:Nat.land (Nat.shiftRight m i) 1=(m >>> i) &&& 1:=rfl;rw[h,Nat.and_comm];have h2:1 &&& (m >>> i)=0∨1 &&& (m >>> i)=1:=by
  rw[Nat.one_and_eq_mod_two];omega
 rcases h2 with e|e<;>rw[e]<;>rfl
def onsN(o:Oper):List Nat:=(o.after.toList.filter (Region.binds .any)).map (·.on)
def eN(m i:Nat):Nat→List (List Nat)→Bool
 |_,[]=>true
 |k,l::r=>(cond (Nat.beq k i) (!bitN m k&&l.all (bitN m)) (bitN m k||l.any fun j=> !bitN m j))&&eN m i (k+1) r
def freeN(ops:Array Oper)(oi:Oper)(m i:Nat):Nat→List Oper→Bool
 |_,[]=>true
 |k,oj::r=>(Nat.beq k i||(bitN m k||(oj.after.any (fun e=>Region.binds .any e&&e.on==i)||oi.apart ops oj)))&&freeN ops oi m i (k+1) r
def planN(l0:List Oper)(on:List (List Nat))(fl:List Nat):List (Nat×Kd)→Nat→Bool
 |[],m=>(List.range l0.length).all (bitN m)
 |(i, .q)::r,m=>(!fl.any (Nat.beq i)&&(Nat.blt i l0.length&&(!bitN m i&&(on.getD i []).all (bitN m))))&&(freeN l0.toArray (nth l0 i) m i 0 l0&&planN l0 on fl r (Nat.lor m (Nat.shiftLeft 1 i)))
 |(i, .e)::r,m=>(Nat.blt i l0.length&&eN m i 0 on)&&planN l0 on fl r (Nat.lor m (Nat.shiftLeft 1 i))
 |_,_=>false
section
variable{l0:List Oper}
structure Agr(l0:List Oper)(a:Array Bool)(m:Nat):Prop where
 sz:a.size=l0.length
 at_:∀i,i<l0.length→a.getD i false=bitN m i
theorem Agr.tr{a:Array Bool}{m:Nat}(h:Agr l0 a m){i:Nat}(hi:i<l0.length):a.getD i true=bitN m i:=by
 rw[←h.at_ i hi];have:=h.sz;simp[Array.getD,show i<a.size by omega]
theorem Agr.set {a : Array Bool} {m : Nat} (h : Agr l0 a m) {i : Nat} (hi : i < l0.length) : Agr l0 (a.setIfInBounds i true) (Nat.lor m (Nat.shiftLeft 1 i)) := ⟨by simp [h.sz], fun j hj => by
 have e : Nat.lor m (Nat.shiftLeft 1 i) = m ||| (1 <<< i) := rfl
 rw [e, bitN_eq, Nat.testBit_or, Nat.one_shiftLeft]
 by_cases c : j = i
 ·subst c
  have hs : j < a.size := by rw [h.sz]; exact hj
  rw [Nat.testBit_two_pow_self, Bool.or_true, Array.getD_eq_getD_getElem?]
  simp [hs]
 ·rw [Nat.testBit_two_pow_of_ne (Ne.symm c), Bool.or_false, ← bitN_eq, ← h.at_ j hj]
  exact getD_set_ne false (Ne.symm c)⟩
theorem mem_ons{o:Oper}{j:Nat}:j∈onsN o↔∃e∈o.after,Region.binds .any e=true∧e.on=j:=by
 unfold onsN;rw[List.mem_map];constructor
 ·rintro⟨e,he,rfl⟩;rw[List.mem_filter]at he;exact⟨e,by simpa using he.1,he.2,rfl⟩
 ·rintro⟨e,he,hb,rfl⟩;exact⟨e,List.mem_filter.2 ⟨by simpa using he,hb⟩,rfl⟩
theorem eN_spec{m i:Nat}:∀(on:List (List Nat)) (k:Nat),eN m i k on=true→∀j,(h:j<on.length)→(k+j=i→bitN m i=false∧∀x∈on[j],bitN m x=true)∧(k+j≠i→bitN m (k+j)=true∨∃x∈on[j],bitN m x=false)
 |[],_,_,j,h=>absurd h (Nat.not_lt_zero _)
 |l::r,k,h,j,hj=>by
  unfold eN at h;rw[Bool.and_eq_true]at h;obtain⟨h1,h2⟩:=h;cases j with
  |zero=>
   rw[Nat.add_zero];refine⟨fun e=>?_,fun e=>?_⟩
   ·subst e;rw[show Nat.beq k k=true from Nat.beq_refl k]at h1;simp only[cond_true,Bool.and_eq_true,Bool.not_eq_true',List.all_eq_true]at h1;exact h1
   ·have e2:Nat.beq k i=false:=by rw[Bool.eq_false_iff];intro c;exact e (Nat.eq_of_beq_eq_true c)
    rw[e2]at h1;simp only[cond_false,Bool.or_eq_true,List.any_eq_true,Bool.not_eq_true']at h1;exact h1
  |succ j=>
   have:=eN_spec r (k+1) h2 j (by simpa using hj);rw[show k+1+j=k+(j+1)by omega]at this;exact this
theorem ons_at{j:Nat}(h:j<l0.length):(l0.map onsN).getD j []=onsN (nth l0 j):=by
 rw[List.getD_eq_getElem?_getD,List.getElem?_map,List.getElem?_eq_getElem h];show onsN l0[j]=_;have:=nth_mem_range h;simp only[List.getElem?_toArray,List.getElem?_eq_getElem h,Option.some.injEq]at this;rw[this]
theorem Agr.ready{a:Array Bool}{m:Nat}(h:Agr l0 a m)(hon:∀j,j<l0.length→∀x∈onsN (nth l0 j),x<l0.length){j:Nat}(hj:j<l0.length):j∈Region.ready .any l0.toArray a↔bitN m j=false∧∀x∈onsN (nth l0 j),bitN m x=true:=by
 rw[mem_ready,h.tr hj];refine and_congr Iff.rfl ⟨fun⟨o,ho,hx⟩ x hm=>?_,fun hx=>⟨nth l0 j,nth_mem_range hj,fun e he hb=>?_⟩⟩
 ·rw[nth_mem_range hj]at ho;obtain rfl:=Option.some.inj ho;obtain⟨e,he,hb,rfl⟩:=mem_ons.1 hm;rw[←h.at_ _ (hon j hj _ hm)];exact hx e he hb
 ·have hm:e.on∈onsN (nth l0 j):=mem_ons.2 ⟨e,he,hb,rfl⟩;rw[h.at_ _ (hon j hj _ hm)];exact hx _ hm
theorem ready_lt{a:Array Bool}{j:Nat}(h:j∈Region.ready .any l0.toArray a):j<l0.length:=by
 obtain⟨_,o,ho,_⟩:=mem_ready.1 h;have:=(Array.getElem?_eq_some_iff.1 ho).1;simpa using this
theorem freeN_spec{ops:Array Oper}{oi:Oper}{m i:Nat}:∀(l:List Oper) (k:Nat),freeN ops oi m i k l=true→∀j,(h:j<l.length)→(k+j=i∨bitN m (k+j)=true)∨(l[j].after.any (fun e=>Region.binds .any e&&e.on==i)||oi.apart ops l[j])=true
 |[],_,_,j,h=>absurd h (Nat.not_lt_zero _)
 |o::r,k,h,j,hj=>by
  unfold freeN at h;rw[Bool.and_eq_true]at h;obtain⟨h1,h2⟩:=h;cases j with
  |zero=>
   rw[Bool.or_eq_true,Bool.or_eq_true]at h1;rw[Nat.add_zero];rcases h1 with h1|h1|h1
   ·exact .inl (.inl (Nat.eq_of_beq_eq_true h1))
   ·exact .inl (.inr h1)
   ·exact .inr h1
  |succ j=>
   have:=freeN_spec r (k+1) h2 j (by simpa using hj);rw[show k+1+j=k+(j+1)by omega]at this;exact this
theorem planN_ok{fl:List Nat}(hon:∀j,j<l0.length→∀x∈onsN (nth l0 j),x<l0.length):∀(pl:List (Nat×Kd)) (a:Array Bool) (m:Nat),Agr l0 a m→planN l0 (l0.map onsN) fl pl m=true→planB l0.toArray fl (endB l0.toArray) pl a=true
 |[],a,m,h,hp=>by
  unfold planN at hp;unfold planB endB;rw[List.isEmpty_iff];refine List.eq_nil_iff_forall_not_mem.2 fun j hj=>?_
  have hl:=ready_lt hj;have h1:=((h.ready hon hl).1 hj).1;rw[List.all_eq_true.1 hp j (List.mem_range.2 hl)]at h1;cases h1
 |(i, .q)::r,a,m,h,hp=>by
  unfold planN at hp;simp only[Bool.and_eq_true]at hp;obtain⟨⟨h1,h2,h3,h4⟩,h5,h6⟩:=hp;have hi:i<l0.length:=Nat.le_of_ble_eq_true h2;rw[ons_at hi]at h4;unfold planB;simp only[Bool.and_eq_true];refine⟨⟨h1,?_⟩,?_,planN_ok hon r _ _ (h.set hi) h6⟩
  ·rw[List.contains_iff_mem];exact(h.ready hon hi).2 ⟨by simpa using h3,List.all_eq_true.1 h4⟩
  ·unfold Region.free;rw[nth_mem_range hi];refine List.all_eq_true.2 fun j hj=>?_
   have hj:j<l0.length:=by simpa using hj
   have hf:=freeN_spec l0 0 h5 j hj;rw[Nat.zero_add]at hf;rcases hf with(e|e)|e
   ·subst e;simp
   ·rw[h.tr hj,e];simp
   ·have e3:l0.toArray[j]? =some l0[j]:=by simp[hj]
    rw[e3];show(j==i||a.getD j true||(l0[j].after.any (fun e=>Region.binds .any e&&e.on==i)||(nth l0 i).apart l0.toArray l0[j]))=true;rw[e,Bool.or_true]
 |(i, .e)::r,a,m,h,hp=>by
  unfold planN at hp;simp only[Bool.and_eq_true]at hp;obtain⟨⟨h2,h3⟩,h6⟩:=hp;have hi:i<l0.length:=Nat.le_of_ble_eq_true h2;unfold planB;simp only[Bool.and_eq_true,beq_iff_eq];refine⟨?_,planN_ok hon r _ _ (h.set hi) h6⟩;refine List.perm_singleton.1 ((List.perm_ext_iff_of_nodup ?_ (List.nodup_cons.2 ⟨List.not_mem_nil,List.nodup_nil⟩)).2 fun j=>?_)
  ·unfold Region.ready;exact List.Pairwise.filter _ List.nodup_range
  ·have sp:=eN_spec _ 0 h3;have at_:∀j,(hj:j<l0.length)→(l0.map onsN)[j]'(by rw[List.length_map];exact hj)=onsN (nth l0 j):=fun j hj=>by
    have:=ons_at hj;rwa[List.getD_eq_getElem?_getD,List.getElem?_eq_getElem (by rw[List.length_map];exact hj)]at this
   rw[List.mem_singleton];constructor
   ·intro hr;have hj:=ready_lt hr;obtain⟨r1,r2⟩:=(h.ready hon hj).1 hr;have s:=(sp j (by rw[List.length_map];exact hj)).2;rw[Nat.zero_add,at_ j hj]at s;rcases Classical.em (j=i)with e|e
    ·exact e
    ·rcases s e with c|⟨x,hx,c⟩
     ·rw[c]at r1;cases r1
     ·rw[r2 x hx]at c;cases c
   ·rintro rfl;have s:=(sp j (by rw[List.length_map];exact hi)).1;rw[Nat.zero_add,at_ j hi]at s;exact(h.ready hon hi).2 (s rfl)
 |(i, .c)::r,_,_,_,hp=>by simp[planN]at hp
 |(i, .g)::r,_,_,_,hp=>by simp[planN]at hp
end
section
variable{S0:Nat→Prop}{w0:World}{L:List Ent}{P:Program}{Q:Exit→Act→World→Prop}{l:List Value}{id:Nat}
theorem J.regionN{l0:List Oper}{pl:List (Oper×Kd)}(plan:List (Nat×Kd))(hm:P.follows .mixedOrders=true)
  (hB:(Region.noSelect l0.toArray&&(Nat.beq plan.length l0.length&&((l0.map onsN).all (fun l=>l.all fun x=>Nat.blt x l0.length)&&planN l0 (l0.map onsN) (frees plan) plan 0)))=true)
  (h:J S0 w0 L (RY S0 w0 .x P l0.toArray (KN Q) pl l))(hp:pick l0 plan=pl:=by dsimp only[pick,nth]):J S0 w0 L ((Code.region id l0.toArray true).wp P Q (fr l)):=by
 simp only[Bool.and_eq_true]at hB;obtain⟨h1,h2,h3,h4⟩:=hB;refine J.regionX plan hm ?_ h hp;simp only[Bool.and_eq_true];refine⟨h1,h2,planN_ok (fun j hj x hx=>?_) plan _ 0 ⟨by simp,fun i hi=>?_⟩ h4⟩
 ·have:=List.all_eq_true.1 h3 (onsN (nth l0 j)) (List.mem_map.2 ⟨nth l0 j,?_,rfl⟩)
  ·exact Nat.le_of_ble_eq_true (List.all_eq_true.1 this x hx)
  ·have:=nth_mem_range hj;have:=Array.mem_of_getElem? this;simpa using this
 ·rw[bitN_eq,Nat.zero_testBit];simp[Array.getD_eq_getD_getElem?,hi]
end
end G
end Go.Proofs.YtkibkhgcbepolaaGreatDoor
