/-
  Part 11 of the lemmas of these laws: TopSign.
-/
import Derived.Test.YtfoaecjggdaieaaDoorPTs10
set_option linter.unusedVariables false
set_option linter.unusedSimpArgs false
open Go.Proofs.Tryd
namespace Go.Proofs.YtfoaecjggdaieaaDoor
namespace W
open Go.RowKit G
set_option maxRecDepth 20000
set_option maxHeartbeats 8000000
attribute [local irreducible] RS RX RY Code.wp bodyPost J Ent.blk Ent.irow Ent.iown Ent.wrow Ent.gown Ent.all Ent.emp
instance:Inf prog 88 4 64 [.int .u8 0, .int .u64 0, .slice none 0 0, .slice none 0 0]:=⟨TI.of (v:= .agg #[.int .u8 0, .int .u64 0, .slice none 0 0, .slice none 0 0]) (by kernel_rfl) rfl⟩
instance:Ents prog 25:=⟨.mk func25 (by kernel_rfl) rfl⟩
instance:Ents prog 24:=⟨.mk func24 (by kernel_rfl) rfl⟩
instance:Agg prog 88 4:=⟨_,underlying88,rfl,by kernel_rfl⟩
instance:Siz prog 88 4:=⟨by kernel_rfl⟩
instance:Ents prog 27:=⟨.mk func27 (by kernel_rfl) rfl⟩
instance:Inf prog 38 1 24 [.slice none 0 0]:=⟨TI.of (v:= .slice none 0 0) (by kernel_rfl) rfl⟩
instance:Siz prog 48 1:=⟨by kernel_rfl⟩
instance:Und prog 9 .string:=⟨underlying9⟩
instance:SInf prog 88 [(0,1),(1,1),(2,1),(3,1)]:=⟨_,underlying88,by kernel_rfl,by kernel_rfl⟩
instance:Ents prog 70:=⟨.mk func70 (by kernel_rfl) rfl⟩
instance:Ents prog 69:=⟨.mk func69 (by kernel_rfl) rfl⟩
instance:Ents prog 71:=⟨.mk func71 (by kernel_rfl) rfl⟩
theorem readV{S0:Nat→Prop}(a:Option Addr)(n c:Nat)(bs:List Int)(most:Nat)(hm:most≤1000000)(w:World)(R0:IRow .u8 S0 w a n bs)(hc:n≤c)(hn:n≤1000000):
    Calls prog 27 #[.slice a n c, .int .i64 most] w (Gv w (fun q:Option Addr×Nat×Nat=> .tuple #[.slice q.1 q.2.1 q.2.2, .int .i64 (S.ptU most 1 bs), .int .i64 (S.ptE most 1 bs)]) (fun q=>[.iown 5 .u8 q.1 q.2.1 q.2.2 (S.ptS most 1 bs)]) fun q=>q.2.1=(S.ptS most 1 bs).length∧q.2.1≤q.2.2):=
  Gv.of (readB a n c bs most hm w R0 hc hn) fun v w' _ ⟨a',n',c',hv,O⟩=>⟨(a',n',c'),hv,⟨O.len.symm,O.own.cap.1⟩,sep1 (iown_ok O)⟩
structure FrA where
  (a:Option Addr)(n c:Nat)(ps:List Pc)
structure FrS where
  (i:Nat)(a:Option Addr)(m c:Nat)(q:FrA)
theorem pcC_one:∀x:Pc,∀u∈pcC x,u.oneCell'=true:=fun x u hu=>by
  simp only[pcC,List.mem_singleton]at hu;subst hu;rfl
theorem frRead{S0:Nat→Prop}(a:Option Addr)(m c:Nat)(ls:List (List Int))(w:World)(R0:IRow .u8 S0 w a m (S.numS ls.length++S.pcsB ls))(hc:m≤c)(hm:m≤10000)(h8:ls.length≤8)(h4:∀x∈ls,x.length≤400):
    Calls prog 70 #[.int .u8 5, .slice a m c] w (Gv w (fun q:FrA=> .tuple #[.agg #[.int .u8 5, .int .u64 0, .slice none 0 0, .slice q.a q.n q.c], .int .i64 0]) (fun q=>[.all (q.ps.map (pcE 5 .u8)), .gown pcC 1 38 q.a q.n q.c q.ps]) fun q=>q.ps.map Pc.xs=ls∧q.n=ls.length):=by
  have hml:=R0.len;have hb0:=S.numS_len (ls.length:Int);rw[List.length_append]at hml;obtain⟨e1,e2,e3,e4⟩:=S.rd_at (b:=S.numS ls.length++S.pcsB ls) (r:=S.pcsB ls) rfl (by omega);refine J.enter 73 func70 rfl rfl ?_;refine run ?_;refine J.alloc rfl fun b1=>?_
  refine run ?_;refine J.callp rfl rfl (fun w' M=>frListed w') ?_;refine run ?_;refine J.callp rfl rfl (fun w' M=>readN a m c _ w' (R0.ext M.ext) hc (by omega)) ?_;rw[e1,e2,e3];refine run ?_;refine J.ifd rfl (fun c1=>absurd c1 (by omega)) (fun c1=>?_);have R1:=R0.rest (S.numS ls.length).length c (by omega) hc;rw[List.drop_left]at R1;refine run ?_;refine J.nilG pcC 1 38 (fun _=>rfl) ?_;refine J.newA [] ?_ fun w=>trivial;refine J.loop (A:=FrS) (fun s=>[(1, .slice s.a s.m s.c),(5, .int .i64 0),(6, .int .u64 ((ls.length - s.i:Nat):Int))]) [9,10,11,50,51,52,53,54,55,56,57,58,59,60,61,62,63,64,65,66,67,68,69,70,71,72] (fun s=>[.all (s.q.ps.map (pcE 5 .u8)), .gown pcC 1 38 s.q.a s.q.n s.q.c s.q.ps, .blk b1 [.int .u8 5, .int .u64 0, .slice none 0 0, .slice s.q.a s.q.n s.q.c] 88])
    (fun s=>s.i≤ls.length∧IRow .u8 S0 w s.a s.m (S.frR ls s.i)∧s.m≤s.c∧s.m≤10000∧s.q.n=s.i∧s.q.ps.map Pc.xs=ls.take s.i) (fun s=>ls.length - s.i) ⟨0,subA a (S.numS ls.length).length 1 c,m - (S.numS ls.length).length,c - (S.numS ls.length).length,none,0,0,[]⟩ (by kernel_rfl) ⟨Nat.zero_le _,R1,by dsimp only;omega,by dsimp only;omega,rfl,rfl⟩ (fun s j hI=>?_)
  obtain⟨i1,i2,i3,i4,i5,i6⟩:=hI;refine run ?_;refine J.ifd rfl (fun c2=>?_) (fun c2=>?_)
  · obtain⟨x,hx⟩:∃x,ls[s.i]? =some x:=⟨_,List.getElem?_eq_getElem (by omega)⟩
    have hx4:=h4 x (List.mem_of_getElem? hx);obtain⟨f1,f2,f3,f4⟩:=S.pt_at (most:=400) (S.frR_at hx) hx4 (by omega);have hpl:=S.pcB_len hx4;have hrl:=i2.len;rw[S.frR_at hx,List.length_append]at hrl;have R2:=i2.rest (S.pcB x).length s.c (by omega) i3;rw[S.frR_at hx,List.drop_left]at R2;refine run ?_;refine J.call rfl rfl (fun w' M=>readV s.a s.m s.c _ 400 (by omega) w' (i2.ext M.ext) i3 (by omega)) fun q1 hq1=>?_
    rw[f1,f2,f3];rw[f3]at hq1;obtain⟨y,ey⟩:=ex (⟨q1.1,q1.2.1,q1.2.2,x⟩:Pc);refine run ?_;refine J.regionX [(0, .q),(1, .q),(2, .q),(5, .c),(6, .c),(7, .c),(3, .e),(4, .g),(8, .q),(9, .g),(10, .q)] mixed (by kernel_rfl) ?_;refine run ?_;refine J.bnG (vs:=[.slice q1.1 q1.2.1 q1.2.2]) pcC [⟨q1.1,q1.2.1,q1.2.2,x⟩] (fun _=>rfl) rfl rfl rfl (by intro v hv;simp only[List.mem_cons,List.not_mem_nil,or_false]at hv;subst hv;rfl) fun bb=>?_
    refine J.apG rfl rfl RG.own' pcC_one fun a' c'=>?_
    refine run ?_;refine J.re (.iown 5 .u8 q1.1 q1.2.1 q1.2.2 x) (pcE 5 .u8 ⟨q1.1,q1.2.1,q1.2.2,x⟩) (fun _ _ h=>h) ?_;refine J.snocA (s.q.ps.map (pcE 5 .u8)) (pcE 5 .u8 ⟨q1.1,q1.2.1,q1.2.2,x⟩) ?_;refine J.re (.all (s.q.ps.map (pcE 5 .u8)++[pcE 5 .u8 (⟨q1.1,q1.2.1,q1.2.2,x⟩:Pc)])) (.all ((s.q.ps++[(⟨q1.1,q1.2.1,q1.2.2,x⟩:Pc)]).map (pcE 5 .u8))) (fun _ _ h=>by rw[List.map_append];exact h) ?_;refine J.drop (E:=[.all ((s.q.ps++[(⟨q1.1,q1.2.1,q1.2.2,x⟩:Pc)]).map (pcE 5 .u8)), .gown pcC 1 38 a' (s.q.n+1) c' (s.q.ps++[(⟨q1.1,q1.2.1,q1.2.2,x⟩:Pc)]), .blk b1 [.int .u8 5, .int .u64 0, .slice none 0 0, .slice a' (s.q.n+1) c'] 88]) sb ?_;rw[show((ls.length - s.i:Nat):Int) - 1=((ls.length - (s.i+1):Nat):Int)by omega];exact J.next ⟨s.i+1,subA s.a (S.pcB x).length 1 s.c,s.m - (S.pcB x).length,s.c - (S.pcB x).length,a',s.q.n+1,c',s.q.ps++[⟨q1.1,q1.2.1,q1.2.2,x⟩]⟩ ⟨rfl,rfl,rfl,trivial⟩ (by kernel_rfl) ⟨by dsimp only;omega,R2,by dsimp only;omega,by dsimp only;omega,by dsimp only;omega,by dsimp only;rw[List.map_append,i6,List.take_add_one,hx];rfl⟩ (by dsimp only;omega)
  have hsi:s.i=ls.length:=by omega
  rw[hsi,List.take_length]at i6;refine run ?_;exact J.finG s.q rfl ⟨i6,by omega⟩ sb
theorem prOwn{Z:Nat→Prop}{w0:World}{L:List Ent}{a:Option Addr}{n:Nat}{ps:List Pc}{e:TypeId}{F:Ent→List Ent}[R:RE L (.all (ps.map (pcE e .u8))) F](hG:RG Z w0 L pcC 1 a n ps)(w:World)(M:Mem Z w0 L w):∃S,PRow .u8 S w a n ps:=by
  obtain⟨S1,g⟩:=hG w M;obtain⟨A,_,e1⟩:=M.get (R.h (.all (ps.map (pcE e .u8)))).same;have e2:ps.flatMap pcC=ps.map Pc.val:=by
    clear g e1 hG R
    induction ps with
    |nil=>rfl
    |cons p ps ih=>rw[List.flatMap_cons,List.map_cons,ih];rfl
  have hr:=g.row;rw[e2]at hr;refine⟨fun b=>S1 b∨A b,hr.weaken fun b _ hb=> .inl hb,g.len,fun p hp=>?_⟩;obtain⟨S',hs,k⟩:=sep_mem (List.mem_map.2 ⟨p,hp,rfl⟩) (all_e e1);exact⟨(irow_e (iown_irow k)).weaken fun b _ hb=> .inr (hs b hb),(iown_len k).2⟩
theorem bytesEq{S0 S1:Nat→Prop}(a:Option Addr)(n c:Nat)(xs:List Int)(a2:Option Addr)(n2 c2:Nat)(w:World)(R0:IRow .u8 S0 w a n xs)(R1:IRow .u8 S1 w a2 n2 xs):
    Calls prog 71 #[.slice a n c, .slice a2 n2 c2] w (Ret w fun v _=>v= .bool true):=by
  refine J.enter 8 func71 rfl rfl ?_;refine run ?_;refine J.cvB rfl (RI.arg R0) ?_;refine run ?_;refine J.cvB rfl (RI.arg R1) ?_;refine run ?_;exact J.fin (congrArg _ (beq_self_eq_true _))
@[reducible] def frC(q:FrA):List Value:=[.int .u8 5, .int .u64 0, .slice none 0 0, .slice q.a q.n q.c]
theorem frParse{S0:Nat→Prop}(a:Option Addr)(m c:Nat)(ls:List (List Int))(w:World)(R0:IRow .u8 S0 w a m (S.frmS ls))(hc:m≤c)(h8:ls.length≤8)(h4:∀x∈ls,x.length≤400)(hT:(S.frmS ls).length≤2000):
    Calls prog 43 #[.slice a m c] w (Gv w (fun q:FrA=> .tuple #[.agg #[.int .u8 5, .int .u64 0, .slice none 0 0, .slice q.a q.n q.c], .int .i64 0]) (fun q=>[.all (q.ps.map (pcE 5 .u8)), .gown pcC 1 38 q.a q.n q.c q.ps]) fun q=>q.ps.map Pc.xs=ls∧q.n=ls.length):=by
  have hml:=R0.len;have hml1:1≤m:=by rw[←hml];unfold S.frmS;simp
  have R1:=R0.rest 1 c hml1 hc;have R1:IRow .u8 S0 w (subA a 1 1 c) (m - 1) (S.numS ls.length++S.pcsB ls):=R1;have h0:(S.frmS ls).getD ((0:Int).toNat) 0=5:=rfl;refine J.enter 43 func43 rfl rfl ?_;refine run ?_;refine J.alloc rfl fun b1=>?_
  refine run ?_;refine J.spe rfl rfl rfl (fun c1=>absurd c1 (by omega)) (fun c1=>?_);refine run ?_;refine J.ifd rfl (fun c2=>absurd c2 (by omega)) (fun c2=>?_);refine run ?_;refine J.joinX (A:=FrA×Nat) (fun u=>[(4, .pointer (some ⟨u.2,0,none⟩)),(5, .int .i64 0)]) [17,18,19,20,21,22,23,24,25] (fun u=>[.blk u.2 (frC u.1) 88, .all (u.1.ps.map (pcE 5 .u8)), .gown pcC 1 38 u.1.a u.1.n u.1.c u.1.ps, .blk b1 [.int .u8 0, .int .u64 0, .slice none 0 0, .slice none 0 0] 88]) (fun u=>u.1.ps.map Pc.xs=ls∧u.1.n=ls.length) ?_ (fun u j2 hu=>?_)
  · refine J.regionT [] (.br [(0, .q),(1, .q),(2, .q),(3, .q),(4, .q)] 5 (.fin [(6, .q),(7, .q),(8, .q),(9, .e),(10, .e),(11, .q)]) 9 (.fin [(5, .e),(6, .q),(7, .q),(8, .q),(10, .e),(11, .q)])) mixed (by kernel_rfl) (by repeat(first|exact List.Sublist.refl _|refine List.Sublist.cons_cons _ ?_|refine List.Sublist.cons _ ?_)) ?_
    refine run ?_;refine J.nil (J.kt ?_ ?_)
    · refine J.call rfl rfl (fun w' M=>frRead _ _ _ ls w' (R1.ext M.ext) (by omega) (by omega) h8 h4) fun q hq=>?_
      refine run ?_;refine J.alloc rfl fun b4=>?_
      refine run ?_;refine J.front (.gown pcC 1 38 q.a q.n q.c q.ps) ?_;refine J.front (.all (q.ps.map (pcE 5 .u8))) ?_;refine J.front (.blk b4 (frC q) 88) ?_;exact J.cut (q,b4) ⟨rfl,rfl,trivial⟩ (by kernel_rfl) hq
    · refine J.alloc rfl fun b4=>?_
      refine run ?_;refine J.call rfl rfl (fun w' M=>frRead _ _ _ ls w' (R1.ext M.ext) (by omega) (by omega) h8 h4) fun q hq=>?_
      refine run ?_;refine J.front (.gown pcC 1 38 q.a q.n q.c q.ps) ?_;refine J.front (.all (q.ps.map (pcE 5 .u8))) ?_;refine J.front (.blk b4 (frC q) 88) ?_;exact J.cut (q,b4) ⟨rfl,rfl,trivial⟩ (by kernel_rfl) hq
  obtain⟨q,b4⟩:=u;dsimp only at hu⊢;obtain⟨hq1,hq2⟩:=hu;have hpx:∀p∈q.ps,p.xs.length≤400:=fun p hp=>h4 _ (by rw[←hq1];exact List.mem_map.2 ⟨p,hp,rfl⟩);refine run ?_;refine J.call rfl rfl (fun w' M=>(prOwn (e:=5) RG.own' w' M).elim fun _ k=>frWrite q.a q.n q.c q.ps w' k (by omega) hpx (by rw[hq1];exact hT)) fun u3 hu3=>?_
  rw[hq1]at hu3⊢;refine run ?_;refine J.callp rfl rfl (fun w' M=>(RI.own' w' M).elim fun _ k=>bytesEq _ _ _ _ _ _ _ w' k (R0.ext M.ext)) ?_;refine run ?_;exact J.finG q rfl ⟨hq1,hq2⟩ sb
end W
namespace S
open G
theorem r3_at(o:OpV):(r3 o).getD (numS o.st).length 0=o.k:=by
 unfold r3;rw[List.getD_eq_getElem?_getD,List.getElem?_append_right (Nat.le_refl _),Nat.sub_self];rfl
theorem r3_rest(o:OpV):(r3 o).drop ((numS o.st).length+1)=r4 o:=by
 unfold r3;rw[←List.drop_drop,List.drop_left];rfl
theorem r4_one{o:OpV}(h:o.k=1):r4 o=r6 o:=by
 unfold r4 r5;rw[if_pos h,if_neg (by omega)];rfl
theorem r4_at{o:OpV}(h:o.k≠1):r4 o=pcB (bys o.key)++r5 o:=by
 unfold r4;rw[if_neg h]
theorem r5_not{o:OpV}(h:o.k≠4):r5 o=r6 o:=by
 unfold r5;rw[if_neg h];rfl
theorem r5_at{o:OpV}(h:o.k=4):r5 o=valS o.vk o.num o.bits o.t++r6 o:=by
 unfold r5;rw[if_pos h]
theorem vd_at{o:OpV}{b r:List Int}(h:b=valS o.vk o.num o.bits o.t++r)(hF:FineV o.vk o.num o.bits o.t)(ho:o.rng):vdS b=⟨o.vk,o.num,o.bits,o.t,(valS o.vk o.num o.bits o.t).length,0⟩∧b.drop (valS o.vk o.num o.bits o.t).length=r:=
 ⟨vd_some (by rw[h];exact val_num r hF ho.num ho.bits),by rw[h,List.drop_left]⟩
theorem r1_len(o:OpV):(r1 o).length=(numS o.au).length+(r2 o).length:=by unfold r1;rw[List.length_append]
theorem r2_len(o:OpV):(r2 o).length=(listS o.n o.ids).length+(r3 o).length:=by unfold r2;rw[List.length_append]
theorem r3_len(o:OpV):(r3 o).length=(numS o.st).length+((r4 o).length+1):=by unfold r3;rw[List.length_append,List.length_cons]
theorem r4_len{o:OpV}(h:o.k≠1):(r4 o).length=(pcB (bys o.key)).length+(r5 o).length:=by rw[r4_at h,List.length_append]
theorem r5_len{o:OpV}(h:o.k=4):(r5 o).length=(valS o.vk o.num o.bits o.t).length+(r6 o).length:=by rw[r5_at h,List.length_append]
theorem listS_len(n:Nat)(ids:List Int):(listS n ids).length=(numS n).length+ids.length:=by unfold listS;rw[List.length_append]
theorem eqV4(a b c a' b' c':Int)(y y':ByteArray):eqC [.int .u8 a, .int .i64 b, .int .u64 c, .string y] [.int .u8 a', .int .i64 b', .int .u64 c', .string y']=decide (a=a'∧b=b'∧c=c'∧y=y'):=by
 simp only[eqC,strEq,Bool.and_true];by_cases h1:a=a'<;>by_cases h2:b=b'<;>by_cases h3:c=c'<;>by_cases h4:y=y'<;>simp[h1,h2,h3,h4]
theorem enc_pos(o:OpV):1≤(encS o).length:=by
 rw[enc_eq,List.length_cons];omega
theorem sgn_jd{x:Int}{o:OpV}(ho:o.ok)(hl:o.ids.length=32*o.n)(h:signE x o=0):(signS x o).ids.length=32*(signS x o).n∧(encS (signS x o)).length≤400∧jdV (encS (signS x o))=0∧jdO (encS (signS x o))=signS x o∧jdI (encS (signS x o))=sha (encS (signS x o)):=by
 obtain⟨g1,g2,g3,g4,g5,g6,g7⟩:=sign_good ho hl h;have es:=signS_eq h;have hn:(signS x o).ids.length=32*(signS x o).n:=by rw[es];exact hl
 obtain⟨j1,j2⟩:=jd_enc (OpV.ok.rng (signS_ok x o ho)) hn g3;rw[if_pos g7]at j1;exact⟨hn,enc_400 hn g3,j1,j2 g7⟩
theorem frm_two{x y:List Int}(hx:x.length≤400)(hy:y.length≤400):(frmS [x,y]).length≤2000:=by
 have h:=pcsB_len (xs:=[x,y]) fun z hz=>by
  simp only[List.mem_cons,List.not_mem_nil,or_false]at hz;rcases hz with rfl|rfl<;>assumption
 have h2:=numS_len (([x,y]:List (List Int)).length:Int);unfold frmS;rw[List.length_cons,List.length_append];have:([x,y]:List (List Int)).length=2:=rfl;omega
theorem map_two{α β:Type}{f:α→β}{l:List α}{x y:β}(h:l.map f=[x,y]):∃p q,l=[p,q]∧f p=x∧f q=y:=by
 match l,h with
 |[p,q],h=>exact⟨p,q,rfl,(List.cons.inj h).1,(List.cons.inj (List.cons.inj h).2).1⟩
theorem other{o:OpV}(hl:o.ids.length=32*o.n){ys:List Int}(hB:Bd .u8 ys)(hn:encS o≠ys)(hj:jdV ys=0):¬SameO (jdO ys) o:=by
 intro h;have h4:¬400<ys.length:=by
  intro h4;rw[jd_long h4]at hj;cases hj
 have hd:decE ys=0:=by
  apply Classical.byContradiction;intro hd;rw[jd_form h4 hd]at hj;cases hj
 have e:=(jd_zero hj).1;have hw:=(jdO_ok hB).2;have:=(sameO_eq (a:=jdO ys) (b:=o) hw hl).1 h;rw[e]at this;exact hn (by rw[←this,(dec_good hB hd).2])
end S
namespace W
open Go.RowKit G
set_option maxRecDepth 20000
set_option maxHeartbeats 8000000
attribute [local irreducible] RS RX RY Code.wp bodyPost J Ent.blk Ent.irow Ent.iown Ent.wrow Ent.gown Ent.all Ent.emp
instance:Fld prog 32 0 0:=⟨_,_,1,underlying32,rfl,by kernel_rfl,by decide,rfl⟩
instance:Sca prog 22:=⟨_,underlying22,rfl⟩
instance:Und prog 22 (.int .u32):=⟨underlying22⟩
instance:Fld prog 32 1 1:=⟨_,_,1,underlying32,rfl,by kernel_rfl,by decide,rfl⟩
instance:Ents prog 26:=⟨.mk func26 (by kernel_rfl) rfl⟩
instance:Fld prog 32 2 2:=⟨_,_,1,underlying32,rfl,by kernel_rfl,by decide,rfl⟩
instance:Fld prog 32 3 3:=⟨_,_,6,underlying32,rfl,by kernel_rfl,by decide,rfl⟩
instance:Fld prog 28 0 0:=⟨_,_,1,underlying28,rfl,by kernel_rfl,by decide,rfl⟩
instance:Fld prog 28 1 1:=⟨_,_,1,underlying28,rfl,by kernel_rfl,by decide,rfl⟩
instance:Sca prog 9:=⟨_,underlying9,rfl⟩
instance:Ents prog 28:=⟨.mk func28 (by kernel_rfl) rfl⟩
instance:Inf prog 26 4 40 [.int .u8 0, .int .i64 0, .int .u64 0, .string .empty]:=⟨TI.of (v:= .agg #[.int .u8 0, .int .i64 0, .int .u64 0, .string .empty]) (by kernel_rfl) rfl⟩
instance:Siz prog 26 4:=⟨by kernel_rfl⟩
instance:Agg prog 26 4:=⟨_,underlying26,rfl,by kernel_rfl⟩
instance:Fld prog 28 2 2:=⟨_,_,4,underlying28,rfl,by kernel_rfl,by decide,rfl⟩
instance:Fld prog 32 4 9:=⟨_,_,2,underlying32,rfl,by kernel_rfl,by decide,rfl⟩
instance:Fld prog 30 0 0:=⟨_,_,1,underlying30,rfl,by kernel_rfl,by decide,rfl⟩
instance:Fld prog 30 1 1:=⟨_,_,1,underlying30,rfl,by kernel_rfl,by decide,rfl⟩
instance:Ents prog 29:=⟨.mk func29 (by kernel_rfl) rfl⟩
theorem readIV{S0:Nat→Prop}(a:Option Addr)(n c:Nat)(bs:List Int)(w:World)(R0:IRow .u8 S0 w a n bs)(hc:n≤c)(hn:n≤1000000):
    Calls prog 25 #[.slice a n c, .int .i64 4] w (Gv w (fun q:Option Addr×Nat=> .tuple #[.slice q.1 (S.idN 4 bs) q.2, .int .i64 (S.idU 4 bs), .int .i64 (S.idE 4 bs)]) (fun q=>[.wrow .u8 32 q.1 (S.idN 4 bs) (S.idL 4 bs)]) fun q=>S.idN 4 bs≤q.2):=
  Gv.of (readIds a n c bs 4 (by decide) w R0 hc hn) fun v w' _ ⟨a',c',hv,hcc,W⟩=>⟨(a',c'),hv,hcc,sep1 (wrow_i W)⟩
theorem fits_valT(a b c:Int)(t:ByteArray):FitsT prog 9 26 [.int .u8 a, .int .i64 b, .int .u64 c, .string t]=true:=by kernel_rfl
theorem read08{S0 S1:Nat→Prop}(z:OpA)(a:Option Addr)(n c:Nat)(w:World)(R:OpR S0 w z)(R0:IRow .u8 S1 w a n (S.encS z.o))(hc:n≤c)(hn:n≤400)(h0:S.checkE z.o=0):
    Calls prog 9 #[.agg (opC z).toArray, .slice a n c] w (Ret w fun v _=>v= .bool true):=by
  obtain⟨c1,c2,c3⟩:=S.check_zero.1 h0;have D0:=R.row;have hl0:=D0.len;have hok:=R.ok;have hau:=hok.au;have hst:=hok.st;have hkk:=hok.k;have hee:=hok.e;have hss:=hok.s;have hE:=S.enc_r1 z.o (fun h=>by rw[h];decide);rw[hE]at R0;have hnl:=R0.len;rw[List.length_cons]at hnl;obtain⟨a1,ea1⟩:=ex (subA a 1 1 c);obtain⟨m1,em1⟩:=ex (n - 1);obtain⟨k1,ek1⟩:=ex (c - 1);have R1:IRow .u8 S1 w a1 m1 (S.r1 z.o):=by rw[ea1,em1];exact R0.rest 1 c (by omega) hc
  obtain⟨t1,t2,t3,t4⟩:=S.rd_at (b:=S.r1 z.o) (r:=S.r2 z.o) rfl (by omega);have hU1:=S.numS_len z.o.au;have L1:=R1.len;have E1:=S.r1_len z.o;obtain⟨u1,eu1⟩:=ex (S.numS z.o.au).length;rw[←eu1]at t2 hU1 E1;obtain⟨a2,ea2⟩:=ex (subA a1 u1 1 k1);obtain⟨m2,em2⟩:=ex (m1 - u1);obtain⟨k2,ek2⟩:=ex (k1 - u1);have R2:IRow .u8 S1 w a2 m2 (S.r2 z.o):=by
    have:=R1.rest u1 k1 (by omega) (by omega);rwa[←t2,t4,t2,←ea2,←em2]at this
  have hlst:=S.listS_len z.o.n z.o.ids;have hU2:=S.numS_len (z.o.n:Int);obtain⟨i1,i2,i3,i4,i5⟩:=S.id_at (b:=S.r2 z.o) (r:=S.r3 z.o) rfl c1 hl0 c2;have L2:=R2.len;have E2:=S.r2_len z.o;obtain⟨u2,eu2⟩:=ex (S.listS z.o.n z.o.ids).length;rw[←eu2]at i3 E2 hlst;obtain⟨a3,ea3⟩:=ex (subA a2 u2 1 k2);obtain⟨m3,em3⟩:=ex (m2 - u2);obtain⟨k3,ek3⟩:=ex (k2 - u2);have R3:IRow .u8 S1 w a3 m3 (S.r3 z.o):=by
    have:=R2.rest u2 k2 (by omega) (by omega);rwa[←i3,i5,i3,←ea3,←em3]at this
  obtain⟨d1,d2,d3,d4⟩:=S.rd_at (b:=S.r3 z.o) (r:=z.o.k::S.r4 z.o) rfl (by omega);have hU3:=S.numS_len z.o.st;have L3:=R3.len;have E3:=S.r3_len z.o;have hk0:=S.r3_at z.o;have hr4:=S.r3_rest z.o;obtain⟨u3,eu3⟩:=ex (S.numS z.o.st).length;rw[←eu3]at d2 hU3 E3 hk0 hr4;obtain⟨a4,ea4⟩:=ex (subA a3 (u3+1) 1 k3);obtain⟨m4,em4⟩:=ex (m3 - (u3+1));obtain⟨k4,ek4⟩:=ex (k3 - (u3+1));have R4:IRow .u8 S1 w a4 m4 (S.r4 z.o):=by
    have:=R3.rest (u3+1) k3 (by omega) (by omega);rwa[hr4,←ea4,←em4]at this
  have L4:=R4.len;refine J.enter 177 func9 rfl rfl ?_;refine run ?_;refine J.box rfl rfl rfl fun b2=>?_
  refine run ?_;refine J.spe rfl rfl rfl (fun c=>absurd c (by omega)) (fun _=>?_);refine run ?_;rw[show subA a (Int.toNat 1) 1 c=a1 from ea1.symm,show((n:Nat):Int).toNat - Int.toNat 1=m1 from em1.symm,show c - Int.toNat 1=k1 from ek1.symm];refine J.callp rfl rfl (fun w' M=>readN a1 m1 k1 (S.r1 z.o) w' (R1.ext M.ext) (by omega) (by omega)) ?_;rw[t1,t2,t3];refine run ?_;refine J.spn rfl rfl rfl (fun c=>absurd rfl c) (fun _=>?_);refine run ?_;refine J.ifd rfl (fun c=>absurd c (by omega)) (fun _=>?_);refine run ?_;rw[show subA a1 ((u1:Nat):Int).toNat 1 k1=a2 from ea2.symm,show((m1:Nat):Int).toNat - ((u1:Nat):Int).toNat=m2 from em2.symm,show k1 - ((u1:Nat):Int).toNat=k2 from ek2.symm];refine J.call rfl rfl (fun w' M=>readIV a2 m2 k2 (S.r2 z.o) w' (R2.ext M.ext) (by omega) (by omega)) fun q hq=>?_
  rw[i1]at hq;rw[i1,i2,i3,i4];refine run ?_;refine J.callp rfl rfl (fun w' M=>(RW.row' w' M).elim fun _ k=>sameIDs _ _ _ _ _ _ _ _ w' k (D0.ext M.ext) (by omega) (by omega)) ?_;rw[show decide (z.o.ids=z.o.ids)=true from decide_eq_true rfl];refine run ?_;refine J.ifd rfl (fun c=>absurd c (by omega)) (fun _=>?_);refine run ?_;rw[show subA a2 ((u2:Nat):Int).toNat 1 k2=a3 from ea3.symm,show((m2:Nat):Int).toNat - ((u2:Nat):Int).toNat=m3 from em3.symm,show k2 - ((u2:Nat):Int).toNat=k3 from ek3.symm];refine J.callp rfl rfl (fun w' M=>readN a3 m3 k3 (S.r3 z.o) w' (R3.ext M.ext) (by omega) (by omega)) ?_;rw[d1,d2,d3];refine run ?_;refine J.regionX [(0, .q),(1, .q),(2, .q),(3, .q),(4, .q),(5, .q),(6, .q),(7, .q),(8, .q),(9, .q),(10, .q),(11, .q),(12, .q),(13, .q),(14, .q),(15, .q),(16, .q),(17, .q),(18, .q),(19, .q),(20, .q),(21, .q),(22, .q),(23, .q)] mixed (by kernel_rfl) ?_;refine run ?_;refine J.spn rfl rfl rfl (fun c=>absurd rfl c) (fun _=>?_);refine run ?_;refine J.spd rfl rfl rfl (fun c=>absurd c (by omega)) (fun _=>?_);refine run ?_;refine J.ifn rfl (fun c=>absurd (by rw[Int.toNat_natCast];exact hk0) c) (fun _=>?_);refine run ?_;rw[show subA a3 (((u3:Nat):Int)+1).toNat 1 k3=a4 from ea4.symm,show((m3:Nat):Int).toNat - (((u3:Nat):Int)+1).toNat=m4 from em4.symm,show k3 - (((u3:Nat):Int)+1).toNat=k4 from ek4.symm];refine J.ifn rfl (fun e1=>?_) (fun e1=>?_)
  rotate_left
  · rw[S.r4_one e1]at R4
    refine run ?_;refine J.ife rfl (fun c=>absurd c (by omega)) (fun _=>?_);refine run ?_;have hx1:=S.numS_len z.o.e;have hx2:=S.numS_len z.o.s;refine J.regionX [(0, .c),(1, .q),(2, .q),(3, .q),(4, .q),(6, .q),(7, .q),(8, .q),(9, .q),(5, .e),(10, .e),(11, .g),(12, .e),(13, .q)] mixed (by kernel_rfl) ?_;refine run ?_;refine J.call rfl rfl (fun w' M=>numV z.o.e (by omega) w') fun q1 hq1=>?_
    refine run ?_;refine J.call rfl rfl (fun w' M=>numV z.o.s (by omega) w') fun q2 hq2=>?_
    refine run ?_;refine J.apI rfl rfl RI.own' fun a' c'=>?_
    refine run ?_;refine J.callp rfl rfl (fun w' M=>(RI.own' w' M).elim fun _ k=>sameBytes _ _ _ _ _ _ _ _ w' (R4.ext M.ext) k (by omega) (by omega)) ?_;rw[show decide (S.r6 z.o=S.numS z.o.e++S.numS z.o.s)=true from decide_eq_true rfl];refine run ?_;exact J.fin rfl
  have hr4:=S.r4_len e1;rw[S.r4_at e1]at R4;have hF:z.o.key.size≤20:=by
    rcases c3.2.2.2.2 with h|h|h
    · rw[h.2.1];decide
    · exact h.2.1.2.1
    · exact h.2.1.2.1
  have hbl:=bys_len z.o.key;obtain⟨p1,p2,p3,p4⟩:=S.pt_at (most:=20) (b:=S.pcB (bys z.o.key)++S.r5 z.o) (r:=S.r5 z.o) rfl (by omega) (by decide);obtain⟨u5,eu5⟩:=ex (S.pcB (bys z.o.key)).length;rw[←eu5]at p2 hr4;obtain⟨a5,ea5⟩:=ex (subA a4 u5 1 k4);obtain⟨m5,em5⟩:=ex (m4 - u5);obtain⟨k5,ek5⟩:=ex (k4 - u5);have R5:IRow .u8 S1 w a5 m5 (S.r5 z.o):=by
    have:=R4.rest u5 k4 (by omega) (by omega);rwa[←p2,p4,p2,←ea5,←em5]at this
  have L5:=R5.len;refine run ?_;refine J.call rfl rfl (fun w' M=>readV a4 m4 k4 _ 20 (by decide) w' (R4.ext M.ext) (by omega) (by omega)) fun q5 hq5=>?_
  rw[p1,p2,p3];refine run ?_;refine J.cvB rfl RI.own' ?_;rw[strOf_bys];refine run ?_;rw[show(!(z.o.key.toList==z.o.key.toList))=false from by rw[beq_self_eq_true];rfl];refine run ?_;refine J.ifd rfl (fun c=>absurd c (by omega)) (fun _=>?_);refine run ?_;rw[show subA a4 ((u5:Nat):Int).toNat 1 k4=a5 from ea5.symm,show((m4:Nat):Int).toNat - ((u5:Nat):Int).toNat=m5 from em5.symm,show k4 - ((u5:Nat):Int).toNat=k5 from ek5.symm];refine J.ife rfl (fun e4=>?_) (fun e4=>?_)
  rotate_left
  · rw[S.r5_not e4]at R5
    refine run ?_;have hx1:=S.numS_len z.o.e;have hx2:=S.numS_len z.o.s;refine J.regionX [(0, .c),(1, .q),(2, .q),(3, .q),(4, .q),(6, .q),(7, .q),(8, .q),(9, .q),(5, .e),(10, .e),(11, .g),(12, .e),(13, .q)] mixed (by kernel_rfl) ?_;refine run ?_;refine J.call rfl rfl (fun w' M=>numV z.o.e (by omega) w') fun q1 hq1=>?_
    refine run ?_;refine J.call rfl rfl (fun w' M=>numV z.o.s (by omega) w') fun q2 hq2=>?_
    refine run ?_;refine J.apI rfl rfl RI.own' fun a' c'=>?_
    refine run ?_;refine J.callp rfl rfl (fun w' M=>(RI.own' w' M).elim fun _ k=>sameBytes _ _ _ _ _ _ _ _ w' (R5.ext M.ext) k (by omega) (by omega)) ?_;rw[show decide (S.r6 z.o=S.numS z.o.e++S.numS z.o.s)=true from decide_eq_true rfl];refine run ?_;exact J.fin rfl
  have hr5:=S.r5_len e4;rw[S.r5_at e4]at R5;obtain⟨v1,v2⟩:=S.vd_at (o:=z.o) (r:=S.r6 z.o) rfl (S.fine4 c3.2.2.2.2 e4) hok.rng;obtain⟨u6,eu6⟩:=ex (S.valS z.o.vk z.o.num z.o.bits z.o.t).length;rw[←eu6]at v1 v2 hr5;obtain⟨a6,ea6⟩:=ex (subA a5 u6 1 k5);obtain⟨m6,em6⟩:=ex (m5 - u6);obtain⟨k6,ek6⟩:=ex (k5 - u6);have R6:IRow .u8 S1 w a6 m6 (S.r6 z.o):=by
    have:=R5.rest u6 k5 (by omega) (by omega);rwa[v2,←ea6,←em6]at this
  have L6:=R6.len;refine run ?_;refine J.callp rfl rfl (fun w' M=>decodeV a5 m5 k5 _ w' (R5.ext M.ext) (by omega) (by omega)) ?_;rw[v1];dsimp only;refine run ?_;refine J.alloc rfl fun b13=>?_
  refine run ?_;refine J.neR rfl rfl rfl (fits_valT _ _ _ _) (fits_valT _ _ _ _) (S.eqV4 _ _ _ _ _ _ _ _) ?_;rw[show decide (¬(z.o.vk=z.o.vk∧z.o.num=z.o.num∧z.o.bits=z.o.bits∧z.o.t=z.o.t))=false from decide_eq_false fun h=>h ⟨rfl,rfl,rfl,rfl⟩];refine run ?_;refine J.ifd rfl (fun c=>absurd c (by omega)) (fun _=>?_);refine run ?_;rw[show subA a5 ((u6:Nat):Int).toNat 1 k5=a6 from ea6.symm,show((m5:Nat):Int).toNat - ((u6:Nat):Int).toNat=m6 from em6.symm,show k5 - ((u6:Nat):Int).toNat=k6 from ek6.symm];have hx1:=S.numS_len z.o.e;have hx2:=S.numS_len z.o.s;refine J.regionX [(0, .c),(1, .q),(2, .q),(3, .q),(4, .q),(6, .q),(7, .q),(8, .q),(9, .q),(5, .e),(10, .e),(11, .g),(12, .e),(13, .q)] mixed (by kernel_rfl) ?_;refine run ?_;refine J.call rfl rfl (fun w' M=>numV z.o.e (by omega) w') fun q1 hq1=>?_
  refine run ?_;refine J.call rfl rfl (fun w' M=>numV z.o.s (by omega) w') fun q2 hq2=>?_
  refine run ?_;refine J.apI rfl rfl RI.own' fun a' c'=>?_
  refine run ?_;refine J.callp rfl rfl (fun w' M=>(RI.own' w' M).elim fun _ k=>sameBytes _ _ _ _ _ _ _ _ w' (R6.ext M.ext) k (by omega) (by omega)) ?_;rw[show decide (S.r6 z.o=S.numS z.o.e++S.numS z.o.s)=true from decide_eq_true rfl];refine run ?_;exact J.fin rfl
instance:Ents prog 15:=⟨.mk func15 (by kernel_rfl) rfl⟩
instance:Ents prog 30:=⟨.mk func30 (by kernel_rfl) rfl⟩
instance:Ents prog 32:=⟨.mk func32 (by kernel_rfl) rfl⟩
instance:Ents prog 31:=⟨.mk func31 (by kernel_rfl) rfl⟩
instance:Ents prog 33:=⟨.mk func33 (by kernel_rfl) rfl⟩
instance:Ents prog 34:=⟨.mk func34 (by kernel_rfl) rfl⟩
instance:Agg prog 30 2:=⟨_,underlying30,rfl,by kernel_rfl⟩
instance:SInf prog 30 [(0,1),(1,1)]:=⟨_,underlying30,by kernel_rfl,by kernel_rfl⟩
instance:Inf prog 30 2 8 [.int .u32 0, .int .u32 0]:=⟨TI.of (v:= .agg #[.int .u32 0, .int .u32 0]) (by kernel_rfl) rfl⟩
instance:Ents prog 35:=⟨.mk func35 (by kernel_rfl) rfl⟩
instance:SInf prog 28 [(0,1),(1,1),(2,4)]:=⟨_,underlying28,by kernel_rfl,by kernel_rfl⟩
instance:Inf prog 28 6 64 [.int .u8 0, .string .empty, .int .u8 0, .int .i64 0, .int .u64 0, .string .empty]:=⟨TI.of (v:= .agg #[.int .u8 0, .string .empty, .int .u8 0, .int .i64 0, .int .u64 0, .string .empty]) (by kernel_rfl) rfl⟩
instance:SInf prog 32 [(0,1),(1,1),(2,1),(3,6),(9,2)]:=⟨_,underlying32,by kernel_rfl,by kernel_rfl⟩
instance:Inf prog 32 11 112 [.int .u32 0, .slice none 0 0, .int .u64 0, .int .u8 0, .string .empty, .int .u8 0, .int .i64 0, .int .u64 0, .string .empty, .int .u32 0, .int .u32 0]:=⟨TI.of (v:= .agg #[.int .u32 0, .slice none 0 0, .int .u64 0, .int .u8 0, .string .empty, .int .u8 0, .int .i64 0, .int .u64 0, .string .empty, .int .u32 0, .int .u32 0]) (by kernel_rfl) rfl⟩
instance:Ents prog 6:=⟨.mk func6 (by kernel_rfl) rfl⟩
instance:Siz prog 32 11:=⟨by kernel_rfl⟩
instance:Agg prog 32 11:=⟨_,underlying32,rfl,by kernel_rfl⟩
instance:Ents prog 8:=⟨.mk func8 (by kernel_rfl) rfl⟩
instance:Ents prog 14:=⟨.mk func14 (by kernel_rfl) rfl⟩
theorem publicV(x:Int)(hx:0<x∧x<500000003)(w:World):Calls prog 15 #[.int .u32 x] w (Ret w fun v _=>v= .tuple #[.int .u32 (S.pubS x), .int .i64 0]):=by
  have h:=publicW x (by omega) w;rwa[if_pos (S.secE_zero.2 hx),S.secE_zero.2 hx]at h
theorem nonceV(x:Int)(hx:0<x∧x<500000003){S0:Nat→Prop}(a:Option Addr)(n c:Nat)(m:List Int)(hm:m.length≤9991)(TK:TypeId)(w:World)(K0:Kst w TK)(R0:IRow .u8 S0 w a n m)(hc:n≤c):Calls prog 30 #[.int .u32 x, .slice a n c] w (Ret w fun v _=>v= .tuple #[.int .u32 (S.nonceS x m), .int .i64 0]):=by
  have hE:S.hashE m=0:=if_neg (by omega);have h:=nonce x (by omega) a n c m TK w K0 R0 hc;rwa[if_pos (S.nonceE_zero.2 ⟨S.secE_zero.2 hx,hE⟩),S.nonceE_zero.2 ⟨S.secE_zero.2 hx,hE⟩]at h
theorem challV(r:Int)(hr:0≤r∧r<4294967296)(y:Int)(hy:0≤y∧y<4294967296){S0:Nat→Prop}(a:Option Addr)(n c:Nat)(m:List Int)(hm:m.length≤9991)(TK:TypeId)(w:World)(K0:Kst w TK)(R0:IRow .u8 S0 w a n m)(hc:n≤c):Calls prog 31 #[.int .u32 r, .int .u32 y, .slice a n c] w (Ret w fun v _=>v= .tuple #[.int .u32 (S.chalS r y m), .int .i64 0]):=by
  have hE:S.hashE m=0:=if_neg (by omega);have h:=challenge r hr y hy a n c m TK w K0 R0 hc;rwa[if_pos hE,hE]at h
theorem timesV(a:Int)(ha:0≤a∧a<500000003)(b:Int)(hb:0≤b∧b<500000003)(w:World):Calls prog 33 #[.int .u32 a, .int .u32 b] w (Ret w fun v _=>v= .tuple #[.int .u32 (a*b % 500000003), .int .i64 0]):=by
  have h:=group_Times a (by omega) b (by omega) w;have hm:max a b<500000003:=by omega
  rwa[if_pos hm,if_pos hm]at h
theorem plusV(a:Int)(ha:0≤a∧a<500000003)(b:Int)(hb:0≤b∧b<500000003)(w:World):Calls prog 34 #[.int .u32 a, .int .u32 b] w (Ret w fun v _=>v= .tuple #[.int .u32 ((a+b) % 500000003), .int .i64 0]):=by
  have h:=group_Plus a (by omega) b (by omega) w;have hm:max a b<500000003:=by omega
  rwa[if_pos hm,if_pos hm]at h
theorem fits_sigT(a b:Int):FitsT prog 9 30 [.int .u32 a, .int .u32 b]=true:=by kernel_rfl
theorem signed08{S0:Nat→Prop}(x:Int)(hx:0<x∧x<500000003)(z:OpA)(a:Option Addr)(n c:Nat)(m:List Int)(TK:TypeId)(w:World)(K0:Kst w TK)(R0:IRow .u8 S0 w a n m)(hc:n≤c)(hm:m.length≤9991)(hau:z.o.au=S.pubS x)(he:z.o.e=S.sigE x m)(hs:z.o.s=S.sigS x m)(hv:S.verS (S.pubS x) m (S.sigE x m) (S.sigS x m)=0):
    Calls prog 10 #[.int .u32 x, .agg (opC z).toArray, .slice a n c] w (Ret w fun v _=>v= .bool true):=by
  have hb1:=S.pub_bd x;have hb2:=S.nonce_bd x m;have hb3:=S.pub_bd (S.nonceS x m);have hb4:=S.chal_bd (S.pubS (S.nonceS x m)) (S.pubS x) m;have hse:=S.sigE_eq x m;have hss:=S.sigS_eq x m;have hsb:=S.sig_bd x m;refine J.enter 88 func10 rfl rfl ?_;refine run ?_;refine J.box rfl rfl rfl fun b2=>?_
  refine run ?_;refine J.callp rfl rfl (fun w' M=>publicV x hx w') ?_;refine run ?_;refine J.callp rfl rfl (fun w' M=>nonceV x hx a n c m hm TK w' (K0.ext M.ext) (R0.ext M.ext) hc) ?_;refine run ?_;refine J.callp rfl rfl (fun w' M=>group_Base (S.nonceS x m) (by omega) w') ?_;rw[S.pub_eq];refine run ?_;refine J.callp rfl rfl (fun w' M=>challV (S.pubS (S.nonceS x m)) (by omega) (S.pubS x) (by omega) a n c m hm TK w' (K0.ext M.ext) (R0.ext M.ext) hc) ?_;rw[hse];rw[hse]at hb4;refine run ?_;refine J.callp rfl rfl (fun w' M=>timesV (S.sigE x m) (by omega) x (by omega) w') ?_;refine run ?_;refine J.callp rfl rfl (fun w' M=>plusV (S.nonceS x m) (by omega) (S.sigE x m*x % 500000003) (by omega) w') ?_;rw[hss];refine run ?_;refine J.spe rfl rfl rfl (fun _=>?_) (fun c=>absurd hau c);refine run ?_;refine J.eqR rfl rfl rfl (fits_sigT _ _) (fits_sigT _ _) (S.eqS2 _ _ _ _) ?_;rw[show decide (z.o.e=S.sigE x m∧z.o.s=S.sigS x m)=true from decide_eq_true ⟨he,hs⟩];refine run ?_;rw[he,hs];refine J.callp rfl rfl (fun w' M=>verifyW (S.pubS x) (by omega) (S.sigE x m) (S.sigS x m) (by omega) (by omega) a n c m TK w' (K0.ext M.ext) (R0.ext M.ext) hc) ?_;rw[hv];refine run ?_;exact J.fin rfl
theorem sgV{S0:Nat→Prop}(x:Int)(hx:0≤x∧x<4294967296)(z:OpA)(TK:TypeId)(w:World)(K0:Kst w TK)(R:OpR S0 w z):
    Calls prog 6 #[.int .u32 x, .agg (opC z).toArray] w (Gv w (fun q:Option Addr×Nat=> .tuple #[.agg (opC ⟨S.signS x z.o,q.1,q.2⟩).toArray, .int .i64 (S.signE x z.o)]) (fun q=>[.wrow .u8 32 q.1 (S.signS x z.o).n (S.signS x z.o).ids]) fun q=>(S.signS x z.o).n≤q.2):=
  Gv.of (signO x hx z.o R.ok z.pa z.pc TK w K0 R.row R.cap) fun v w' _ ⟨a',c',hv,hcc,W⟩=>⟨(a',c'),hv,hcc,sep1 (wrow_i W)⟩
theorem encT{S0:Nat→Prop}(z:OpA)(w:World)(R:OpR S0 w z)(h0:S.checkE z.o=0):
    Calls prog 8 #[.agg (opC z).toArray] w (Gv w (fun q:Option Addr×Nat×Nat=> .tuple #[.slice q.1 q.2.1 q.2.2, .int .i64 0]) (fun q=>[.iown 5 .u8 q.1 q.2.1 q.2.2 (S.encS z.o)]) fun q=>q.2.1=(S.encS z.o).length∧q.2.1≤q.2.2):=
  Gv.of (encodeO z.o R.ok z.pa z.pc w R.row R.cap) fun v w' _ ⟨a',n',c',xs,hv,O,hx⟩=>by
    rw[if_pos h0]at hx;subst hx;rw[h0]at hv;exact⟨(a',n',c'),hv,⟨O.len.symm,O.own.cap.1⟩,sep1 (iown_ok O)⟩
theorem msgT{S0:Nat→Prop}(z:OpA)(w:World)(R:OpR S0 w z)(h0:S.checkE z.o.bare=0):
    Calls prog 7 #[.agg (opC z).toArray] w (Gv w (fun q:Option Addr×Nat×Nat=> .tuple #[.slice q.1 q.2.1 q.2.2, .int .i64 0]) (fun q=>[.iown 5 .u8 q.1 q.2.1 q.2.2 (S.msgS z.o)]) fun q=>q.2.1=(S.msgS z.o).length∧q.2.1≤q.2.2):=
  Gv.of (messageO z.o R.ok z.pa z.pc w R.row R.cap) fun v w' _ ⟨a',n',c',xs,hv,O,hx⟩=>by
    rw[if_pos h0]at hx;subst hx;rw[h0]at hv;exact⟨(a',n',c'),hv,⟨O.len.symm,O.own.cap.1⟩,sep1 (iown_ok O)⟩
theorem opR_sig{S0:Nat→Prop}{w:World}{x:Int}{o:S.OpV}{a:Option Addr}{c:Nat}(ho:o.ok)(hc:(S.signS x o).n≤c)(D:WRow .u8 32 S0 w a (S.signS x o).n (S.signS x o).ids):OpR S0 w ⟨S.signS x o,a,c⟩:=⟨S.signS_ok x o ho,D,hc⟩
theorem alive08(TK:TypeId)(w:World)(K0:Kst w TK):Calls prog 5 #[] w (Ret w fun v _=>v= .bool true):=by
  have hE:=S.xO_sign (x:=9) (by decide);obtain⟨g1,g2,g3,g4,g5,g6,g7⟩:=S.sign_good S.xO_ok rfl hE;have hok:=S.signS_ok 9 S.xO S.xO_ok;refine J.enter 40 func5 rfl rfl ?_;refine run ?_;refine J.call rfl rfl (fun w' M=>sgV 9 (by decide) ⟨S.xO,none,0⟩ TK w' (K0.ext M.ext) (⟨S.xO_ok,WRow.nil,Nat.le_refl _⟩:OpR no w' ⟨S.xO,none,0⟩)) fun q hq=>?_
  dsimp only at hq⊢;rw[hE];obtain⟨z,ez⟩:=ex (⟨S.signS 9 S.xO,q.1,q.2⟩:OpA);refine run ?_;refine J.alloc rfl fun b1=>?_
  refine run ?_;refine J.call rfl rfl (fun w' M=>(RW.row' (a:=q.1) w' M).elim fun _ k=>encT ⟨S.signS 9 S.xO,q.1,q.2⟩ w' (opR_sig S.xO_ok hq k) g3) fun u hu=>?_
  dsimp only at hu⊢;obtain⟨n1,n2,n3,n4,n5⟩:=S.sgn_jd (x:=9) S.xO_ok rfl hE;have hpos:=S.enc_pos (S.signS 9 S.xO);obtain⟨a2,m2,c2⟩:=u;dsimp only at hu⊢;obtain⟨hu1,hu2⟩:=hu;refine J.fact (p:=Bd .u8 (S.encS (S.signS 9 S.xO))) (.iown 5 .u8 a2 m2 c2 (S.encS (S.signS 9 S.xO))) (fun _ _ h=>iown_bd h) fun hbd=>?_
  refine run ?_;refine J.spd rfl rfl rfl (fun _=>?_) (fun c=>absurd (by omega) c);refine run ?_;refine J.callp rfl rfl (fun w' M=>(RI.own' (a:=a2) w' M).elim fun _ k=>judgeFine a2 m2 c2 _ TK w' (K0.ext M.ext) k hu2 (by omega)) ?_;rw[n3];refine run ?_;rw[show subA a2 (Int.toNat 0) 1 c2=subA a2 0 1 c2 from rfl,show(((m2:Nat):Int) - 1).toNat - Int.toNat 0=m2 - 1 from by omega,show c2 - Int.toNat 0=c2 from rfl];refine J.callp rfl rfl (fun w' M=>(RI.own' (a:=a2) w' M).elim fun _ k=>judgeFine (subA a2 0 1 c2) (m2 - 1) c2 ((S.encS (S.signS 9 S.xO)).take (m2 - 1)) TK w' (K0.ext M.ext) (k.sub 0 (m2 - 1) c2 (by omega) (by omega) (by omega)) (by omega) (by omega)) ?_;rw[show(S.jdV ((S.encS (S.signS 9 S.xO)).take (m2 - 1))==0)=false from beq_false_of_ne (S.jd_cut hok.rng n1 g3 (hbd.take _) (m:=m2 - 1) (by omega) rfl)];refine run ?_;exact J.fin rfl
instance:Ents prog 42:=⟨.mk func42 (by kernel_rfl) rfl⟩
instance:Ents prog 43:=⟨.mk func43 (by kernel_rfl) rfl⟩
instance:Ents prog 44:=⟨.mk func44 (by kernel_rfl) rfl⟩
instance:Ents prog 45:=⟨.mk func45 (by kernel_rfl) rfl⟩
instance:Inf prog 44 32 32 (ints .u8 (List.replicate 32 0)):=⟨TI.of (v:= .agg ((ints .u8 (List.replicate 32 0))).toArray) (by kernel_rfl) rfl⟩
instance:Siz prog 44 32:=⟨by kernel_rfl⟩
instance:Agg prog 44 32:=⟨_,underlying44,rfl,by kernel_rfl⟩
instance:Und prog 44 (.array 32 5):=⟨underlying44⟩
instance:Ents prog 46:=⟨.mk func46 (by kernel_rfl) rfl⟩
theorem judgeT{S0:Nat→Prop}(a:Option Addr)(n c:Nat)(bs:List Int)(TK:TypeId)(w:World)(K0:Kst w TK)(R0:IRow .u8 S0 w a n bs)(hc:n≤c)(hn:n≤1000):
    Calls prog 45 #[.slice a n c] w (Gv w (fun q:Option Addr×Nat=> .tuple #[.agg (opC ⟨S.jdO bs,q.1,q.2⟩).toArray, .agg (ints .u8 (S.jdI bs)).toArray, .int .u8 (S.jdV bs)]) (fun q=>[.wrow .u8 32 q.1 (S.jdO bs).n (S.jdO bs).ids]) fun q=>(S.jdO bs).n≤q.2):=
  Gv.of (judgeOf a n c bs TK w K0 R0 hc (by omega)) fun v w' _ ⟨a',c',hv,hcc,W⟩=>⟨(a',c'),hv,hcc,sep1 (wrow_i W)⟩
theorem manyT{S0:Nat→Prop}(a:Option Addr)(n c:Nat)(ps:List Pc)(TK:TypeId)(w:World)(K0:Kst w TK)(P0:PRow .u8 S0 w a n ps)(hc:n≤c)(hp:∀p∈ps,p.xs.length≤1000)(hn:n≤60):
    Calls prog 44 #[.slice a n c] w (Gv w (fun q:Option Addr×Nat×Nat=> .tuple #[.slice q.1 q.2.1 q.2.2, .int .i64 0]) (fun q=>[.iown 5 .u8 q.1 q.2.1 q.2.2 (ps.map fun p=>S.jdV p.xs)]) fun q=>q.2.1=n):=
  Gv.of (judgeMany a n c ps TK w K0 P0 hc (fun p h=>by have:=(P0.each p h).1.len;have:=hp p h;omega)) fun v w' _ ⟨a',m',c',hv,O⟩=>by
    have h60:¬60<n:=by omega
    rw[if_neg h60]at hv O;exact⟨(a',m',c'),hv,by have:=O.len;have:=P0.len;rw[List.length_map]at*;dsimp only;omega,sep1 (iown_ok O)⟩
theorem prOf{S1:Nat→Prop}{w:World}{a:Option Addr}{n:Nat}{ps:List Pc}(g:GRow pcC 1 S1 w a n ps)(h:∀p∈ps,∃S,IRow .u8 S w p.a p.n p.xs∧p.n≤p.c):PRow .u8 (fun _=>True) w a n ps:=by
  have e2:ps.flatMap pcC=ps.map Pc.val:=by
    clear g h
    induction ps with
    |nil=>rfl
    |cons p ps ih=>rw[List.flatMap_cons,List.map_cons,ih];rfl
  have hr:=g.row;rw[e2]at hr;exact⟨hr.weaken fun _ _ _=>trivial,g.len,fun p hp=>let ⟨_,h1,h2⟩:=h p hp;⟨h1.weaken fun _ _ _=>trivial,h2⟩⟩
theorem prTwo{S1 S2 S3:Nat→Prop}{w:World}{a:Option Addr}{p q:Pc}(g:GRow pcC 1 S1 w a 2 [p,q])(h1:IRow .u8 S2 w p.a p.n p.xs)(h2:IRow .u8 S3 w q.a q.n q.xs)(h3:p.n≤p.c)(h4:q.n≤q.c):PRow .u8 (fun _=>True) w a 2 [p,q]:=
  prOf g fun r hr=>by
    simp only[List.mem_cons,List.not_mem_nil,or_false]at hr;rcases hr with rfl|rfl
    · exact⟨_,h1,h3⟩
    · exact⟨_,h2,h4⟩
theorem frEncode{S0:Nat→Prop}(a:Option Addr)(n c:Nat)(ps:List Pc)(w:World)(P0:PRow .u8 S0 w a n ps)(h8:n≤8)(h4:∀p∈ps,p.xs.length≤400)(hT:(S.frmS (ps.map Pc.xs)).length≤2000):
    Calls prog 42 #[.agg #[.int .u8 5, .int .u64 0, .slice none 0 0, .slice a n c]] w (Gv w (fun q:Option Addr×Nat×Nat=> .tuple #[.slice q.1 q.2.1 q.2.2, .int .i64 0]) (fun q=>[.iown 5 .u8 q.1 q.2.1 q.2.2 (S.frmS (ps.map Pc.xs))]) fun q=>q.2.1=(S.frmS (ps.map Pc.xs)).length∧q.2.1≤q.2.2):=by
  refine J.enter 13 func42 rfl rfl ?_;refine run ?_;refine J.box rfl rfl rfl fun b1=>?_
  refine run ?_;refine J.call rfl rfl (fun w' M=>frWrite a n c ps w' (P0.ext M.ext) h8 h4 hT) fun q hq=>?_
  obtain⟨qa,qn,qc⟩:=q;dsimp only at hq⊢;refine J.fact (p:=qn≤qc) (.iown 5 .u8 qa qn qc (S.frmS (ps.map Pc.xs))) (fun _ _ h=>(iown_len h).2) fun hcc=>?_
  refine run ?_;exact J.finG (qa,qn,qc) rfl ⟨hq,hcc⟩ sb
theorem framed08{S0 S1 S2:Nat→Prop}(z:OpA)(a:Option Addr)(n c:Nat)(a2:Option Addr)(n2 c2:Nat)(ys:List Int)(TK:TypeId)(w:World)(K0:Kst w TK)(R:OpR S0 w z)(h0:S.checkE z.o=0)(hv:S.verE z.o=0)(R0:IRow .u8 S1 w a n (S.encS z.o))(R1:IRow .u8 S2 w a2 n2 ys)(hc:n≤c)(hc2:n2≤c2)(hn:n2=n):
    Calls prog 13 #[.agg (opC z).toArray, .agg (ints .u8 (S.sha (S.encS z.o))).toArray, .slice a n c, .slice a2 n2 c2] w (Ret w fun v _=>v= .bool true):=by
  have hl0:=R.row.len;obtain⟨j1,j2⟩:=S.jd_enc R.ok.rng hl0 h0;rw[if_pos hv]at j1;obtain⟨j2,j3⟩:=j2 hv;have h400:=S.enc_400 hl0 h0;have l0:=R0.len;have l1:=R1.len;have hB:=R1.bd;have hsh:=S.sha_arr (S.encS z.o);have hjy:=S.jdI_arr ys;have hT:=S.frm_two (x:=S.encS z.o) (y:=ys) h400 (by omega);have h4:∀x∈[S.encS z.o,ys],x.length≤400:=fun x hx=>by
    simp only[List.mem_cons,List.not_mem_nil,or_false]at hx;rcases hx with rfl|rfl<;>omega
  have h4p:∀p∈[(⟨a,n,c,S.encS z.o⟩:Pc),⟨a2,n2,c2,ys⟩],p.xs.length≤400:=fun p hp=>by
    simp only[List.mem_cons,List.not_mem_nil,or_false]at hp;rcases hp with rfl|rfl<;>dsimp only<;>omega
  refine J.enter 116 func13 rfl rfl ?_;refine run ?_;refine J.box rfl rfl rfl fun b4=>?_
  refine J.box rfl rfl rfl fun b5=>?_
  refine run ?_;refine J.bnG (vs:=[.slice a n c, .slice a2 n2 c2]) pcC [⟨a,n,c,S.encS z.o⟩,⟨a2,n2,c2,ys⟩] (fun _=>rfl) rfl rfl rfl (by intro v hv;simp only[List.mem_cons,List.not_mem_nil,or_false]at hv;rcases hv with rfl|rfl<;>rfl) fun bb=>?_
  refine run ?_;refine J.call rfl rfl (fun w' M=>(RG.own' w' M).elim fun _ g=>frEncode _ 2 2 _ w' (prTwo (p:=⟨a,n,c,S.encS z.o⟩) (q:=⟨a2,n2,c2,ys⟩) g (R0.ext M.ext) (R1.ext M.ext) hc hc2) (by decide) h4p hT) fun u hu=>?_
  obtain⟨ua,un,uc⟩:=u;dsimp only at hu⊢;obtain⟨hu1,hu2⟩:=hu;rw[show List.map Pc.xs [(⟨a,n,c,S.encS z.o⟩:Pc),⟨a2,n2,c2,ys⟩]=[S.encS z.o,ys]from rfl];refine run ?_;refine J.call rfl rfl (fun w' M=>(RI.own' (a:=ua) w' M).elim fun _ k=>frParse ua un uc [S.encS z.o,ys] w' k hu2 (Nat.le_of_ble_eq_true rfl) h4 hT) fun q hq=>?_
  obtain⟨qa,qn,qc,ps⟩:=q;obtain⟨hq1,hq2⟩:=hq;dsimp only at hq1 hq2⊢;obtain rfl:qn=2:=hq2;obtain⟨p1,p2,rfl,e1,e2⟩:=S.map_two hq1;refine J.fact (p:=2≤qc) (.gown pcC 1 38 qa 2 qc [p1,p2]) (fun _ _ h=>(gown_e h).1.capn) fun hqc=>?_
  have hp3:∀p∈[p1,p2],p.xs.length≤1000:=fun p hp=>by
    simp only[List.mem_cons,List.not_mem_nil,or_false]at hp;rcases hp with rfl|rfl
    · rw[e1];omega
    · rw[e2];omega
  refine run ?_;refine J.alloc rfl fun b11=>?_
  refine run ?_;refine J.call rfl rfl (fun w' M=>(prOwn (e:=5) (RG.own' (a:=qa)) w' M).elim fun _ k=>manyT qa 2 qc [p1,p2] TK w' (K0.ext M.ext) k hqc hp3 (by decide)) fun v hv1=>?_
  obtain⟨va,vn,vc⟩:=v;dsimp only at hv1⊢;obtain rfl:vn=2:=hv1;rw[show List.map (fun p:Pc=>S.jdV p.xs) [p1,p2]=[S.jdV p1.xs,S.jdV p2.xs]from rfl,e1,e2,j1];have hz1:[p1,p2][(0:Int).toNat]? =some p1:=rfl;refine run ?_;refine J.call rfl rfl (fun w' M=>(prOwn (e:=5) (RG.own' (a:=qa)) w' M).elim fun _ k=>judgeT p1.a p1.n p1.c p1.xs TK w' (K0.ext M.ext) (k.each p1 List.mem_cons_self).1 (k.each p1 List.mem_cons_self).2 (by have:=(k.each p1 List.mem_cons_self).1.len;have:=hp3 p1 List.mem_cons_self;omega)) fun x1 hx1=>?_
  rw[e1]at hx1;rw[e1,j1,j2,j3];rw[j2]at hx1;obtain⟨xa,xc⟩:=x1;dsimp only at hx1⊢;refine run ?_;refine J.alloc rfl fun b15=>?_
  refine J.alloc rfl fun b16=>?_
  refine run ?_;refine J.call rfl rfl (fun w' M=>judgeT a2 n2 c2 ys TK w' (K0.ext M.ext) (R1.ext M.ext) hc2 (by omega)) fun x2 hx2=>?_
  obtain⟨ya,yc⟩:=x2;dsimp only at hx2⊢;refine run ?_;refine J.alloc rfl fun b18=>?_
  refine J.alloc rfl fun b19=>?_
  refine run ?_;refine J.spn rfl rfl rfl (fun c=>absurd j1 c) (fun _=>?_);refine run ?_;refine J.spn rfl rfl rfl (fun c=>absurd rfl c) (fun _=>?_);refine run ?_;refine J.spd rfl rfl rfl (fun c=>absurd rfl c) (fun _=>?_);refine run ?_;refine J.callp rfl rfl (fun w' M=>(RW.row' (a:=xa) w' M).elim fun _ k=>sameO z.o z.o R.ok R.ok xa z.pa xc z.pc w' k (R.row.ext M.ext)) ?_;rw[show decide (S.SameO z.o z.o)=true from decide_eq_true ((S.sameO_eq (a:=z.o) (b:=z.o) hl0 hl0).2 rfl)];refine run ?_;refine J.callp rfl rfl (fun w' M=>sameBytes a n c _ a2 n2 c2 ys w' (R0.ext M.ext) (R1.ext M.ext) (by omega) (by omega)) ?_;refine run ?_;refine J.ifd rfl (fun d1=>?_) (fun d1=>?_)
  · have f1:S.jdV ys=0:=by rw[←d1];exact j1
    have f2:S.jdI ys=S.sha (S.encS z.o):=by rw[←d1];exact j3
    rw[f1];refine run ?_;exact J.fin (congrArg _ (decide_eq_true f2))
  refine run ?_;refine J.spn rfl rfl rfl (fun d2=>?_) (fun d2=>?_)
  · refine run ?_
    exact J.fin rfl
  refine run ?_;refine J.callp rfl rfl (fun w' M=>(RW.row' (a:=ya) w' M).elim fun _ k=>sameO (S.jdO ys) z.o (S.jdO_ok hB).1 R.ok ya z.pa yc z.pc w' k (R.row.ext M.ext)) ?_;rw[show decide (S.SameO (S.jdO ys) z.o)=false from decide_eq_false (S.other hl0 hB d1 d2)];refine run ?_;exact J.fin rfl
instance:Ents prog 4:=⟨.mk func4 (by kernel_rfl) rfl⟩
instance:Ents prog 5:=⟨.mk func5 (by kernel_rfl) rfl⟩
instance:Ents prog 7:=⟨.mk func7 (by kernel_rfl) rfl⟩
instance:Ents prog 9:=⟨.mk func9 (by kernel_rfl) rfl⟩
instance:Ents prog 10:=⟨.mk func10 (by kernel_rfl) rfl⟩
instance:Ents prog 11:=⟨.mk func11 (by kernel_rfl) rfl⟩
instance:Ents prog 12:=⟨.mk func12 (by kernel_rfl) rfl⟩
instance:Ents prog 13:=⟨.mk func13 (by kernel_rfl) rfl⟩
section
variable{S0:Nat→Prop}{w0:World}{L:List Ent}{P:Program}{ops:Array Oper}{K:List Value→World→Prop}{rest:List (Oper×Kd)}{l l':List Value}{m:Md}{d:Tmp}{ty xt yt:TypeId}{pos:String}{af:Array Edge}{kd:Kd}{x y:Operand}{p q:Int}{k:IntKind}
theorem J.xr(hk:pureK kd=true)(hx:ev l x= .int k p)(hy:ev l y= .int k q)(kk:J S0 w0 L (RY S0 w0 m P ops K rest l'))(ha:0≤p∧p<2 ^ k.bits)(hb:0≤q∧q<2 ^ k.bits)(hs:k.signed=false:=by rfl)(hl:l.set d (.int k (ixor p q))=l':=by dsimp only[List.set]):J S0 w0 L (RY S0 w0 m P ops K ((⟨some d, .binOp .xor xt x y yt,ty,pos,af,none⟩,kd)::rest) l):=
  J.pur hk (fun _=>D.bxor hx hy hs ha hb) kk hl
end
theorem ixor_8{a b:Int}(ha:0≤a∧a<256)(hb:0≤b∧b<256):0≤ixor a b∧ixor a b<256:=by
  have h:=Nat.xor_lt_two_pow (n:=8) (x:=a.toNat) (y:=b.toNat) (by omega) (by omega);unfold ixor;omega
theorem rng_ok{o:S.OpV}(hr:o.rng)(h:¬(20<o.n∨100<o.key.size∨100<o.t.size)):o.ok:=⟨hr.au,hr.st,hr.k,hr.vk,hr.num,hr.bits,hr.e,hr.s,by omega,by omega,by omega⟩
theorem cat_two(p q:Pc):cat [p,q]=p.xs++q.xs:=by simp[cat]
theorem enc_cut(o:S.OpV):S.msgS o++(S.encS o).drop (S.msgS o).length=S.encS o:=by
  unfold S.encS;rw[List.append_assoc,List.drop_left]
theorem topSign{S0:Nat→Prop}(x:Int)(hx:0≤x∧x<4294967296)(o:S.OpV)(hr:o.rng)(pa:Option Addr)(pc:Nat)(i:Int)(y:Int)(hy:0≤y∧y<256)(TK:TypeId)(w:World)(K0:Kst w TK)(D0:WRow .u8 32 S0 w pa o.n o.ids)(hc:o.n≤pc):
    Calls prog 3 #[.int .u32 x, .agg (opC ⟨o,pa,pc⟩).toArray, .int .i64 i, .int .u8 y] w (Ret w fun v _=>v= .bool true):=by
  refine J.enter 127 func3 rfl rfl ?_;refine run ?_;refine J.box rfl rfl rfl fun b5=>?_
  refine run ?_;refine J.callp rfl rfl (fun w' M=>great o pa pc w') ?_;refine run ?_;refine J.ifd rfl (fun c0=>?_) (fun c0=>?_)
  · refine run ?_
    exact J.fin rfl
  have ho:=rng_ok hr c0;clear c0;refine run ?_;refine J.callp rfl rfl (fun w' M=>alive08 TK w' (K0.ext M.ext)) ?_;refine run ?_;refine J.call rfl rfl (fun w' M=>sgV x hx ⟨o,pa,pc⟩ TK w' (K0.ext M.ext) ⟨ho,D0.ext M.ext,hc⟩) fun q hq=>?_
  obtain⟨qa,qc⟩:=q;dsimp only at hq⊢;refine run ?_;refine J.alloc rfl fun b9=>?_
  refine run ?_;refine J.ifn rfl (fun e1=>?_) (fun e1=>?_)
  · have hs:S.signE x o=2∨S.signE x o=4∨S.signE x o=32∨S.signE x o=8:=by
      by_cases h:S.secE x=0
      · exact .inr (S.sign_err e1 h)
      · exact .inl (by unfold S.signE;rw[if_neg h])
    rcases hs with e|e|e|e<;>rw[e]
    · refine run ?_
      exact J.fin rfl
    · refine run ?_
      exact J.fin rfl
    · refine run ?_
      exact J.fin rfl
    · refine run ?_
      exact J.fin rfl
  have hl:=D0.len;obtain⟨g1,g2,g3,g4,g5,g6,g7⟩:=S.sign_good ho hl e1;obtain⟨n1,n2,n3,n4,n5⟩:=S.sgn_jd ho hl e1;have hx2:=(S.signE_zero.1 e1).1;have es:=S.signS_eq e1;have he:(S.signS x o).e=S.sigE x (S.msgS (S.signS x o)):=by rw[g5,es]
  have hs:(S.signS x o).s=S.sigS x (S.msgS (S.signS x o)):=by rw[g5,es]
  have hv:S.verS (S.pubS x) (S.msgS (S.signS x o)) (S.sigE x (S.msgS (S.signS x o))) (S.sigS x (S.msgS (S.signS x o)))=0:=by rw[←he,←hs,g5];exact g6
  have hge:=S.enc_ge (S.signS x o);clear es g6;refine run ?_;refine J.call rfl rfl (fun w' M=>(RW.row' (a:=qa) w' M).elim fun _ k=>msgT ⟨S.signS x o,qa,qc⟩ w' (opR_sig ho hq k) g4) fun u hu=>?_
  obtain⟨ma,mn,mc⟩:=u;dsimp only at hu⊢;obtain⟨hm1,hm2⟩:=hu;refine run ?_;refine J.call rfl rfl (fun w' M=>(RW.row' (a:=qa) w' M).elim fun _ k=>encT ⟨S.signS x o,qa,qc⟩ w' (opR_sig ho hq k) g3) fun u hu=>?_
  obtain⟨ba,bn,bc⟩:=u;dsimp only at hu⊢;obtain⟨hb1,hb2⟩:=hu;refine J.fact (p:=Bd .u8 (S.encS (S.signS x o))) (.iown 5 .u8 ba bn bc (S.encS (S.signS x o))) (fun _ _ h=>iown_bd h) fun hbd=>?_
  refine run ?_;refine J.spd rfl rfl rfl (fun c=>absurd c (by omega)) (fun _=>?_);refine run ?_;refine J.callp rfl rfl (fun w' M=>(RW.row' (a:=qa) w' M).elim fun _ k=>(RI.own' (a:=ba) w' M).elim fun _ k2=>read08 ⟨S.signS x o,qa,qc⟩ ba bn bc w' (opR_sig ho hq k) k2 hb2 (by omega) g3) ?_;refine run ?_;refine J.callp rfl rfl (fun w' M=>(RI.own' (a:=ma) w' M).elim fun _ k=>signed08 x hx2 ⟨S.signS x o,qa,qc⟩ ma mn mc (S.msgS (S.signS x o)) TK w' (K0.ext M.ext) k hm2 (by omega) g1 he hs hv) ?_;refine run ?_;refine J.callp rfl rfl (fun w' M=>(RW.row' (a:=qa) w' M).elim fun _ k=>idO (S.signS x o) (S.signS_ok x o ho) qa qc TK w' (K0.ext M.ext) k hq) ?_;rw[if_pos g3,g3];have hsh:=S.sha_arr (S.encS (S.signS x o));refine run ?_;refine J.alloc rfl fun b15=>?_
  refine run ?_;obtain⟨ra,era⟩:=ex (subA ba mn 1 bc);obtain⟨rn,ern⟩:=ex (bn - mn);obtain⟨rc,erc⟩:=ex (bc - mn);rw[show subA ba ((mn:Nat):Int).toNat 1 bc=ra from era.symm,show((bn:Nat):Int).toNat - ((mn:Nat):Int).toNat=rn from ern.symm,show bc - ((mn:Nat):Int).toNat=rc from erc.symm];refine J.bnG (vs:=[.slice ma mn mc, .slice ra rn rc]) pcC [⟨ma,mn,mc,S.msgS (S.signS x o)⟩,⟨ra,rn,rc,(S.encS (S.signS x o)).drop (S.msgS (S.signS x o)).length⟩] (fun _=>rfl) rfl rfl rfl (by intro v hv;simp only[List.mem_cons,List.not_mem_nil,or_false]at hv;rcases hv with rfl|rfl<;>rfl) fun bb=>?_
  refine run ?_;have hcat:cat [(⟨ma,mn,mc,S.msgS (S.signS x o)⟩:Pc),⟨ra,rn,rc,(S.encS (S.signS x o)).drop (S.msgS (S.signS x o)).length⟩]=S.encS (S.signS x o):=by rw[cat_two];exact enc_cut _
  have hp6:∀p∈[(⟨ma,mn,mc,S.msgS (S.signS x o)⟩:Pc),⟨ra,rn,rc,(S.encS (S.signS x o)).drop (S.msgS (S.signS x o)).length⟩],p.xs.length≤10000:=fun p hp=>by
    simp only[List.mem_cons,List.not_mem_nil,or_false]at hp;rcases hp with rfl|rfl
    · dsimp only;omega
    · dsimp only;rw[List.length_drop];omega
  refine J.callp rfl rfl (fun w' M => (RG.own' (a := some ⟨bb, 0, none⟩) w' M).elim fun _ g => (RI.own' (a := ma) w' M).elim fun _ k => (RI.own' (a := ba) w' M).elim fun _ k2 => by
    have R2 := k2.rest mn bc (by omega) hb2
    rw [← era, ← ern, hm1] at R2
    have := pieces _ _ 2 2 TK w' (K0.ext M.ext) (prTwo g k R2 hm2 (by dsimp only; omega)) (by decide) hp6 (by rw [hcat]; omega)
    rwa [hcat] at this) ?_
  refine run ?_;refine J.alloc rfl fun b17=>?_
  refine run ?_;refine J.ifd rfl (fun c=>absurd rfl c) (fun _=>?_);refine run ?_;refine J.b0I .u8 rfl fun b20=>?_
  refine run ?_;refine J.apI rfl rfl (RI.own' (a:=ba)) fun ca cc=>?_
  rw[Nat.zero_add,List.nil_append];refine J.fact (p:=bn≤cc) (.iown 5 .u8 ca bn cc (S.encS (S.signS x o))) (fun _ _ h=>(iown_len h).2) fun hcc=>?_
  refine run ?_;refine J.spd rfl rfl rfl (fun c1=>?_) (fun c1=>?_)
  rotate_left
  · skip
    refine run ?_;refine J.callp rfl rfl (fun w' M=>(RW.row' (a:=qa) w' M).elim fun _ k=>(RI.own' (a:=ba) w' M).elim fun _ k2=>(RI.own' (a:=ca) w' M).elim fun _ k3=>framed08 ⟨S.signS x o,qa,qc⟩ ba bn bc ca bn cc _ TK w' (K0.ext M.ext) (opR_sig ho hq k) g3 g7 k2 k3 hb2 hcc rfl) ?_;refine run ?_;exact J.fin rfl
  refine run ?_;refine J.ifd rfl (fun c2=>?_) (fun c2=>?_)
  rotate_left
  · skip
    refine run ?_;refine J.callp rfl rfl (fun w' M=>(RW.row' (a:=qa) w' M).elim fun _ k=>(RI.own' (a:=ba) w' M).elim fun _ k2=>(RI.own' (a:=ca) w' M).elim fun _ k3=>framed08 ⟨S.signS x o,qa,qc⟩ ba bn bc ca bn cc _ TK w' (K0.ext M.ext) (opR_sig ho hq k) g3 g7 k2 k3 hb2 hcc rfl) ?_;refine run ?_;exact J.fin rfl
  have hv8:=hbd.get i.toNat;have hv8:0≤(S.encS (S.signS x o)).getD i.toNat 0∧(S.encS (S.signS x o)).getD i.toNat 0<256:=hv8;have hx8:=ixor_8 hv8 hy;refine run ?_;refine J.xr rfl rfl rfl ?_ hv8 hy;refine run ?_;refine run ?_;refine J.callp rfl rfl (fun w' M=>(RW.row' (a:=qa) w' M).elim fun _ k=>(RI.own' (a:=ba) w' M).elim fun _ k2=>(RI.own' (a:=ca) w' M).elim fun _ k3=>framed08 ⟨S.signS x o,qa,qc⟩ ba bn bc ca bn cc _ TK w' (K0.ext M.ext) (opR_sig ho hq k) g3 g7 k2 k3 hb2 hcc rfl) ?_;refine run ?_;exact J.fin rfl
end W
end Go.Proofs.YtfoaecjggdaieaaDoor
