/-
  Part 1 of the lemmas of these laws: TopDag.
-/
import Derived.WalkKit
import Derived.Deep.LoopGhost
import Derived.Deep.Quiet
import Derived.Laws.OwnMore
import Derived.Laws.MakeOwn
import Derived.Laws.Cover3
import Derived.DeepKeys
import Derived.Laws.BytesArg
import Derived.Laws.RangeAny
import Derived.Laws.IdiomStrings
import GoSem.Extern.BytealgCompare
import Derived.Test.YtjjbdaiioociaaaGreatDoorChecked
import Derived.Test.YtjjbdaiioociaaaGreatDoorRows
import Derived.Test.YtjjbdaiioociaaaGreatDoorTie
import Derived.Test.YtjjbdaiioociaaaGreatDoorCards
import Derived.ProofKit
import Derived.LaidMore
import Derived.OpenShut
import Derived.Below
import Derived.Carry
import Derived.SevenTiedAt
import Derived.DataReads
import Derived.Lib.AppendZerosOnto
import Derived.Lib.Overlaps
import Derived.WideKeyArr
import Derived.RangeFuncNested
import Derived.RangeFuncLeaves
import Derived.TacticsIn
set_option linter.unusedVariables false
set_option linter.unusedSimpArgs false
open Go.Proofs.Tryz
namespace Go.Proofs.YtjjbdaiioociaaaGreatDoor
namespace G
open Go.RowKit
abbrev fr(l:List Value):Act:=⟨l.toArray,[]⟩
def putL(d:Option Tmp)(v:Value)(l:List Value):List Value:=
 match d with
 |some d=>l.set d v
 |none=>l
theorem put_fr(l:List Value)(d:Option Tmp)(v:Value):(fr l).put d v=fr (putL d v l):=by
 cases d<;>simp[Act.put,putL,fr]
def ev(l:List Value):Operand→Value
 | .tmp t=>l.getD t undef
 | .const v=>v
 | .global g=> .pointer (some ⟨g,0,none⟩)
 | .func f=> .func (.func f) #[] #[]
theorem eval_fr(l:List Value):(fr l).eval=ev l:=by
 funext x;cases x<;>simp[Act.eval,ev]
section
variable{P:Program}{ops:Array Oper}{K:List Value→World→Prop}
def RS(P:Program)(ops:Array Oper)(K:List Value→World→Prop):List Oper→List Value→World→Prop
 |[],l,w=>K l w
 |o::rest,l,w=>
  if Region.wanted o (yielded ops l.toArray)then
   o.wp P (fr l) w (fun a' w'=>∃l',a'=fr l'∧RS P ops K rest l' w') (fun _ _ _=>False)
  else RS P ops K rest (putL o.dst undef l) w
theorem upon_mono{o:Oper}{a:Act}{n n':Act→World→Prop}{Q Q':Exit→Act→World→Prop}(hn:∀a w,n a w→n' a w)(hq:∀e a w,Q e a w→Q' e a w)
  {r:Result Next}(h:o.upon P a n Q r):o.upon P a n' Q' r:=by
 cases r with
 |ok x w=>
  cases x<;>simp only[Oper.upon]at h⊢
  case enter f args=>
   refine h.mono fun e w' he=>?_
   cases e
   ·exact hn _ _ he
   ·exact hq _ _ _ he
   ·obtain⟨a,w,h⟩:=he;exact⟨a,w,hq _ _ _ h⟩
  case row r args=>exact h.mono fun v w' he=>hn _ _ he
  all_goals first|exact hn _ _ h|exact h
 |halt x w=>cases x<;>simp only[Oper.upon]at h⊢ <;>first|exact hq _ _ _ h|exact h
theorem rs_list{Q:Exit→Act→World→Prop}:∀(rest:List Oper) (l:List Value) (w:World),
  RS P ops (fun l w=>Q .normal (fr l) w) rest l w→wpList P ops Q rest (fr l) w
 |[],_,_,h=>h
 |o::rest,l,w,h=>by
  unfold RS at h;unfold wpList;split
  ·rename_i hw;rw[if_pos hw]at h;refine .inl ?_;unfold Oper.wp at*;refine upon_mono ?_ (fun _ _ _ h=>h.elim) h;rintro a w ⟨l',rfl,h⟩;exact rs_list rest l' w h
  ·rename_i hw;rw[if_neg hw]at h;rw[put_fr];exact rs_list rest _ w h
theorem region{id:Nat}{l0:List Oper}{Q:Exit→Act→World→Prop}{l:List Value}{w:World}
  (h:RS P l0.toArray (fun l w=>Q .normal (fr l) w) l0 l w):(Code.region id l0.toArray false).wp P Q (fr l) w:=
 wp_region_lit (rs_list _ _ _ h)
variable{rest:List Oper}{l:List Value}{w w':World}
theorem RS.nil(h:K l w):RS P ops K [] l w:=h
theorem RS.v{o:Oper}{v:Value}(hg:o.guard=none)(hr:(execOp (ev l) o).run P w= .ok (.value v) w')(k:RS P ops K rest (putL o.dst v l) w'):RS P ops K (o::rest) l w:=by
 unfold RS;rw[if_pos (by simp[Region.wanted,hg])];unfold Oper.wp;rw[eval_fr,hr];exact⟨_,put_fr _ _ _,k⟩
theorem RS.u{o:Oper}(hg:o.guard=none)(hd:o.dst=none)(hr:(execOp (ev l) o).run P w= .ok .skip w')(k:RS P ops K rest l w'):RS P ops K (o::rest) l w:=by
 unfold RS;rw[if_pos (by simp[Region.wanted,hg])];unfold Oper.wp;rw[eval_fr,hr];refine⟨l,?_,k⟩;rw[put_fr,hd];rfl
theorem RS.want{d:Option Tmp}{op:Op}{ty:TypeId}{pos:String}{af:Array Edge}{j:Nat}{t:Bool}(hv:yielded ops l.toArray j=some t)
  (k:RS P ops K (⟨d,op,ty,pos,af,none⟩::rest) l w):RS P ops K (⟨d,op,ty,pos,af,some (j,t)⟩::rest) l w:=by
 unfold RS at k⊢;rw[if_pos (by simp[Region.wanted,hv])];rw[if_pos (by simp[Region.wanted])]at k;exact k
theorem RS.skip{d:Option Tmp}{op:Op}{ty:TypeId}{pos:String}{af:Array Edge}{j:Nat}{t:Bool}(hv:(yielded ops l.toArray j==some t)=false)
  (k:RS P ops K rest (putL d undef l) w):RS P ops K (⟨d,op,ty,pos,af,some (j,t)⟩::rest) l w:=by
 unfold RS;rw[if_neg (by simp only[Region.wanted,hv];exact Bool.false_ne_true)];exact k
theorem set_self{l:List Value}{s:Nat}{v:Value}(h:l.getD s undef=v)(hs:s<l.length):l.set s v=l:=by
 apply List.ext_getElem
 ·simp
 intro i h1 h2;rw[List.getElem_set];split
 ·subst s;rw[←h];simp[List.getD,List.getElem?_eq_getElem hs]
 ·rfl
theorem RS.split{r:List Oper}(s:Nat){b:Bool}(hs:s<l.length)(h:l.getD s undef= .bool b)(ht:b=true→RS P ops K r (l.set s (.bool true)) w)(hf:b=false→RS P ops K r (l.set s (.bool false)) w):
  RS P ops K r l w:=by
 cases hb:b
 ·have:=hf hb;rwa[set_self (by rw[h,hb]) hs]at this
 ·have:=ht hb;rwa[set_self (by rw[h,hb]) hs]at this
variable{d:Tmp}{ty:TypeId}{pos:String}{af:Array Edge}
theorem RS.move{x:Operand}{v:Value}(hv:ev l x=v){l':List Value}(k:RS P ops K rest l' w)(hl:l.set d v=l':=by dsimp only[List.set]):RS P ops K (⟨some d, .move x,ty,pos,af,none⟩::rest) l w:=
 RS.v rfl (by simp only[execOp];rw[hv];rfl) (by subst hl;exact k)
theorem RS.assign{x:Operand}{v:Value}(hv:ev l x=v){l':List Value}(k:RS P ops K rest l' w)(hl:l.set d v=l':=by dsimp only[List.set]):RS P ops K (⟨some d, .assign x,ty,pos,af,none⟩::rest) l w:=
 RS.v rfl (by simp only[execOp];rw[hv];rfl) (by subst hl;exact k)
theorem RS.pick{c x y:Operand}{b:Bool}{v:Value}(hc:ev l c= .bool b)(hv:(if b then ev l x else ev l y)=v){l':List Value}(k:RS P ops K rest l' w)(hl:l.set d v=l':=by dsimp only[List.set]):
  RS P ops K (⟨some d, .pick c x y,ty,pos,af,none⟩::rest) l w:=
 RS.v rfl (v:=if b then ev l x else ev l y) (by simp only[execOp];rw[hc];cases b<;>rfl) (by subst hl;rw[hv];exact k)
theorem RS.o{op:Op}{v:Value}(hr:(execOp (ev l) ⟨some d,op,ty,pos,af,none⟩).run P w= .ok (.value v) w'){l':List Value}(k:RS P ops K rest l' w')(hl:l.set d v=l':=by dsimp only[List.set]):
  RS P ops K (⟨some d,op,ty,pos,af,none⟩::rest) l w:=RS.v rfl hr (by subst hl;exact k)
theorem RS.extract{x:Operand}{i:Nat}{vs:Array Value}{v:Value}(hx:ev l x= .tuple vs)(hv:vs[i]? =some v){l':List Value}(k:RS P ops K rest l' w)(hl:l.set d v=l':=by dsimp only[List.set]):
  RS P ops K (⟨some d, .extract x i,ty,pos,af,none⟩::rest) l w:=
 RS.v rfl (by simp only[execOp];rw[hx];simp only[Instr.extract,hv];rfl) (by subst hl;exact k)
end
/-! ### wraps -/
theorem W.i64{n:Int}(h: -9223372036854775808≤n∧n≤9223372036854775807):IntKind.i64.wrap n=n:=IntWalk.i64_in n h
theorem W.u8{n:Int}(h:0≤n∧n≤255):IntKind.u8.wrap n=n:=IntWalk.u8_in n h
theorem W.u32{n:Int}(h:0≤n∧n≤4294967295):IntKind.u32.wrap n=n:=IntWalk.u32_in n h
theorem W.u64{n:Int}(h:0≤n∧n≤18446744073709551615):IntKind.u64.wrap n=n:=IntWalk.u64_in n h
theorem W.u8m(n:Int):IntKind.u8.wrap n=n % 256:=by simp[IntKind.wrap,IntKind.bits,IntKind.signed]
theorem W.u32m(n:Int):IntKind.u32.wrap n=n % 4294967296:=by simp[IntKind.wrap,IntKind.bits,IntKind.signed]
theorem W.u64m(n:Int):IntKind.u64.wrap n=n % 18446744073709551616:=by simp[IntKind.wrap,IntKind.bits,IntKind.signed]
/-! ### bits of numbers that are not negative -/
def iand(a b:Int):Int:=((a.toNat &&& b.toNat:Nat):Int)
def ior(a b:Int):Int:=((a.toNat ||| b.toNat:Nat):Int)
def ixor(a b:Int):Int:=((a.toNat ^^^ b.toNat:Nat):Int)
theorem ofInt_toNat(n:Nat)(a:Int)(h0:0≤a)(h:a<2 ^ n):(BitVec.ofInt n a).toNat=a.toNat:=by
 rw[BitVec.toNat_ofInt];have e:((2 ^ n:Nat):Int)=(2:Int) ^ n:=by norm_cast
 rw[e,Int.emod_eq_of_lt h0 h]
theorem wrap_nat{k:IntKind}(hk:k.signed=false){n:Nat}(h:n<2 ^ k.bits):k.wrap (n:Int)=n:=by
 have e:((2 ^ k.bits:Nat):Int)=(2:Int) ^ k.bits:=by norm_cast
 simp only[IntKind.wrap,hk,Bool.false_and,Bool.false_eq_true,if_false];rw[←e];exact Int.emod_eq_of_lt (by omega) (by omega)
section
variable{P:Program}{l:List Value}{w:World}{d:Option Tmp}{ty xt yt:TypeId}{pos:String}{af:Array Edge}{g:Option (Nat×Bool)}{x y:Operand}{k:IntKind}{a b c:Int}
theorem bin_run(op:BinOp)(hg:(match op with| .eql| .neq=>false|_=>true)=true∨∃k a k' b,ev l x= .int k a∧ev l y= .int k' b):
  (execOp (ev l) ⟨d, .binOp op xt x y yt,ty,pos,af,g⟩).run P w=((binOp op xt (ev l x) (ev l y)).run P w).andThen fun v w'=> .ok (.value v) w':=by
 simp only[execOp,eqGuard];rcases hg with hg|⟨k,a,k',b,hx,hy⟩
 ·cases op<;>simp at hg<;>simp
 ·rw[hx,hy];cases op<;>simp
theorem D.add(hx:ev l x= .int k a)(hy:ev l y= .int k b)(hw:k.wrap (a+b)=c):(execOp (ev l) ⟨d, .binOp .add xt x y yt,ty,pos,af,g⟩).run P w= .ok (.value (.int k c)) w:=by
 rw[bin_run _ (.inl rfl),hx,hy];simp[binOp,Op.intArith,hw]
theorem D.sub(hx:ev l x= .int k a)(hy:ev l y= .int k b)(hw:k.wrap (a - b)=c):(execOp (ev l) ⟨d, .binOp .sub xt x y yt,ty,pos,af,g⟩).run P w= .ok (.value (.int k c)) w:=by
 rw[bin_run _ (.inl rfl),hx,hy];simp[binOp,Op.intArith,hw]
theorem D.mul(hx:ev l x= .int k a)(hy:ev l y= .int k b)(hw:k.wrap (a*b)=c):(execOp (ev l) ⟨d, .binOp .mul xt x y yt,ty,pos,af,g⟩).run P w= .ok (.value (.int k c)) w:=by
 rw[bin_run _ (.inl rfl),hx,hy];simp[binOp,Op.intArith,hw]
theorem D.quo(hx:ev l x= .int k a)(hy:ev l y= .int k b)(ha:0≤a)(hb:0<b)(hw:k.wrap (a / b)=c):(execOp (ev l) ⟨d, .binOp .quo xt x y yt,ty,pos,af,g⟩).run P w= .ok (.value (.int k c)) w:=by
 have hb':b≠0:=by omega
 have e:a.tdiv b=a / b:=Int.tdiv_eq_ediv_of_nonneg ha;rw[bin_run _ (.inl rfl),hx,hy];simp[binOp,Op.intDiv,hb',e,hw]
theorem D.rem(hx:ev l x= .int k a)(hy:ev l y= .int k b)(ha:0≤a)(hb:0<b):(execOp (ev l) ⟨d, .binOp .rem xt x y yt,ty,pos,af,g⟩).run P w= .ok (.value (.int k (a % b))) w:=by
 have hb':b≠0:=by omega
 have e:a.tmod b=a % b:=Int.tmod_eq_emod_of_nonneg ha;rw[bin_run _ (.inl rfl),hx,hy];simp[binOp,Op.intDiv,hb',e]
theorem D.eq(hx:ev l x= .int k a)(hy:ev l y= .int k b):(execOp (ev l) ⟨d, .binOp .eql xt x y yt,ty,pos,af,g⟩).run P w= .ok (.value (.bool (a==b))) w:=by
 rw[bin_run _ (.inr ⟨_,_,_,_,hx,hy⟩),hx,hy];simp[binOp,Op.intCmp]
theorem D.ne(hx:ev l x= .int k a)(hy:ev l y= .int k b):(execOp (ev l) ⟨d, .binOp .neq xt x y yt,ty,pos,af,g⟩).run P w= .ok (.value (.bool (a != b))) w:=by
 rw[bin_run _ (.inr ⟨_,_,_,_,hx,hy⟩),hx,hy];simp[binOp,Op.intCmp]
theorem D.lt(hx:ev l x= .int k a)(hy:ev l y= .int k b):(execOp (ev l) ⟨d, .binOp .lss xt x y yt,ty,pos,af,g⟩).run P w= .ok (.value (.bool (decide (a<b)))) w:=by
 rw[bin_run _ (.inl rfl),hx,hy];simp[binOp,Op.intCmp]
theorem D.le(hx:ev l x= .int k a)(hy:ev l y= .int k b):(execOp (ev l) ⟨d, .binOp .leq xt x y yt,ty,pos,af,g⟩).run P w= .ok (.value (.bool (decide (a≤b)))) w:=by
 rw[bin_run _ (.inl rfl),hx,hy];simp[binOp,Op.intCmp]
theorem D.gt(hx:ev l x= .int k a)(hy:ev l y= .int k b):(execOp (ev l) ⟨d, .binOp .gtr xt x y yt,ty,pos,af,g⟩).run P w= .ok (.value (.bool (decide (b<a)))) w:=by
 rw[bin_run _ (.inl rfl),hx,hy];simp[binOp,Op.intCmp]
theorem D.ge(hx:ev l x= .int k a)(hy:ev l y= .int k b):(execOp (ev l) ⟨d, .binOp .geq xt x y yt,ty,pos,af,g⟩).run P w= .ok (.value (.bool (decide (b≤a)))) w:=by
 rw[bin_run _ (.inl rfl),hx,hy];simp[binOp,Op.intCmp]
theorem D.shr{yk:IntKind}(hx:ev l x= .int k a)(hy:ev l y= .int yk b)(hb:0≤b∧b≤k.bits):(execOp (ev l) ⟨d, .binOp .shr xt x y yt,ty,pos,af,g⟩).run P w= .ok (.value (.int k (a / 2 ^ b.toNat))) w:=by
 have h1:¬b<0:=by omega
 have h2:min b.toNat k.bits=b.toNat:=by omega
 have e:a.fdiv (2 ^ b.toNat)=a / 2 ^ b.toNat:=Int.fdiv_eq_ediv_of_nonneg _ (Int.pow_nonneg (by decide));rw[bin_run _ (.inl rfl),hx,hy];simp[binOp,Op.shift,h1,h2,e]
theorem D.shl{yk:IntKind}(hx:ev l x= .int k a)(hy:ev l y= .int yk b)(hb:0≤b∧b≤k.bits)(hw:k.wrap (a*2 ^ b.toNat)=c):(execOp (ev l) ⟨d, .binOp .shl xt x y yt,ty,pos,af,g⟩).run P w= .ok (.value (.int k c)) w:=by
 have h1:¬b<0:=by omega
 have h2:min b.toNat k.bits=b.toNat:=by omega
 rw[bin_run _ (.inl rfl),hx,hy];simp[binOp,Op.shift,h1,h2,hw]
theorem D.band(hx:ev l x= .int k a)(hy:ev l y= .int k b)(hk:k.signed=false)(ha:0≤a∧a<2 ^ k.bits)(hb:0≤b∧b<2 ^ k.bits):
  (execOp (ev l) ⟨d, .binOp .and xt x y yt,ty,pos,af,g⟩).run P w= .ok (.value (.int k (iand a b))) w:=by
 have e:=wrap_nat hk (n:=a.toNat &&& b.toNat) (Nat.lt_of_le_of_lt Nat.and_le_left ((Int.toNat_lt ha.1).2 (by push_cast;exact ha.2)));rw[bin_run _ (.inl rfl),hx,hy];simp only[binOp,Op.intBits,ne_eq,not_true_eq_false,if_false,BitVec.toNat_and,ofInt_toNat _ _ ha.1 ha.2,ofInt_toNat _ _ hb.1 hb.2,e];rfl
theorem D.bor(hx:ev l x= .int k a)(hy:ev l y= .int k b)(hk:k.signed=false)(ha:0≤a∧a<2 ^ k.bits)(hb:0≤b∧b<2 ^ k.bits):
  (execOp (ev l) ⟨d, .binOp .or xt x y yt,ty,pos,af,g⟩).run P w= .ok (.value (.int k (ior a b))) w:=by
 have e:=wrap_nat hk (n:=a.toNat ||| b.toNat) (Nat.or_lt_two_pow ((Int.toNat_lt ha.1).2 (by push_cast;exact ha.2)) ((Int.toNat_lt hb.1).2 (by push_cast;exact hb.2)));rw[bin_run _ (.inl rfl),hx,hy];simp only[binOp,Op.intBits,ne_eq,not_true_eq_false,if_false,BitVec.toNat_or,ofInt_toNat _ _ ha.1 ha.2,ofInt_toNat _ _ hb.1 hb.2,e];rfl
theorem D.bxor(hx:ev l x= .int k a)(hy:ev l y= .int k b)(hk:k.signed=false)(ha:0≤a∧a<2 ^ k.bits)(hb:0≤b∧b<2 ^ k.bits):
  (execOp (ev l) ⟨d, .binOp .xor xt x y yt,ty,pos,af,g⟩).run P w= .ok (.value (.int k (ixor a b))) w:=by
 have e:=wrap_nat hk (n:=a.toNat ^^^ b.toNat) (Nat.xor_lt_two_pow ((Int.toNat_lt ha.1).2 (by push_cast;exact ha.2)) ((Int.toNat_lt hb.1).2 (by push_cast;exact hb.2)));rw[bin_run _ (.inl rfl),hx,hy];simp only[binOp,Op.intBits,ne_eq,not_true_eq_false,if_false,BitVec.toNat_xor,ofInt_toNat _ _ ha.1 ha.2,ofInt_toNat _ _ hb.1 hb.2,e];rfl
def sand(k:IntKind)(a b:Int):Int:=k.wrap ((BitVec.ofInt k.bits a &&& BitVec.ofInt k.bits b).toNat:Nat)
theorem D.sand(hx:ev l x= .int k a)(hy:ev l y= .int k b):(execOp (ev l) ⟨d, .binOp .and xt x y yt,ty,pos,af,g⟩).run P w= .ok (.value (.int k (sand k a b))) w:=by
 rw[bin_run _ (.inl rfl),hx,hy];simp[binOp,Op.intBits,G.sand]
theorem D.not{b:Bool}(hx:ev l x= .bool b):(execOp (ev l) ⟨d, .unOp .not xt x,ty,pos,af,g⟩).run P w= .ok (.value (.bool (!b))) w:=by
 simp only[execOp];rw[hx];simp[Op.unary]
theorem D.neg(hx:ev l x= .int k a)(hw:k.wrap (0 - a)=c):(execOp (ev l) ⟨d, .unOp .neg xt x,ty,pos,af,g⟩).run P w= .ok (.value (.int k c)) w:=by
 simp only[execOp];rw[hx];simp[Op.unary,Op.intArith]at hw⊢;exact hw
theorem D.inv(hx:ev l x= .int .u32 a)(ha:0≤a∧a<4294967296):(execOp (ev l) ⟨d, .unOp .xor xt x,ty,pos,af,g⟩).run P w= .ok (.value (.int .u32 (4294967295 - a))) w:=by
 obtain⟨n,rfl⟩:=Int.eq_ofNat_of_zero_le ha.1;have hn:n<2 ^ 32:=by omega
 have e:(BitVec.ofInt IntKind.u32.bits 4294967295 ^^^ BitVec.ofInt IntKind.u32.bits (n:Int)).toNat=4294967295 - n:=by
  show(BitVec.ofInt 32 4294967295 ^^^ BitVec.ofInt 32 (n:Int)).toNat=4294967295 - n;have e1:BitVec.ofInt 32 4294967295=BitVec.allOnes 32:=by decide
  rw[e1,BitVec.allOnes_xor,BitVec.toNat_not,ofInt_toNat 32 n (by omega) (by omega)];simp
 have e2:=W.u32 (n:=4294967295 - (n:Int)) (by omega);have e3:((4294967295 - n:Nat):Int)=4294967295 - (n:Int):=by omega
 have e4:IntKind.max .u32=4294967295:=by decide
 simp only[execOp];rw[hx];simp only[Op.unary,Op.intBits,show IntKind.u32.signed=false from rfl,Bool.false_eq_true,if_false,e4,e,e3,e2];rfl
theorem D.conv{s:TypeId}{k':IntKind}{sd:TypeDesc}(hx:ev l x= .int k a)(hs:P.underlying s=some sd)(hu:P.underlying xt=some (.int k'))(hw:k'.wrap a=c):
  (execOp (ev l) ⟨d, .convert s xt x,ty,pos,af,g⟩).run P w= .ok (.value (.int k' c)) w:=by
 simp only[execOp];rw[hx];simp[convert,run_underlying hs,run_underlying hu,Conv.intToInt,hw]
/-! ### strings -/
theorem bin_run_str(op:BinOp){s t:ByteArray}(hx:ev l x= .string s)(hy:ev l y= .string t):
  (execOp (ev l) ⟨d, .binOp op xt x y yt,ty,pos,af,g⟩).run P w=((binOp op xt (.string s) (.string t)).run P w).andThen fun v w'=> .ok (.value v) w':=by
 simp only[execOp,eqGuard];rw[hx,hy];cases op<;>simp
theorem D.seq{s t:ByteArray}(hx:ev l x= .string s)(hy:ev l y= .string t):(execOp (ev l) ⟨d, .binOp .eql xt x y yt,ty,pos,af,g⟩).run P w= .ok (.value (.bool (s.toList==t.toList))) w:=by
 rw[bin_run_str _ hx hy];simp[binOp,Op.stringOp]
/-! ### places -/
theorem add_mk(b o n:Nat):(⟨b,o,none⟩:Addr).add n=⟨b,o+n,none⟩:=by
 unfold Addr.add;split
 ·subst n;rfl
 ·rfl
theorem D.fieldAddr{b o i sz:Nat}{fs:Array Field}{f:Field}(hx:ev l x= .pointer (some ⟨b,o,none⟩))(hu:P.underlying xt=some (.struct fs))(hf:fs[i]? =some f)(hs:P.cellsOf f.type=sz)(hz:sz≠0):
  (execOp (ev l) ⟨d, .fieldAddr xt x i,ty,pos,af,g⟩).run P w= .ok (.value (.pointer (some ⟨b,o+f.offset,none⟩))) w:=by
 obtain⟨ti,h1,h2⟩:∃ti,P.info? f.type=some ti∧ti.size=sz:=by
  cases h:P.info? f.type with
  |none=>simp[Program.cellsOf,h]at hs;omega
  |some ti=>exact⟨ti,rfl,by simpa [Program.cellsOf,h]using hs⟩
 simp only[execOp];rw[hx];simp[Instr.fieldAt,run_underlying hu,hf,Instr.sureAddr,fieldPlace,sizeOf,typeInfo,h1,h2,hz,add_mk]
theorem size_run{t:TypeId}{sz:Nat}(hs:P.cellsOf t=sz)(hz:sz≠0):(sizeOf t).run P w= .ok sz w:=by
 cases h:P.info? t with
 |none=>simp[Program.cellsOf,h]at hs;omega
 |some ti=>simp[sizeOf,typeInfo,h];simpa [Program.cellsOf,h]using hs
theorem D.indexAddr{A:Option Addr}{b o n cp sz e:Nat}{i:Int}(hx:ev l x= .slice A n cp)(hy:ev l y= .int k i)(hu:P.underlying xt=some (.slice e))(hs:P.cellsOf e=sz)(hz:sz≠0)
  (hA:A=some ⟨b,o,none⟩)(hi:0≤i∧i<n):(execOp (ev l) ⟨d, .indexAddr xt x y,ty,pos,af,g⟩).run P w= .ok (.value (.pointer (some ⟨b,o+i.toNat*sz,none⟩))) w:=by
 subst hA;simp only[execOp];rw[hx,hy];simp[Instr.indexAt,asIntOf,run_underlying hu,size_run hs hz,hi,add_mk]
theorem D.indexArr{b o n sz e:Nat}{i:Int}(hx:ev l x= .pointer (some ⟨b,o,none⟩))(hy:ev l y= .int k i)(hu:P.underlying xt=some (.array n e))(hs:P.cellsOf e=sz)(hz:sz≠0)
  (hi:0≤i∧i<n):(execOp (ev l) ⟨d, .indexAddr xt x y,ty,pos,af,g⟩).run P w= .ok (.value (.pointer (some ⟨b,o+i.toNat*sz,none⟩))) w:=by
 simp only[execOp];rw[hx,hy];simp[Instr.indexAt,asIntOf,run_underlying hu,size_run hs hz,hi,add_mk,Instr.sureAddr]
theorem D.indexVal{cs:Array Value}{n e:Nat}{i:Int}{v:Value}{ed:TypeDesc}(hx:ev l x= .agg cs)(hy:ev l y= .int k i)(hu:P.underlying xt=some (.array n e))(he:P.underlying e=some ed)
  (hd:(match ed with| .struct _| .array _ _=>true|_=>false)=false)(hs:P.cellsOf e=1)(hi:0≤i∧i<n)(hv:cs[i.toNat]? =some v):
  (execOp (ev l) ⟨d, .index xt x y,ty,pos,af,g⟩).run P w= .ok (.value v) w:=by
 simp only[execOp];rw[hx,hy];have h1:(isAgg e).run P w= .ok false w:=by
  cases ed<;>simp at hd<;>simp[isAgg,run_underlying he]
 simp[Instr.index,asIntOf,run_underlying hu,size_run hs (by decide),hi,part,h1,hv]
def isAggD:TypeDesc→Bool
 | .struct _| .array _ _=>true
 |_=>false
theorem agg_run{t:TypeId}{ed:TypeDesc}(he:P.underlying t=some ed):(isAgg t).run P w= .ok (isAggD ed) w:=by
 cases ed<;>simp[isAgg,run_underlying he,isAggD]
theorem D.load{p:Addr}{v:Value}{ed:TypeDesc}(hx:ev l x= .pointer (some p))(he:P.underlying xt=some ed)(hd:isAggD ed=false)(hc:w.cell? p=some v):
  (execOp (ev l) ⟨d, .load xt x,ty,pos,af,g⟩).run P w= .ok (.value v) w:=by
 simp only[execOp];rw[hx];simp[Instr.loadAt,Instr.sureAddr,loadVar,agg_run he,hd,hc]
def Cells(w:World)(b o:Nat)(cs:List Value):Prop:=∀j,j<cs.length→w.cell? ⟨b,o+j,none⟩=some (cs.getD j undef)
theorem loadFrom_run{b o:Nat}(cs:List Value)(hc:Cells w b o cs):∀(n i:Nat) (acc:Array Value),i+n=cs.length→
  (loadCellsFrom ⟨b,o,none⟩ i n acc).run P w= .ok (acc++(cs.drop i).toArray) w
 |0,i,acc,h=>by
  have:cs.drop i=[]:=List.drop_eq_nil_of_le (by omega);simp[loadCellsFrom,this]
 |n+1,i,acc,h=>by
  have h1:=hc i (by omega);have hi:i<cs.length:=by omega
  have h2:cs.getD i undef=cs[i]:=by simp[List.getD,List.getElem?_eq_getElem hi]
  rw[h2]at h1;simp only[loadCellsFrom,add_mk];rw[Sem.run_bind];have h3:(Go.load ⟨b,o+i,none⟩).run P w= .ok cs[i] w:=by simp only[Go.load,Sem.run,h1]
  rw[h3];simp only[Result.andThen];rw[loadFrom_run cs hc n (i+1) _ (by omega),List.drop_eq_getElem_cons hi];simp
theorem D.loadAgg{b o sz:Nat}{cs:List Value}{ed:TypeDesc}(hx:ev l x= .pointer (some ⟨b,o,none⟩))(he:P.underlying xt=some ed)(hd:isAggD ed=true)(hs:P.cellsOf xt=sz)(hz:sz≠0)
  (hn:cs.length=sz)(hc:Cells w b o cs):(execOp (ev l) ⟨d, .load xt x,ty,pos,af,g⟩).run P w= .ok (.value (.agg cs.toArray)) w:=by
 have h1:(loadCells ⟨b,o,none⟩ sz).run P w= .ok cs.toArray w:=by
  have:=loadFrom_run (P:=P) cs hc sz 0 #[] (by omega);simpa [loadCells]using this
 simp only[execOp];rw[hx];simp[Instr.loadAt,Instr.sureAddr,loadVar,agg_run he,hd,size_run hs hz,h1]
/-! ### len -/
theorem D.len{A:Option Addr}{n cp:Nat}{e:TypeId}(hx:ev l x= .slice A n cp)(hu:P.underlying xt=some (.slice e)):
  (execOp (ev l) ⟨d, .call {callee:= .builtin .len,args:= #[x],argTypes:= #[xt]},ty,pos,af,g⟩).run P w= .ok (.value (.int .i64 n)) w:=by
 simp[execOp,resolve,hx,invoke,builtin,Builtin.len_,run_underlying hu,goInt]
theorem D.lenStr{s:ByteArray}(hx:ev l x= .string s)(hu:P.underlying xt=some .string):
  (execOp (ev l) ⟨d, .call {callee:= .builtin .len,args:= #[x],argTypes:= #[xt]},ty,pos,af,g⟩).run P w= .ok (.value (.int .i64 s.size)) w:=by
 simp[execOp,resolve,hx,invoke,builtin,Builtin.len_,run_underlying hu,goInt]
theorem D.max2(hx:ev l x= .int k a)(hy:ev l y= .int k b){ts:Array TypeId}:
  (execOp (ev l) ⟨d, .call {callee:= .builtin .max,args:= #[x,y],argTypes:=ts},ty,pos,af,g⟩).run P w= .ok (.value (.int k (if b>a then b else a))) w:=by
 simp[execOp,resolve,hx,hy,invoke,builtin,Builtin.max_,Builtin.max2]
end
abbrev Ext(w w':World):Prop:=Below w.heap.size w w'
theorem Ext.refl(w:World):Ext w w:=Below.refl _ _
theorem Ext.tr{a b c:World}(h:Ext a b)(k:Ext b c):Ext a c:=Below.trans h (k.mono h.size)
structure St(b:Nat)(w w':World):Prop where
 os:w'.os=w.os
 tape:w'.tape=w.tape
 output:w'.output=w.output
 size:w'.heap.size=w.heap.size
 block:∀k,k≠b→w'.heap[k]? =w.heap[k]?
theorem St.below{B b:Nat}{w w':World}(h:St b w w')(hb:B≤b):Below B w w':=
 ⟨h.os,h.tape,h.output,by rw[h.size];exact Nat.le_refl _,fun k hk=>h.block k (by omega)⟩
def Blk(w:World)(b:Nat)(cs:List Value)(T:TypeId):Prop:=w.heap[b]? =some (.cells cs.toArray T (0,0))
theorem Blk.lt{w:World}{b:Nat}{cs:List Value}{T:TypeId}(h:Blk w b cs T):b<w.heap.size:=by
 unfold Blk at h;exact(Array.getElem?_eq_some_iff.1 h).1
theorem Blk.ext{w w':World}{b:Nat}{cs:List Value}{T:TypeId}(h:Blk w b cs T)(k:Ext w w'):Blk w' b cs T:=by
 unfold Blk;rw[k.block b h.lt];exact h
theorem Blk.st{w w':World}{b c:Nat}{cs:List Value}{T:TypeId}(h:Blk w b cs T)(k:St c w w')(hne:b≠c):Blk w' b cs T:=by
 unfold Blk;rw[k.block b hne];exact h
theorem Blk.cell{w:World}{b o:Nat}{cs:List Value}{T:TypeId}{v:Value}(h:Blk w b cs T)(hv:cs[o]? =some v):w.cell? ⟨b,o,none⟩=some v:=by
 simp only[World.cell?];rw[show w.heap[b]? =_ from h];simp[hv]
theorem Blk.cells{w:World}{b o:Nat}{cs vs:List Value}{T:TypeId}(h:Blk w b cs T)(hv:(cs.drop o).take vs.length=vs):Cells w b o vs:=by
 intro j hj;refine h.cell ?_;have e:((cs.drop o).take vs.length)[j]? =vs[j]? :=by rw[hv]
 rw[List.getElem?_take]at e;simp only[hj,if_true,List.getElem?_drop]at e;rw[e,List.getD_eq_getElem?_getD,List.getElem?_eq_getElem hj];rfl
theorem Blk.cellsN{w:World}{b o:Nat}{cs:List Value}{T:TypeId}(h:Blk w b cs T)(n:Nat){vs:List Value}(hv:(cs.drop o).take n=vs):Cells w b o vs:=by
 intro j hj;refine h.cell ?_;have e:((cs.drop o).take n)[j]? =vs[j]? :=by rw[hv]
 have hn:j<n:=by rw[←hv]at hj;simp at hj;omega
 rw[List.getElem?_take]at e;simp only[hn,if_true,List.getElem?_drop]at e;rw[e,List.getD_eq_getElem?_getD,List.getElem?_eq_getElem hj];rfl
structure Pr(S:Nat→Prop)(w w':World):Prop where
 os:w'.os=w.os
 tape:w'.tape=w.tape
 output:w'.output=w.output
 size:w.heap.size≤w'.heap.size
 block:∀k,k<w.heap.size→¬S k→w'.heap[k]? =w.heap[k]?
theorem Pr.below{S:Nat→Prop}{B:Nat}{w w':World}(h:Pr S w w')(hb:∀k,S k→B≤k)(hB:B≤w.heap.size):Below B w w':=
 ⟨h.os,h.tape,h.output,h.size,fun k hk=>h.block k (by omega) (fun hs=>by have:=hb k hs;omega)⟩
theorem Pr.refl(S:Nat→Prop)(w:World):Pr S w w:=⟨rfl,rfl,rfl,Nat.le_refl _,fun _ _ _=>rfl⟩
theorem Pr.tr{S:Nat→Prop}{a b c:World}(h:Pr S a b)(k:Pr S b c):Pr S a c:=
 ⟨k.os.trans h.os,k.tape.trans h.tape,k.output.trans h.output,Nat.le_trans h.size k.size,fun i hi hs=>(k.block i (Nat.lt_of_lt_of_le hi h.size) hs).trans (h.block i hi hs)⟩
theorem Pr.ext{S:Nat→Prop}{a b c:World}(h:Pr S a b)(k:Ext b c):Pr S a c:=
 h.tr ⟨k.os,k.tape,k.output,k.size,fun i hi _=>k.block i hi⟩
theorem Pr.st{S:Nat→Prop}{a b c:World}{n:Nat}(h:Pr S a b)(k:St n b c)(hs:S n):Pr S a c:=
 h.tr ⟨k.os,k.tape,k.output,by rw[k.size];exact Nat.le_refl _,fun i _ hi=>k.block i (fun e=>hi (e▸hs))⟩
theorem Pr.prn{S T:Nat→Prop}{a b c:World}(h:Pr S a b)(k:Pr T b c)(ht:∀n,T n→S n∨a.heap.size≤n):Pr S a c:=
 ⟨k.os.trans h.os,k.tape.trans h.tape,k.output.trans h.output,Nat.le_trans h.size k.size,fun i hi hs=>(k.block i (Nat.lt_of_lt_of_le hi h.size) (fun e=>by rcases ht i e with h|h;exact hs h;omega)).trans (h.block i hi hs)⟩
theorem Pr.new{S:Nat→Prop}{a b c:World}{n:Nat}(h:Pr S a b)(k:St n b c)(hn:a.heap.size≤n):Pr S a c:=
 ⟨k.os.trans h.os,k.tape.trans h.tape,k.output.trans h.output,by rw[k.size];exact h.size,fun i hi hs=>(k.block i (by omega)).trans (h.block i hi hs)⟩
theorem Blk.pr{S:Nat→Prop}{w w':World}{b:Nat}{cs:List Value}{T:TypeId}(h:Blk w b cs T)(k:Pr S w w')(hb:¬S b):Blk w' b cs T:=by
 unfold Blk;rw[k.block b h.lt hb];exact h
def cellB:Value→Bool
 | .agg _| .tuple _=>false
 |_=>true
theorem store_blk{P:Program}{w:World}{b o:Nat}{cs:List Value}{T:TypeId}{v:Value}(h:Blk w b cs T)(ho:o<cs.length)(hv:cellB v=true):
  ∃w',(Go.store ⟨b,o,none⟩ v).run P w= .ok () w'∧St b w w'∧Blk w' b (cs.set o v) T:=by
 have hc:w.cell? ⟨b,o,none⟩=some cs[o]:=h.cell (by simp[List.getElem?_eq_getElem ho]);have hf:w.frozen? ⟨b,o,none⟩=false:=by
  simp only[World.frozen?];rw[show w.heap[b]? =_ from h];simp
 refine⟨w.setCell ⟨b,o,none⟩ v,?_,⟨rfl,rfl,rfl,by simp[World.setCell],?_⟩,?_⟩
 ·cases v<;>simp[cellB]at hv<;>simp only[Go.store,Sem.run,hc,hf]<;>rfl
 ·intro k hk;simp only[World.setCell,Array.getElem?_modify];rw[if_neg (by omega)]
 ·unfold Blk;simp only[World.setCell,Array.getElem?_modify,if_true];rw[show w.heap[b]? =_ from h];simp
theorem St.refl(b:Nat)(w:World):St b w w:=⟨rfl,rfl,rfl,rfl,fun _ _=>rfl⟩
theorem St.tr{b:Nat}{w w' w'':World}(h:St b w w')(k:St b w' w''):St b w w'':=
 ⟨k.os.trans h.os,k.tape.trans h.tape,k.output.trans h.output,k.size.trans h.size,fun i hi=>(k.block i hi).trans (h.block i hi)⟩
def splice(cs:List Value)(o:Nat):List Value→List Value
 |[]=>cs
 |v::vs=>splice (cs.set o v) (o+1) vs
theorem splice_length:∀(vs cs:List Value) (o:Nat),(splice cs o vs).length=cs.length
 |[],_,_=>rfl
 |v::vs,cs,o=>by unfold splice;rw[splice_length vs];simp
theorem storeCells_blk{P:Program}{b o:Nat}{T:TypeId}:∀(vs:List Value) (i:Nat) (cs:List Value) (w:World),Blk w b cs T→o+i+vs.length≤cs.length→(∀v∈vs,cellB v=true)→
  ∃w',(storeCells ⟨b,o,none⟩ vs i).run P w= .ok () w'∧St b w w'∧Blk w' b (splice cs (o+i) vs) T
 |[],i,cs,w,h,_,_=>⟨w,by simp[storeCells],St.refl _ _,h⟩
 |v::vs,i,cs,w,h,hl,hv=>by
  have hl':o+i+(vs.length+1)≤cs.length:=by simpa using hl
  obtain⟨w1,h1,h2,h3⟩:=store_blk (P:=P) (o:=o+i) (v:=v) h (by omega) (hv v (by simp));obtain⟨w2,k1,k2,k3⟩:=storeCells_blk (P:=P) (o:=o) vs (i+1) _ w1 h3 (by simp;omega) (fun v hm=>hv v (by simp[hm]));refine⟨w2,?_,h2.tr k2,k3⟩;simp only[storeCells,add_mk];rw[Sem.run_bind,h1];exact k1
section
variable{P:Program}{ops:Array Oper}{K:List Value→World→Prop}{rest:List Oper}{l:List Value}{w:World}{d:Tmp}{ty:TypeId}{pos:String}{af:Array Edge}
theorem RS.store{x y:Operand}{xt:TypeId}{b o:Nat}{cs:List Value}{T:TypeId}{v:Value}(hx:ev l x= .pointer (some ⟨b,o,none⟩))(hy:ev l y=v)(hs:P.cellsOf xt=1)(hv:cellB v=true)
  (hB:Blk w b cs T)(ho:Nat.ble (o+1) cs.length=true)(k:∀w',St b w w'→Blk w' b (cs.set o v) T→RS P ops K rest l w'):
  RS P ops K (⟨none, .store xt x y,ty,pos,af,none⟩::rest) l w:=by
 obtain⟨w1,h1,h2,h3⟩:=store_blk (P:=P) (v:=v) hB (Nat.le_of_ble_eq_true ho) hv;have hvc:v.cells= #[v]:=by cases v<;>simp[cellB]at hv<;>rfl
 refine RS.u rfl rfl ?_ (k w1 h2 h3);simp only[execOp];rw[hx,hy];simp[Instr.storeAt,Instr.sureAddr,storeVar,size_run hs (by decide),hvc,storeCells,h1,Addr.add]
theorem RS.storeAgg{x y:Operand}{xt:TypeId}{b o sz:Nat}{cs vs:List Value}{T:TypeId}(hx:ev l x= .pointer (some ⟨b,o,none⟩))(hy:ev l y= .agg vs.toArray)(hs:P.cellsOf xt=sz)(hz:sz≠0)(hn:vs.length=sz)
  (hv:∀v∈vs,cellB v=true)(hB:Blk w b cs T)(ho:o+vs.length≤cs.length)(k:∀w',St b w w'→Blk w' b (splice cs o vs) T→RS P ops K rest l w'):
  RS P ops K (⟨none, .store xt x y,ty,pos,af,none⟩::rest) l w:=by
 obtain⟨w1,h1,h2,h3⟩:=storeCells_blk (P:=P) (o:=o) vs 0 cs w hB (by simpa using ho) hv;refine RS.u rfl rfl ?_ (k w1 h2 h3);simp only[execOp];rw[hx,hy];simp[Instr.storeAt,Instr.sureAddr,storeVar,size_run hs hz,Value.cells,hn,h1]
theorem new_facts(w:World)(cs:List Value)(T:TypeId):Ext w (w.alloc (.cells cs.toArray T))∧Blk (w.alloc (.cells cs.toArray T)) w.heap.size cs T∧(w.alloc (.cells cs.toArray T)).heap.size=w.heap.size+1:=by
 refine⟨(Below.refl _ _).alloc (Nat.le_refl _) _,?_,by simp⟩;unfold Blk;show(w.heap.push _)[w.heap.size]? =_;simp
theorem RS.new{op:Op}{cs:List Value}{T:TypeId}{f:Nat→Value}
  (hr:(execOp (ev l) ⟨some d,op,ty,pos,af,none⟩).run P w= .ok (.value (f w.heap.size)) (w.alloc (.cells cs.toArray T)))
  (k:∀b w',w.heap.size=b→w'.heap.size=b+1→Ext w w'→Blk w' b cs T→RS P ops K rest (l.set d (f b)) w'):RS P ops K (⟨some d,op,ty,pos,af,none⟩::rest) l w:=
 RS.o hr (k _ _ rfl (new_facts w cs T).2.2 (new_facts w cs T).1 (new_facts w cs T).2.1) rfl
def TI(P:Program)(t:TypeId)(sz by_:Nat)(z:List Value):Prop:=∃i v,P.info? t=some i∧i.size=sz∧i.bytes=by_∧i.zero=some v∧v.cells=z.toArray
theorem TI.of{t:TypeId}{sz by_:Nat}{z:List Value}{v:Value}(h:(P.info? t).map (fun i=>(i.size,i.bytes,i.zero))=some (sz,by_,some v))(h4:v.cells=z.toArray):TI P t sz by_ z:=by
 cases hi:P.info? t with
 |none=>simp[hi]at h
 |some i=>
  simp[hi]at h;exact⟨i,v,hi,h.1,h.2.1,h.2.2,h4⟩
theorem D.alloc{t:TypeId}{sz by_:Nat}{z:List Value}(ht:TI P t sz by_ z):
  (execOp (ev l) ⟨some d, .alloc t,ty,pos,af,none⟩).run P w= .ok (.value (.pointer (some ⟨w.heap.size,0,none⟩))) (w.alloc (.cells z.toArray t)):=by
 obtain⟨i,v,h1,h2,h3,h4,h5⟩:=ht;simp only[execOp];simp[Instr.alloc,zeroValue,typeInfo,h1,h4,newVar,newRow,h5]
theorem D.box{t:TypeId}{x:Operand}{v:Value}{cs:List Value}(hx:ev l x=v)(hc:v.cells=cs.toArray):
  (execOp (ev l) ⟨some d, .box t x,ty,pos,af,none⟩).run P w= .ok (.value (.pointer (some ⟨w.heap.size,0,none⟩))) (w.alloc (.cells cs.toArray t)):=by
 simp only[execOp];rw[hx];simp[Instr.box,newVar,newRow,hc]
theorem RS.alloc{t:TypeId}{sz by_:Nat}{z:List Value}(ht:TI P t sz by_ z)
  (k:∀b w',w.heap.size=b→w'.heap.size=b+1→Ext w w'→Blk w' b z t→RS P ops K rest (l.set d (.pointer (some ⟨b,0,none⟩))) w'):
  RS P ops K (⟨some d, .alloc t,ty,pos,af,none⟩::rest) l w:=
 RS.new (f:=fun b=> .pointer (some ⟨b,0,none⟩)) (D.alloc ht) k
theorem RS.box{t:TypeId}{x:Operand}{v:Value}{cs:List Value}(hx:ev l x=v)(hc:v.cells=cs.toArray)
  (k:∀b w',w.heap.size=b→w'.heap.size=b+1→Ext w w'→Blk w' b cs t→RS P ops K rest (l.set d (.pointer (some ⟨b,0,none⟩))) w'):
  RS P ops K (⟨some d, .box t x,ty,pos,af,none⟩::rest) l w:=
 RS.new (f:=fun b=> .pointer (some ⟨b,0,none⟩)) (D.box hx hc) k
def enumV{α:Type}:Nat→List α→List (Nat×α)
 |_,[]=>[]
 |k,x::xs=>(k,x)::enumV (k+1) xs
theorem enumV_map{α β:Type}(f:α→β):∀(xs:List α) (k:Nat),(enumV k xs).map (fun(i,x)=>(i,f x))=enumV k (xs.map f)
 |[],_=>rfl
 |x::xs,k=>by simp[enumV];simpa using enumV_map f xs (k+1)
theorem foldl_set:∀(vs:List Value) (cells:Array Value) (at_ i:Nat),at_+i+vs.length≤cells.size→
  ((vs.zipIdx i).foldl (fun(cs:Array Value) (x:Value×Nat)=>cs.setIfInBounds (at_+x.2) x.1) cells).toList=cells.toList.take (at_+i)++vs++cells.toList.drop (at_+i+vs.length)
 |[],cells,at_,i,_=>by simp
 |v::vs,cells,at_,i,h=>by
  simp only[List.length_cons]at h;rw[List.zipIdx_cons,List.foldl_cons,foldl_set vs _ at_ (i+1) (by simp;omega)];have hi:at_+i<cells.toList.length:=by simp;omega
  rw[Array.toList_setIfInBounds,←Nat.add_assoc,List.take_succ_eq_append_getElem (by simpa using hi)];rw[List.getElem_set_self,List.take_set_of_le (Nat.le_refl _),List.drop_set_of_lt (by omega)];simp only[List.append_assoc,List.cons_append,List.nil_append,List.length_cons];rw[show at_+i+1+vs.length=at_+i+(vs.length+1)by omega]
theorem fill_enum{sz:Nat}:∀(vs:List Value) (k:Nat) (cells:Array Value),(∀v∈vs,v.cells.size=sz)→cells.size=(k+vs.length)*sz→
  Instr.fill (fun i=>some (i*sz,sz)) cells (enumV k vs)=some (cells.toList.take (k*sz)++vs.flatMap (·.cells.toList)).toArray
 |[],k,cells,_,h=>by
  have:cells.toList.take (k*sz)=cells.toList:=List.take_of_length_le (by simp at h⊢;omega);simp[enumV,Instr.fill,this]
 |v::vs,k,cells,hv,h=>by
  have h1:=hv v (by simp);simp only[List.length_cons]at h;have h2:(k+(vs.length+1))*sz=k*sz+sz+vs.length*sz:=by rw[Nat.add_mul,Nat.add_mul];omega
  have h3:¬k*sz+v.cells.size>cells.size:=by omega
  simp only[enumV,Instr.fill];rw[if_neg (by simp[h1];omega)];have hf:=foldl_set v.cells.toList cells (k*sz) 0 (by simp;omega);simp only[Nat.add_zero]at hf;have e1:(v.cells.zipIdx.foldl (fun(cs:Array Value) (x:Value×Nat)=>cs.setIfInBounds (k*sz+x.2) x.1) cells)=(cells.toList.take (k*sz)++v.cells.toList++cells.toList.drop (k*sz+sz)).toArray:=by
   apply Array.ext';rw[←Array.foldl_toList,Array.toList_zipIdx,hf];simp[h1]
  have e2 := fill_enum vs (k + 1) _ (fun v hm => hv v (by simp [hm])) (show ((cells.toList.take (k * sz) ++ v.cells.toList ++ cells.toList.drop (k * sz + sz)).toArray).size = (k + 1 + vs.length) * sz by
   simp [h1]
   rw [h, Nat.add_mul, Nat.add_mul, Nat.one_mul]
   rw [Nat.add_mul, Nat.add_mul, Nat.one_mul]
   omega)
  show Instr.fill _ (v.cells.zipIdx.foldl (fun(cs:Array Value) (x:Value×Nat)=>cs.setIfInBounds (k*sz+x.2) x.1) cells) (enumV (k+1) vs)=_;rw[e1,e2];congr 2;have h4:(k+1)*sz=k*sz+sz:=by rw[Nat.add_mul,Nat.one_mul]
  have h5:(cells.toList.take (k*sz)++v.cells.toList).length=(k+1)*sz:=by simp[h1];omega
  have h6:((cells.toList.take (k*sz)++v.cells.toList++cells.toList.drop (k*sz+sz)).toArray.toList).take ((k+1)*sz)=cells.toList.take (k*sz)++v.cells.toList:=List.take_left' h5;rw[h6,List.flatMap_cons,List.append_assoc]
theorem RS.buildSlice{e n sz:Nat}{parts:Array (Nat×Operand)}{xs:List Operand}{t:TypeId}{by_:Nat}{z cs:List Value}{vs:List Value}(hu:P.underlying t=some (.slice e))(ht:TI P e sz by_ z)(hsz:0<sz)(hn:Nat.ble n 1000=true)(hsz':Nat.ble sz 1000=true)
  (hp:parts.toList=enumV 0 xs)(hv:xs.map (ev l)=vs)(hl:vs.length=n)(hc:vs.flatMap (·.cells.toList)=cs)(hcs:∀v∈vs,v.cells.size=sz)(h0:Nat.ble 1 n=true)
  (k:∀b w',w.heap.size=b→w'.heap.size=b+1→Ext w w'→Blk w' b cs e→RS P ops K rest (l.set d (.slice (some ⟨b,0,none⟩) n n)) w'):
  RS P ops K (⟨some d, .buildSlice t n parts,ty,pos,af,none⟩::rest) l w:=by
 obtain⟨i,v,h1,h2,h3,h4,h5⟩:=ht;have hn':=Nat.le_of_ble_eq_true hn;have h0':=Nat.le_of_ble_eq_true h0;have hs':=Nat.le_of_ble_eq_true hsz';refine RS.new (f:=fun b=> .slice (some ⟨b,0,none⟩) n n) ?_ k;simp only[execOp];have hs:(sizeOf e).run P w= .ok sz w:=by simp[sizeOf,typeInfo,h1,h2]
 have hlim:¬n*sz>2 ^ 24:=by
  have:n*sz≤1000*1000:=Nat.mul_le_mul hn' hs';omega
 have hz0:¬n*sz=0:=by
  have:=Nat.mul_pos (show 0<n by omega) hsz;omega
 have hz1:(zeroValue e).run P w= .ok v w:=by simp[zeroValue,typeInfo,h1,h4]
 simp only[Instr.buildSlice,Sem.run_bind,run_underlying hu,Result.andThen,hs,if_neg hlim,if_neg hz0,hz1,Sem.run_pure,h5];have hf:Instr.fill (fun i=>some (i*sz,sz)) (Array.map (fun x=>z.toArray[x % z.toArray.size]!) (Array.range (n*sz))) (Array.map (fun x=>(x.fst,ev l x.snd)) parts).toList=some cs.toArray:=by
  rw[Array.toList_map,hp];have e1:=enumV_map (ev l) xs 0;rw[hv]at e1;have e2:List.map (fun x=>(x.fst,ev l x.snd)) (enumV 0 xs)=enumV 0 vs:=e1;rw[e2,fill_enum vs 0 _ hcs (by simp[hl]),hc];simp
 rw[hf];simp[newRow]
def Ret(w:World)(A:Value→World→Prop)(e:Ending)(w':World):Prop:=∃v,e= .returned v∧Ext w w'∧A v w'
def Enters(P:Program)(f:FuncId):Prop:=∃fn,P.funcs[f]? =some fn∧(fn.name== "runtime.NumGoroutine")=false∧fn.body.isNone=false
theorem Enters.mk{f:FuncId}{fn:Func}(h:P.funcs[f]? =some fn)(h1:(fn.name== "runtime.NumGoroutine")=false)(h2:fn.body.isNone=false):Enters P f:=⟨fn,h,h1,h2⟩
theorem call_run{f:FuncId}{args:Array Operand}{av:Array Value}{ts:Array TypeId}{dd:Option Tmp}(he:Enters P f)(ha:args.map (ev l)=av):
  (execOp (ev l) ⟨dd, .call {callee:= .value (.func f),args:=args,argTypes:=ts},ty,pos,af,none⟩).run P w= .ok (.enter f av) w:=by
 obtain⟨fn,h1,h2,h3⟩:=he;simp only[execOp,resolve,ha];have hfun:ev l (.func f)= .func (.func f) #[] #[]:=rfl;rw[hfun];have h4:¬fn.name= "runtime.NumGoroutine" :=by simpa using h2
 have h5:¬fn.body=none:=by intro e;simp[e]at h3
 simp[Deferred.ofValue,invoke,callFunc,h1,h4,h5,program,Sem.run]
theorem args_map{args:Array Operand}{av:List Value}(ha:args.toList.map (ev l)=av):args.map (ev l)=av.toArray:=by
 rw[←ha];apply Array.ext';simp
theorem RS.callx{f:FuncId}{args:Array Operand}{av:List Value}{ts:Array TypeId}{R:Ending→World→Prop}(he:Enters P f)(h:Calls P f av.toArray w R)(ha:args.toList.map (ev l)=av)
  (k:∀e w',R e w'→∃v,e= .returned v∧RS P ops K rest (l.set d v) w'):
  RS P ops K (⟨some d, .call {callee:= .value (.func f),args:=args,argTypes:=ts},ty,pos,af,none⟩::rest) l w:=by
 unfold RS;rw[if_pos (by simp[Region.wanted])];unfold Oper.wp;rw[eval_fr,call_run he (args_map ha)];simp only[Oper.upon];refine h.mono fun e w' hR=>?_
 obtain⟨v,rfl,hk⟩:=k e w' hR;exact⟨_,put_fr _ _ _,hk⟩
theorem callv_run{f:FuncId}{x:Operand}{args:Array Operand}{av cap:Array Value}{ts:Array TypeId}{dd:Option Tmp}(he:Enters P f)(hx:ev l x= .func (.func f) #[] cap)(ha:args.map (ev l)++cap=av):
  (execOp (ev l) ⟨dd, .call {callee:= .value x,args:=args,argTypes:=ts},ty,pos,af,none⟩).run P w= .ok (.enter f av) w:=by
 obtain⟨fn,h1,h2,h3⟩:=he;have h4:¬fn.name= "runtime.NumGoroutine" :=by simpa using h2
 have h5:¬fn.body=none:=by intro e;simp[e]at h3
 simp only[execOp,resolve];rw[hx,←ha];simp[Deferred.ofValue,invoke,callFunc,h1,h4,h5,program,Sem.run]
theorem RS.callv{f:FuncId}{x:Operand}{args:Array Operand}{av cap:List Value}{ts:Array TypeId}{R:Ending→World→Prop}(he:Enters P f)(h:Calls P f av.toArray w R)(hx:ev l x= .func (.func f) #[] cap.toArray)(ha:args.toList.map (ev l)++cap=av)
  (k:∀e w',R e w'→∃v,e= .returned v∧RS P ops K rest (l.set d v) w'):
  RS P ops K (⟨some d, .call {callee:= .value x,args:=args,argTypes:=ts},ty,pos,af,none⟩::rest) l w:=by
 unfold RS;rw[if_pos (by simp[Region.wanted])];unfold Oper.wp;rw[eval_fr,callv_run he hx (show args.map (ev l)++cap.toArray=av.toArray by rw[args_map rfl,←ha];simp)];simp only[Oper.upon];refine h.mono fun e w' hR=>?_
 obtain⟨v,rfl,hk⟩:=k e w' hR;exact⟨_,put_fr _ _ _,hk⟩
theorem D.func{fn:Fn}{first captured:Array Operand}{dd:Option Tmp}{fs cs:List Value}(hf:first.toList.map (ev l)=fs)(hc:captured.toList.map (ev l)=cs):(execOp (ev l) ⟨dd, .makeFunc fn first captured,ty,pos,af,none⟩).run P w= .ok (.value (.func fn fs.toArray cs.toArray)) w:=by
 simp only[execOp,Instr.makeFunc,args_map hf,args_map hc];rfl
theorem RS.call{f:FuncId}{args:Array Operand}{av:List Value}{ts:Array TypeId}{A:Value→World→Prop}(he:Enters P f)(h:Calls P f av.toArray w (Ret w A))(ha:args.toList.map (ev l)=av)
  (k:∀v w',Ext w w'→A v w'→RS P ops K rest (l.set d v) w'):
  RS P ops K (⟨some d, .call {callee:= .value (.func f),args:=args,argTypes:=ts},ty,pos,af,none⟩::rest) l w:=
 RS.callx he h ha fun _ _ ⟨v,hv,hx,hA⟩=>⟨v,hv,k v _ hx hA⟩
end
/-! ### code around regions -/
section
variable{P:Program}{Q:Exit→Act→World→Prop}{l:List Value}{w:World}{x y:Code}{c:Operand}
theorem C.ift(hc:ev l c= .bool true)(h:x.wp P Q (fr l) w):(Code.cond c x y).wp P Q (fr l) w:=wp_cond_true (by rw[eval_fr];exact hc) h
theorem C.iff(hc:ev l c= .bool false)(h:y.wp P Q (fr l) w):(Code.cond c x y).wp P Q (fr l) w:=wp_cond_false (by rw[eval_fr];exact hc) h
theorem C.ifb{b:Bool}(hc:ev l c= .bool b)(ht:b=true→x.wp P Q (fr l) w)(hf:b=false→y.wp P Q (fr l) w):(Code.cond c x y).wp P Q (fr l) w:=
 wp_cond_split (by rw[eval_fr];exact hc) ht hf
theorem C.ifd{p:Prop}[Decidable p](hc:ev l c= .bool (decide p))(ht:p→x.wp P Q (fr l) w)(hf:¬p→y.wp P Q (fr l) w):(Code.cond c x y).wp P Q (fr l) w:=
 C.ifb hc (fun h=>ht (of_decide_eq_true h)) (fun h=>hf (of_decide_eq_false h))
theorem C.ife{a b:Int}(hc:ev l c= .bool (a==b))(ht:a=b→x.wp P Q (fr l) w)(hf:a≠b→y.wp P Q (fr l) w):(Code.cond c x y).wp P Q (fr l) w:=
 C.ifb hc (fun h=>ht (by simpa using h)) (fun h=>hf (by simpa using h))
theorem C.ifn{a b:Int}(hc:ev l c= .bool (a != b))(ht:a≠b→x.wp P Q (fr l) w)(hf:a=b→y.wp P Q (fr l) w):(Code.cond c x y).wp P Q (fr l) w:=
 C.ifb hc (fun h=>ht (by simpa using h)) (fun h=>hf (by simpa using h))
theorem C.ifnot{b:Bool}(hc:ev l c= .bool (!b))(ht:b=false→x.wp P Q (fr l) w)(hf:b=true→y.wp P Q (fr l) w):(Code.cond c x y).wp P Q (fr l) w:=
 C.ifb hc (fun h=>ht (by simpa using h)) (fun h=>hf (by simpa using h))
variable{ops:Array Oper}{K:List Value→World→Prop}{r:List Oper}
theorem RS.splitd(s:Nat){p:Prop}[Decidable p](hs:Nat.ble (s+1) l.length=true)(h:l.getD s undef= .bool (decide p))(ht:p→RS P ops K r (l.set s (.bool true)) w)(hf:¬p→RS P ops K r (l.set s (.bool false)) w):RS P ops K r l w:=
 RS.split s (Nat.le_of_ble_eq_true hs) h (fun h=>ht (of_decide_eq_true h)) (fun h=>hf (of_decide_eq_false h))
theorem RS.splite(s:Nat){a b:Int}(hs:Nat.ble (s+1) l.length=true)(h:l.getD s undef= .bool (a==b))(ht:a=b→RS P ops K r (l.set s (.bool true)) w)(hf:a≠b→RS P ops K r (l.set s (.bool false)) w):RS P ops K r l w:=
 RS.split s (Nat.le_of_ble_eq_true hs) h (fun h=>ht (by simpa using h)) (fun h=>hf (by simpa using h))
theorem RS.splitn(s:Nat){a b:Int}(hs:Nat.ble (s+1) l.length=true)(h:l.getD s undef= .bool (a != b))(ht:a≠b→RS P ops K r (l.set s (.bool true)) w)(hf:a=b→RS P ops K r (l.set s (.bool false)) w):RS P ops K r l w:=
 RS.split s (Nat.le_of_ble_eq_true hs) h (fun h=>ht (by simpa using h)) (fun h=>hf (by simpa using h))
theorem RS.splitnot(s:Nat){b:Bool}(hs:Nat.ble (s+1) l.length=true)(h:l.getD s undef= .bool (!b))(ht:b=false→RS P ops K r (l.set s (.bool true)) w)(hf:b=true→RS P ops K r (l.set s (.bool false)) w):RS P ops K r l w:=
 RS.split s (Nat.le_of_ble_eq_true hs) h (fun h=>ht (by simpa using h)) (fun h=>hf (by simpa using h))
theorem RS.splitb(s:Nat){b:Bool}(hs:Nat.ble (s+1) l.length=true)(h:l.getD s undef= .bool b)(ht:b=true→RS P ops K r (l.set s (.bool true)) w)(hf:b=false→RS P ops K r (l.set s (.bool false)) w):RS P ops K r l w:=
 RS.split s (Nat.le_of_ble_eq_true hs) h ht hf
def upd(l:List Value):List (Nat×Value)→List Value
 |[]=>l
 |(i,v)::r=>upd (l.set i v) r
def junk(J:List Nat)(j:Nat→Value):List (Nat×Value):=J.map fun s=>(s,j s)
def slotsOk(l:List Value):List (Nat×Value)→Prop
 |[]=>True
 |(i,v)::r=>l.getD i undef=v∧slotsOk l r
@[irreducible] def Nx{A:Type}(l:List Value)(M:A→List (Nat×Value))(J:List Nat)(I:A→World→Prop)(μ:A→Nat)(p:A)(a':Act)(w':World):Prop:=
 ∃p' j',a'=fr (upd (upd l (M p')) (junk J j'))∧I p' w'∧μ p'<μ p
theorem C.loop{A:Type}{c:Code}(M:A→List (Nat×Value))(J:List Nat)(I:A→World→Prop)(μ:A→Nat)(p0:A)
  (h0:upd (upd l (M p0)) (junk J (fun s=>l.getD s undef))=l)(i0:I p0 w)
  (round:∀p j w,I p w→c.wp P (Exit.then (Nx l M J I μ p) Q) (fr (upd (upd l (M p)) (junk J j))) w):
  (Code.loop c).wp P Q (fr l) w:=by
 refine wp_loop_ghost (fun n a w=>∃p j,μ p=n∧a=fr (upd (upd l (M p)) (junk J j))∧I p w) (μ p0) ⟨p0,_,rfl,by rw[h0],i0⟩ ?_;rintro n a w ⟨p,j,rfl,rfl,hi⟩;refine wp_mono (round p j w hi) ?_;intro e a' w' hq;cases e with
 |normal=>
  have hq:Nx l M J I μ p a' w':=hq;unfold Nx at hq;obtain⟨p',j',rfl,h1,h2⟩:=hq;exact⟨μ p',h2,p',j',rfl,rfl,h1⟩
 |_=>exact hq
theorem C.norm{c:Code}{l':List Value}(h:l=l')(k:c.wp P Q (fr l') w):c.wp P Q (fr l) w:=h▸k
theorem RS.norm{l':List Value}(h:l=l')(k:RS P ops K r l' w):RS P ops K r l w:=h▸k
theorem C.next{A:Type}{M:A→List (Nat×Value)}{J:List Nat}{I:A→World→Prop}{μ:A→Nat}{p:A}{le:List Value}(p':A)
  (_hs:slotsOk le (M p'))(h:upd (upd l (M p')) (junk J (fun s=>le.getD s undef))=le)(hi:I p' w)(hm:μ p'<μ p):Nx l M J I μ p (fr le) w:=by
 unfold Nx;exact⟨p',_,by rw[h],hi,hm⟩
/-! ### the end -/
def resOk(P:Program)(l:List Value)(w:World):List ResultVar→List Value→Prop
 |[],[]=>True
 | .tmp t::rs,v::vs=>l.getD t undef=v∧resOk P l w rs vs
 | .cell s t::rs,v::vs=>(∃p,l.getD s undef= .pointer (some p)∧(loadVar t p).run P w= .ok v w)∧resOk P l w rs vs
 |_,_=>False
def tup:List Value→Value
 |[v]=>v
 |vs=> .tuple vs.toArray
theorem loadVar_agg{t:TypeId}{b o sz:Nat}{cs:List Value}{ed:TypeDesc}(he:P.underlying t=some ed)(hd:isAggD ed=true)(hs:P.cellsOf t=sz)(hz:sz≠0)(hn:cs.length=sz)(hc:Cells w b o cs):
  (loadVar t ⟨b,o,none⟩).run P w= .ok (.agg cs.toArray) w:=by
 have h1:(loadCells ⟨b,o,none⟩ sz).run P w= .ok cs.toArray w:=by
  have:=loadFrom_run (P:=P) cs hc sz 0 #[] (by omega);simpa [loadCells]using this
 simp[loadVar,agg_run he,hd,size_run hs hz,h1]
theorem loadVar_one{t:TypeId}{p:Addr}{v:Value}{ed:TypeDesc}(he:P.underlying t=some ed)(hd:isAggD ed=false)(hc:w.cell? p=some v):(loadVar t p).run P w= .ok v w:=by
 simp[loadVar,agg_run he,hd,hc]
def resOne(l:List Value):ResultVar→Sem Value
 | .tmp t=>pure (l.toArray.getD t undef)
 | .cell a t=>do loadVar t (←asAddr (l.toArray.getD a undef))
theorem resOne_tmp{t:Tmp}{v:Value}(h:l.getD t undef=v):(resOne l (.tmp t)).run P w= .ok v w:=by
 rw[←h];simp[resOne]
theorem resOne_cell{s:Tmp}{t:TypeId}{v:Value}{p:Addr}(h1:l.getD s undef= .pointer (some p))(h2:(loadVar t p).run P w= .ok v w):(resOne l (.cell s t)).run P w= .ok v w:=by
 have h1':l.toArray.getD s undef= .pointer (some p):=by rw[←h1];simp
 show((asAddr (l.toArray.getD s undef))>>= fun a=>loadVar t a).run P w=_;rw[h1',Sem.run_bind];simp only[asAddr,Sem.run_pure,Result.andThen];exact h2
theorem results_run:∀(rs:List ResultVar) (vs:List Value),resOk P l w rs vs→(rs.mapM (resOne l)).run P w= .ok vs w
 |[],[],_=>by simp
 | .tmp t::rs,v::vs,h=>by
  have ih:=results_run rs vs h.2;rw[List.mapM_cons,Sem.run_bind,resOne_tmp h.1];simp only[Result.andThen];rw[Sem.run_bind,ih];rfl
 | .cell a t::rs,v::vs,h=>by
  obtain⟨⟨p,h1,h2⟩,h3⟩:=h;have ih:=results_run rs vs h3;rw[List.mapM_cons,Sem.run_bind,resOne_cell h1 h2];simp only[Result.andThen];rw[Sem.run_bind,ih];rfl
theorem ret{fn:Func}{R:Ending→World→Prop}{rs:List ResultVar}{vs:List Value}{v:Value}(hr:fn.results=rs.toArray)(h:resOk P l w rs vs)(hv:tup vs=v)(hR:R (.returned v) w):bodyPost P fn R .ret (fr l) w:=by
 refine⟨rfl,v,?_,hR⟩;have h1:=results_run (P:=P) rs vs h;have e:results fn l.toArray=(do let vs ←fn.results.mapM (resOne l);pure (if h:vs.size=1 then vs[0]else .tuple vs)):=by
  unfold results;congr 1
 show(results fn l.toArray).run P w=_;rw[e,hr,List.mapM_toArray,Sem.run_bind];rw[Sem.run_map,h1];simp only[Result.andThen,Sem.run_pure];rw[←hv]
 match vs with
 |[]=>rfl
 |[_]=>rfl
 |_::_::vs=>simp[tup]
theorem retN{fn:Func}{R:Ending→World→Prop}{rs:List ResultVar}{vs:List Value}{v:Value}(hr:fn.results=rs.toArray)(h:resOk P l w rs vs)(hv:tup vs=v)(hR:R (.returned v) w):bodyPost P fn R .normal (fr l) w:=by
 refine⟨rfl,v,?_,hR⟩;have h1:=results_run (P:=P) rs vs h;have e:results fn l.toArray=(do let vs ←fn.results.mapM (resOne l);pure (if h:vs.size=1 then vs[0]else .tuple vs)):=by
  unfold results;congr 1
 show(results fn l.toArray).run P w=_;rw[e,hr,List.mapM_toArray,Sem.run_bind];rw[Sem.run_map,h1];simp only[Result.andThen,Sem.run_pure];rw[←hv]
 match vs with
 |[]=>rfl
 |[_]=>rfl
 |_::_::vs=>simp[tup]
end
section
variable{P:Program}{ops:Array Oper}{w0:World}{K:List Value→World→Prop}
def RQ(P:Program)(ops:Array Oper)(w0:World)(K:List Value→World→Prop):List Oper→List Value→Prop
 |[],l=>∀w',Ext w0 w'→K l w'
 |o::rest,l=>
  if Region.wanted o (yielded ops l.toArray)then ∃v,(∀w',Ext w0 w'→o.quietAt P (fr l) (Ext w0) w' v)∧RQ P ops w0 K rest (putL o.dst v l)
  else RQ P ops w0 K rest (putL o.dst undef l)
variable{rest:List Oper}{l:List Value}
theorem RQ.v{o:Oper}{v:Value}(hg:o.guard=none)(hr:∀w',Ext w0 w'→(execOp (ev l) o).run P w'= .ok (.value v) w')(k:RQ P ops w0 K rest (putL o.dst v l)):RQ P ops w0 K (o::rest) l:=by
 unfold RQ;rw[if_pos (by simp[Region.wanted,hg])];refine⟨v,fun w' hw=>?_,k⟩;unfold Oper.quietAt;rw[eval_fr,hr w' hw];exact⟨rfl,rfl⟩
variable{r:List Oper}
theorem RQ.norm{l':List Value}(h:l=l')(k:RQ P ops w0 K r l'):RQ P ops w0 K r l:=h▸k
variable{d:Tmp}{ty:TypeId}{pos:String}{af:Array Edge}
theorem RQ.o{op:Op}{v:Value}(hr:∀w',Ext w0 w'→(execOp (ev l) ⟨some d,op,ty,pos,af,none⟩).run P w'= .ok (.value v) w'){l':List Value}(k:RQ P ops w0 K rest l')(hl:l.set d v=l':=by dsimp only[List.set]):
  RQ P ops w0 K (⟨some d,op,ty,pos,af,none⟩::rest) l:=RQ.v rfl hr (by subst hl;exact k)
theorem RQ.move{x:Operand}{v:Value}(hv:ev l x=v){l':List Value}(k:RQ P ops w0 K rest l')(hl:l.set d v=l':=by dsimp only[List.set]):RQ P ops w0 K (⟨some d, .move x,ty,pos,af,none⟩::rest) l:=
 RQ.o (fun _ _=>by simp only[execOp];rw[hv];rfl) k hl
theorem RQ.assign{x:Operand}{v:Value}(hv:ev l x=v){l':List Value}(k:RQ P ops w0 K rest l')(hl:l.set d v=l':=by dsimp only[List.set]):RQ P ops w0 K (⟨some d, .assign x,ty,pos,af,none⟩::rest) l:=
 RQ.o (fun _ _=>by simp only[execOp];rw[hv];rfl) k hl
theorem RQ.pick{c x y:Operand}{b:Bool}{v:Value}(hc:ev l c= .bool b)(hv:(if b then ev l x else ev l y)=v){l':List Value}(k:RQ P ops w0 K rest l')(hl:l.set d v=l':=by dsimp only[List.set]):
  RQ P ops w0 K (⟨some d, .pick c x y,ty,pos,af,none⟩::rest) l:=
 RQ.o (v:=if b then ev l x else ev l y) (fun _ _=>by simp only[execOp];rw[hc];cases b<;>rfl) (l':=l') k (by rw[hv];exact hl)
theorem RQ.extract{x:Operand}{i:Nat}{vs:Array Value}{v:Value}(hx:ev l x= .tuple vs)(hv:vs[i]? =some v){l':List Value}(k:RQ P ops w0 K rest l')(hl:l.set d v=l':=by dsimp only[List.set]):
  RQ P ops w0 K (⟨some d, .extract x i,ty,pos,af,none⟩::rest) l:=
 RQ.o (fun _ _=>by simp only[execOp];rw[hx];simp only[Instr.extract,hv];rfl) k hl
theorem RQ.call{f:FuncId}{args:Array Operand}{av:List Value}{ts:Array TypeId}{v:Value}(he:Enters P f)(h:∀w',Ext w0 w'→Calls P f av.toArray w' (Ret w' fun u _=>u=v))(ha:args.toList.map (ev l)=av)
  (k:RQ P ops w0 K rest (l.set d v)):RQ P ops w0 K (⟨some d, .call {callee:= .value (.func f),args:=args,argTypes:=ts},ty,pos,af,none⟩::rest) l:=by
 unfold RQ;rw[if_pos (by simp[Region.wanted])];refine⟨v,fun w' hw=>?_,k⟩;unfold Oper.quietAt;rw[eval_fr,call_run he (args_map ha)];refine⟨rfl,(h w' hw).mono ?_⟩;rintro e w'' ⟨u,rfl,hx,rfl⟩;exact⟨rfl,hw.tr hx⟩
end
theorem enter{P:Program}{f:FuncId}{fn:Func}{c:Code}{args l:List Value}{w:World}{R:Ending→World→Prop}(hf:P.funcs[f]? =some fn)(hb:fn.body=some c)
  (hl:args++List.replicate (fn.ntmps - args.length) undef=l)(h:c.wp P (bodyPost P fn R) (fr l) w):Calls P f args.toArray w R:=by
 refine calls_of_wp hf hb ?_;subst hl;have e:args.toArray++Array.replicate (fn.ntmps - args.toArray.size) undef=(args++List.replicate (fn.ntmps - args.length) undef).toArray:=by simp
 rw[e];exact h
def Row(S:Nat→Prop)(w:World)(a:Option Addr)(cs:List Value):Prop:=cs=[]∨∃b o,a=some ⟨b,o,none⟩∧S b∧Cells w b o cs
theorem Cells.lt{w:World}{b o:Nat}{cs:List Value}(h:Cells w b o cs)(hn:0<cs.length):b<w.heap.size:=
 World.block_lt_of_cell? w _ (h 0 hn)
theorem Cells.of_block{w w':World}{b o:Nat}{cs:List Value}(h:Cells w b o cs)(k:w'.heap[b]? =w.heap[b]?):Cells w' b o cs:=by
 intro j hj;rw[←h j hj];exact World.cell?_of_block (w:=w) (a:=⟨b,o+j,none⟩) k
theorem Row.nil{S:Nat→Prop}{w:World}{a:Option Addr}:Row S w a []:= .inl rfl
theorem Row.step{S:Nat→Prop}{w w':World}{a:Option Addr}{cs:List Value}(h:Row S w a cs)(k:∀b,S b→b<w.heap.size→w'.heap[b]? =w.heap[b]?):Row S w' a cs:=by
 rcases h with h|⟨b,o,ha,hs,hc⟩
 ·exact .inl h
 ·by_cases hn:cs.length=0
  ·exact .inl (List.length_eq_zero_iff.1 hn)
  ·exact .inr ⟨b,o,ha,hs,hc.of_block (k b hs (hc.lt (by omega)))⟩
theorem Row.ext{S:Nat→Prop}{w w':World}{a:Option Addr}{cs:List Value}(h:Row S w a cs)(k:Ext w w'):Row S w' a cs:=h.step fun b _ hb=>k.block b hb
theorem Row.st{S:Nat→Prop}{w w':World}{n:Nat}{a:Option Addr}{cs:List Value}(h:Row S w a cs)(k:St n w w')(hn:S n→False):Row S w' a cs:=
 h.step fun b hs _=>k.block b (fun e=>hn (e▸hs))
theorem Row.pr{S T:Nat→Prop}{w w':World}{a:Option Addr}{cs:List Value}(h:Row S w a cs)(k:Pr T w w')(hn:∀b,S b→T b→False):Row S w' a cs:=
 h.step fun b hs hb=>k.block b hb (hn b hs)
theorem Row.weaken{S T:Nat→Prop}{w:World}{a:Option Addr}{cs:List Value}(h:Row S w a cs)(k:∀b,b<w.heap.size→S b→T b):Row T w a cs:=by
 rcases h with h|⟨b,o,ha,hs,hc⟩
 ·exact .inl h
 ·by_cases hn:cs.length=0
  ·exact .inl (List.length_eq_zero_iff.1 hn)
  ·exact .inr ⟨b,o,ha,k b (hc.lt (by omega)) hs,hc⟩
theorem Row.at_{S:Nat→Prop}{w:World}{a:Option Addr}{cs:List Value}(h:Row S w a cs)(i:Nat)(hi:i<cs.length):∃b o,a=some ⟨b,o,none⟩∧S b∧w.cell? ⟨b,o+i,none⟩=some (cs.getD i undef):=by
 rcases h with h|⟨b,o,ha,hs,hc⟩
 ·subst h;simp at hi
 ·exact⟨b,o,ha,hs,hc i hi⟩
theorem Row.part{S:Nat→Prop}{w:World}{a:Option Addr}{cs:List Value}(h:Row S w a cs)(i n:Nat)(hi:i+n≤cs.length)(hn:0<n):∃b o,a=some ⟨b,o,none⟩∧S b∧Cells w b (o+i) ((cs.drop i).take n):=by
 rcases h with h|⟨b,o,ha,hs,hc⟩
 ·subst h;simp at hi;omega
 ·refine⟨b,o,ha,hs,fun j hj=>?_⟩;have hj':j<n:=by simp at hj;omega
  rw[Nat.add_assoc,hc (i+j) (by omega)];rw[List.getD_eq_getElem?_getD,List.getD_eq_getElem?_getD,List.getElem?_take,if_pos hj',List.getElem?_drop]
theorem Row.of_blk{S:Nat→Prop}{w:World}{b n:Nat}{cs vs:List Value}{T:TypeId}(h:Blk w b cs T)(hs:S b)(hv:cs.take n=vs):Row S w (some ⟨b,0,none⟩) vs:=
 .inr ⟨b,0,rfl,hs,h.cellsN n (by simpa using hv)⟩
def subA(a:Option Addr)(lo sz m:Nat):Option Addr:=if m=lo then a else a.map (·.add (lo*sz))
theorem Row.sub{S:Nat→Prop}{w:World}{a:Option Addr}{cs:List Value}(h:Row S w a cs)(lo hi sz m:Nat)(hh:hi*sz≤cs.length)(_hl:lo≤hi)(hm:hi≤m):
  Row S w (subA a lo sz m) ((cs.drop (lo*sz)).take ((hi - lo)*sz)):=by
 by_cases he:(hi - lo)*sz=0
 ·rw[he,List.take_zero];exact .inl rfl
 ·have hne:lo<hi:=by
   rcases Nat.lt_or_ge lo hi with h|h
   ·exact h
   ·rw[Nat.sub_eq_zero_of_le h,Nat.zero_mul]at he;exact absurd rfl he
  have h2:lo*sz+(hi - lo)*sz=hi*sz:=by rw[←Nat.add_mul];congr 1;omega
  obtain⟨b,o,ha,hs,hc⟩:=h.part (lo*sz) ((hi - lo)*sz) (by omega) (by omega);refine .inr ⟨b,o+lo*sz,?_,hs,hc⟩;unfold subA;rw[if_neg (by omega),ha];simp[add_mk]
/-! ### owned rows -/
abbrev Own(lo:Nat)(w:World)(e:TypeId)(sz:Nat)(a:Option Addr)(n c:Nat)(cs:List Value):Prop:=w.ownsRow lo e sz (.slice a n c) n cs
def obk(a:Option Addr):Option Nat:=a.map (·.block)
theorem ownBlock_slice(a:Option Addr)(n c:Nat):(Value.slice a n c).ownBlock=obk a:=by cases a<;>rfl
theorem Own.form{lo:Nat}{w:World}{e:TypeId}{sz:Nat}{v:Value}{n:Nat}{cs:List Value}(h:w.ownsRow lo e sz v n cs):∃a c,v= .slice a n c:=by
 rcases h.2 with⟨rfl,rfl⟩|⟨g,cap,cur,rfl,_⟩
 ·exact⟨none,0,rfl⟩
 ·exact⟨_,_,rfl⟩
theorem Own.len{lo:Nat}{w:World}{e:TypeId}{sz:Nat}{a:Option Addr}{n c:Nat}{cs:List Value}(h:Own lo w e sz a n c cs):cs.length=n*sz:=h.1
theorem Own.lo{lo:Nat}{w:World}{e:TypeId}{sz:Nat}{a:Option Addr}{n c:Nat}{cs:List Value}(h:Own lo w e sz a n c cs):∀k,obk a=some k→lo≤k∧k<w.heap.size:=by
 intro k hk;exact World.ownsRow.lt h k (by rw[ownBlock_slice];exact hk)
theorem Own.base{lo lo':Nat}{w:World}{e:TypeId}{sz:Nat}{a:Option Addr}{n c:Nat}{cs:List Value}(h:Own lo w e sz a n c cs)(hl:∀k,obk a=some k→lo'≤k):Own lo' w e sz a n c cs:=by
 refine⟨h.1,?_⟩;rcases h.2 with hn|⟨g,cap,cur,hv,_,r⟩
 ·exact .inl hn
 ·refine .inr ⟨g,cap,cur,hv,?_,r⟩;have:a=some ⟨g,0,none⟩:=by simp at hv;exact hv.1
  exact hl g (by rw[this];rfl)
theorem Own.cap{lo:Nat}{w:World}{e:TypeId}{sz:Nat}{a:Option Addr}{n c:Nat}{cs:List Value}(h:Own lo w e sz a n c cs):n≤c∧c≤maxLen:=by
 rcases h.2 with⟨hv,hn⟩|⟨g,cap,cur,hv,_,_,h1,h2,_⟩
 ·simp at hv;omega
 ·simp at hv;omega
theorem Own.row{lo:Nat}{w:World}{e:TypeId}{sz:Nat}{a:Option Addr}{n c:Nat}{cs:List Value}(h:Own lo w e sz a n c cs):Row (fun k=>obk a=some k) w a cs:=by
 rcases h.2 with⟨hv,hn⟩|⟨g,cap,cur,hv,_,hg,h1,h2,hcs,ht⟩
 ·left;have:=h.1;rw[hn]at this;simpa using this
 ·have ha:a=some ⟨g,0,none⟩:=by simp at hv;exact hv.1
  refine .inr ⟨g,0,ha,by rw[ha];rfl,?_⟩;intro j hj;have hl:=h.1;simp only[World.cell?,Nat.zero_add];rw[hg];rw[←ht,List.getD_eq_getElem?_getD,List.getElem?_take,if_pos (by omega)];have:j<cur.size:=by rw[hcs];exact Nat.lt_of_lt_of_le (by omega) (Nat.mul_le_mul_right sz h1)
  simp[this]
theorem Own.rowS{lo:Nat}{w:World}{e:TypeId}{sz:Nat}{a:Option Addr}{n c:Nat}{cs:List Value}(h:Own lo w e sz a n c cs):Row (fun k=>lo≤k) w a cs:=
 h.row.weaken fun b _ hb=>(h.lo b hb).1
theorem Own.step{lo:Nat}{w w':World}{e:TypeId}{sz:Nat}{a:Option Addr}{n c:Nat}{cs:List Value}(h:Own lo w e sz a n c cs)(k:∀b,obk a=some b→b<w.heap.size→w'.heap[b]? =w.heap[b]?):Own lo w' e sz a n c cs:=by
 refine⟨h.1,?_⟩;rcases h.2 with hn|⟨g,cap,cur,hv,hb,hg,r⟩
 ·exact .inl hn
 ·have ha:a=some ⟨g,0,none⟩:=by simp at hv;exact hv.1
  refine .inr ⟨g,cap,cur,hv,hb,?_,r⟩;rw[k g (by rw[ha];rfl) (Array.getElem?_eq_some_iff.1 hg).1];exact hg
theorem Own.ext{lo:Nat}{w w':World}{e:TypeId}{sz:Nat}{a:Option Addr}{n c:Nat}{cs:List Value}(h:Own lo w e sz a n c cs)(k:Ext w w'):Own lo w' e sz a n c cs:=h.step fun b _ hb=>k.block b hb
theorem Own.st{lo:Nat}{w w':World}{m:Nat}{e:TypeId}{sz:Nat}{a:Option Addr}{n c:Nat}{cs:List Value}(h:Own lo w e sz a n c cs)(k:St m w w')(hn:obk a=some m→False):Own lo w' e sz a n c cs:=
 h.step fun b hs _=>k.block b (fun e=>hn (e▸hs))
theorem Own.pr{lo:Nat}{T:Nat→Prop}{w w':World}{e:TypeId}{sz:Nat}{a:Option Addr}{n c:Nat}{cs:List Value}(h:Own lo w e sz a n c cs)(k:Pr T w w')(hn:∀b,obk a=some b→T b→False):Own lo w' e sz a n c cs:=
 h.step fun b hs hb=>k.block b hb (hn b hs)
theorem Own.nil(lo:Nat)(w:World)(e:TypeId)(sz:Nat):Own lo w e sz none 0 0 []:=World.ownsRow_nil w lo e sz
theorem Own.of_blk{lo:Nat}{w:World}{e:TypeId}{sz b n:Nat}{cs:List Value}(h:Blk w b cs e)(hl:cs.length=n*sz)(hb:lo≤b)(hn:n≤maxLen):Own lo w e sz (some ⟨b,0,none⟩) n n cs:=by
 refine⟨hl, .inr ⟨b,n,cs.toArray,rfl,hb,h,Nat.le_refl _,hn,by simpa using hl,?_⟩⟩;rw[List.take_of_length_le (by simp;omega)]
theorem grown_pr{w w':World}{r:Option Nat}(h:w.grownBy w' r):Pr (fun k=>r=some k) w w':=
 ⟨h.os,h.tape,h.output,h.size,fun k hk hn=>h.block k hk (fun e=>hn e.symm)⟩
section
variable{P:Program}{ops:Array Oper}{K:List Value→World→Prop}{rest:List Oper}{l:List Value}{w:World}{d:Tmp}{ty:TypeId}{pos:String}{af:Array Edge}
theorem Row.news{S:Nat→Prop}{a:Option Addr}{cs:List Value}{ad:Addr}(h:Row S w a cs)(ha:a=some ad):∀j u,cs[j]? =some u→w.cell? (ad.add j)=some u:=by
 intro j u hu;have hj:j<cs.length:=(List.getElem?_eq_some_iff.1 hu).1;obtain⟨b,o,h1,_,h2⟩:=h.at_ j hj;rw[ha]at h1;obtain rfl:=Option.some.inj h1;rw[add_mk,h2,List.getD_eq_getElem?_getD,hu];rfl
theorem append_zero_run{t e:TypeId}{a a2:Option Addr}{n c c2:Nat}{sz:Nat}(hu:P.underlying t=some (.slice e))(hs:P.cellsOf e=sz)(hz:sz≠0)(hnc:n≤c):
  (Builtin.append_ #[t,t] ty #[.slice a n c, .slice a2 0 c2]).run P w= .ok (.slice a n c) w:=by
 have h1:=size_run (w:=w) hs hz;cases a2<;>cases a<;>simp[Builtin.append_,run_underlying hu,h1,Builtin.lenOf,hnc,Builtin.firstCells,loadCells,loadCellsFrom,storeCells]
theorem RS.append{x y:Operand}{t e:TypeId}{lo sz by_:Nat}{z:List Value}{a a2:Option Addr}{n c m c2:Nat}{cs ds:List Value}{S:Nat→Prop}
  (hx:ev l x= .slice a n c)(hy:ev l y= .slice a2 m c2)(hu:P.underlying t=some (.slice e))(ht:TI P e sz by_ z)(hz:z.length=sz)(hsz:0<sz)
  (hO:Own lo w e sz a n c cs)(hR:Row S w a2 ds)(hd:ds.length=m*sz)(h1:∀u∈ds,u.oneCell'=true)(hlo:lo≤w.heap.size)(hb:(n+m)*by_≤140737488355328)(hb':n+m≤140737488355328)
  (k:∀a' c' w',Own lo w' e sz a' (n+m) c' (cs++ds)→Pr (fun k=>obk a=some k) w w'→RS P ops K rest (l.set d (.slice a' (n+m) c')) w'):
  RS P ops K (⟨some d, .call {callee:= .builtin .append,args:= #[x,y],argTypes:= #[t,t]},ty,pos,af,none⟩::rest) l w:=by
 have hrun:∀v w',(Builtin.append_ #[t,t] ty #[.slice a n c, .slice a2 m c2]).run P w= .ok v w'→
   (execOp (ev l) ⟨some d, .call {callee:= .builtin .append,args:= #[x,y],argTypes:= #[t,t]},ty,pos,af,none⟩).run P w= .ok (.value v) w':=by
  intro v w' h;simp[execOp,resolve,hx,hy,invoke,builtin,h]
 obtain⟨i,zv,i1,i2,i3,i4,i5⟩:=ht;have hcs:P.cellsOf e=sz:=by simp[Program.cellsOf,i1,i2]
 have hzs:zv.cells.size=sz:=by rw[i5];simpa using hz
 by_cases hm:m=0
 ·subst hm;have hd0:ds=[]:=List.length_eq_zero_iff.1 (by omega);subst hd0;have:=append_zero_run (P:=P) (w:=w) (ty:=ty) (a:=a) (a2:=a2) (c2:=c2) hu hcs (by omega) hO.cap.1;refine RS.o (hrun _ _ this) (k a c w ?_ (Pr.refl _ _)) rfl;simpa using hO
 ·have hlen:0<ds.length:=by rw[hd];exact Nat.mul_pos (by omega) hsz
  obtain⟨b,o,ha,_,_⟩:=hR.at_ 0 hlen;subst ha;obtain⟨v',w',hr,ho,hg,_⟩:=run_append_own (P:=P) w lo t ty e i zv sz by_ hu i1 i4 i2 i3 hzs hsz (.slice a n c) n cs hO ⟨b,o,none⟩ m c2 ds hd (hR.news rfl) h1 (by simp only[maxLen];omega) hb hlo;obtain⟨a',c',rfl⟩:=Own.form ho;refine RS.o (hrun _ _ hr) (k a' c' w' ho ?_) rfl;have:=grown_pr hg;rwa[ownBlock_slice]at this
theorem RS.make{x y:Operand}{t e:TypeId}{sz by_:Nat}{z:List Value}{kx ky:IntKind}{n:Int}(hx:ev l x= .int kx n)(hy:ev l y= .int ky n)(hu:P.underlying t=some (.slice e))(ht:TI P e sz by_ z)
  (h0:0≤n)(hb:(by_:Int)*n≤281474976710656)(h63:n≤9223372036854775807)
  (k:∀b w',w.heap.size=b→w'.heap.size=b+1→Ext w w'→Blk w' b (madeCells z.toArray (n.toNat*sz)).toList e→RS P ops K rest (l.set d (.slice (some ⟨b,0,none⟩) n.toNat n.toNat)) w'):
  RS P ops K (⟨some d, .makeSlice t x y,ty,pos,af,none⟩::rest) l w:=by
 obtain⟨i,zv,i1,i2,i3,i4,i5⟩:=ht;refine RS.new (f:=fun b=> .slice (some ⟨b,0,none⟩) n.toNat n.toNat) ?_ k;have:=run_make (P:=P) w t e i zv hu i1 i4 kx ky n n h0 (Int.le_refl _) (by rw[i3];exact hb) h63;simp only[execOp];rw[hx,hy];simp[this,i2,i5]
theorem RS.storeOwn{x y:Operand}{xt:TypeId}{lo b o n c:Nat}{e:TypeId}{sz:Nat}{cs:List Value}{v:Value}(hx:ev l x= .pointer (some ⟨b,o,none⟩))(hy:ev l y=v)(hs:P.cellsOf xt=1)(hv:cellB v=true)
  (hO:Own lo w e sz (some ⟨b,0,none⟩) n c cs)(ho:o<cs.length)(k:∀w',St b w w'→Own lo w' e sz (some ⟨b,0,none⟩) n c (cs.set o v)→RS P ops K rest l w'):
  RS P ops K (⟨none, .store xt x y,ty,pos,af,none⟩::rest) l w:=by
 obtain⟨b',o',hb,_,hc⟩:=hO.row.at_ o ho;obtain⟨rfl,rfl⟩:b=b'∧0=o':=by simpa using hb
 have hf:=World.ownsRow.frozenAt hO o;have hst:=World.ownsRow.stored hO o v;have hvc:v.cells= #[v]:=by cases v<;>simp[cellB]at hv<;>rfl
 have h1:(Go.store ⟨b,o,none⟩ v).run P w= .ok () (w.setCell ⟨b,o,none⟩ v):=by
  simp only[Nat.zero_add]at hc;cases v<;>simp[cellB]at hv<;>simp only[Go.store,Sem.run,hc,hf]<;>rfl
 refine RS.u rfl rfl ?_ (k (w.setCell ⟨b,o,none⟩ v) ⟨rfl,rfl,rfl,by simp[World.setCell],fun i hi=>?_⟩ hst.1)
 ·simp only[execOp];rw[hx,hy];simp[Instr.storeAt,Instr.sureAddr,storeVar,size_run hs (by decide),hvc,storeCells,h1,Addr.add]
 ·simp only[World.setCell,Array.getElem?_modify];rw[if_neg (by omega)]
variable{g:Option (Nat×Bool)}{dd:Option Tmp}
theorem D.slice{x:Operand}{t e:TypeId}{sz:Nat}{a:Option Addr}{n c:Nat}{lo hi:Option Operand}{li hi':Int}{kl kh:IntKind}(hx:ev l x= .slice a n c)(hu:P.underlying t=some (.slice e))(hs:P.cellsOf e=sz)(hz:sz≠0)
  (hl:(lo.map (ev l)).getD (.int kl 0)= .int kl li)(hh:(hi.map (ev l)).getD (.int kh n)= .int kh hi')(hb:0≤li∧li≤hi'∧hi'≤c)(_hn:n≤c):
  (execOp (ev l) ⟨dd, .slice t x lo hi none,ty,pos,af,g⟩).run P w= .ok (.value (.slice (subA a li.toNat sz c) (hi'.toNat - li.toNat) (c - li.toNat))) w:=by
 have h0:0≤hi':=by omega
 have hsz:=size_run (P:=P) (w:=w) hs hz;simp only[execOp];rw[hx];cases lo with
 |none=>
  simp at hl;subst hl;cases hi with
  |none=>
   simp at hh;subst hh;simp[Instr.sliceAt,Instr.slice,run_underlying hu,Instr.sliceBounds,hsz,subA]
  |some y=>
   simp at hh;have hy:ev l y= .int kh hi':=hh;simp[Instr.sliceAt,Instr.slice,run_underlying hu,Instr.sliceBounds,Instr.sliceBound,asIntOf,hy,h0,hb.2.2,hsz,subA]
 |some x'=>
  have hx':ev l x'= .int kl li:=by simpa using hl
  cases hi with
  |none=>
   have hh':(n:Int)=hi':=by simpa using hh
   subst hh';have:li≤(n:Int):=hb.2.1;simp[Instr.sliceAt,Instr.slice,run_underlying hu,Instr.sliceBounds,Instr.sliceBound,asIntOf,hx',hb.1,this,hsz,subA]
  |some y=>
   have hy:ev l y= .int kh hi':=by simpa using hh
   simp[Instr.sliceAt,Instr.slice,run_underlying hu,Instr.sliceBounds,Instr.sliceBound,asIntOf,hx',hy,h0,hb.1,hb.2.2,hsz,subA];intro hlt;omega
end
def ints(k:IntKind)(xs:List Int):List Value:=xs.map (.int k)
theorem ints_length(k:IntKind)(xs:List Int):(ints k xs).length=xs.length:=by simp[ints]
theorem ints_getD(k:IntKind)(xs:List Int)(i:Nat)(h:i<xs.length):(ints k xs).getD i undef= .int k (xs.getD i 0):=by
 simp[ints,List.getD_eq_getElem?_getD,List.getElem?_eq_getElem h]
theorem ints_one(k:IntKind)(xs:List Int):∀u∈ints k xs,u.oneCell'=true:=by
 intro u hu;obtain⟨x,_,rfl⟩:=List.mem_map.1 hu;rfl
theorem ints_append(k:IntKind)(xs ys:List Int):ints k (xs++ys)=ints k xs++ints k ys:=by simp[ints]
theorem ints_drop(k:IntKind)(xs:List Int)(n:Nat):(ints k xs).drop n=ints k (xs.drop n):=by simp[ints,List.map_drop]
theorem ints_take(k:IntKind)(xs:List Int)(n:Nat):(ints k xs).take n=ints k (xs.take n):=by simp[ints,List.map_take]
theorem ints_set(k:IntKind)(xs:List Int)(n:Nat)(v:Int):(ints k xs).set n (.int k v)=ints k (xs.set n v):=by simp[ints,List.map_set]
def lim:IntKind→Int
 | .u8=>256| .u16=>65536| .u32=>4294967296| .u64=>18446744073709551616| .i64=>9223372036854775808|_=>128
def Bd(k:IntKind)(xs:List Int):Prop:=∀x∈xs,0≤x∧x<lim k
theorem Bd.get{k:IntKind}{xs:List Int}(h:Bd k xs)(i:Nat):0≤xs.getD i 0∧xs.getD i 0<lim k:=by
 by_cases hi:i<xs.length
 ·rw[List.getD_eq_getElem?_getD,List.getElem?_eq_getElem hi];exact h _ (List.getElem_mem hi)
 ·rw[List.getD_eq_getElem?_getD,List.getElem?_eq_none (by omega)];refine⟨Int.le_refl _,?_⟩;cases k<;>decide
theorem Bd.nil(k:IntKind):Bd k []:=by intro x hx;cases hx
theorem Bd.append{k:IntKind}{xs ys:List Int}(h:Bd k xs)(h':Bd k ys):Bd k (xs++ys):=by
 intro x hx;rcases List.mem_append.1 hx with hx|hx
 ·exact h x hx
 ·exact h' x hx
theorem Bd.cons{k:IntKind}{x:Int}{xs:List Int}(h:0≤x∧x<lim k)(h':Bd k xs):Bd k (x::xs):=by
 intro y hy;rcases List.mem_cons.1 hy with rfl|hy
 ·exact h
 ·exact h' y hy
theorem Bd.drop{k:IntKind}{xs:List Int}(h:Bd k xs)(n:Nat):Bd k (xs.drop n):=fun x hx=>h x (List.mem_of_mem_drop hx)
theorem Bd.take{k:IntKind}{xs:List Int}(h:Bd k xs)(n:Nat):Bd k (xs.take n):=fun x hx=>h x (List.mem_of_mem_take hx)
theorem Bd.set{k:IntKind}{xs:List Int}(h:Bd k xs)(n:Nat){v:Int}(hv:0≤v∧v<lim k):Bd k (xs.set n v):=by
 intro x hx;rcases List.mem_or_eq_of_mem_set hx with hx|rfl
 ·exact h x hx
 ·exact hv
structure IRow(k:IntKind)(S:Nat→Prop)(w:World)(a:Option Addr)(n:Nat)(xs:List Int):Prop where
 row:Row S w a (ints k xs)
 len:xs.length=n
 bd:Bd k xs
theorem IRow.ext{k:IntKind}{S:Nat→Prop}{w w':World}{a:Option Addr}{n:Nat}{xs:List Int}(h:IRow k S w a n xs)(x:Ext w w'):IRow k S w' a n xs:=⟨h.row.ext x,h.len,h.bd⟩
theorem IRow.st{k:IntKind}{S:Nat→Prop}{w w':World}{m:Nat}{a:Option Addr}{n:Nat}{xs:List Int}(h:IRow k S w a n xs)(x:St m w w')(hn:S m→False):IRow k S w' a n xs:=⟨h.row.st x hn,h.len,h.bd⟩
theorem IRow.pr{k:IntKind}{S T:Nat→Prop}{w w':World}{a:Option Addr}{n:Nat}{xs:List Int}(h:IRow k S w a n xs)(x:Pr T w w')(hn:∀b,S b→T b→False):IRow k S w' a n xs:=⟨h.row.pr x hn,h.len,h.bd⟩
theorem IRow.weaken{k:IntKind}{S T:Nat→Prop}{w:World}{a:Option Addr}{n:Nat}{xs:List Int}(h:IRow k S w a n xs)(x:∀b,b<w.heap.size→S b→T b):IRow k T w a n xs:=⟨h.row.weaken x,h.len,h.bd⟩
theorem IRow.of_blk{k:IntKind}{S:Nat→Prop}{w:World}{b n:Nat}{cs:List Value}{T:TypeId}{xs:List Int}(h:Blk w b cs T)(hs:S b)(hc:cs=ints k xs)(hn:xs.length=n)(hb:Bd k xs):IRow k S w (some ⟨b,0,none⟩) n xs:=by
 subst hc;exact⟨Row.of_blk (n:=(ints k xs).length) h hs (by simp),hn,hb⟩
theorem IRow.nil{k:IntKind}{S:Nat→Prop}{w:World}{a:Option Addr}:IRow k S w a 0 []:=⟨Row.nil,rfl,Bd.nil k⟩
theorem IRow.sub{k:IntKind}{S:Nat→Prop}{w:World}{a:Option Addr}{n:Nat}{xs:List Int}(h:IRow k S w a n xs)(lo hi m:Nat)(hh:hi≤n)(hl:lo≤hi)(hm:hi≤m):
  IRow k S w (subA a lo 1 m) (hi - lo) ((xs.drop lo).take (hi - lo)):=by
 refine⟨?_,by simp[h.len];omega,(h.bd.drop _).take _⟩;have:=h.row.sub lo hi 1 m (by simp[ints_length,h.len];omega) hl hm;simpa [ints_drop,ints_take]using this
theorem IRow.at_{k:IntKind}{S:Nat→Prop}{w:World}{a:Option Addr}{n:Nat}{xs:List Int}(h:IRow k S w a n xs){i:Int}(hi:0≤i∧i<n):
  ∃b o,a=some ⟨b,o,none⟩∧S b∧w.cell? ⟨b,o+i.toNat*1,none⟩=some (.int k (xs.getD i.toNat 0)):=by
 obtain⟨b,o,ha,hs,hc⟩:=h.row.at_ i.toNat (by rw[ints_length,h.len];omega);refine⟨b,o,ha,hs,?_⟩;rw[Nat.mul_one,hc,ints_getD _ _ _ (by rw[h.len];omega)]
structure IOwn(lo:Nat)(w:World)(e:TypeId)(k:IntKind)(a:Option Addr)(n c:Nat)(xs:List Int):Prop where
 own:Own lo w e 1 a n c (ints k xs)
 bd:Bd k xs
theorem IOwn.len{lo:Nat}{w:World}{e:TypeId}{k:IntKind}{a:Option Addr}{n c:Nat}{xs:List Int}(h:IOwn lo w e k a n c xs):xs.length=n:=by
 have:=h.own.len;simpa [ints_length]using this
theorem IOwn.ext{lo:Nat}{w w':World}{e:TypeId}{k:IntKind}{a:Option Addr}{n c:Nat}{xs:List Int}(h:IOwn lo w e k a n c xs)(x:Ext w w'):IOwn lo w' e k a n c xs:=⟨h.own.ext x,h.bd⟩
theorem IOwn.st{lo m:Nat}{w w':World}{e:TypeId}{k:IntKind}{a:Option Addr}{n c:Nat}{xs:List Int}(h:IOwn lo w e k a n c xs)(x:St m w w')(hn:obk a=some m→False):IOwn lo w' e k a n c xs:=⟨h.own.st x hn,h.bd⟩
theorem IOwn.pr{lo:Nat}{T:Nat→Prop}{w w':World}{e:TypeId}{k:IntKind}{a:Option Addr}{n c:Nat}{xs:List Int}(h:IOwn lo w e k a n c xs)(x:Pr T w w')(hn:∀b,obk a=some b→T b→False):IOwn lo w' e k a n c xs:=⟨h.own.pr x hn,h.bd⟩
theorem IOwn.base{lo lo':Nat}{w:World}{e:TypeId}{k:IntKind}{a:Option Addr}{n c:Nat}{xs:List Int}(h:IOwn lo w e k a n c xs)(hl:∀b,obk a=some b→lo'≤b):IOwn lo' w e k a n c xs:=⟨h.own.base hl,h.bd⟩
theorem IOwn.row{lo:Nat}{w:World}{e:TypeId}{k:IntKind}{a:Option Addr}{n c:Nat}{xs:List Int}(h:IOwn lo w e k a n c xs):IRow k (fun b=>lo≤b) w a n xs:=⟨h.own.rowS,h.len,h.bd⟩
theorem IOwn.nil(lo:Nat)(w:World)(e:TypeId)(k:IntKind):IOwn lo w e k none 0 0 []:=⟨Own.nil lo w e 1,Bd.nil k⟩
theorem IOwn.lo{lo:Nat}{w:World}{e:TypeId}{k:IntKind}{a:Option Addr}{n c:Nat}{xs:List Int}(h:IOwn lo w e k a n c xs):∀b,obk a=some b→lo≤b∧b<w.heap.size:=h.own.lo
theorem IOwn.of_blk{lo:Nat}{w:World}{e:TypeId}{k:IntKind}{b n:Nat}{cs:List Value}{xs:List Int}(h:Blk w b cs e)(hc:cs=ints k xs)(hn:xs.length=n)(hb:lo≤b)(hd:Bd k xs)(hm:n≤9223372036854775807):IOwn lo w e k (some ⟨b,0,none⟩) n n xs:=by
 subst hc;exact⟨Own.of_blk h (by rw[ints_length,hn,Nat.mul_one]) hb (by simp only[maxLen];omega),hd⟩
section
variable{P:Program}{ops:Array Oper}{K:List Value→World→Prop}{rest:List Oper}{l:List Value}{w w0:World}{d:Tmp}{ty:TypeId}{pos:String}{af:Array Edge}
theorem RS.idx{x y:Operand}{xt e:TypeId}{k ki:IntKind}{S:Nat→Prop}{a:Option Addr}{n c:Nat}{xs:List Int}{i:Int}(hR:IRow k S w a n xs)(hx:ev l x= .slice a n c)(hy:ev l y= .int ki i)(hu:P.underlying xt=some (.slice e))(hs:P.cellsOf e=1)
  (hi:0≤i∧i<n)(h:∀b o v,w.cell? ⟨b,o,none⟩=some (.int k v)→v=xs.getD i.toNat 0→0≤v∧v<lim k→RS P ops K rest (l.set d (.pointer (some ⟨b,o,none⟩))) w):
  RS P ops K (⟨some d, .indexAddr xt x y,ty,pos,af,none⟩::rest) l w:=by
 obtain⟨b,o,ha,_,hc⟩:=hR.at_ hi;exact RS.o (D.indexAddr hx hy hu hs (by decide) ha hi) (h _ _ _ hc rfl (hR.bd.get _)) rfl
theorem RS.appendI{x y:Operand}{t e:TypeId}{k:IntKind}{lo by_:Nat}{z:List Value}{a a2:Option Addr}{n c m c2:Nat}{xs ys:List Int}{S:Nat→Prop}
  (hO:IOwn lo w e k a n c xs)(hR:IRow k S w a2 m ys)(hx:ev l x= .slice a n c)(hy:ev l y= .slice a2 m c2)(hu:P.underlying t=some (.slice e))(ht:TI P e 1 by_ z)(hz:z.length=1)
  (hlo:lo≤w.heap.size)(hby:by_≤8)(hb:n+m≤17592186044416)
  (h:∀a' c' w',IOwn lo w' e k a' (n+m) c' (xs++ys)→Pr (fun b=>obk a=some b) w w'→RS P ops K rest (l.set d (.slice a' (n+m) c')) w'):
  RS P ops K (⟨some d, .call {callee:= .builtin .append,args:= #[x,y],argTypes:= #[t,t]},ty,pos,af,none⟩::rest) l w:=by
 have h8:(n+m)*by_≤(n+m)*8:=Nat.mul_le_mul_left _ hby;refine RS.append hx hy hu ht hz (by decide) hO.own hR.row (by rw[ints_length,hR.len,Nat.mul_one]) (ints_one _ _) hlo (by omega) (by omega) ?_;intro a' c' w' ho hp;exact h a' c' w' ⟨by rw[ints_append];exact ho,hO.bd.append hR.bd⟩ hp
end
section
variable{P:Program}{ops:Array Oper}{R:World→World→Prop}{bg:List Nat}{Q:Act→World→Prop}
def NoQ:Exit→Act→World→Prop:=fun _ _ _=>False
def xOp(P:Program)(ops:Array Oper)(i:Nat)(K:Act→World→Prop)(a:Act)(w:World):Prop:=
 match ops[i]? with
 |none=>K a w
 |some o=>if Region.wanted o (yielded ops a.tmps)then o.wp P a w K NoQ else K (a.put o.dst undef) w
def wpX(P:Program)(ops:Array Oper)(R:World→World→Prop)(bg:List Nat)(Q:Act→World→Prop):Nat→Array Bool→Act→World→Prop
 |0,listed,a,w=>Region.ready .any ops listed=[]∧Q a w
 |fuel+1,listed,a,w=>
  (Region.ready .any ops listed=[]→Q a w)∧
  ∀i∈Region.ready .any ops listed,xOp P ops i (fun a' w'=>(i∉bg→R w w')∧wpX P ops R bg Q fuel (listed.setIfInBounds i true) a' w') a w
theorem wpOp_of_xOp{i:Nat}{K K':Act→World→Prop}{Q':Exit→Act→World→Prop}{a:Act}{w:World}(h:∀a w,K a w→K' a w)(hh:xOp P ops i K a w):wpOp P ops Q' i K' a w:=by
 unfold xOp at hh;unfold wpOp;split
 ·rename_i ho;simp only[ho]at hh;exact h _ _ hh
 ·rename_i o ho;simp only[ho]at hh;split
  ·rename_i hw;simp only[hw,if_true]at hh;refine .inl ?_;unfold Oper.wp at*;exact upon_mono h (fun _ _ _ h=>h.elim) hh
  ·rename_i hw;simp only[hw]at hh;exact h _ _ hh
theorem wpAny_of_X{Q':Exit→Act→World→Prop}(hQ:∀a w,Q a w→Q' .normal a w):∀(fuel:Nat) (listed:Array Bool) (a:Act) (w:World),wpX P ops R bg Q fuel listed a w→wpAny P .any ops Q' fuel listed a w
 |0,_,_,_,h=>⟨h.1,hQ _ _ h.2⟩
 |fuel+1,_,_,_,h=>⟨fun h0=>hQ _ _ (h.1 h0),fun i hi=>wpOp_of_xOp (fun a w h=>wpAny_of_X hQ fuel _ a w h.2) (h.2 i hi)⟩
def YieldsR(P:Program)(ops:Array Oper)(R:World→World→Prop)(o:Oper)(v:Value)(a:Act)(w:World):Prop:=
 (Region.wanted o (yielded ops a.tmps)=true∧∀w',R w w'→(execOp a.eval o).run P w'= .ok (.value v) w')∨
 (Region.wanted o (yielded ops a.tmps)=false∧v=undef)
theorem YieldsR.of_same{o:Oper}{v:Value}{a a':Act}{w:World}(hy:YieldsR P ops R o v a w)(he:execOp a'.eval o=execOp a.eval o)
  (hw:Region.wanted o (yielded ops a'.tmps)=Region.wanted o (yielded ops a.tmps)):YieldsR P ops R o v a' w:=by
 unfold YieldsR at*;rw[he,hw];exact hy
theorem YieldsR.later{o:Oper}{v:Value}{a:Act}{w w':World}(ht:∀ {a b c},R a b→R b c→R a c)(hy:YieldsR P ops R o v a w)(h:R w w'):YieldsR P ops R o v a w':=by
 rcases hy with⟨h1,h2⟩|h
 ·exact .inl ⟨h1,fun w'' h3=>h2 w'' (ht h h3)⟩
 ·exact .inr h
theorem YieldsR.xOp{i:Nat}{o:Oper}{v:Value}{a:Act}{w:World}(hr:∀w,R w w)(hi:ops[i]? =some o)(hy:YieldsR P ops R o v a w){K:Act→World→Prop}(h:K (a.put o.dst v) w):xOp P ops i K a w:=by
 unfold G.xOp;simp only[hi];rcases hy with⟨hw,hv⟩|⟨hw,rfl⟩
 ·simp only[hw,if_true,Oper.wp,hv w (hr w),Oper.upon];exact h
 ·simp only[hw,Bool.false_eq_true,if_false];exact h
theorem xOp_put{j:Nat}{oi oj:Oper}{v:Value}(ht:∀ {a b c},R a b→R b c→R a c)(hj:ops[j]? =some oj)(hap:oi.apart ops oj=true)
  (hsi:∀cs b,oi.op≠ .select cs b)(hsj:∀cs b,oj.op≠ .select cs b){K:Act→World→Prop}{a:Act}{w:World}(hK:∀a w',K a w'→R w w')
  (hy:YieldsR P ops R oi v a w)(h:xOp P ops j K (a.put oi.dst v) w):
  xOp P ops j (fun a' w'=>YieldsR P ops R oi v a' w'∧K (a'.put oi.dst v) w') a w:=by
 obtain⟨h1,h2,h3⟩:=Oper.apart_spec hap;have keep:∀(a:Act) (w:World),YieldsR P ops R oi v a w→∀u,YieldsR P ops R oi v (a.put oj.dst u) w:=fun a w hy u=>
  hy.of_same (execOp_put oi hsi a oj.dst u h3) (wanted_put oi a oj.dst u h3)
 have keepD:∀d,YieldsR P ops R oi v {a with defers:=d::a.defers} w:=fun d=>hy.of_same rfl rfl;unfold xOp at*;simp only[hj]at*;rw[wanted_put oj a oi.dst v h1]at h;split
 ·rename_i hw;simp only[hw,if_true]at h;unfold Oper.wp at*;rw[execOp_put oj hsj a oi.dst v h1]at h;generalize (execOp a.eval oj).run P w=r at*;cases r with
  |ok n w'=>
   cases n<;>simp only[Oper.upon]at h⊢
   case value u=>
    rw[Act.put_comm a v u h2]at h;exact⟨keep a _ (hy.later ht (hK _ _ h)) u,h⟩
   case skip=>
    rw[Act.put_comm a v undef h2]at h;exact⟨keep a _ (hy.later ht (hK _ _ h)) _,h⟩
   case defer d=>
    have h':=h;rw[Act.put_defers,Act.put_comm _ v undef h2]at h';exact⟨keep _ _ ((keepD d).later ht (hK _ _ h')) _,h'⟩
   case enter f args=>
    refine Calls.mono h fun e w'' he=>?_
    cases e with
    |returned u=>
     have he:K _ _:=he;rw[Act.put_comm a v u h2]at he;exact⟨keep a _ (hy.later ht (hK _ _ he)) u,he⟩
    |panicked c=>exact he
    |outgrown=>exact he
   case row row args=>
    refine Rows.mono h fun u w'' he=>?_
    rw[Act.put_comm a v u h2]at he;exact⟨keep a _ (hy.later ht (hK _ _ he)) u,he⟩
  |halt x w'=>cases x<;>simp only[Oper.upon]at h⊢ <;>exact h
 ·rename_i hw;simp only[hw]at h;simp only[Bool.false_eq_true,if_false]at h;rw[Act.put_comm a v undef h2]at h;exact⟨keep a _ (hy.later ht (hK _ _ h)) _,h⟩
theorem xOp_mono{i:Nat}{K K':Act→World→Prop}{a:Act}{w:World}(h:∀a w,K a w→K' a w)(hh:xOp P ops i K a w):xOp P ops i K' a w:=by
 unfold xOp at*;split
 ·rename_i ho;simp only[ho]at hh;exact h _ _ hh
 ·rename_i o ho;simp only[ho]at hh;split
  ·rename_i hw;simp only[hw,if_true]at hh;unfold Oper.wp at*;exact upon_mono h (fun _ _ _ h=>h) hh
  ·rename_i hw;simp only[hw]at hh;exact h _ _ hh
def Closed(ops:Array Oper)(listed:Array Bool):Prop:=∀k ok,ops[k]? =some ok→listed.getD k false=true→∀e∈ok.after,Region.binds .any e=true→listed.getD e.on false=true
theorem Closed.set{listed:Array Bool}{i:Nat}(h:Closed ops listed)(hr:i∈Region.ready .any ops listed):Closed ops (listed.setIfInBounds i true):=by
 intro k ok hk hl e he hb;obtain⟨_,oi,hoi,hall⟩:=mem_ready.1 hr;by_cases hki:i=k
 ·subst hki;rw[hk]at hoi;obtain rfl:=Option.some.inj hoi;exact getD_set_true (hall e he hb)
 ·rw[getD_set_ne false hki]at hl;exact getD_set_true (h k ok hk hl e he hb)
theorem wpX_first{i:Nat}{oi:Oper}{v:Value}{R2:World→World→Prop}(hrr:∀w,R w w)(hrr2:∀w,R2 w w)(ht:∀ {a b c},R2 a b→R2 b c→R2 a c)(hbg:∀j,j≠i→∀listed,Closed ops listed→i∈Region.ready .any ops listed→j∈Region.ready .any ops listed→∀w w',(j∉bg→R w w')→R2 w w')(hi:ops[i]? =some oi)(hsel:∀(j:Nat) (o:Oper) cs b,ops[j]? =some o→o.op≠ .select cs b):
  ∀(fuel:Nat) (listed:Array Bool) (a:Act) (w:World),Closed ops listed→
   (∀j oj,ops[j]? =some oj→j≠i→listed.getD j true=false→(∀e∈oj.after,Region.binds .any e=true→e.on≠i)→oi.apart ops oj=true)→
   i∈Region.ready .any ops listed→YieldsR P ops R2 oi v a w→
   wpX P ops R bg Q fuel (listed.setIfInBounds i true) (a.put oi.dst v) w→wpX P ops R bg Q (fuel+1) listed a w:=by
 intro fuel
 induction fuel with
 |zero=>
  intro listed a w _ _ hr hy H;refine⟨fun h=>(by rw[h]at hr;cases hr),fun j hj=>?_⟩;by_cases hji:j=i
  ·subst hji;exact hy.xOp hrr2 hi ⟨fun _=>hrr w,H⟩
  ·have:=ready_mono hj hji;rw[H.1]at this;cases this
 |succ fuel ih=>
  intro listed a w hcl hfree hr hy H;refine⟨fun h=>(by rw[h]at hr;cases hr),fun j hj=>?_⟩;by_cases hji:j=i
  ·subst hji;exact hy.xOp hrr2 hi ⟨fun _=>hrr w,H⟩
  ·have h1:=H.2 j (ready_mono hj hji);obtain⟨hjun,oj,hoj,hall⟩:=mem_ready.1 hj;have hnot:∀e∈oj.after,Region.binds .any e=true→e.on≠i:=fun e he hb heq=>by
    have h1:=hall e he hb;have h0:=(mem_ready.1 hr).1;rw[heq]at h1;rcases Nat.lt_or_ge i listed.size with h'|h'
    ·simp[h']at h0 h1;rw[h0]at h1;cases h1
    ·simp[Array.getElem?_eq_none h']at h1
   have h2:=xOp_put ht hoj (hfree j oj hoj hji hjun hnot) (fun cs b=>hsel i oi cs b hi) (fun cs b=>hsel j oj cs b hoj) (R:=R2) (fun _ _ (h:(j∉bg→R w _)∧_)=>hbg j hji _ hcl hr hj _ _ h.1) hy h1;have hfree':∀k ok,ops[k]? =some ok→k≠i→(listed.setIfInBounds j true).getD k true=false→
     (∀e∈ok.after,Region.binds .any e=true→e.on≠i)→oi.apart ops ok=true:=fun k ok hk hki hun hno=>by
    refine hfree k ok hk hki ?_ hno;by_cases hjk:j=k
    ·subst hjk;exact hjun
    ·rw[getD_set_ne true hjk]at hun;exact hun
   refine xOp_mono (fun a' w' h3=>⟨h3.2.1,ih (listed.setIfInBounds j true) a' w' (hcl.set hj) hfree' (ready_mono hr (Ne.symm hji)) h3.1 ?_⟩) h2;rw[Array.setIfInBounds_comm _ _ hji];exact h3.2.2
inductive Kd where
 |q|e|g|c
 deriving DecidableEq
def twoB(ops:Array Oper)(o:Oper)(k:Nat):Bool:=
 o.after.any fun e => Region.binds .any e && (Nat.beq e.on k || match ops[e.on]? with
  | some o2 => o2.after.any fun e2 => Region.binds .any e2 && Nat.beq e2.on k
  | none => false)
theorem twoB_spec{o:Oper}{k:Nat}{listed:Array Bool}(h:twoB ops o k=true)(hc:Closed ops listed)(ha:∀e∈o.after,Region.binds .any e=true→listed.getD e.on false=true):listed.getD k false=true:=by
 obtain⟨e,he,hb⟩:=Array.any_eq_true'.1 h;rw[Bool.and_eq_true,Bool.or_eq_true]at hb;have h1:=ha e he hb.1;rcases hb.2 with h2|h2
 ·rw[Nat.eq_of_beq_eq_true h2]at h1;exact h1
 ·split at h2
  ·rename_i o2 ho2;obtain⟨e2,he2,hb2⟩:=Array.any_eq_true'.1 h2;rw[Bool.and_eq_true]at hb2;have:=hc _ _ ho2 h1 e2 he2 hb2.1;rwa[Nat.eq_of_beq_eq_true hb2.2]at this
  ·cases h2
def depsL(ops:Array Oper)(i:Nat):List Nat:=
 match ops[i]? with
 |some o=>(o.after.toList.filter (Region.binds .any)).map (·.on)
 |none=>[]
def ancL(ops:Array Oper):Nat→List Nat→List Nat→List Nat
 |0,_,acc=>acc
 |_+1,[],acc=>acc
 |f+1,k::fr,acc=>if acc.any (Nat.beq k)then ancL ops f fr acc else ancL ops f (depsL ops k++fr) (k::acc)
theorem ancL_spec{listed:Array Bool}(hc:Closed ops listed):∀(f:Nat) (fr acc:List Nat),(∀k∈fr,listed.getD k false=true)→(∀k∈acc,listed.getD k false=true)→∀k∈ancL ops f fr acc,listed.getD k false=true
 |0,_,_,_,h2,k,hk=>h2 k hk
 |_+1,[],_,_,h2,k,hk=>h2 k hk
 |f+1,q::fr,acc,h1,h2,k,hk=>by
  unfold ancL at hk;split at hk
  ·exact ancL_spec hc f fr acc (fun k hk=>h1 k (by simp[hk])) h2 k hk
  ·refine ancL_spec hc f _ _ (fun i hi=>?_) (fun i hi=>?_) k hk
   ·rcases List.mem_append.1 hi with hi|hi
    ·unfold depsL at hi;split at hi
     ·rename_i o ho;obtain⟨e,he,rfl⟩:=List.mem_map.1 hi;rw[List.mem_filter]at he;exact hc q o ho (h1 q (by simp)) e (by simpa using he.1) he.2
     ·cases hi
    ·exact h1 i (by simp[hi])
   ·rcases List.mem_cons.1 hi with rfl|hi
    ·exact h1 _ (by simp)
    ·exact h2 i hi
def bigB(ops:Array Oper)(fl:List Nat)(j:Nat):Bool:=
 match ancL ops 5000 (depsL ops j) []with
 | anc => (List.range ops.size).all fun k => (Nat.beq k j || fl.any (Nat.beq k)) || (anc.any (Nat.beq k) || match ops[k]? with
   | some ok => twoB ops ok j
   | none => true)
theorem bigB_spec{fl:List Nat}{j:Nat}(h:bigB ops fl j=true)(listed:Array Bool)(hcl:Closed ops listed)(hj:j∈Region.ready .any ops listed):∀k∈Region.ready .any ops listed,k=j∨k∈fl:=by
  intro k hk;obtain⟨j0,oj,hoj,hja⟩:=mem_ready.1 hj;obtain⟨k0,ok,hok,hka⟩:=mem_ready.1 hk;simp only[bigB,List.all_eq_true,List.mem_range]at h;have h2:=h k (Array.getElem?_eq_some_iff.1 hok).1;simp only[hok,Bool.or_eq_true]at h2;have no:∀i,listed.getD i true=false→listed.getD i false=true→False:=by
   intro i h0 h1;rcases Nat.lt_or_ge i listed.size with h'|h'
   ·simp[h']at h0 h1;rw[h0]at h1;cases h1
   ·simp[Array.getElem?_eq_none h']at h1
  rcases h2 with(h2|h2)|h2|h2
  ·exact .inl (Nat.eq_of_beq_eq_true h2)
  ·obtain⟨q,hq,hqk⟩:=List.any_eq_true.1 h2;exact .inr (Nat.eq_of_beq_eq_true hqk▸hq)
  ·obtain⟨q,hq,hqk⟩:=List.any_eq_true.1 h2;obtain rfl:=Nat.eq_of_beq_eq_true hqk;refine(no _ k0 (ancL_spec hcl 5000 _ [] (fun i hi=>?_) (fun i hi=>by cases hi) _ hq)).elim;unfold depsL at hi;rw[hoj]at hi;obtain⟨e,he,rfl⟩:=List.mem_map.1 hi;rw[List.mem_filter]at he;exact hja e (by simpa using he.1) he.2
  ·exact(no _ j0 (twoB_spec h2 hcl hka)).elim
def endB(ops:Array Oper)(listed:Array Bool):Bool:=(Region.ready .any ops listed).isEmpty
def planB(ops:Array Oper)(fl:List Nat)(en:Array Bool→Bool):List (Nat×Kd)→Array Bool→Bool
 |[],listed=>en listed
 |(i, .q)::r,listed=>(!fl.any (Nat.beq i)&&(Region.ready .any ops listed).contains i)&&(Region.free .any ops listed i&&planB ops fl en r (listed.setIfInBounds i true))
 |(i, .c)::r,listed=>(Region.ready .any ops listed).contains i&&(Region.free .any ops listed i&&planB ops fl en r (listed.setIfInBounds i true))
 |(i, .e)::r,listed=>Region.ready .any ops listed==[i]&&planB ops fl en r (listed.setIfInBounds i true)
 |(i, .g)::r,listed=>Region.ready .any ops listed==[i]&&(bigB ops fl i&&planB ops fl en r (listed.setIfInBounds i true))
def bigs:List (Nat×Kd)→List Nat
 |[]=>[]
 |(i, .g)::r=>i::bigs r
 |_::r=>bigs r
def frees:List (Nat×Kd)→List Nat
 |[]=>[]
 |(i, .c)::r=>i::frees r
 |_::r=>frees r
def RX(P:Program)(ops:Array Oper)(R:World→World→Prop)(K:List Value→World→Prop):List (Oper×Kd)→List Value→World→Prop
 |[],l,w=>K l w
 |(o, .q)::rest,l,w=>
  if Region.wanted o (yielded ops l.toArray)then ∃v,(∀w',R w w'→(execOp (ev l) o).run P w'= .ok (.value v) w')∧RX P ops R K rest (putL o.dst v l) w
  else RX P ops R K rest (putL o.dst undef l) w
 |(o, .c)::rest,l,w=>
  if Region.wanted o (yielded ops l.toArray)then ∃v,(∀w',(execOp (ev l) o).run P w'= .ok (.value v) w')∧RX P ops R K rest (putL o.dst v l) w
  else RX P ops R K rest (putL o.dst undef l) w
 |(o, .e)::rest,l,w=>
  if Region.wanted o (yielded ops l.toArray)then o.wp P (fr l) w (fun a' w'=>∃l',a'=fr l'∧R w w'∧RX P ops R K rest l' w') NoQ
  else RX P ops R K rest (putL o.dst undef l) w
 |(o, .g)::rest,l,w=>
  if Region.wanted o (yielded ops l.toArray)then o.wp P (fr l) w (fun a' w'=>∃l',a'=fr l'∧RX P ops R K rest l' w') NoQ
  else RX P ops R K rest (putL o.dst undef l) w
def nth:List Oper→Nat→Oper
 |[],_=>default
 |o::_,0=>o
 |_::r,n+1=>nth r n
theorem nth_get:∀(l:List Oper) (i:Nat),i<l.length→l[i]? =some (nth l i)
 |[],_,h=>by simp at h
 |o::_,0,_=>rfl
 |_::r,n+1,h=>by simpa [nth]using nth_get r n (by simpa using h)
def pick(l:List Oper):List (Nat×Kd)→List (Oper×Kd)
 |[]=>[]
 |(i,b)::r=>(nth l i,b)::pick l r
theorem rx_list{fl:List Nat}{l0:List Oper}{K:List Value→World→Prop}{Qx:Act→World→Prop}{n:Nat}{en:Array Bool→Bool}(hend:∀listed l w,Closed l0.toArray listed→en listed=true→K l w→wpX P l0.toArray R bg Qx n listed (fr l) w)(hrr:∀w,R w w)(ht:∀ {a b c},R a b→R b c→R a c)(hs:Region.noSelect l0.toArray=true)
  (hbg:∀j∈bg,∀listed,Closed l0.toArray listed→j∈Region.ready .any l0.toArray listed→∀k∈Region.ready .any l0.toArray listed,k=j∨k∈fl):
  ∀(pl:List (Nat×Kd)) (listed:Array Bool) (l:List Value) (w:World),Closed l0.toArray listed→(∀i,(i, .g)∈pl→i∈bg)→(∀i,(i, .c)∈pl→i∈fl)→planB l0.toArray fl en pl listed=true→RX P l0.toArray R K (pick l0 pl) l w→
   wpX P l0.toArray R bg Qx (n+pl.length) listed (fr l) w
 |[],listed,l,w,hcl,_,_,hB,h=>hend listed l w hcl hB h
 |(i, .q)::r,listed,l,w,hcl,hg,hfr,hB,h=>by
  simp only[planB,Bool.and_eq_true]at hB;obtain⟨⟨hnf,hc⟩,hf,hB⟩:=hB;have hr:i∈Region.ready .any l0.toArray listed:=by simpa using hc
  have hnf:i∉fl:=fun hm=>by simp only[Bool.not_eq_true',←Bool.not_eq_true,List.any_eq_true]at hnf;exact hnf ⟨i,hm,Nat.beq_refl i⟩
  have hq:∀j,j≠i→∀listed,Closed l0.toArray listed→i∈Region.ready .any l0.toArray listed→j∈Region.ready .any l0.toArray listed→∀w w',(j∉bg→R w w')→R w w':=fun j hji listed hcl hi hj w w' h=>h fun hb=>(hbg j hb listed hcl hj i hi).elim (fun e=>hji e.symm) hnf;have hlt:i<l0.length:=by
   obtain⟨_,o,ho,_⟩:=mem_ready.1 hr;simpa using(Array.getElem?_eq_some_iff.1 ho).1
  have hi:l0.toArray[i]? =some (nth l0 i):=by simpa using nth_get l0 i hlt
  simp only[pick,RX]at h;by_cases hw:Region.wanted (nth l0 i) (yielded l0.toArray l.toArray)=true
  ·rw[if_pos hw]at h;obtain⟨v,h1,h2⟩:=h;refine wpX_first (R2:=R) hrr hrr ht hq hi (Region.noSelect_spec hs) (n+r.length) listed (fr l) w hcl (Region.free_spec hi hf) hr (.inl ⟨hw,fun w' hw'=>by rw[eval_fr];exact h1 w' hw'⟩) ?_;rw[put_fr];exact rx_list hend hrr ht hs hbg r _ _ _ (hcl.set (by assumption)) (fun i hi=>hg i (by simp[hi])) (fun i hi=>hfr i (by simp[hi])) hB h2
  ·rw[if_neg hw]at h;refine wpX_first (R2:=R) hrr hrr ht hq hi (Region.noSelect_spec hs) (n+r.length) listed (fr l) w hcl (Region.free_spec hi hf) hr (.inr ⟨by simpa using hw,rfl⟩) ?_;rw[put_fr];exact rx_list hend hrr ht hs hbg r _ _ _ (hcl.set (by assumption)) (fun i hi=>hg i (by simp[hi])) (fun i hi=>hfr i (by simp[hi])) hB h
 |(i, .c)::r,listed,l,w,hcl,hg,hfr,hB,h=>by
  simp only[planB,Bool.and_eq_true]at hB;obtain⟨hc,hf,hB⟩:=hB;have hr:i∈Region.ready .any l0.toArray listed:=by simpa using hc
  have hlt:i<l0.length:=by
   obtain⟨_,o,ho,_⟩:=mem_ready.1 hr;simpa using(Array.getElem?_eq_some_iff.1 ho).1
  have hi:l0.toArray[i]? =some (nth l0 i):=by simpa using nth_get l0 i hlt
  simp only[pick,RX]at h;by_cases hw:Region.wanted (nth l0 i) (yielded l0.toArray l.toArray)=true
  ·rw[if_pos hw]at h;obtain⟨v,h1,h2⟩:=h;refine wpX_first (R2:=fun _ _=>True) hrr (fun _=>trivial) (fun _ _=>trivial) (fun _ _ _ _ _ _ _ _ _=>trivial) hi (Region.noSelect_spec hs) (n+r.length) listed (fr l) w hcl (Region.free_spec hi hf) hr (.inl ⟨hw,fun w' _=>by rw[eval_fr];exact h1 w'⟩) ?_;rw[put_fr];exact rx_list hend hrr ht hs hbg r _ _ _ (hcl.set (by assumption)) (fun i hi=>hg i (by simp[hi])) (fun i hi=>hfr i (by simp[hi])) hB h2
  ·rw[if_neg hw]at h;refine wpX_first (R2:=fun _ _=>True) hrr (fun _=>trivial) (fun _ _=>trivial) (fun _ _ _ _ _ _ _ _ _=>trivial) hi (Region.noSelect_spec hs) (n+r.length) listed (fr l) w hcl (Region.free_spec hi hf) hr (.inr ⟨by simpa using hw,rfl⟩) ?_;rw[put_fr];exact rx_list hend hrr ht hs hbg r _ _ _ (hcl.set (by assumption)) (fun i hi=>hg i (by simp[hi])) (fun i hi=>hfr i (by simp[hi])) hB h
 |(i, .e)::r,listed,l,w,hcl,hg,hfr,hB,h=>by
  simp only[planB,Bool.and_eq_true,beq_iff_eq]at hB;obtain⟨hr,hB⟩:=hB;have hmem:i∈Region.ready .any l0.toArray listed:=by rw[hr];simp
  have hlt:i<l0.length:=by
   obtain⟨_,o,ho,_⟩:=mem_ready.1 hmem;simpa using(Array.getElem?_eq_some_iff.1 ho).1
  have hi:l0.toArray[i]? =some (nth l0 i):=by simpa using nth_get l0 i hlt
  simp only[pick,RX]at h;refine⟨fun h0=>by rw[h0]at hr;simp at hr,fun j hj=>?_⟩;rw[hr]at hj;obtain rfl:j=i:=by simpa using hj
  unfold xOp;simp only[hi];split
  ·rename_i hw;rw[if_pos (by exact hw)]at h;unfold Oper.wp at*;refine upon_mono ?_ (fun _ _ _ h=>h) h;rintro a w' ⟨l',rfl,hR,h⟩;exact⟨fun _=>hR,rx_list hend hrr ht hs hbg r _ _ _ (hcl.set (by assumption)) (fun i hi=>hg i (by simp[hi])) (fun i hi=>hfr i (by simp[hi])) hB h⟩
  ·rename_i hw;rw[if_neg (by exact hw)]at h;rw[put_fr];exact⟨fun _=>hrr w,rx_list hend hrr ht hs hbg r _ _ _ (hcl.set (by assumption)) (fun i hi=>hg i (by simp[hi])) (fun i hi=>hfr i (by simp[hi])) hB h⟩
 |(i, .g)::r,listed,l,w,hcl,hg,hfr,hB,h=>by
  simp only[planB,Bool.and_eq_true,beq_iff_eq]at hB;obtain⟨hr,_,hB⟩:=hB;have hmem:i∈Region.ready .any l0.toArray listed:=by rw[hr];simp
  have hlt:i<l0.length:=by
   obtain⟨_,o,ho,_⟩:=mem_ready.1 hmem;simpa using(Array.getElem?_eq_some_iff.1 ho).1
  have hi:l0.toArray[i]? =some (nth l0 i):=by simpa using nth_get l0 i hlt
  simp only[pick,RX]at h;refine⟨fun h0=>by rw[h0]at hr;simp at hr,fun j hj=>?_⟩;rw[hr]at hj;obtain rfl:j=i:=by simpa using hj
  unfold xOp;simp only[hi];split
  ·rename_i hw;rw[if_pos (by exact hw)]at h;unfold Oper.wp at*;refine upon_mono ?_ (fun _ _ _ h=>h) h;rintro a w' ⟨l',rfl,h⟩;exact⟨fun hn=>absurd (hg j (by simp)) hn,rx_list hend hrr ht hs hbg r _ _ _ (hcl.set (by assumption)) (fun i hi=>hg i (by simp[hi])) (fun i hi=>hfr i (by simp[hi])) hB h⟩
  ·rename_i hw;rw[if_neg (by exact hw)]at h;rw[put_fr];exact⟨fun _=>hrr w,rx_list hend hrr ht hs hbg r _ _ _ (hcl.set (by assumption)) (fun i hi=>hg i (by simp[hi])) (fun i hi=>hfr i (by simp[hi])) hB h⟩
theorem mem_bigs:∀(pl:List (Nat×Kd)) (i:Nat),(i, .g)∈pl↔i∈bigs pl
 |[],_=>by simp[bigs]
 |(j, .q)::r,i=>by simp[bigs,mem_bigs r i]
 |(j, .e)::r,i=>by simp[bigs,mem_bigs r i]
 |(j, .c)::r,i=>by simp[bigs,mem_bigs r i]
 |(j, .g)::r,i=>by simp[bigs,mem_bigs r i]
theorem planB_big{fl:List Nat}{en:Array Bool→Bool}:∀(pl:List (Nat×Kd)) (listed:Array Bool),planB ops fl en pl listed=true→∀j∈bigs pl,bigB ops fl j=true
 |[],_,_,j,hj=>by simp[bigs]at hj
 |(i, .q)::r,_,h,j,hj=>by
  simp only[planB,Bool.and_eq_true]at h;exact planB_big r _ h.2.2 j (by simpa [bigs]using hj)
 |(i, .c)::r,_,h,j,hj=>by
  simp only[planB,Bool.and_eq_true]at h;exact planB_big r _ h.2.2 j (by simpa [bigs]using hj)
 |(i, .e)::r,_,h,j,hj=>by
  simp only[planB,Bool.and_eq_true]at h;exact planB_big r _ h.2 j (by simpa [bigs]using hj)
 |(i, .g)::r,_,h,j,hj=>by
  simp only[planB,Bool.and_eq_true]at h;simp only[bigs,List.mem_cons]at hj;rcases hj with rfl|hj
  ·exact h.2.1
  ·exact planB_big r _ h.2.2 j hj
theorem mem_frees:∀(pl:List (Nat×Kd)) (i:Nat),(i, .c)∈pl→i∈frees pl
 |[],_,h=>by cases h
 |(j, .q)::r,i,h=>by simpa [frees]using mem_frees r i (by simpa using h)
 |(j, .e)::r,i,h=>by simpa [frees]using mem_frees r i (by simpa using h)
 |(j, .g)::r,i,h=>by simpa [frees]using mem_frees r i (by simpa using h)
 |(j, .c)::r,i,h=>by
  rcases List.mem_cons.1 h with e|e
  ·simp only[Prod.mk.injEq]at e;simp[frees,e.1]
  ·simp[frees,mem_frees r i e]
theorem regionX{id:Nat}{l0:List Oper}{Q:Exit→Act→World→Prop}{l:List Value}{w:World}(R:World→World→Prop)(plan:List (Nat×Kd)){pl:List (Oper×Kd)}(hm:P.follows .mixedOrders=true)
  (hrr:∀w,R w w)(ht:∀ {a b c},R a b→R b c→R a c)(hB:(Region.noSelect l0.toArray&&(Nat.beq plan.length l0.length&&planB l0.toArray (frees plan) (endB l0.toArray) plan (Array.replicate l0.length false)))=true)
  (h:∀w',Ext w w'→RX P l0.toArray R (fun l w=>Q .normal (fr l) w) pl l w')(hp:pick l0 plan=pl:=by dsimp only[pick,nth]):(Code.region id l0.toArray true).wp P Q (fr l) w:=by
 subst hp;simp only[Bool.and_eq_true]at hB;obtain⟨hs,hl,hB⟩:=hB;have hl:=Nat.eq_of_beq_eq_true hl;refine wp_region_any hm ?_;have:=rx_list (R:=R) (bg:=bigs plan) (P:=P) (K:=fun l w=>Q .normal (fr l) w) (n:=0) (en:=endB l0.toArray) (Qx:=fun a w=>∃l,a=fr l∧Q .normal (fr l) w) (fun listed l w _ he hk=>⟨by simpa [endB]using he,l,rfl,hk⟩) hrr ht hs (fun j hj=>bigB_spec (planB_big plan _ hB j hj)) plan (Array.replicate l0.length false) l {w with drawn:=w.drawn+1} (by intro k ok _ h;exfalso;simp[Array.getElem?_replicate]at h;split at h<;>simp at h) (fun i hi=>(mem_bigs plan i).1 hi) (fun i hi=>mem_frees plan i hi) hB (h _ ((Below.refl _ _).drew));rw[hl,Nat.zero_add]at this;have h2:=wpAny_of_X (Q':=Q) (R:=R) (fun a w h=>by obtain⟨l,rfl,h⟩:=h;exact h) l0.length (Array.replicate l0.length false) (fr l) _ this;simpa using h2
theorem Pr.stn{S:Nat→Prop}{a b c:World}{n:Nat}(h:Pr S a b)(k:St n b c)(hn:S n∨a.heap.size≤n):Pr S a c:=hn.elim (fun hs=>h.st k hs) (fun hn=>h.new k hn)
variable{K:List Value→World→Prop}{rest r:List (Oper×Kd)}{l:List Value}{w:World}
theorem RX.nil(h:K l w):RX P ops R K [] l w:=h
theorem RX.norm{l':List Value}(h:l=l')(k:RX P ops R K r l' w):RX P ops R K r l w:=h▸k
theorem RX.want{d:Option Tmp}{op:Op}{ty:TypeId}{pos:String}{af:Array Edge}{j:Nat}{t:Bool}{kd:Kd}(hv:yielded ops l.toArray j=some t)
  (k:RX P ops R K ((⟨d,op,ty,pos,af,none⟩,kd)::rest) l w):RX P ops R K ((⟨d,op,ty,pos,af,some (j,t)⟩,kd)::rest) l w:=by
 cases kd<;>(unfold RX at k⊢;rw[if_pos (by simp[Region.wanted,hv])];rw[if_pos (by simp[Region.wanted])]at k;exact k)
theorem RX.skip{d:Option Tmp}{op:Op}{ty:TypeId}{pos:String}{af:Array Edge}{j:Nat}{t:Bool}{kd:Kd}(hv:(yielded ops l.toArray j==some t)=false)
  (k:RX P ops R K rest (putL d undef l) w):RX P ops R K ((⟨d,op,ty,pos,af,some (j,t)⟩,kd)::rest) l w:=by
 cases kd<;>(unfold RX;rw[if_neg (by simp only[Region.wanted,hv];exact Bool.false_ne_true)];exact k)
theorem RX.eff{d:Option Tmp}{op:Op}{ty:TypeId}{pos:String}{af:Array Edge}(h:RS P ops (fun l' w'=>R w w'∧RX P ops R K rest l' w') [⟨d,op,ty,pos,af,none⟩] l w):
  RX P ops R K ((⟨d,op,ty,pos,af,none⟩, .e)::rest) l w:=by
 unfold RS at h;unfold RX;have hw:Region.wanted (⟨d,op,ty,pos,af,none⟩:Oper) (yielded ops l.toArray)=true:=by simp[Region.wanted]
 rw[if_pos hw]at h⊢;exact h
theorem RX.big{d:Option Tmp}{op:Op}{ty:TypeId}{pos:String}{af:Array Edge}(h:RS P ops (fun l' w'=>RX P ops R K rest l' w') [⟨d,op,ty,pos,af,none⟩] l w):
  RX P ops R K ((⟨d,op,ty,pos,af,none⟩, .g)::rest) l w:=by
 unfold RS at h;unfold RX;have hw:Region.wanted (⟨d,op,ty,pos,af,none⟩:Oper) (yielded ops l.toArray)=true:=by simp[Region.wanted]
 rw[if_pos hw]at h⊢;exact h
theorem RX.splitb(s:Nat){b:Bool}(hs:Nat.ble (s+1) l.length=true)(h:l.getD s undef= .bool b)(ht:b=true→RX P ops R K r (l.set s (.bool true)) w)(hf:b=false→RX P ops R K r (l.set s (.bool false)) w):RX P ops R K r l w:=by
 have hs:=Nat.le_of_ble_eq_true hs;cases hb:b
 ·have:=hf hb;rwa[set_self (by rw[h,hb]) hs]at this
 ·have:=ht hb;rwa[set_self (by rw[h,hb]) hs]at this
theorem RX.splitd(s:Nat){p:Prop}[Decidable p](hs:Nat.ble (s+1) l.length=true)(h:l.getD s undef= .bool (decide p))(ht:p→RX P ops R K r (l.set s (.bool true)) w)(hf:¬p→RX P ops R K r (l.set s (.bool false)) w):RX P ops R K r l w:=
 RX.splitb s hs h (fun h=>ht (of_decide_eq_true h)) (fun h=>hf (of_decide_eq_false h))
theorem RX.splite(s:Nat){a b:Int}(hs:Nat.ble (s+1) l.length=true)(h:l.getD s undef= .bool (a==b))(ht:a=b→RX P ops R K r (l.set s (.bool true)) w)(hf:a≠b→RX P ops R K r (l.set s (.bool false)) w):RX P ops R K r l w:=
 RX.splitb s hs h (fun h=>ht (by simpa using h)) (fun h=>hf (by simpa using h))
theorem RX.splitnot(s:Nat){b:Bool}(hs:Nat.ble (s+1) l.length=true)(h:l.getD s undef= .bool (!b))(ht:b=false→RX P ops R K r (l.set s (.bool true)) w)(hf:b=true→RX P ops R K r (l.set s (.bool false)) w):RX P ops R K r l w:=
 RX.splitb s hs h (fun h=>ht (by simpa using h)) (fun h=>hf (by simpa using h))
variable{d:Tmp}{ty:TypeId}{pos:String}{af:Array Edge}
theorem RX.o{op:Op}{v:Value}(hr:∀w',R w w'→(execOp (ev l) ⟨some d,op,ty,pos,af,none⟩).run P w'= .ok (.value v) w'){l':List Value}(k:RX P ops R K rest l' w)(hl:l.set d v=l':=by dsimp only[List.set]):
  RX P ops R K ((⟨some d,op,ty,pos,af,none⟩, .q)::rest) l w:=by
 subst hl;unfold RX;rw[if_pos (by simp[Region.wanted])];exact⟨v,hr,k⟩
theorem RX.co{op:Op}{v:Value}(hr:∀w',(execOp (ev l) ⟨some d,op,ty,pos,af,none⟩).run P w'= .ok (.value v) w'){l':List Value}(k:RX P ops R K rest l' w)(hl:l.set d v=l':=by dsimp only[List.set]):
  RX P ops R K ((⟨some d,op,ty,pos,af,none⟩, .c)::rest) l w:=by
 subst hl;unfold RX;rw[if_pos (by simp[Region.wanted])];exact⟨v,hr,k⟩
theorem RX.move{x:Operand}{v:Value}(hv:ev l x=v){l':List Value}(k:RX P ops R K rest l' w)(hl:l.set d v=l':=by dsimp only[List.set]):RX P ops R K ((⟨some d, .move x,ty,pos,af,none⟩, .q)::rest) l w:=
 RX.o (fun _ _=>by simp only[execOp];rw[hv];rfl) k hl
theorem RX.assign{x:Operand}{v:Value}(hv:ev l x=v){l':List Value}(k:RX P ops R K rest l' w)(hl:l.set d v=l':=by dsimp only[List.set]):RX P ops R K ((⟨some d, .assign x,ty,pos,af,none⟩, .q)::rest) l w:=
 RX.o (fun _ _=>by simp only[execOp];rw[hv];rfl) k hl
theorem RX.pick{c x y:Operand}{b:Bool}{v:Value}(hc:ev l c= .bool b)(hv:(if b then ev l x else ev l y)=v){l':List Value}(k:RX P ops R K rest l' w)(hl:l.set d v=l':=by dsimp only[List.set]):
  RX P ops R K ((⟨some d, .pick c x y,ty,pos,af,none⟩, .q)::rest) l w:=
 RX.o (v:=if b then ev l x else ev l y) (fun _ _=>by simp only[execOp];rw[hc];cases b<;>rfl) (l':=l') k (by rw[hv];exact hl)
theorem RX.extract{x:Operand}{i:Nat}{vs:Array Value}{v:Value}(hx:ev l x= .tuple vs)(hv:vs[i]? =some v){l':List Value}(k:RX P ops R K rest l' w)(hl:l.set d v=l':=by dsimp only[List.set]):
  RX P ops R K ((⟨some d, .extract x i,ty,pos,af,none⟩, .q)::rest) l w:=
 RX.o (fun _ _=>by simp only[execOp];rw[hx];simp only[Instr.extract,hv];rfl) k hl
theorem RX.nilCheck{x:Operand}{a:Addr}(hx:ev l x= .pointer (some a)){l':List Value}(k:RX P ops R K rest l' w)(hl:l.set d (.pointer (some a))=l':=by dsimp only[List.set]):
  RX P ops R K ((⟨some d, .nilCheck x,ty,pos,af,none⟩, .q)::rest) l w:=
 RX.o (fun _ _=>by simp only[execOp];rw[hx];rfl) k hl
end
end G
end Go.Proofs.YtjjbdaiioociaaaGreatDoor
