import Derived.Test.YtgdiadednlajgaaGreatDoorP26
import Derived.Test.YtgdiadednlajgaaGreatDoorP36
namespace Go.Proofs.YtgdiadednlajgaaGreatDoor
set_option linter.unusedVariables false
set_option linter.unusedSimpArgs false
open Go.RowKit
section
variable {P:Program}{ops:Array Oper}{C:World→Prop}{N:Nat}{E:Env}{o:Oper}{d:Nat}
theorem X9{x y:Operand}{t t':TypeId}{a b r:List UInt8}(hr:a++b=r)(ho:o.op=.binOp .add t x y t')(hd:o.dst=some d)(hN:d<N)(hw:Qm ops E o=some true)(hx:ev E x=some (.string ⟨a.toArray⟩))(hy:ev E y=some (.string ⟨b.toArray⟩))(h:a.length+b.length≤9223372036854775807):oE P ops C N E ((d,.string ⟨r.toArray⟩)::E) o:=by
 subst hr;have:=Q0K (P:=P) (ops:=ops) (C:=C) (N:=N) ho hd hN hw hx hy (by rw[Xh,Xh];exact h);rw[Q0z] at this;exact this
theorem Q5e{x y:Operand}{t t':TypeId}{m n q:Int}(hq:m / n=q)(hm:0≤m∧m≤9223372036854775807)(hn:1≤n)(ho:o.op=.binOp .quo t x y t')(hd:o.dst=some d)(hN:d<N)(hw:Qm ops E o=some true)(hx:ev E x=some (.int .i64 m))(hy:ev E y=some (.int .i64 n)):oE P ops C N E ((d,.int .i64 q)::E) o:=hq▸V7 hm hn ho hd hN hw hx hy
theorem Qcx{x y:Operand}{t t':TypeId}{m n q:Int}(hq:m % n=q)(hm:0≤m∧m≤9223372036854775807)(hn:1≤n)(ho:o.op=.binOp .rem t x y t')(hd:o.dst=some d)(hN:d<N)(hw:Qm ops E o=some true)(hx:ev E x=some (.int .i64 m))(hy:ev E y=some (.int .i64 n)):oE P ops C N E ((d,.int .i64 q)::E) o:=hq▸Q0v hm hn ho hd hN hw hx hy
theorem Q09{x lo hi:Operand}{t:TypeId}{s:ByteArray}{r:List UInt8}{k k':IntKind}{l h:Int}{l' h':Nat}(hr:s.extract l' h'=⟨r.toArray⟩)(ht:P.underlying t=some .string)(ho:o.op=.slice t x (some lo) (some hi) none)(hd:o.dst=some d)(hN:d<N)(hw:Qm ops E o=some true)(hx:ev E x=some (.string s))(hl:ev E lo=some (.int k l))(hh:ev E hi=some (.int k' h))(el:l=(l':Int))(eh:h=(h':Int))(h1:l'≤h')(h2:h'≤s.size):oE P ops C N E ((d,.string ⟨r.toArray⟩)::E) o:=by
 subst el eh;exact hr▸Qb0 ht ho hd hN hw hx hl hh h1 h2
end
set_option maxHeartbeats 4000000 in
theorem Qfv{k:Nat}(hk:k<10)(w:World):Calls Tryz.prog 40 #[.int .i64 (((k+1:Nat)):Int)] w fun e w'=>e=.returned (.string ⟨(Xz ((k+1:Nat):Int)).toArray⟩)∧Below w.heap.size w w':=by
 rcases (show k=0∨k=1∨k=2∨k=3∨k=4∨k=5∨k=6∨k=7∨k=8∨k=9 by omega) with rfl|rfl|rfl|rfl|rfl|rfl|rfl|rfl|rfl|rfl<;>
 ·go_enter Tryz.func40,Tryz.ntmps40
  go_wp2_with fail
  go_ret
  exact⟨rfl,VV _ _⟩
theorem Q0x{k:Int}(hk:1≤k∧k≤10)(w:World):Calls Tryz.prog 40 #[.int .i64 k] w fun e w'=>e=.returned (.string ⟨(Xz k).toArray⟩)∧Below w.heap.size w w':=by
 obtain⟨j,rfl⟩:∃j:Nat,k=((j+1:Nat):Int):=⟨(k - 1).toNat,by omega⟩;exact Qfv (by omega) w
theorem Qbn(q:Nat)(h:q<16):(⟨#[48,49,50,51,52,53,54,55,56,57,97,98,99,100,101,102]⟩:ByteArray).extract q (q+1)=⟨([hx q]:List UInt8).toArray⟩:=by
 rcases (show q=0∨q=1∨q=2∨q=3∨q=4∨q=5∨q=6∨q=7∨q=8∨q=9∨q=10∨q=11∨q=12∨q=13∨q=14∨q=15 by omega) with rfl|rfl|rfl|rfl|rfl|rfl|rfl|rfl|rfl|rfl|rfl|rfl|rfl|rfl|rfl|rfl<;>decide
set_option maxRecDepth 100000 in
theorem Q4C(c:UInt8)(W:World):Calls Tryz.prog 41 #[.int .i64 (c.toNat:Int)] W fun e w'=>e=.returned (.string ⟨(Kx c).toArray⟩)∧Below W.heap.size W w':=by
 have hc:=c.toNat_lt
 have hq:((c.toNat:Int) / 16)=((c.toNat / 16:Nat):Int):=by omega
 have hr:((c.toNat:Int) % 16)=((c.toNat % 16:Nat):Int):=by omega
 have h1:=Qbn (c.toNat / 16) (by omega);have h2:=Qbn (c.toNat % 16) (by omega)
 have hd1:c.toNat / 16<16:=by omega
 have hd2:c.toNat % 16<16:=by omega
 unfold Kx
 obtain⟨m,hm⟩:∃m,c.toNat=m:=⟨_,rfl⟩;rw[hm] at hq hr h1 h2 hc hd1 hd2 ⊢;obtain⟨q,hq'⟩:∃q,m / 16=q:=⟨_,rfl⟩;obtain⟨r,hr'⟩:∃q,m % 16=q:=⟨_,rfl⟩;rw[hq'] at hq h1 hd1 ⊢;rw[hr'] at hr h2 hd2 ⊢;have H1:=Lib.hid h1;have H2:=Lib.hid h2;clear hm hq' hr' h1 h2
 go_enter Tryz.func41,Tryz.ntmps41
 refine QE (M:=[]) (W:=W) (N:=16) (E:=[(0,.int .i64 (m:Int))]) (O:=[]) ?_ (Ag.cons (Ag.nil rfl rfl) rfl) (Wd.start [] W);refine yq<|yr<|yo zA<|yl<|yn<|yq<|Xm (by kernel_rfl) (by kernel_rfl) ?_;refine Qd zM ?_;refine Qd (Q5e hq (by omega) (by decide) rfl rfl (by decide) rfl rfl rfl) ?_;refine Qd zM ?_;refine Qd (Q5e hq (by omega) (by decide) rfl rfl (by decide) rfl rfl rfl) ?_;refine Qd zP ?_;refine Qd (Q09 H1.out Tryz.underlying9 rfl rfl (by decide) rfl rfl rfl rfl rfl (by omega) (by omega) (by show _≤16;omega)) ?_;refine Qd zM ?_;refine Qd (Qcx hr (by omega) (by decide) rfl rfl (by decide) rfl rfl rfl) ?_;refine Qd zM ?_;refine Qd (Qcx hr (by omega) (by decide) rfl rfl (by decide) rfl rfl rfl) ?_;refine Qd zP ?_;refine Qd (Q09 H2.out Tryz.underlying9 rfl rfl (by decide) rfl rfl rfl rfl rfl (by omega) (by omega) (by show _≤16;omega)) ?_;refine Qd (X9 (r:=[hx q,hx r]) rfl rfl rfl (by decide) rfl rfl rfl (by simp only[List.length_cons,List.length_nil];omega)) ?_;refine Qd zA ?_;refine XS ?_;refine yn<|yt ?_;exact Q9 (by exact .inr rfl) rfl (.tmp rfl) (fun w hw=>⟨rfl,hw.k.below⟩)
def Qej(n:Nat)(y:Nat×List UInt8):Prop:=y.2.length+y.1≤n+1∧((y.2=[]∧y.1=n)∨(y.2≠[]∧(if y.1=0 then y.2 else Lib.decDigits y.1++y.2)=Lib.decDigits n))
def dgc(m:Nat):UInt8:=UInt8.ofNat (48+m % 10)
theorem Q4T{n m:Nat}{s:List UInt8}(h:Qej n (m,s))(hg:s=[]∨0<m):Qej n (m / 10,dgc m::s):=by
 obtain⟨h1,h2⟩:=h
 simp only at h1 h2
 have hl:(dgc m::s).length+m / 10≤n+1:=by
  rw[List.length_cons]
  rcases hg with rfl|hg
  ·rw[List.length_nil] at h1 ⊢
   omega
  ·omega
 refine⟨hl,.inr ⟨List.cons_ne_nil _ _,?_⟩⟩
 show (if m / 10=0 then dgc m::s else Lib.decDigits (m / 10)++dgc m::s)=_
 have hd:(if m / 10=0 then dgc m::s else Lib.decDigits (m / 10)++dgc m::s)=Lib.decDigits m++s:=by
  rw[Lib.decDigits.eq_def m]
  split
  ·next h=>rw[dif_pos (by omega)];unfold dgc;rw[Nat.mod_eq_of_lt (by omega)];rfl
  ·next h=>rw[dif_neg (by omega)];unfold dgc;simp
 rw[hd]
 rcases h2 with ⟨rfl,rfl⟩|⟨h3,h4⟩
 ·rw[List.append_nil]
 ·rcases hg with rfl|hg
  ·exact absurd rfl h3
  ·rw[if_neg (by omega)] at h4;exact h4
theorem Q6u(m:Nat)(k:IntKind)(hk:k=.u8):k.wrap (48+(m:Int) % 10)=((dgc m).toNat:Int):=by
 subst hk
 have h:(dgc m).toNat=48+m % 10:=by
  unfold dgc
  rw[UInt8.toNat_ofNat']
  omega
 rw[h]
 have h2:IntKind.u8.wrap (48+(m:Int) % 10)=48+(m:Int) % 10:=by
  exact IntWalk.u8_in _ (by omega)
 rw[h2]
 omega
set_option maxRecDepth 100000 in
set_option maxHeartbeats 4000000 in
theorem Yx{n:Nat}(hn:n≤1000000000000000000)(W:World):Calls Tryz.prog 24 #[.int .i64 (n:Int)] W fun e w'=>e=.returned (.string ⟨(Lib.itoa (n:Int)).toArray⟩)∧Below W.heap.size W w':=by
 rw[Lib.itoa_nonneg n]
 go_enter Tryz.func24,Tryz.ntmps24
 refine QE (M:=[]) (W:=W) (N:=29) (E:=[(0,.int .i64 (n:Int))]) (O:=[]) ?_ (Ag.cons (Ag.nil rfl rfl) rfl) (Wd.start [] W);refine yq<|yr<|yo zA<|yl<|yn<|yq<|yq<|yr<|yo zM<|yo zlf<|yl<|yn<|y0<|ys<|yn<|yq<|yr<|yo zA<|yl<|yn<|yq<|yb ?_;refine X0 (ι:=Nat×List UInt8) (Qej n) (fun y=>y.1+(if y.2=[] then 1 else 0)) (fun y=>[(0,.int .i64 (y.1:Int)),(3,.string ⟨y.2.toArray⟩)]) (fun _=>[]) (n,[]) [] (by decide) ⟨by show 0+n≤n+1;omega,.inl ⟨rfl,rfl⟩⟩ (.cons rfl rfl (.cons rfl rfl .nil)) rfl ?_
 rintro⟨m,s⟩ hP
 have hlen:s.length+m≤n+1:=hP.1
 show sE _ _ _ _ _ [(0,.int .i64 (m:Int)),(3,.string ⟨s.toArray⟩)] [] _
 have HP:=Lib.hid hP;clear hP
 have hq:(m:Int) / 10=((m / 10:Nat):Int):=by omega
 by_cases hs:s=[]
 ·have htest:((⟨s.toArray⟩:ByteArray).data.toList==(⟨#[]⟩:ByteArray).data.toList)=true:=by rw[hs];rfl
  have HS:=Lib.hid hs;clear hs;refine yq<|yq<|yr<|yo zM<|yo zsa<|yo zM<|yo zS<|yo zS<|yo zY<|yl<|yn<|y1<|ys<|yn<|yb<|yq<|yr<|yo zM ?_;refine Q1 (Q0v (by omega) (by decide) rfl rfl (by decide) rfl rfl rfl) ?_;refine yo zP ?_;refine Q1 (Y4 rfl rfl (by decide) rfl rfl (by rw[Tryz.underlying3];rfl) Tryz.underlying5 (Q6u m _ rfl)) ?_;refine Qa (Qz (size:=1) (cs:=[.int .u8 ((dgc m).toNat:Int)]) rfl rfl rfl rfl rfl (by decide)) rfl (by decide) (fun b22 _=>?_);refine Q1 (QbS (bs:=[dgc m]) rfl rfl (by decide) rfl rfl (fun w hw=>hw.rd_blk 0 rfl rfl)) ?_;refine yo zM ?_;refine Q1 (X9 (a:=[dgc m]) (b:=s) (r:=dgc m::s) rfl rfl rfl (by decide) rfl rfl rfl (by simp only[List.length_cons,List.length_nil];omega)) ?_;refine yo zA<|yl<|yn<|yr<|yo zM ?_;refine Q1 (Q5e hq (by omega) (by decide) rfl rfl (by decide) rfl rfl rfl) ?_;refine yo zA<|yl<|yd ?_;refine QA (m / 10,dgc m::s) [] (by decide) (Q4T HP.out (.inl HS.out)) ?_ (.cons rfl rfl (.cons rfl rfl .nil)) rfl
  show m / 10+0<m+_
  rw[if_pos HS.out]
  omega
 ·have htest:((⟨s.toArray⟩:ByteArray).data.toList==(⟨#[]⟩:ByteArray).data.toList)=false:=by
   cases s with
   |nil=>exact absurd rfl hs
   |cons=>rfl
  have HS:=Lib.hid hs;clear hs
  by_cases hm:0<m
  ·refine yq<|yq<|yr<|yo zM<|yo zsa<|yo zM<|yo zM<|yo zgt<|yo zN<|yl<|yn<|y1<|ys<|yn<|yb<|yq<|yr<|yo zM ?_;refine Q1 (Q0v (by omega) (by decide) rfl rfl (by decide) rfl rfl rfl) ?_;refine yo zP ?_;refine Q1 (Y4 rfl rfl (by decide) rfl rfl (by rw[Tryz.underlying3];rfl) Tryz.underlying5 (Q6u m _ rfl)) ?_;refine Qa (Qz (size:=1) (cs:=[.int .u8 ((dgc m).toNat:Int)]) rfl rfl rfl rfl rfl (by decide)) rfl (by decide) (fun b22 _=>?_);refine Q1 (QbS (bs:=[dgc m]) rfl rfl (by decide) rfl rfl (fun w hw=>hw.rd_blk 0 rfl rfl)) ?_;refine yo zM ?_;refine Q1 (X9 (a:=[dgc m]) (b:=s) (r:=dgc m::s) rfl rfl rfl (by decide) rfl rfl rfl (by simp only[List.length_cons,List.length_nil];omega)) ?_;refine yo zA<|yl<|yn<|yr<|yo zM ?_;refine Q1 (Q5e hq (by omega) (by decide) rfl rfl (by decide) rfl rfl rfl) ?_;refine yo zA<|yl<|yd ?_;refine QA (m / 10,dgc m::s) [] (by decide) (Q4T HP.out (.inr hm)) ?_ (.cons rfl rfl (.cons rfl rfl .nil)) rfl
   show m / 10+0<m+_
   omega
  ·refine yq<|yq<|yr<|yo zM<|yo zsa<|yo zM<|yo zM<|yo zgf<|yo zN<|yl<|yn<|y0<|ye<|yn<|yq<|yr<|yo zM<|yo zA<|yl<|yn<|yt ?_;refine Q9 (by exact .inr rfl) rfl (.tmp rfl) (fun w hw=>⟨?_,hw.k.below⟩);obtain⟨h1,h2|⟨h2,h3⟩⟩:=HP.out
   ·exact absurd h2.1 HS.out
   ·rw[if_pos (show m=0 by omega)] at h3;have h4:s=Lib.decDigits n:=h3;rw[← h4]
theorem Jn{n:Int}(hn:0≤n∧n≤1000000000000000000)(W:World):Calls Tryz.prog 24 #[.int .i64 n] W fun e w'=>e=.returned (.string ⟨(Lib.itoa n).toArray⟩)∧Below W.heap.size W w':=by
 obtain⟨m,rfl⟩:∃m:Nat,n=(m:Int):=⟨n.toNat,by omega⟩;exact Yx (by omega) W
def VK(S:List (Nat→Bool)):List Int→Nat→Nat
 |[],_=>0
 |x::l,b=>(if (S.getD x.toNat Z2) b then 1 else 0)+VK S l b
theorem Q7r(S:List (Nat→Bool)):∀(l m:List Int) (b:Nat),VK S (l++m) b=VK S l b+VK S m b
 |[],m,b=>by simp [VK]
 |x::l,m,b=>by
  rw[List.cons_append,VK,VK,Q7r S l m b]
  omega
theorem Q9t(S:List (Nat→Bool)):∀(l:List Int) (b:Nat),VK S l b≤l.length
 |[],b=>Nat.le_refl _
 |x::l,b=>by
  rw[VK,List.length_cons];have:=Q9t S l b
  split<;>omega
theorem Q57(S:List (Nat→Bool)):∀(l:List Int) (seen:Nat→Bool),Y0 S seen l=true↔∃b,b<256∧(1<VK S l b∨(seen b=true∧1≤VK S l b))
 |[],seen=>by
  unfold Y0
  simp [VK]
 |x::l,seen=>by
  rw[Y0,Bool.or_eq_true,Q57 S l,List.any_eq_true]
  constructor
  ·rintro(⟨c,hc,h⟩|⟨b,hb,h⟩)
   ·rw[Bool.and_eq_true] at h;refine⟨c,List.mem_range.1 hc,.inr ⟨h.2,?_⟩⟩;rw[VK,if_pos h.1]
    omega
   ·refine⟨b,hb,?_⟩;rw[VK]
    rcases h with h|⟨h1,h2⟩
    ·left;split<;>omega
    ·unfold orS at h1
     rw[Bool.or_eq_true] at h1
     rcases h1 with h1|h1
     ·right;exact⟨h1,by split<;>omega⟩
     ·left;rw[if_pos h1];omega
  ·rintro⟨b,hb,h⟩
   rw[VK] at h
   by_cases hx:(S.getD x.toNat Z2) b=true
   ·rw[if_pos hx] at h
    rcases h with h|⟨h1,h2⟩
    ·right
     refine⟨b,hb,.inr ⟨?_,by omega⟩⟩
     unfold orS
     rw[hx,Bool.or_true]
    ·left
     exact⟨b,List.mem_range.2 hb,by rw[hx,h1];rfl⟩
   ·rw[if_neg hx] at h
    right
    refine⟨b,hb,?_⟩
    rcases h with h|⟨h1,h2⟩
    ·left;omega
    ·right
     refine⟨?_,by omega⟩
     unfold orS
     rw[h1]
     rfl
def Q5L(S:List (Nat→Bool))(r:Rl)(b:Nat):Bool:=
 (r.kind==9&&((b:Int)==r.stop&&(S.getD r.elem.toNat Z2) b))||(r.kind==8&&decide (1<VK S r.parts b))
theorem Q4X{n:Nat}{S:List (Nat→Bool)}{r:Rl}(h:ROk n r):ZU S r=true↔∃b,b<256∧Q5L S r b=true:=by
 unfold ZU Q5L
 by_cases h9:r.kind=9
 ·have hs:=h.stop (.inr (.inr h9));rw[if_pos h9]
  constructor
  ·intro hc;refine⟨r.stop.toNat,by omega,?_⟩;rw[hc,h9,show (((r.stop.toNat:Nat):Int)==r.stop)=true from beq_iff_eq.2 (by omega)]
   rfl
  ·rintro⟨b,hb,hc⟩
   rw[h9] at hc
   simp only[Bool.or_eq_true,Bool.and_eq_true,beq_iff_eq] at hc
   rcases hc with ⟨_,h1,h2⟩|⟨h1,_⟩
   ·rw[← h1];exact h2
   ·exact absurd h1 (by decide)
 ·rw[if_neg h9]
  by_cases h8:r.kind=8
  ·rw[if_pos h8,Q57]
   constructor
   ·rintro⟨b,hb,hc⟩
    refine⟨b,hb,?_⟩
    rcases hc with hc|⟨hc,_⟩
    ·rw[h8]
     simp [hc]
    ·cases hc
   ·rintro⟨b,hb,hc⟩
    refine⟨b,hb,.inl ?_⟩;rw[h8] at hc
    simp only[Bool.or_eq_true,Bool.and_eq_true,beq_iff_eq,decide_eq_true_eq] at hc
    rcases hc with ⟨h1,_⟩|⟨_,h1⟩
    ·exact absurd h1 (by decide)
    ·exact h1
  ·rw[if_neg h8]
   constructor
   ·intro hc;cases hc
   ·rintro⟨b,hb,hc⟩
    simp only[Bool.or_eq_true,Bool.and_eq_true,beq_iff_eq] at hc
    rcases hc with ⟨h1,_⟩|⟨h1,_⟩
    ·exact absurd h1 h9
    ·exact absurd h1 h8
theorem Q1L(sep b:List UInt8):∀ws:List (List UInt8),ws≠[]→Lib.join (ws++[b]) sep=Lib.join ws sep++(sep++b)
 |[],h=>absurd rfl h
 |[x],_=>by
  show Lib.join (x::[b]) sep=_
  rw[Lib.join_cons,Lib.join_one,XH]
  show x++(sep++(b++Lib.joinTail sep []))=_
  rw[show Lib.joinTail sep []=[] from rfl,List.append_nil]
 |x::y::l,_=>by
  have ih:=Q1L sep b (y::l) (by simp);rw[Lib.join_cons y,List.cons_append,Lib.join_cons] at ih
  show Lib.join (x::(y::(l++[b]))) sep=_
  rw[Lib.join_cons,Lib.join_cons,XH,XH,ih]
  simp only[List.append_assoc]
def spW(u:Bool)(s:List UInt8):List UInt8:=if u then 32::s else []
theorem Yi(u:Bool)(s:List UInt8){ws:List (List UInt8)}(h:ws≠[]):Lib.join (ws++ifW u s) [32]=Lib.join ws [32]++spW u s:=by
 unfold ifW spW
 cases u with
 |true=>exact Q1L [32] s ws h
 |false=>simp
theorem Q6e{α:Type}(f:α→List UInt8):∀(l:List α) {ws:List (List UInt8)},ws≠[]→Lib.join (ws++l.map f) [32]=Lib.join ws [32]++(l.map fun i=>32::f i).flatten
 |[],ws,h=>by simp
 |x::l,ws,h=>by
  have ih:=Q6e f l (ws:=ws++[f x]) (by simp);rw[List.append_assoc] at ih
  show Lib.join (ws++([f x]++l.map f)) [32]=_
  rw[ih,Q1L _ _ _ h,List.map_cons,List.flatten_cons]
  simp
def Q1y(F:List Rl)(r:Rl):List UInt8:=
 r.name++[32]++Xz r.kind++(if r.kind==1 then [32] else [])++Jr r.bs++spW (Z7 r.kind) (Lib.itoa r.stop)++spW (Z4 r.kind) (Lib.itoa r.size)++spW (r.kind==2) (if r.big then V3 else Ze)++spW (r.kind==2) (Lib.itoa r.mn)++spW (Zf r.kind) (Lib.itoa r.mx)++spW (Qp r.kind) (Zv F r.count)++spW (XJ r.kind) (Zv F r.elem)++((List.range r.parts.length).map fun i=>32::XW F r i).flatten++[10]
theorem Q8h{F:List Rl}{r:Rl}(h:r.kind≠1→r.bs=[]):Q1y F r=YF F r:=by
 unfold Q1y YF XZ KI
 have hb:(if r.kind==1 then [32] else [])++Jr r.bs=spW (r.kind==1) (Jr r.bs):=by
  unfold spW
  by_cases h1:r.kind=1
  ·rw[h1];rfl
  ·rw[h h1,show (r.kind==1)=false from beq_eq_false_iff_ne.2 h1];rfl
 rw[Q6e _ _ (by simp),Yi _ _ (by simp),Yi _ _ (by simp),Yi _ _ (by simp),Yi _ _ (by simp),Yi _ _ (by simp),Yi _ _ (by simp),Yi _ _ (by simp),Yi _ _ (by simp),← hb]
 have h2:Lib.join [r.name,Xz r.kind] [32]=r.name++[32]++Xz r.kind:=by
  rw[Lib.join_cons,XH]
  show r.name++([32]++(Xz r.kind++[]))=_
  simp
 rw[h2]
 simp only[List.append_assoc]
section
variable {A:Option Addr}{n c k:Nat}{W w:World}{O:List Qg}{F:List Rl}
set_option maxRecDepth 100000 in
set_option maxHeartbeats 16000000 in
theorem Kd(hf:Xq W W.heap.size A n F)(hF:FOk F)(hn:n≤40)(hk:k<n)(hw:Wd [] W O w):
  Calls Tryz.prog 28 #[.agg #[.slice A n c],.int .i64 (k:Int)] w (QW (fun b:Nat=>.slice (some ⟨b,0,none⟩) n n) (fun _=>True) [] W (fun b=>.row (some ⟨b,0,none⟩) n n 4 1 (XR (Zb F k))::O)):=by
 have hlen:F.length=n:=hf.1;obtain⟨b,o,rfl⟩:=hf.addr (by omega);have HFM:=Lib.hid hf;have HF:=Lib.hid hF;have HLEN:=Lib.hid hlen;clear hf hF hlen
 go_enter Tryz.func28,Tryz.ntmps28
 refine QE (M:=[]) (W:=W) (N:=57) (E:=[(0,.agg #[.slice (some ⟨b,o,none⟩) n c]),(1,.int .i64 (k:Int))]) (O:=O) ?_ (Ag.cons (Ag.cons (Ag.nil rfl rfl) rfl) rfl) hw;refine yq<|yr ?_;refine yB fun b2=>?_;refine yo zA<|yl<|yn<|yq<|yr<|yo zF<|yo (zB 0)<|yo zL ?_;refine Qa (Q3R rfl rfl rfl rfl (by omega)) rfl (by decide) (fun bs _=>?_);refine yo zA<|yl<|yn<|yq<|yq<|yr<|yo zA<|yl<|yn<|yb ?_;refine ZF (ι:=Nat) (fun t=>t≤n+1) (fun t=>n+1 - t) (fun t=>[(1,.int .i64 (k:Int)),(2,.pointer (some ⟨b2,0,none⟩)),(5,.slice (some ⟨bs,0,none⟩) n n),(6,.int .i64 (t:Int))]) (fun t=>.row (some ⟨bs,0,none⟩) n n 4 1 (XR (Yc F k t))::.blk b2 (.cells ([.slice (some ⟨b,o,none⟩) n c]:List Value).toArray 24 (0,0))::O) 0 (Nat.zero_le _) (.cons rfl rfl (.cons rfl rfl (.cons rfl rfl (.cons rfl rfl .nil)))) (fun w hw=>by rw[Q9k] at hw;rw[show Yc F k 0=List.replicate n false from by unfold Yc;rw[HLEN.out];rfl];exact hw) ?_;intro t ht
 show sE _ _ _ _ _ [(1,.int .i64 (k:Int)),(2,.pointer (some ⟨b2,0,none⟩)),(5,.slice (some ⟨bs,0,none⟩) n n),(6,.int .i64 (t:Int))] (.row (some ⟨bs,0,none⟩) n n 4 1 (XR (Yc F k t))::.blk b2 (.cells ([.slice (some ⟨b,o,none⟩) n c]:List Value).toArray 24 (0,0))::O) _
 by_cases htn:t≤n
 ·refine yq<|yq<|yr<|yo zM<|yo zF<|yo (zB 1)<|yo zL<|yo zqt<|yl<|yn<|y1<|ys<|yn<|yq<|yb<|yq<|yr<|yo zA<|yl<|yn<|yb ?_;refine ZF (ι:=Nat) (fun i=>i≤n) (fun i=>n - i) (fun i=>[(1,.int .i64 (k:Int)),(2,.pointer (some ⟨b2,0,none⟩)),(5,.slice (some ⟨bs,0,none⟩) n n),(6,.int .i64 (t:Int)),(7,.int .i64 (i:Int))]) (fun i=>.row (some ⟨bs,0,none⟩) n n 4 1 (XR (Yy F k t i))::.blk b2 (.cells ([.slice (some ⟨b,o,none⟩) n c]:List Value).toArray 24 (0,0))::O) 0 (Nat.zero_le _) (.cons rfl rfl (.cons rfl rfl (.cons rfl rfl (.cons rfl rfl (.cons rfl rfl .nil))))) (fun w hw=>hw) ?_;intro i hi
  show sE _ _ _ _ _ [(1,.int .i64 (k:Int)),(2,.pointer (some ⟨b2,0,none⟩)),(5,.slice (some ⟨bs,0,none⟩) n n),(6,.int .i64 (t:Int)),(7,.int .i64 (i:Int))] (.row (some ⟨bs,0,none⟩) n n 4 1 (XR (Yy F k t i))::.blk b2 (.cells ([.slice (some ⟨b,o,none⟩) n c]:List Value).toArray 24 (0,0))::O) _
  by_cases hin:i<n
  ·obtain⟨rk,Ab,cb,An,cn,Ap,cp,hrk,hrg,hlk⟩:=HFM.out.rl hin;have HOK:=Lib.hid (HF.out i rk hrk);have HBG:=Lib.hid (Q2q hrk);have HLK:=Lib.hid hlk
   have hil:(Yy F k t i).length=n:=by rw[Q8p];exact HLEN.out
   have hstep:=Q7h F k t i
   unfold Zh at hstep
   rw[HBG.out] at hstep;have hbl:=Q3G HOK.out;have HIN:=Lib.hid (Q4P HOK.out)
   generalize Yy F k t i=out at hil hstep ⊢
   have hcell:(XR out)[0+i]? =some (.bool (out.getD i false)):=by rw[Nat.zero_add];exact Vu (by omega)
   clear hrk hlk
   by_cases hgo:i=k∨out.getD i false=true
   ·rw[if_pos hgo] at hstep;have HST:=Lib.hid hstep;clear hstep
    have hgo':i=k∨(i≠k∧out.getD i false=true):=by
     by_cases h:i=k
     ·exact .inl h
     ·exact .inr ⟨h,hgo.resolve_left h⟩
    clear hgo
    rcases hgo' with he|⟨he,hb⟩<;>
    ·(try rw[hb] at hcell)
     repeat(first|((with_reducible show sE _ _ _ _ _ _ _ _);first|refine Q6 ?_|refine Q2 ?_))
     refine yo zM<|yo zF<|yo (zB 1)<|yo zL<|yo zlt<|yl ?_
     repeat(first|((with_reducible show sE _ _ _ _ _ _ _ _);first|refine Q6 ?_|refine Q2 ?_|refine Qh ?_|refine Q5 rfl ?_|refine Qe ?_)|((with_reducible show xE _ _ _ _ _ _ _);refine Qb ?_))
     refine yo zM<|yo zM ?_;refine Q1 (VE rfl rfl (by decide) rfl rfl rfl (by first|exact bne_iff_ne.2 (by omega)|exact bne_eq_false_iff_eq.2 (by omega))) ?_;refine yo zM ?_
     first|refine Q1 zM ?_|refine Q1 zS ?_
     first|refine Q1 zM ?_|refine Q1 zS ?_
     first|refine Q1 (zi1 (hj:=hin)) ?_|refine Q1 zS ?_
     first|refine Q1 (zK 0 hcell) ?_|refine Q1 zS ?_
     first|refine Q1 zO ?_|refine Q1 zS ?_
     first|refine Q1 zY ?_|refine Q1 zN ?_
     refine yl ?_
     repeat(first|((with_reducible show sE _ _ _ _ _ _ _ _);first|refine Q6 ?_|refine Q2 ?_|refine Qh ?_|refine Q3 rfl ?_)|((with_reducible show xE _ _ _ _ _ _ _);refine Qb ?_))
     refine yo zF<|yo (zB 1)<|yo zM<|yo (zi (hj:=hin)) ?_;refine Q1 (X8 rfl rfl (by decide) rfl rfl (fun w hw=>hw.range_old hrg (by simp)) (by rfl)) ?_;refine Qa (Qx _ _ _ (f:=51) rfl rfl rfl (fun w hw=>Q4d (n:=F.length) HLK.out HOK.out hw)) rfl (by decide) (fun y hy=>?_);refine yo zA<|yl ?_
     repeat(first|((with_reducible show sE _ _ _ _ _ _ _ _);first|refine Q6 ?_|refine Q2 ?_)|((with_reducible show xE _ _ _ _ _ _ _);refine Qb ?_))
     refine yo zA<|yl ?_
     repeat(first|((with_reducible show sE _ _ _ _ _ _ _ _);refine Qe ?_)|((with_reducible show xE _ _ _ _ _ _ _);refine Qb ?_))
     refine ZF (ι:=Nat) (fun j=>j≤(bl rk).length) (fun j=>(bl rk).length - j) (fun j=>[(1,.int .i64 (k:Int)),(2,.pointer (some ⟨b2,0,none⟩)),(5,.slice (some ⟨bs,0,none⟩) n n),(6,.int .i64 (t:Int)),(7,.int .i64 (i:Int)),(8,.slice y.1 (bl rk).length y.2),(9,.int .i64 (j:Int))]) (fun j=>.rd y.1 (bl rk).length 1 (iv (bl rk))::.row (some ⟨bs,0,none⟩) n n 4 1 (XR (Q2F out (((bl rk).map Int.toNat).take j)))::.blk b2 (.cells ([.slice (some ⟨b,o,none⟩) n c]:List Value).toArray 24 (0,0))::O) 0 (Nat.zero_le _) (.cons rfl rfl (.cons rfl rfl (.cons rfl rfl (.cons rfl rfl (.cons rfl rfl (.cons rfl rfl (.cons rfl rfl .nil))))))) (fun w hw=>hw) ?_;intro j hj
     show sE _ _ _ _ _ [(1,.int .i64 (k:Int)),(2,.pointer (some ⟨b2,0,none⟩)),(5,.slice (some ⟨bs,0,none⟩) n n),(6,.int .i64 (t:Int)),(7,.int .i64 (i:Int)),(8,.slice y.1 (bl rk).length y.2),(9,.int .i64 (j:Int))] (.rd y.1 (bl rk).length 1 (iv (bl rk))::.row (some ⟨bs,0,none⟩) n n 4 1 (XR (Q2F out (((bl rk).map Int.toNat).take j)))::.blk b2 (.cells ([.slice (some ⟨b,o,none⟩) n c]:List Value).toArray 24 (0,0))::O) _
     by_cases hjl:j<(bl rk).length
     ·obtain⟨x,hx⟩:∃x,(bl rk)[j]? =some x:=⟨_,List.getElem?_eq_getElem hjl⟩
      have hx0:0≤x∧x<(n:Int):=by
       have:=HIN.out x (List.mem_of_getElem? hx);rw[HLEN.out] at this;exact this
      have hxc:(iv (bl rk))[j]? =some (.int .i64 x):=by unfold iv;rw[List.getElem?_map,hx];rfl
      have HMS:=Lib.hid (Qa6 (a:=out) (l:=(bl rk).map Int.toNat) (j:=j) (x:=x.toNat) (by rw[List.getElem?_map,hx];rfl))
      have hml:(Q2F out (((bl rk).map Int.toNat).take j)).length=n:=by rw[Qbj];exact hil
      generalize Q2F out (((bl rk).map Int.toNat).take j)=mk at HMS hml ⊢
      have hst:(0:Nat)+x.toNat<n*1:=by omega
      refine Q4E 0 rfl (by omega) (fun b2 o2 e=>?_);obtain⟨yA,yc⟩:=y
      simp only at e hy ⊢
      subst e
      repeat(first|((with_reducible show sE _ _ _ _ _ _ _ _);first|refine Q6 ?_|refine Q2 ?_))
      refine yo zM<|yo zM<|yo zL<|yo zlt<|yl ?_
      repeat(first|((with_reducible show sE _ _ _ _ _ _ _ _);first|refine Q6 ?_|refine Q2 ?_|refine Qh ?_|refine Q5 rfl ?_|refine Qe ?_)|((with_reducible show xE _ _ _ _ _ _ _);refine Qb ?_))
      refine yo zM<|yo zM<|yo zM<|yo (zi1 (hj:=hjl)) ?_;refine Q1 (QL rfl rfl (by decide) rfl rfl (fun w hw=>hw.cell_rd 0 rfl hxc)) ?_;refine Q1 (Qo rfl rfl (by decide) rfl rfl rfl hx0) ?_;refine Qq (QI 1 rfl rfl rfl rfl rfl rfl hst) rfl (fun _ _=>?_);refine yl ?_
      repeat(first|((with_reducible show sE _ _ _ _ _ _ _ _);refine Q2 ?_)|((with_reducible show xE _ _ _ _ _ _ _);refine Qb ?_))
      refine yo zM<|yo zP<|yo zA<|yl ?_;refine QH (j+1) hjl (by omega) (.cons rfl rfl (.cons rfl rfl (.cons rfl rfl (.cons rfl rfl (.cons rfl rfl (.cons rfl rfl (.cons rfl (by go_num) .nil))))))) (fun w hw=>?_);rw[HMS.out,← YD];rw[show (0:Nat)+x.toNat=x.toNat from Nat.zero_add _] at hw;exact hw
     ·skip
      repeat(first|((with_reducible show sE _ _ _ _ _ _ _ _);first|refine Q6 ?_|refine Q2 ?_))
      refine yo zM<|yo zM<|yo zL<|yo zlf<|yl ?_
      repeat(first|((with_reducible show sE _ _ _ _ _ _ _ _);first|refine Q2 ?_|refine Q3 rfl ?_|refine QX ?_)|((with_reducible show xE _ _ _ _ _ _ _);refine Qb ?_))
      refine yo zM<|yo zP<|yo zA<|yl ?_;refine QH (i+1) hin (by omega) (.cons rfl rfl (.cons rfl rfl (.cons rfl rfl (.cons rfl rfl (.cons rfl (by go_num) .nil))))) (fun w hw=>?_);rw[HST.out,← List.take_of_length_le (show ((bl rk).map Int.toNat).length≤j by rw[List.length_map];omega)];exact hw.tl
   ·rw[if_neg hgo] at hstep;have HST:=Lib.hid hstep
    have he:i≠k:=fun h=>hgo (.inl h)
    have hb:out.getD i false=false:=by
     cases h:out.getD i false with
     |false=>rfl
     |true=>exact absurd (.inr h) hgo
    rw[hb] at hcell;clear hstep hgo;refine yq<|yq<|yr<|yo zM<|yo zF<|yo (zB 1)<|yo zL<|yo zlt<|yl<|yn<|y1<|ys<|yn<|yq<|yb<|yq<|yq<|yr<|yo zM<|yo zM<|yo znt<|yo zM<|yo zM<|yo zM<|yo (zi1 (hj:=hin))<|yo (zK 0 hcell)<|yo zO<|yo zY<|yl<|yn<|y1<|ye<|yn<|yr<|yo zM<|yo zP<|yo zA<|yl ?_;refine QH (i+1) hin (by omega) (.cons rfl rfl (.cons rfl rfl (.cons rfl rfl (.cons rfl rfl (.cons rfl (by go_num) .nil))))) (fun w hw=>?_);rw[HST.out];exact hw
  ·obtain rfl:i=n:=by omega
   refine yq<|yq<|yr<|yo zM<|yo zF<|yo (zB 1)<|yo zL<|yo zlf<|yl<|yn<|y0<|ye<|yn<|yr<|yo zM<|yo zP<|yo zA<|yl ?_;refine QH (t+1) (by omega) (by omega) (.cons rfl rfl (.cons rfl rfl (.cons rfl rfl (.cons rfl (by go_num) .nil)))) (fun w hw=>?_);rw[show Yc F k (t+1)=Yy F k t i by show Zi F k (Yc F k t)=_;unfold Zi Yy;rw[HLEN.out]];exact hw
 ·obtain rfl:t=n+1:=by omega
  refine yq<|yq<|yr<|yo zM<|yo zF<|yo (zB 1)<|yo zL<|yo zqf<|yl<|yn<|y0<|ye<|yn<|yq<|yr<|yo zM<|yo zA<|yl<|yn<|yt ?_;refine Q9 (by exact .inr rfl) rfl (.tmp rfl) (fun w hw=>⟨bs,rfl,trivial,?_⟩);rw[show Zb F k=Yc F k (n+1) by unfold Zb Yc;rw[HLEN.out]];exact hw.no2
end
def VG(F:List Rl)(k:Nat):List Bool:=(Zb F k).set k true
def Q1l(F:List Rl)(L:List Bool)(b i:Nat):Bool:=(List.range i).any fun j=>L.getD j false&&(match F[j]? with|some r=>VJ r (b:Int)|none=>false)
theorem Q7R{F:List Rl}{L:List Bool}{b i:Nat}{r:Rl}(h:F[i]? =some r):Q1l F L b (i+1)=(Q1l F L b i||(L.getD i false&&VJ r (b:Int))):=by
 unfold Q1l
 rw[List.range_succ,List.any_append]
 simp [h]
theorem Qan{F:List Rl}(hF:FOk F){k b:Nat}(hk:k<F.length)(hb:b<256):Q1l F (VG F k) b F.length=(JS F).getD k Z2 b:=Q9N hF hk hb
def Ku(F:List Rl)(k b i:Nat):Nat→Bool:=fun c=>if c<b then (JS F).getD k Z2 c else if c=b then Q1l F (VG F k) b i else false
theorem QcN(F:List Rl)(k b i:Nat):Ku F k b i b=Q1l F (VG F k) b i:=by unfold Ku;rw[if_neg (Nat.lt_irrefl b),if_pos rfl]
theorem Qcg(F:List Rl)(k b i:Nat):(X2 (Ku F k b i)).set b (.bool (Q1l F (VG F k) b (i+1)))=X2 (Ku F k b (i+1)):=by
 rw[Y2]
 congr 1
 funext c
 unfold Ku
 by_cases h:c=b
 ·subst h;simp
 ·simp [h]
theorem Qax{F:List Rl}(hF:FOk F){k b:Nat}(hk:k<F.length):X2 (Ku F k b F.length)=X2 (Ku F k (b+1) 0):=Jm fun c hc=>by
 unfold Ku
 by_cases h1:c<b
 ·rw[if_pos h1,if_pos (by omega)]
 ·rw[if_neg h1]
  by_cases h2:c=b
  ·subst h2;rw[if_pos rfl,if_pos (by omega),Qan hF hk hc]
  ·rw[if_neg h2,if_neg (by omega)]
   by_cases h3:c=b+1
   ·rw[if_pos h3];rfl
   ·rw[if_neg h3]
set_option maxRecDepth 100000 in
theorem Q9C(F:List Rl)(k:Nat):X2 (Ku F k 0 0)=XR (List.replicate 256 false):=by
 have h:X2 (Ku F k 0 0)=X2 fun _=>false:=Jm fun c hc=>by
  unfold Ku
  rw[if_neg (Nat.not_lt_zero c)]
  split<;>rfl
 rw[h]
 unfold X2 XR
 rw[List.map_replicate]
 apply List.ext_getElem?
 intro i;rw[List.getElem?_map]
 by_cases hi:i<256
 ·rw[List.getElem?_range hi,List.getElem?_replicate,if_pos hi];rfl
 ·rw[List.getElem?_eq_none (by rw[List.length_range];omega),List.getElem?_replicate,if_neg hi];rfl
theorem QaC(F:List Rl)(k i:Nat):X2 (Ku F k 256 i)=X2 ((JS F).getD k Z2):=Jm fun c hc=>by
 unfold Ku
 rw[if_pos hc]
section
variable {A:Option Addr}{n c k:Nat}{W w:World}{O:List Qg}{F:List Rl}
set_option maxRecDepth 100000 in
set_option maxHeartbeats 16000000 in
theorem Q7V(hf:Xq W W.heap.size A n F)(hF:FOk F)(hn:n≤40)(hk:k<n)(hw:Wd [] W O w):
  Calls Tryz.prog 29 #[.agg #[.slice A n c],.int .i64 (k:Int)] w (QW (fun b:Nat=>.slice (some ⟨b,0,none⟩) 256 256) (fun _=>True) [] W (fun b=>.row (some ⟨b,0,none⟩) 256 256 4 1 (X2 ((JS F).getD k Z2))::O)):=by
 have hlen:F.length=n:=hf.1;obtain⟨b,o,rfl⟩:=hf.addr (by omega);have HFM:=Lib.hid hf;have HF:=Lib.hid hF;have HLEN:=Lib.hid hlen
 have hrl:(Zb F k).length=n:=by rw[VW];exact hlen
 clear hf hF hlen
 go_enter Tryz.func29,Tryz.ntmps29
 refine QE (M:=[]) (W:=W) (N:=49) (E:=[(0,.agg #[.slice (some ⟨b,o,none⟩) n c]),(1,.int .i64 (k:Int))]) (O:=O) ?_ (Ag.cons (Ag.cons (Ag.nil rfl rfl) rfl) rfl) hw
 have hk0:(0:Nat)+k<n*1:=by omega
 refine yq<|yr ?_;refine yB fun b2=>?_;refine yo zA<|yl<|yn<|yq<|yr<|yo (zD 0)<|yo zM ?_;refine Qa (Qx _ _ _ (f:=28) rfl rfl rfl (fun w hw=>Kd HFM.out HF.out hn hk hw)) rfl (by decide) (fun br _=>?_);refine yo zA<|yl<|yn<|yq<|yr<|yo zM<|yo zM<|yo (zi1 (hj:=hk)) ?_;refine Qq (QI 0 rfl rfl rfl rfl rfl rfl hk0) rfl (fun _ _=>?_);refine yl<|yn<|yq<|yr ?_;refine Qa (Q3R (n:=256) rfl rfl rfl rfl (by decide)) rfl (by decide) (fun bs _=>?_);refine yo zA<|yl<|yn<|yq<|yq<|yr<|yo zA<|yl<|yn<|yb ?_
 refine ZF (ι:=Nat) (fun q=>q≤256) (fun q=>256 - q) (fun q=>[(2,.pointer (some ⟨b2,0,none⟩)),(5,.slice (some ⟨br,0,none⟩) n n),(6,.slice (some ⟨bs,0,none⟩) 256 256),(7,.int .i64 (q:Int))]) (fun q=>.row (some ⟨bs,0,none⟩) 256 256 4 1 (X2 (Ku F k q 0))::.row (some ⟨br,0,none⟩) n n 4 1 (XR (VG F k))::.blk b2 (.cells ([.slice (some ⟨b,o,none⟩) n c]:List Value).toArray 24 (0,0))::O) 0 (Nat.zero_le _) (.cons rfl rfl (.cons rfl rfl (.cons rfl rfl (.cons rfl rfl .nil)))) (fun w hw=>by
  rw[Q9C,← Q9k]
  unfold VG
  rw[← YD];rw[Nat.zero_add] at hw
  exact hw) ?_
 intro q hq
 show sE _ _ _ _ _ [(2,.pointer (some ⟨b2,0,none⟩)),(5,.slice (some ⟨br,0,none⟩) n n),(6,.slice (some ⟨bs,0,none⟩) 256 256),(7,.int .i64 (q:Int))] (.row (some ⟨bs,0,none⟩) 256 256 4 1 (X2 (Ku F k q 0))::.row (some ⟨br,0,none⟩) n n 4 1 (XR (VG F k))::.blk b2 (.cells ([.slice (some ⟨b,o,none⟩) n c]:List Value).toArray 24 (0,0))::O) _
 by_cases hq2:q<256
 ·refine yq<|yq<|yr<|yo zM<|yo zlt<|yl<|yn<|y1<|ys<|yn<|yq<|yb<|yq<|yr<|yo zA<|yl<|yn<|yb ?_;refine ZF (ι:=Nat) (fun i=>i≤n) (fun i=>n - i) (fun i=>[(2,.pointer (some ⟨b2,0,none⟩)),(5,.slice (some ⟨br,0,none⟩) n n),(6,.slice (some ⟨bs,0,none⟩) 256 256),(7,.int .i64 (q:Int)),(8,.int .i64 (i:Int))]) (fun i=>.row (some ⟨bs,0,none⟩) 256 256 4 1 (X2 (Ku F k q i))::.row (some ⟨br,0,none⟩) n n 4 1 (XR (VG F k))::.blk b2 (.cells ([.slice (some ⟨b,o,none⟩) n c]:List Value).toArray 24 (0,0))::O) 0 (Nat.zero_le _) (.cons rfl rfl (.cons rfl rfl (.cons rfl rfl (.cons rfl rfl (.cons rfl rfl .nil))))) (fun w hw=>hw) ?_;intro i hi
  show sE _ _ _ _ _ [(2,.pointer (some ⟨b2,0,none⟩)),(5,.slice (some ⟨br,0,none⟩) n n),(6,.slice (some ⟨bs,0,none⟩) 256 256),(7,.int .i64 (q:Int)),(8,.int .i64 (i:Int))] (.row (some ⟨bs,0,none⟩) 256 256 4 1 (X2 (Ku F k q i))::.row (some ⟨br,0,none⟩) n n 4 1 (XR (VG F k))::.blk b2 (.cells ([.slice (some ⟨b,o,none⟩) n c]:List Value).toArray 24 (0,0))::O) _
  by_cases hin:i<n
  ·obtain⟨rk,Ab,cb,An,cn,Ap,cp,hrk,hrg,hlk⟩:=HFM.out.rl hin;have HOK:=Lib.hid (by have:=HF.out i rk hrk;rw[HLEN.out] at this;exact this:ROk n rk);have HLK:=Lib.hid hlk;have hstep:=Q7R (L:=VG F k) (b:=q) hrk;have HSET:=Lib.hid (Qcg F k q i)
   have hc1:(X2 (Ku F k q i))[0+q]? =some (.bool (Q1l F (VG F k) q i)):=by rw[Nat.zero_add,ZN _ hq2,QcN]
   have hc2:(XR (VG F k))[0+i]? =some (.bool ((VG F k).getD i false)):=by rw[Nat.zero_add];exact Vu (by unfold VG;rw[List.length_set];omega)
   have hst:(0:Nat)+q<256*1:=by omega
   generalize Q1l F (VG F k) q i=v at hc1 hstep
   generalize (VG F k).getD i false=u at hc2 hstep
   clear hrk hlk
   cases v with
   |true=>
    rw[Bool.true_or] at hstep;have HST:=Lib.hid hstep;clear hstep;refine yq<|yq<|yr<|yo zM<|yo zM<|yo zL<|yo zlt<|yl<|yn<|y1<|ys<|yn<|yq<|yb<|yr<|yo zM<|yo zM<|yo zM<|yo zM<|yo (zi1 (hj:=hq2))<|yo (zK 0 hc1)<|yo zM<|yo zS<|yo zS<|yo zS<|yo zS<|yo zS<|yo zS<|yo zS<|yo zS<|yo zS<|yo zS<|yo zS<|yo zS<|yo zS<|yo zY<|yo (zi1 (hj:=hq2)) ?_;refine Qq (QI 0 rfl rfl rfl rfl rfl rfl hst) rfl (fun _ _=>?_);refine yl<|yn<|yr<|yo zM<|yo zP<|yo zA<|yl ?_;refine QH (i+1) hin (by omega) (.cons rfl rfl (.cons rfl rfl (.cons rfl rfl (.cons rfl rfl (.cons rfl (by go_num) .nil))))) (fun w hw=>?_);rw[← HSET.out,HST.out];rw[Nat.zero_add] at hw;exact hw
   |false=>
    rw[Bool.false_or] at hstep;have HST:=Lib.hid hstep;clear hstep
    cases u with
    |true=>
     refine yq<|yq<|yr<|yo zM<|yo zM<|yo zL<|yo zlt<|yl<|yn<|y1<|ys<|yn<|yq<|yb<|yr<|yo zM<|yo zM<|yo zM<|yo zM<|yo (zi1 (hj:=hq2))<|yo (zK 0 hc1)<|yo zM<|yo zM<|yo zM<|yo (zi1 (hj:=hin))<|yo (zK 1 hc2)<|yo zM<|yo zF<|yo (zB 2)<|yo zM<|yo (zi (hj:=hin)) ?_;refine Q1 (X8 rfl rfl (by decide) rfl rfl (fun w hw=>hw.range_old hrg (by simp)) (by rfl)) ?_;refine yo zM ?_;refine Q1 (Q4 (f:=35) rfl rfl (by decide) rfl rfl (fun w hw=>JE (HLK.out.on hw.k.below) HOK.out hq2)) ?_;refine yo zY<|yo zN<|yo (zi1 (hj:=hq2)) ?_;refine Qq (QI 0 rfl rfl rfl rfl rfl rfl hst) rfl (fun _ _=>?_);refine yl<|yn<|yr<|yo zM<|yo zP<|yo zA<|yl ?_;refine QH (i+1) hin (by omega) (.cons rfl rfl (.cons rfl rfl (.cons rfl rfl (.cons rfl rfl (.cons rfl (by go_num) .nil))))) (fun w hw=>?_);rw[← HSET.out,HST.out];rw[Nat.zero_add] at hw;exact hw
    |false=>
     refine yq<|yq<|yr<|yo zM<|yo zM<|yo zL<|yo zlt<|yl<|yn<|y1<|ys<|yn<|yq<|yb<|yr<|yo zM<|yo zM<|yo zM<|yo zM<|yo (zi1 (hj:=hq2))<|yo (zK 0 hc1)<|yo zM<|yo zM<|yo zM<|yo (zi1 (hj:=hin))<|yo (zK 1 hc2)<|yo zM<|yo zS<|yo zS<|yo zS<|yo zS<|yo zS<|yo zS<|yo zS<|yo zN<|yo zN<|yo (zi1 (hj:=hq2)) ?_;refine Qq (QI 0 rfl rfl rfl rfl rfl rfl hst) rfl (fun _ _=>?_);refine yl<|yn<|yr<|yo zM<|yo zP<|yo zA<|yl ?_;refine QH (i+1) hin (by omega) (.cons rfl rfl (.cons rfl rfl (.cons rfl rfl (.cons rfl rfl (.cons rfl (by go_num) .nil))))) (fun w hw=>?_);rw[← HSET.out,HST.out];rw[Nat.zero_add] at hw;exact hw
  ·obtain rfl:i=n:=by omega
   refine yq<|yq<|yr<|yo zM<|yo zM<|yo zL<|yo zlf<|yl<|yn<|y0<|ye<|yn<|yr<|yo zM<|yo zP<|yo zA<|yl ?_;refine QH (q+1) (by omega) (by omega) (.cons rfl rfl (.cons rfl rfl (.cons rfl rfl (.cons rfl (by go_num) .nil)))) (fun w hw=>?_);rw[← Qax HF.out (by rw[HLEN.out];exact hk),HLEN.out];exact hw
 ·obtain rfl:q=256:=by omega
  refine yq<|yq<|yr<|yo zM<|yo zlf<|yl<|yn<|y0<|ye<|yn<|yq<|yr<|yo zM<|yo zA<|yl<|yn<|yt ?_;refine Q9 (by exact .inr rfl) rfl (.tmp rfl) (fun w hw=>⟨bs,rfl,trivial,?_⟩);rw[QaC] at hw;exact hw.no2.no2
set_option maxRecDepth 100000 in
set_option maxHeartbeats 16000000 in
theorem Q0P{b:Nat}(hf:Xq W W.heap.size A n F)(hF:FOk F)(hn:n≤40)(hk:k<n)(hb:b<256):
  Calls Tryz.prog 16 #[.agg #[.slice A n c],.int .i64 (k:Int),.int .i64 (b:Int)] W (QT W ((JS F).getD k Z2 b)):=by
 have hlen:F.length=n:=hf.1;obtain⟨fb,fo,rfl⟩:=hf.addr (by omega);have HFM:=Lib.hid hf;have HF:=Lib.hid hF;have HLEN:=Lib.hid hlen
 have hrl:(Zb F k).length=n:=by rw[VW];exact hlen
 obtain⟨rk,Ab,cb,An,cn,Ap,cp,hrk,hrg,hlk⟩:=hf.rl hk;have HOK:=Lib.hid (by have:=hF k rk hrk;rw[hlen] at this;exact this:ROk n rk);have HLK:=Lib.hid hlk;have HRK:=Lib.hid hrk;have HIFF:=Lib.hid (Q7p hF.bd (k:=k) (by rw[hlen];exact hk) b)
 have hown:∀(j:Nat) (r:Rl),F[j]? =some r→KB F j b=VJ r (b:Int):=fun j r hj=>by
  unfold KB
  rw[hj];exact Q5C (hF j r hj) hb
 have HOWN:=Lib.hid hown;clear hf hF hlen hlk hrk hown;obtain⟨v,hv⟩:∃v,VJ rk (b:Int)=v:=⟨_,rfl⟩
 go_enter Tryz.func16,Tryz.ntmps16
 refine QE (M:=[]) (W:=W) (N:=38) (E:=[(0,.agg #[.slice (some ⟨fb,fo,none⟩) n c]),(1,.int .i64 (k:Int)),(2,.int .i64 (b:Int))]) (O:=[]) ?_ (Ag.cons (Ag.cons (Ag.cons (Ag.nil rfl rfl) rfl) rfl) rfl) (Wd.start [] W)
 cases v with
 |true=>
  refine yq<|yr ?_;refine yB fun b3=>?_;refine yo zA<|yl<|yn<|yq<|yq<|yr<|yo zF<|yo (zB 0)<|yo zM<|yo (zi (hj:=hk))<|yo zE<|yo zM ?_;refine Q1 (Q4 (f:=35) rfl rfl (by decide) rfl rfl (fun w hw=>(JE (HLK.out.on hw.k.below) HOK.out hb).mono (fun _ _ h=>by rw[hv] at h;exact h))) ?_;refine yl<|yn<|y1<|yq<|yr<|yo zA<|yl<|yn<|yt<|yc ?_;exact Q9 (by exact .inr rfl) rfl (.tmp rfl) (fun w hw=>QB (HIFF.out.2 ⟨k,.inl rfl,by rw[HOWN.out k rk HRK.out];exact hv⟩).symm hw)
 |false=>
  refine yq<|yr ?_;refine yB fun b3=>?_;refine yo zA<|yl<|yn<|yq<|yq<|yr<|yo zF<|yo (zB 0)<|yo zM<|yo (zi (hj:=hk))<|yo zE<|yo zM ?_;refine Q1 (Q4 (f:=35) rfl rfl (by decide) rfl rfl (fun w hw=>(JE (HLK.out.on hw.k.below) HOK.out hb).mono (fun _ _ h=>by rw[hv] at h;exact h))) ?_;refine yl<|yn<|y0<|ys<|yn<|yq<|yr<|yo (zD 0)<|yo zM ?_;refine Qa (Qx _ _ _ (f:=28) rfl rfl rfl (fun w hw=>Kd HFM.out HF.out hn hk hw)) rfl (by decide) (fun br _=>?_);refine yo zA<|yl<|yn<|yq<|yq<|yr<|yo zA<|yl<|yn<|yb ?_;refine X0 (ι:=Nat) (fun i=>i≤n∧∀j r,j<i→F[j]? =some r→(Zb F k).getD j false=true→VJ r (b:Int)=false) (fun i=>n - i) (fun i=>[(2,.int .i64 (b:Int)),(3,.pointer (some ⟨b3,0,none⟩)),(7,.slice (some ⟨br,0,none⟩) n n),(8,.int .i64 (i:Int))]) (fun i=>[.row (some ⟨br,0,none⟩) n n 4 1 (XR (Zb F k)),.blk b3 (.cells ([.slice (some ⟨fb,fo,none⟩) n c]:List Value).toArray 24 (0,0))]) 0 [0,1] (by decide) ⟨Nat.zero_le _,fun j r hj=>absurd hj (Nat.not_lt_zero j)⟩ (.cons rfl rfl (.cons rfl rfl (.cons rfl rfl (.cons rfl rfl .nil)))) rfl ?_
  rintro i ⟨hi,hall⟩
  have HALL:=Lib.hid hall;clear hall
  by_cases hin:i<n
  ·obtain⟨r2,Ab2,cb2,An2,cn2,Ap2,cp2,hr2,hrg2,hl2⟩:=HFM.out.rl hin;have HOK2:=Lib.hid (by have:=HF.out i r2 hr2;rw[HLEN.out] at this;exact this:ROk n r2);have HL2:=Lib.hid hl2;have HR2:=Lib.hid hr2
   have hc2:(XR (Zb F k))[0+i]? =some (.bool ((Zb F k).getD i false)):=by rw[Nat.zero_add];exact Vu (by omega)
   obtain⟨u,hu⟩:∃u,(Zb F k).getD i false=u:=⟨_,rfl⟩;obtain⟨v2,hv2⟩:∃v,VJ r2 (b:Int)=v:=⟨_,rfl⟩;rw[hu] at hc2;have HU:=Lib.hid hu;clear hl2 hr2 hu
   cases u with
   |false=>
    refine yq<|yq<|yr<|yo zM<|yo zM<|yo zL<|yo zlt<|yl<|yn<|y1<|ys<|yn<|yq<|yb<|yq<|yr<|yo zM<|yo zM<|yo (zi1 (hj:=hin))<|yo (zK 0 hc2)<|yo zM<|yo zS<|yo zS<|yo zS<|yo zS<|yo zS<|yo zS<|yo zS<|yo zN<|yl<|yn<|y0<|ys<|yn<|yr<|yo zM<|yo zP<|yo zA<|yl ?_;refine QA (i+1) [0,1] (by decide) ⟨hin,fun j r hj hr ht=>?_⟩ (by omega) (.cons rfl rfl (.cons rfl rfl (.cons rfl rfl (.cons rfl (by go_num) .nil)))) rfl
    rcases (show j<i∨j=i by omega) with h|rfl
    ·exact HALL.out j r h hr ht
    ·rw[HU.out] at ht;cases ht
   |true=>
    cases v2 with
    |true=>
     refine yq<|yq<|yr<|yo zM<|yo zM<|yo zL<|yo zlt<|yl<|yn<|y1<|ys<|yn<|yq<|yb<|yq<|yr<|yo zM<|yo zM<|yo (zi1 (hj:=hin))<|yo (zK 0 hc2)<|yo zM<|yo zF<|yo (zB 1)<|yo zM<|yo (zi (hj:=hin)) ?_;refine Q1 (X8 rfl rfl (by decide) rfl rfl (fun w hw=>hw.range_old hrg2 (by simp)) (by rfl)) ?_;refine yo zM ?_;(refine Q1 (Q4 (f:=35) rfl rfl (by decide) rfl rfl (fun w hw=>(JE (HL2.out.on hw.k.below) HOK2.out hb).mono (fun _ _ h=>by rw[hv2] at h;exact h))) ?_);refine yo zY<|yl<|yn<|y1<|yq<|yr<|yo zA<|yl<|yn<|yt<|yk<|yc<|yc<|yk<|yc ?_;refine Q9 (by exact .inr rfl) rfl (.tmp rfl) (fun w hw=>QB (HIFF.out.2 ⟨i,.inr ?_,by rw[HOWN.out i r2 HR2.out];exact hv2⟩).symm hw);exact(Ke HF.out.bd (by rw[HLEN.out];exact hk) i).1 HU.out
    |false=>
     refine yq<|yq<|yr<|yo zM<|yo zM<|yo zL<|yo zlt<|yl<|yn<|y1<|ys<|yn<|yq<|yb<|yq<|yr<|yo zM<|yo zM<|yo (zi1 (hj:=hin))<|yo (zK 0 hc2)<|yo zM<|yo zF<|yo (zB 1)<|yo zM<|yo (zi (hj:=hin)) ?_;refine Q1 (X8 rfl rfl (by decide) rfl rfl (fun w hw=>hw.range_old hrg2 (by simp)) (by rfl)) ?_;refine yo zM ?_;(refine Q1 (Q4 (f:=35) rfl rfl (by decide) rfl rfl (fun w hw=>(JE (HL2.out.on hw.k.below) HOK2.out hb).mono (fun _ _ h=>by rw[hv2] at h;exact h))) ?_);refine yo zY<|yl<|yn<|y0<|ys<|yn<|yr<|yo zM<|yo zP<|yo zA<|yl ?_;refine QA (i+1) [0,1] (by decide) ⟨hin,fun j r hj hr ht=>?_⟩ (by omega) (.cons rfl rfl (.cons rfl rfl (.cons rfl rfl (.cons rfl (by go_num) .nil)))) rfl
     rcases (show j<i∨j=i by omega) with h|rfl
     ·exact HALL.out j r h hr ht
     ·rw[HR2.out] at hr
      cases hr
      exact hv2
  ·obtain rfl:i=n:=by omega
   refine yq<|yq<|yr<|yo zM<|yo zM<|yo zL<|yo zlf<|yl<|yn<|y0<|ye<|yn<|yq<|yr<|yo zA<|yl<|yn<|yt ?_;refine Q9 (by exact .inr rfl) rfl (.tmp rfl) (fun w hw=>QB ?_ hw)
   cases hfin:(JS F).getD k Z2 b with
   |false=>rfl
   |true=>
    exfalso
    obtain⟨j,hj,ho⟩:=HIFF.out.1 hfin
    rcases hj with rfl|hj
    ·rw[HOWN.out j rk HRK.out,hv] at ho
     cases ho
    ·have hjl:=hj.lt HF.out.bd;have hjr:=List.getElem?_eq_getElem hjl;rw[HOWN.out j _ hjr,HALL.out j _ (by rw[← HLEN.out];exact hjl) hjr ((Ke HF.out.bd (by rw[HLEN.out];exact hk) j).2 hj)] at ho
     cases ho
end
structure QcT(w:World)(A:Option Addr)(n:Nat)(vs:List Value)(S:List (Nat→Bool)):Prop where
 len:S.length=n
 r:Rd w w.heap.size 1 A n vs
 at_:∀j,j<n→∃b,vs[j]? =some (.slice (some ⟨b,0,none⟩) 256 256)∧∀q,q<256→w.cell? ⟨b,0+q,none⟩=some (.bool ((S.getD j Z2) q))
section
variable {A Ab An Ap:Option Addr}{n c cb cn cp:Nat}{W:World}{vs:List Value}{S:List (Nat→Bool)}
set_option maxRecDepth 100000 in
set_option maxHeartbeats 16000000 in
theorem Qda{r:Rl}(hr:ROk n r)(hS:QcT W A n vs S)(hk:r.kind=9):
  Calls Tryz.prog 30 #[.agg (ruC r (.slice Ab r.bs.length cb) (.slice An r.names.length cn) (.slice Ap r.parts.length cp)).toArray,.slice A n c] W (QT W (ZU S r)):=by
 have hci:=Q4X (S:=S) hr;have he:=hr.elem (.inr hk);have hs:=hr.stop (.inr (.inr hk));obtain⟨name,kind,bs,size,big,mn,mx,stop,count,elem,names,parts⟩:=r
 simp only[ruC] at hk he hs hci ⊢
 subst hk;obtain⟨ba,oa,rfl,_,hcell⟩:=hS.r.2 (by omega);obtain⟨be,hve,hbe⟩:=hS.at_ elem.toNat (by omega);have hc1:=hcell elem.toNat _ hve;have HBE:=Lib.hid hbe;have HCI:=Lib.hid hci;clear hcell hbe hve hci hr hS
 go_enter Tryz.func30,Tryz.ntmps30
 refine QE (M:=[]) (W:=W) (N:=56) (E:=[(0,.agg ([.string ⟨name.toArray⟩,.int .i64 9,.slice Ab bs.length cb,.int .i64 size,.bool big,.int .i64 mn,.int .i64 mx,.int .i64 stop,.int .i64 count,.int .i64 elem,.slice An names.length cn,.slice Ap parts.length cp]:List Value).toArray),(1,.slice (some ⟨ba,oa,none⟩) n c)]) (O:=[]) ?_ (Ag.cons (Ag.cons (Ag.nil rfl rfl) rfl) rfl) (Wd.start [] W);refine yq<|yr ?_;refine yB fun b2=>?_;refine yo zA<|yl<|yn<|yq<|yq<|yr<|yo zA<|yl<|yn<|yb ?_;refine X0 (ι:=Nat) (fun b=>b≤256∧∀q,q<b→Q5L S ⟨name,9,bs,size,big,mn,mx,stop,count,elem,names,parts⟩ q=false) (fun b=>256 - b) (fun b=>[(1,.slice (some ⟨ba,oa,none⟩) n c),(2,.pointer (some ⟨b2,0,none⟩)),(5,.int .i64 (b:Int))]) (fun b=>[.blk b2 (.cells ([.string ⟨name.toArray⟩,.int .i64 9,.slice Ab bs.length cb,.int .i64 size,.bool big,.int .i64 mn,.int .i64 mx,.int .i64 stop,.int .i64 count,.int .i64 elem,.slice An names.length cn,.slice Ap parts.length cp]:List Value).toArray 52 (0,0))]) 0 [0] (by decide) ⟨Nat.zero_le _,fun q hq=>absurd hq (Nat.not_lt_zero q)⟩ (.cons rfl rfl (.cons rfl rfl (.cons rfl rfl .nil))) rfl ?_
 rintro b ⟨hb,hall⟩
 have HALL:=Lib.hid hall;clear hall
 by_cases hlt:b<256
 ·by_cases hbs:(b:Int)=stop
  ·have hc2:=HBE.out b hlt;obtain⟨v,hv⟩:∃v,(S.getD elem.toNat Z2) b=v:=⟨_,rfl⟩;rw[hv] at hc2;have HV:=Lib.hid hv;clear hv
   cases v with
   |true=>
    refine yq<|yq<|yr<|yo zM<|yo zlt<|yl<|yn<|y1<|ys<|yn<|yq<|yb<|yq<|yq<|yr<|yo zF<|yo (zB 0)<|yo zet<|yo zM<|yo zM<|yo zF<|yo (zB 0)<|yo zet<|yo zY<|yo zM<|yo zM<|yo zF<|yo (zB 0) ?_;refine Q1 (Qo rfl rfl (by decide) rfl rfl rfl he) ?_;refine yo (zG hc1)<|yo zM<|yo (zi1 (hj:=hlt))<|yo (zG hc2)<|yo zY<|yl<|yn<|y1<|yq<|yr<|yo zA<|yl<|yn<|yt<|yc<|yk<|yc<|yc<|yk<|yc ?_;refine Q9 (by exact .inr rfl) rfl (.tmp rfl) (fun w hw=>QB (HCI.out.2 ⟨b,hlt,?_⟩).symm hw)
    show (_&&((b:Int)==stop&&(S.getD elem.toNat Z2) b)||_)=true
    rw[HV.out,beq_iff_eq.2 hbs]
    rfl
   |false=>
    refine yq<|yq<|yr<|yo zM<|yo zlt<|yl<|yn<|y1<|ys<|yn<|yq<|yb<|yq<|yq<|yr<|yo zF<|yo (zB 0)<|yo zet<|yo zM<|yo zM<|yo zF<|yo (zB 0)<|yo zet<|yo zY<|yo zM<|yo zM<|yo zF<|yo (zB 0) ?_;refine Q1 (Qo rfl rfl (by decide) rfl rfl rfl he) ?_;refine yo (zG hc1)<|yo zM<|yo (zi1 (hj:=hlt))<|yo (zG hc2)<|yo zY<|yl<|yn<|y0<|ys<|yn<|yq<|yq<|yr<|yo zF<|yo (zB 0)<|yo znt<|yl<|yn<|y1<|ye<|yn<|yr<|yo zM<|yo zP<|yo zA<|yl ?_;refine QA (b+1) [0] (by decide) ⟨hlt,fun q hq=>?_⟩ (by omega) (.cons rfl rfl (.cons rfl rfl (.cons rfl (by go_num) .nil))) rfl
    rcases (show q<b∨q=b by omega) with h|rfl
    ·exact HALL.out q h
    ·show (_&&((q:Int)==stop&&(S.getD elem.toNat Z2) q)||_)=false
     rw[HV.out,Bool.and_false,Bool.and_false]
     rfl
  ·refine yq<|yq<|yr<|yo zM<|yo zlt<|yl<|yn<|y1<|ys<|yn<|yq<|yb<|yq<|yq<|yr<|yo zF<|yo (zB 0)<|yo zet<|yo zM<|yo zM<|yo zF<|yo (zB 0)<|yo zef<|yo zY<|yo zM<|yo zS<|yo zS<|yo zS<|yo zS<|yo zS<|yo zS<|yo zS<|yo zS<|yo zN<|yl<|yn<|y0<|ys<|yn<|yq<|yq<|yr<|yo zF<|yo (zB 0)<|yo znt<|yl<|yn<|y1<|ye<|yn<|yr<|yo zM<|yo zP<|yo zA<|yl ?_;refine QA (b+1) [0] (by decide) ⟨hlt,fun q hq=>?_⟩ (by omega) (.cons rfl rfl (.cons rfl rfl (.cons rfl (by go_num) .nil))) rfl
   rcases (show q<b∨q=b by omega) with h|rfl
   ·exact HALL.out q h
   ·show (_&&((q:Int)==stop&&(S.getD elem.toNat Z2) q)||_)=false
    rw[beq_eq_false_iff_ne.2 hbs,Bool.false_and,Bool.and_false]
    rfl
 ·refine yq<|yq<|yr<|yo zM<|yo zlf<|yl<|yn<|y0<|ye<|yn<|yq<|yr<|yo zA<|yl<|yn<|yt ?_;refine Q9 (by exact .inr rfl) rfl (.tmp rfl) (fun w hw=>QB ?_ hw)
  cases hcf:ZU S ⟨name,9,bs,size,big,mn,mx,stop,count,elem,names,parts⟩ with
  |false=>rfl
  |true=>
   exfalso
   obtain⟨q,hq,h⟩:=HCI.out.1 hcf;rw[HALL.out q (by omega)] at h
   cases h
set_option maxRecDepth 100000 in
set_option maxHeartbeats 16000000 in
theorem Qd0{r:Rl}(h9:r.kind≠9)(h8:r.kind≠8):
  Calls Tryz.prog 30 #[.agg (ruC r (.slice Ab r.bs.length cb) (.slice An r.names.length cn) (.slice Ap r.parts.length cp)).toArray,.slice A n c] W (QT W (ZU S r)):=by
 have hcf:ZU S r=false:=by unfold ZU;rw[if_neg h9,if_neg h8]
 rw[hcf];clear hcf;obtain⟨name,kind,bs,size,big,mn,mx,stop,count,elem,names,parts⟩:=r
 simp only[ruC] at h9 h8 ⊢
 go_enter Tryz.func30,Tryz.ntmps30
 refine QE (M:=[]) (W:=W) (N:=56) (E:=[(0,.agg ([.string ⟨name.toArray⟩,.int .i64 kind,.slice Ab bs.length cb,.int .i64 size,.bool big,.int .i64 mn,.int .i64 mx,.int .i64 stop,.int .i64 count,.int .i64 elem,.slice An names.length cn,.slice Ap parts.length cp]:List Value).toArray),(1,.slice A n c)]) (O:=[]) ?_ (Ag.cons (Ag.cons (Ag.nil rfl rfl) rfl) rfl) (Wd.start [] W);refine yq<|yr ?_;refine yB fun b2=>?_;refine yo zA<|yl<|yn<|yq<|yq<|yr<|yo zA<|yl<|yn<|yb ?_;refine X0 (ι:=Nat) (fun b=>b≤256) (fun b=>256 - b) (fun b=>[(1,.slice A n c),(2,.pointer (some ⟨b2,0,none⟩)),(5,.int .i64 (b:Int))]) (fun b=>[.blk b2 (.cells ([.string ⟨name.toArray⟩,.int .i64 kind,.slice Ab bs.length cb,.int .i64 size,.bool big,.int .i64 mn,.int .i64 mx,.int .i64 stop,.int .i64 count,.int .i64 elem,.slice An names.length cn,.slice Ap parts.length cp]:List Value).toArray 52 (0,0))]) 0 [0] (by decide) (Nat.zero_le _) (.cons rfl rfl (.cons rfl rfl (.cons rfl rfl .nil))) rfl ?_;intro b hb
 by_cases hlt:b<256
 ·refine yq<|yq<|yr<|yo zM<|yo zlt<|yl<|yn<|y1<|ys<|yn<|yq<|yb<|yq<|yq<|yr<|yo zF<|yo (zB 0)<|yo zef<|yo zM<|yo zS<|yo zS<|yo zS<|yo zS<|yo zN<|yo zM<|yo zS<|yo zS<|yo zS<|yo zS<|yo zS<|yo zS<|yo zS<|yo zS<|yo zN<|yl<|yn<|y0<|ys<|yn<|yq<|yq<|yr<|yo zF<|yo (zB 0)<|yo znt<|yl<|yn<|y1<|ye<|yn<|yr<|yo zM<|yo zP<|yo zA<|yl ?_;exact QA (b+1) [0] (by decide) hlt (by omega) (.cons rfl rfl (.cons rfl rfl (.cons rfl (by go_num) .nil))) rfl
 ·refine yq<|yq<|yr<|yo zM<|yo zlf<|yl<|yn<|y0<|ye<|yn<|yq<|yr<|yo zA<|yl<|yn<|yt ?_;exact Q9 (by exact .inr rfl) rfl (.tmp rfl) (fun w hw=>QB rfl hw)
theorem Q9P{l:List Int}{j:Nat}{x:Int}(b:Nat)(h:l[j]? =some x):VK S (l.take (j+1)) b=VK S (l.take j) b+(if (S.getD x.toNat Z2) b then 1 else 0):=by
 rw[List.take_add_one,h]
 show VK S (l.take j++[x]) b=_
 rw[Q7r]
 rfl
set_option maxRecDepth 100000 in
set_option maxHeartbeats 16000000 in
theorem Qdr{r:Rl}(hl:RuL W r Ab cb An cn Ap cp)(hr:ROk n r)(hS:QcT W A n vs S)(hk:r.kind=8):
  Calls Tryz.prog 30 #[.agg (ruC r (.slice Ab r.bs.length cb) (.slice An r.names.length cn) (.slice Ap r.parts.length cp)).toArray,.slice A n c] W (QT W (ZU S r)):=by
 have hci:=Q4X (S:=S) hr;have h8:=hr.eight hk;have h12:=hr.p12;have hin:=hr.parts (.inr hk);have hp:=hl.p;obtain⟨name,kind,bs,size,big,mn,mx,stop,count,elem,names,parts⟩:=r
 simp only[ruC] at hk h8 h12 hin hp hci ⊢
 subst hk;obtain⟨bp,op,rfl,_,hpc⟩:=hp.2 (by omega)
 obtain⟨ba,oa,rfl,_,hcell⟩:=hS.r.2 (by
  have:=hin (parts.getD 0 0) (by rw[List.getD_eq_getElem?_getD,List.getElem?_eq_getElem (by omega)];exact List.getElem_mem _)
  omega)
 have HP:=Lib.hid hpc;have HC:=Lib.hid hcell;have HS:=Lib.hid hS;have HIN:=Lib.hid hin;have HCI:=Lib.hid hci;clear hcell hpc hci hr hS hin hp hl
 go_enter Tryz.func30,Tryz.ntmps30
 refine QE (M:=[]) (W:=W) (N:=56) (E:=[(0,.agg ([.string ⟨name.toArray⟩,.int .i64 8,.slice Ab bs.length cb,.int .i64 size,.bool big,.int .i64 mn,.int .i64 mx,.int .i64 stop,.int .i64 count,.int .i64 elem,.slice An names.length cn,.slice (some ⟨bp,op,none⟩) parts.length cp]:List Value).toArray),(1,.slice (some ⟨ba,oa,none⟩) n c)]) (O:=[]) ?_ (Ag.cons (Ag.cons (Ag.nil rfl rfl) rfl) rfl) (Wd.start [] W);refine yq<|yr ?_;refine yB fun b2=>?_;refine yo zA<|yl<|yn<|yq<|yq<|yr<|yo zA<|yl<|yn<|yb ?_;refine X0 (ι:=Nat) (fun b=>b≤256∧∀q,q<b→Q5L S ⟨name,8,bs,size,big,mn,mx,stop,count,elem,names,parts⟩ q=false) (fun b=>256 - b) (fun b=>[(1,.slice (some ⟨ba,oa,none⟩) n c),(2,.pointer (some ⟨b2,0,none⟩)),(5,.int .i64 (b:Int))]) (fun b=>[.blk b2 (.cells ([.string ⟨name.toArray⟩,.int .i64 8,.slice Ab bs.length cb,.int .i64 size,.bool big,.int .i64 mn,.int .i64 mx,.int .i64 stop,.int .i64 count,.int .i64 elem,.slice An names.length cn,.slice (some ⟨bp,op,none⟩) parts.length cp]:List Value).toArray 52 (0,0))]) 0 [0] (by decide) ⟨Nat.zero_le _,fun q hq=>absurd hq (Nat.not_lt_zero q)⟩ (.cons rfl rfl (.cons rfl rfl (.cons rfl rfl .nil))) rfl ?_
 rintro b ⟨hb,hall⟩
 have HALL:=Lib.hid hall;clear hall
 by_cases hlt:b<256
 ·refine yq<|yq<|yr<|yo zM<|yo zlt<|yl<|yn<|y1<|ys<|yn<|yq<|yb<|yq<|yq<|yr<|yo zF<|yo (zB 0)<|yo zef<|yo zM<|yo zS<|yo zS<|yo zS<|yo zS<|yo zN<|yo zM<|yo zS<|yo zS<|yo zS<|yo zS<|yo zS<|yo zS<|yo zS<|yo zS<|yo zN<|yl<|yn<|y0<|ys<|yn<|yq<|yq<|yr<|yo zF<|yo (zB 0)<|yo znf<|yl<|yn<|y0<|ys<|yn<|yq<|yr<|yo zA<|yl<|yn<|yq<|yq<|yr<|yo zA<|yl<|yn<|yb ?_;refine X0 (ι:=Nat) (fun j=>j≤parts.length) (fun j=>parts.length - j) (fun j=>[(1,.slice (some ⟨ba,oa,none⟩) n c),(2,.pointer (some ⟨b2,0,none⟩)),(5,.int .i64 (b:Int)),(6,.int .i64 (VK S (parts.take j) b:Int)),(7,.int .i64 (j:Int))]) (fun j=>[.blk b2 (.cells ([.string ⟨name.toArray⟩,.int .i64 8,.slice Ab bs.length cb,.int .i64 size,.bool big,.int .i64 mn,.int .i64 mx,.int .i64 stop,.int .i64 count,.int .i64 elem,.slice An names.length cn,.slice (some ⟨bp,op,none⟩) parts.length cp]:List Value).toArray 52 (0,0))]) 0 [0] (by decide) (Nat.zero_le _) (.cons rfl rfl (.cons rfl rfl (.cons rfl rfl (.cons rfl rfl (.cons rfl rfl .nil))))) rfl ?_;intro j hj
  by_cases hjl:j<parts.length
  ·obtain⟨x,hx⟩:∃x,parts[j]? =some x:=⟨_,List.getElem?_eq_getElem hjl⟩;have hxn:=HIN.out x (List.mem_of_getElem? hx);have hcx:W.cell? ⟨bp,op+j,none⟩=some (.int .i64 x):=HP.out j _ (by unfold iv;rw[List.getElem?_map,hx];rfl);obtain⟨be,hve,hbe⟩:=HS.out.at_ x.toNat (by omega);have hc1:=HC.out x.toNat _ hve;have hc2:=hbe b hlt;have hst:=Q9P (S:=S) b hx;have hcl:=Q9t S (parts.take j) b;rw[List.length_take] at hcl
   generalize VK S (parts.take j) b=cn0 at hst hcl ⊢
   obtain⟨v,hv⟩:∃v,(S.getD x.toNat Z2) b=v:=⟨_,rfl⟩;rw[hv] at hc2 hst;clear hv hbe hve hx
   cases v with
   |true=>
    refine yq<|yq<|yr<|yo zM<|yo zF<|yo (zB 0)<|yo zL<|yo zlt<|yl<|yn<|y1<|ys<|yn<|yq<|yb<|yq<|yr<|yo zM<|yo zF<|yo (zB 0)<|yo zM<|yo (zi1 (hj:=hjl))<|yo (zG hcx) ?_;refine Q1 (Qo rfl rfl (by decide) rfl rfl rfl hxn) ?_;refine yo (zG hc1)<|yo zM<|yo (zi1 (hj:=hlt))<|yo (zG hc2)<|yl<|yn<|y1<|yr<|yo zM<|yo zP<|yo zA<|yl<|yn<|yr<|yo zM<|yo zP<|yo zA<|yl ?_;exact QA (j+1) [0] (by decide) hjl (by omega) (.cons rfl rfl (.cons rfl rfl (.cons rfl rfl (.cons rfl (by rw[hst];simp) (.cons rfl (by go_num) .nil))))) rfl
   |false=>
    refine yq<|yq<|yr<|yo zM<|yo zF<|yo (zB 0)<|yo zL<|yo zlt<|yl<|yn<|y1<|ys<|yn<|yq<|yb<|yq<|yr<|yo zM<|yo zF<|yo (zB 0)<|yo zM<|yo (zi1 (hj:=hjl))<|yo (zG hcx) ?_;refine Q1 (Qo rfl rfl (by decide) rfl rfl rfl hxn) ?_;refine yo (zG hc1)<|yo zM<|yo (zi1 (hj:=hlt))<|yo (zG hc2)<|yl<|yn<|y0<|ys<|yn<|yr<|yo zM<|yo zP<|yo zA<|yl ?_;exact QA (j+1) [0] (by decide) hjl (by omega) (.cons rfl rfl (.cons rfl rfl (.cons rfl rfl (.cons rfl (by rw[hst];simp) (.cons rfl (by go_num) .nil))))) rfl
  ·have hjt:parts.take j=parts:=List.take_of_length_le (by omega);rw[hjt]
   by_cases h1:1<VK S parts b
   ·refine yq<|yq<|yr<|yo zM<|yo zF<|yo (zB 0)<|yo zL<|yo zlf<|yl<|yn<|y0<|ye<|yn<|yq<|yr<|yo zM<|yo zgt<|yl<|yn<|y1<|yq<|yr<|yo zA<|yl<|yn<|yt<|yk<|yc<|yc<|yk<|yc ?_;refine Q9 (by exact .inr rfl) rfl (.tmp rfl) (fun w hw=>QB (HCI.out.2 ⟨b,hlt,?_⟩).symm hw)
    show (_||(_&&decide (1<VK S parts b)))=true
    rw[decide_eq_true h1]
    rfl
   ·refine yq<|yq<|yr<|yo zM<|yo zF<|yo (zB 0)<|yo zL<|yo zlf<|yl<|yn<|y0<|ye<|yn<|yq<|yr<|yo zM<|yo zgf<|yl<|yn<|y0<|ys<|yn<|yr<|yo zM<|yo zP<|yo zA<|yl ?_;refine QA (b+1) [0] (by decide) ⟨hlt,fun q hq=>?_⟩ (by omega) (.cons rfl rfl (.cons rfl rfl (.cons rfl (by go_num) .nil))) rfl
    rcases (show q<b∨q=b by omega) with h|rfl
    ·exact HALL.out q h
    ·show ((_&&_)||(_&&decide (1<VK S parts q)))=false
     rw[decide_eq_false h1,Bool.and_false,Bool.or_false]
     rfl
 ·refine yq<|yq<|yr<|yo zM<|yo zlf<|yl<|yn<|y0<|ye<|yn<|yq<|yr<|yo zA<|yl<|yn<|yt ?_;refine Q9 (by exact .inr rfl) rfl (.tmp rfl) (fun w hw=>QB ?_ hw)
  cases hcf:ZU S ⟨name,8,bs,size,big,mn,mx,stop,count,elem,names,parts⟩ with
  |false=>rfl
  |true=>
   exfalso
   obtain⟨q,hq,h⟩:=HCI.out.1 hcf;rw[HALL.out q (by omega)] at h
   cases h
theorem Q2p{r:Rl}(hl:RuL W r Ab cb An cn Ap cp)(hr:ROk n r)(hS:QcT W A n vs S):
  Calls Tryz.prog 30 #[.agg (ruC r (.slice Ab r.bs.length cb) (.slice An r.names.length cn) (.slice Ap r.parts.length cp)).toArray,.slice A n c] W (QT W (ZU S r)):=by
 by_cases h9:r.kind=9
 ·exact Qda hr hS h9
 ·by_cases h8:r.kind=8
  ·exact Qdr hl hr hS h8
  ·exact Qd0 h9 h8
end
end Go.Proofs.YtgdiadednlajgaaGreatDoor
