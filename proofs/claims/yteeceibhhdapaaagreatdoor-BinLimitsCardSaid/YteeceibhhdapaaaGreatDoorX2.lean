/- The layer of own lemmas and contracts, part 2. -/
import Derived.Test.YteeceibhhdapaaaGreatDoorX1
import Derived.Lib.AppendStr
import Derived.Laws.StructEq
import Derived.MapKept
import Derived.OrdersIn
import Derived.RangeFuncLeaves
import Derived.RangeFuncSeq
set_option linter.unusedVariables false
set_option linter.unusedSimpArgs false
namespace Go.Ide
open Go.RowKit
section
variable {C:BC} {F:Ab} {ρ:Lk} {H:Hp} {w:World}
theorem Ao.rename {H1 H2:Hp}{e:Aw}{b k n:Nat}(m:Ao C F ρ (H1++e::H2) w)(hb:ρ e.k e.g=some b)(hn:ρ k n=none)(hne:∀e'∈H1++e::H2,e'.g≠n):
  Ao C F (ρ.put k n b) (⟨k,n,e.T,e.sz,e.es⟩::(H1++H2)) w/\BT ρ (AN F.X ρ (H1++e::H2)) w (ρ.put k n b) (AN F.X (ρ.put k n b) (⟨k,n,e.T,e.sz,e.es⟩::(H1++H2))) w:=by
 have hold:∀e'∈H1++e::H2,∀b',ρ.put k n b e'.k e'.g=some b'↔ρ e'.k e'.g=some b':=λe' he' b'=>by
  unfold Lk.put;rw[AF λh=>hne e' he' h.2]
 have hmem:∀e',e'∈H1++e::H2↔e'=e\/e'∈H1++H2:=λe'=>by simp;constructor<;>(rintro(h|h|h)<;>simp[h])
 have hO:∀b',AN F.X (ρ.put k n b) (⟨k,n,e.T,e.sz,e.es⟩::(H1++H2)) b'↔AN F.X ρ (H1++e::H2) b':=by
  intro b';unfold AN;refine or_congr Iff.rfl ⟨?_,?_⟩
  ·rintro⟨e',he',h⟩
   rcases BF.1 he' with rfl|he'
   ·rw[EE]at h;exact⟨e,by simp,by rw[hb];exact h⟩
   ·have hm:=(hmem e').2 (.inr he')
    exact⟨e',hm,(hold e' hm b').1 h⟩
  ·rintro⟨e',he',h⟩
   rcases(hmem e').1 he' with rfl|h2
   ·rw[hb]at h;cases h
    exact⟨_,CM ..,EE _ _ _ _⟩
   ·exact⟨e',CQ _ h2,(hold e' he' b').2 h⟩
 have hOe:AN F.X (ρ.put k n b) (⟨k,n,e.T,e.sz,e.es⟩::(H1++H2))=AN F.X ρ (H1++e::H2):=funext λb=>propext (hO b)
 have x:BT ρ (AN F.X ρ (H1++e::H2)) w (ρ.put k n b) (AN F.X (ρ.put k n b) (⟨k,n,e.T,e.sz,e.es⟩::(H1++H2))) w:=
  ⟨Ai _,λ_ _ _ h=>ND hn h,λb' _ h=>⟨by rw[hOe];exact h,rfl⟩,λ_ cs _ _ h=>⟨cs,_,h,rfl⟩⟩
 have hinj:=m.hok.inj;rw[Ko,Dw]at hinj;obtain⟨p1,⟨p2,p3⟩,p4⟩:=hinj;refine⟨⟨⟨λe' he'=>?_,?_,λe' he' b' hb'=>?_⟩,m.os,m.tape,m.output,m.size,m.blk,m.xlt,m.g0,m.gn,m.gw,λ_ _ _ h=>x.link _ _ _ (m.lnk _ _ _ h),m.shp⟩,x⟩
 ·rcases BF.1 he' with rfl|h2
  ·obtain⟨cs,a1,a2⟩:=m.at (e:=e) (by simp) hb
   have z:=a2.mono x;exact .inr ⟨b,cs,EE _ _ _ _,a1,z.len,z.siz,z.one,z.rep⟩
  ·have hm:=(hmem e').2 (.inr h2)
   rcases m.hok.ent e' hm with⟨a1,a2⟩|⟨b',cs,a1,a2,a3⟩
   ·exact .inl ⟨a1,by unfold Lk.put;rw[AF λh=>hne e' hm h.2];exact a2⟩
   ·exact .inr ⟨b',cs,(hold e' hm b').2 a1,a2,a3.mono x⟩
 ·rw[Dw,Ko]
  have tr:∀ {e1 e2:Aw},e1∈H1++e::H2->e2∈H1++e::H2->(∀b b',ρ e1.k e1.g=some b->ρ e2.k e2.g=some b'->b≠b')->∀b1 b2,ρ.put k n b e1.k e1.g=some b1->ρ.put k n b e2.k e2.g=some b2->b1≠b2:=
   λh1 h2 h b1 b2 hb1 hb2=>h b1 b2 ((hold _ h1 b1).1 hb1) ((hold _ h2 b2).1 hb2)
  refine⟨λe2 he2 b1 b2 hb1 hb2=>?_,?_,?_,?_⟩
  ·rw[EE]at hb1;cases hb1
   have hm:=(hmem e2).2 (.inr he2);have hb2:=(hold _ hm b2).1 hb2;rcases List.mem_append.1 he2 with h|h
   ·exact λhe=>p4 e2 h e (by simp) b2 b hb2 hb he.symm
   ·exact p2 e2 h b b2 hb hb2
  ·exact p1.imp_of_mem λh1 h2 h=>tr (by simp[h1]) (by simp[h2]) h
  ·exact p3.imp_of_mem λh1 h2 h=>tr (by simp[h1]) (by simp[h2]) h
  ·exact λe1 h1 e2 h2=>tr (by simp[h1]) (by simp[h2]) (p4 e1 h1 e2 (by simp[h2]))
 ·rcases BF.1 he' with rfl|h2
  ·rw[EE]at hb';cases hb'
   exact m.hok.own e (by simp) b hb
  ·have hm:=(hmem e').2 (.inr h2)
   exact m.hok.own e' hm b' ((hold _ hm b').1 hb')
theorem Ao.ghost {k n T sz:Nat}(m:Ao C F ρ H w)(hn:ρ k n=none):Ao C F ρ (⟨k,n,T,sz,[]⟩::H) w/\AN F.X ρ (⟨k,n,T,sz,[]⟩::H)=AN F.X ρ H:=by
 have hO:AN F.X ρ (⟨k,n,T,sz,[]⟩::H)=AN F.X ρ H:=funext λb=>propext (by
  unfold AN;refine or_congr Iff.rfl ⟨?_,λ⟨e,he,h⟩=>⟨e,CQ _ he,h⟩⟩;rintro⟨e,he,h⟩;rcases BF.1 he with rfl|he
  ·rw[hn]at h;cases h
  ·exact⟨e,he,h⟩)
 refine⟨⟨⟨λe he=>?_,?_,λe he b hb=>?_⟩,m.os,m.tape,m.output,m.size,m.blk,m.xlt,m.g0,m.gn,m.gw,m.lnk,m.shp⟩,hO⟩
 ·rw[hO]
  rcases BF.1 he with rfl|he
  ·exact .inl ⟨rfl,hn⟩
  ·exact m.hok.ent e he
 ·refine Dw.2 ⟨λe he b b' hb _=>?_,m.hok.inj⟩
  rw[hn]at hb;cases hb
 ·rcases BF.1 he with rfl|he
  ·rw[hn]at hb;cases hb
  ·exact m.hok.own e he b hb
def Hj (H:Hp)(esz:Nat):D->Option (List D×Prop)
 | .sl _ sz es=>some (es,sz=esz)
 | .osl k g sz i len=>match Hp.get H k with
  |some e=>some ((e.es.drop i).take len,g=e.g/\sz=e.sz/\sz=esz/\i+len<=e.es.length)
  |none=>none
 | .prim (.slice none 0 0)=>some ([],True)
 |_=>none
structure Na (ρ:Lk)(O:Nat->Prop)(w:World)(esz:Nat)(es:List D)(a:Addr)(f:Nat->Value):Prop where
 cell:∀j,j<es.length*esz->w.cell? (a.add j)=some (f j)
 one:∀j,j<es.length*esz->one (f j)=true
 siz:∀(i:Nat) (e:D),es[i]?=some e->e.cells.length=esz
 rep:∀(i:Nat) (e:D) (j:Nat) (d:D),es[i]?=some e->e.cells[j]?=some d->AV ρ O w d (f (i*esz+j))
structure M1 (ρ:Lk)(O:Nat->Prop)(w:World)(esz:Nat)(es:List D)(f:Nat->Value):Prop where
 one:∀j,j<es.length*esz->one (f j)=true
 siz:∀(i:Nat) (e:D),es[i]?=some e->e.cells.length=esz
 rep:∀(i:Nat) (e:D) (j:Nat) (d:D),es[i]?=some e->e.cells[j]?=some d->AV ρ O w d (f (i*esz+j))
theorem Na.srcv {ρ:Lk}{O:Nat->Prop}{w:World}{esz:Nat}{es:List D}{a:Addr}{f:Nat->Value}(h:Na ρ O w esz es a f):M1 ρ O w esz es f:=⟨h.one,h.siz,h.rep⟩
theorem bC {esz:Nat}{d:D}{v:Value}{es:List D}{p:Prop}(m:Ao C F ρ H w)(h:Hj H esz d=some (es,p))(hp:p)(hr:AV ρ (AN F.X ρ H) w d v):
  (v=.slice none 0 0/\es=[])\/∃a c f,v=.slice (some a) es.length c/\es.length<=c/\Na ρ (AN F.X ρ H) w esz es a f:=by
 unfold Hj at h;split at h<;>try(cases h;done)
 ·cases h
  cases hr with
  |nil=>exact .inl ⟨rfl,rfl⟩
  |emp a=>exact .inr ⟨a,0,λ_=>undef,rfl,by simp,λj hj=>by simp at hj,λj hj=>by simp at hj,λi e h=>by simp at h,λi e j d h=>by simp at h⟩
  |sl f hl hc hO hb hz hcell ho hh=>
   subst hp;refine .inr ⟨_,_,f,by rw[hl],by omega,λj hj=>?_,λj hj=>ho j (by rw[<-hl];exact hj),hz,hh⟩;rw[HV];exact hcell j (by rw[<-hl];exact hj)
 ·rename_i k g sz i len
  split at h<;>try(cases h;done)
  rename_i e he;cases h;obtain⟨rfl,rfl,rfl,hle⟩:=hp;obtain⟨hm,hk⟩:=Hp.get_mem he;cases hr with
  |onil=>exact .inl ⟨rfl,by simp⟩
  |osl hr hb hc hs hmx=>
   rename_i cap b T cs fz;rw[<-hk]at hr;obtain⟨cs',h1,h2⟩:=m.at hm hr;rw[hb]at h1;cases h1;have hlen:((e.es.drop i).take len).length=len:=by simp;omega
   have hin:∀j,j<len*e.sz->i*e.sz+j<cs.size:=λj hj=>by
    have:(i+len)*e.sz<=e.es.length*e.sz:=CG _ hle
    rw[Bs]at this;have:=h2.len;omega
   have hget:∀(q:Nat) (d:D),((e.es.drop i).take len)[q]?=some d->e.es[i+q]?=some d:=λq d hq=>by
    rw[Ee]at hq;split at hq
    ·rwa [GO]at hq
    ·cases hq
   refine .inr ⟨_,cap,λj=>cs.getD (i*e.sz+j) undef,by rw[hlen],by omega,λj hj=>?_,λj hj=>?_,λq d hq=>h2.siz _ d (hget q d hq),λq d j c hq hc=>?_⟩
   ·rw[hlen]at hj
    have:=hin j hj
    rw[HV];simp[World.cell?,hb,this]
   ·rw[hlen]at hj
    have h':=hin j hj
    have:=h2.one (i*e.sz+j) (cs[i*e.sz+j]) (Bn h')
    simpa[Az,Bn h']using this
   ·have:=h2.rep (i+q) d j c (hget q d hq) hc
    rw[Bs,EP]at this;exact this
 ·cases h
  cases hr;exact .inl ⟨rfl,rfl⟩
def D8 (tt:Nat->Option Ay)(H:Hp)(n k:Nat)(g:Operand->D):Op->Option (D×Hp×Prop)
 | .call ⟨.builtin .append,args,tys⟩=>match args.toList with
  | [s,x]=>match tys.toList with
   | [t,t']=>match Nat.beq t t' with
    |true=>match tt t with
     |some i=>match i.ti with
      | .slice e esz eby _=>match Hj H esz (g x)with
       |some (news,p)=>match g s with
        | .osl k1 g1 sz 0 len=>match Hp.get H k1 with
         |some e1=>some (.osl k n esz 0 (len+news.length),⟨k,n,e,esz,e1.es.take len++news⟩::Hp.del H k1,
           p/\g1=e1.g/\sz=e1.sz/\sz=esz/\e1.T=e/\len<=e1.es.length/\(len+news.length)*eby<=140737488355328/\1<=eby/\1<=esz)
         |none=>none
        | .prim (.slice none 0 0)=>some (.osl k n esz 0 news.length,⟨k,n,e,esz,news⟩::H,p/\news.length*eby<=140737488355328/\1<=eby/\1<=esz)
        |_=>none
       |none=>none
      |_=>none
     |none=>none
    |false=>none
   |_=>none
  |_=>none
 |_=>none
theorem SE {P:Program}{t e:Nat}{ty:Nat}{i:TypeInfo}(ht:P.underlying t=some (.slice e))(hi:P.info? e=some i){ao:Option Addr}{len cap:Nat}(hlc:len<=cap):
  (Builtin.append_ #[t,t] ty #[.slice ao len cap,.slice none 0 0]).run P w=.ok (.slice ao len cap) w:=by
 cases ao<;>simp[Builtin.append_,Ck ht,sizeOf,typeInfo,hi,Builtin.lenOf,hlc,run_firstCells_none,storeCells]
theorem Zu {O:Nat->Prop}{e:Aw}{k g T len:Nat}{news:List D}{f:Nat->Value}{cs cs':Array Value}(h:DC ρ O w e cs)(hl:len<=e.es.length)(hs:M1 ρ O w e.sz news f)
  (hlow:∀q,q<len*e.sz->cs'.getD q undef=cs.getD q undef) (hmid:∀j,j<news.length*e.sz->cs'.getD (len*e.sz+j) undef=f j) (hsize:(len+news.length)*e.sz<=cs'.size)
  (hone:∀(q:Nat) (v:Value),cs'[q]?=some v->one v=true):DC ρ O w ⟨k,g,T,e.sz,e.es.take len++news⟩ cs':=by
 have hlen:(e.es.take len).length=len:=by simp;omega
 have hget:∀(i:Nat) (d:D),(e.es.take len++news)[i]?=some d->(i<len/\e.es[i]?=some d)\/(len<=i/\news[i-len]?=some d):=λi d hd=>by
  rcases BA i len with hi|hi
  ·rw[FY (by omega),Ee,AG hi]at hd;exact .inl ⟨hi,hd⟩
  ·rw[Ed (by omega),hlen]at hd;exact .inr ⟨hi,hd⟩
 refine⟨by dsimp only;rw[Bh,hlen];exact hsize,λi d hd=>?_,hone,λi d j c hd hc=>?_⟩
 ·rcases hget i d hd with⟨_,h1⟩|⟨_,h1⟩
  ·exact h.siz i d h1
  ·exact hs.siz _ d h1
 ·dsimp only at hd⊢
  rcases hget i d hd with⟨hi,h1⟩|⟨hi,h1⟩
  ·have hj:j<e.sz:=by rw[<-h.siz i d h1];exact(List.getElem?_eq_some_iff.1 hc).1
   rw[hlow]
   ·exact h.rep i d j c h1 hc
   ·have:(i+1)*e.sz<=len*e.sz:=CG _ hi
    rw[Bs]at this;omega
  ·have hj:j<e.sz:=by rw[<-hs.siz _ d h1];exact(List.getElem?_eq_some_iff.1 hc).1
   have hil:i-len<news.length:=(List.getElem?_eq_some_iff.1 h1).1;have e1:i*e.sz+j=len*e.sz+((i-len)*e.sz+j):=by
    have:i=len+(i-len):=by omega
    conv=>lhs;rw[this,Bs]
    omega
   rw[e1,hmid]
   ·exact hs.rep _ d j c h1 hc
   ·have:(i-len+1)*e.sz<=news.length*e.sz:=CG _ hil
    rw[Bs]at this;omega
structure Lg (P:Program)(t e esz eby:Nat)(ez:Value):Prop where
 under:P.underlying t=some (.slice e)
 inf:∃i:TypeInfo,P.info? e=some i/\i.size=esz/\i.bytes=eby/\i.zero=some ez
 zs:ez.cells.size=esz
 zo:∀(j:Nat) (x:Value),ez.cells[j]?=some x->one x=true
theorem Pc {z:Array Value}(hz:∀(j:Nat) (x:Value),z[j]?=some x->one x=true)(n:Nat):∀(q:Nat) (v:Value),(Builtin.zeroCells z n)[q]?=some v->one v=true:=λq v hv=>by
 unfold Builtin.zeroCells at hv;rw[Array.getElem?_map]at hv;cases hr:(Array.range (n*z.size))[q]? with
 |none=>rw[hr]at hv;cases hv
 |some i=>
  rw[hr]at hv;simp only[I6,BL]at hv;have hi:i<n*z.size:=by
   obtain⟨h1,h2⟩:=Array.getElem?_eq_some_iff.1 hr;simp at h2 h1;omega
  have hpos:0<z.size:=by
   rcases Dh z.size with h|h
   ·rw[h]at hi;simp at hi
   ·exact h
  have hlt:=B0 i hpos;rw[<-hv,getElem!_pos z (i%z.size) hlt];exact hz (i%z.size) _ (Bn hlt)
theorem ge {P:Program}{t e esz eby ty:Nat}{ez:Value}(T:Lg P t e esz eby ez){b len cap c:Nat}{cs:Array Value}(hb:w.heap[b]?=some (.cells cs e (0,0)))(hlc:len*esz<=cs.size){news:List D}{a:Addr}{f:Nat->Value}{O:Nat->Prop}
  (hs:Na ρ O w esz news a f) (hg:cap<len+news.length) (hby:(len+news.length)*eby<=140737488355328) (h1:1<=eby):
  (Builtin.append_ #[t,t] ty #[.slice (some ⟨b,0,none⟩) len cap,.slice (some a) news.length c]).run P w =
   .ok (.slice (some ⟨w.heap.size,0,none⟩) (len+news.length) (grownCap w (len+news.length) cap e))
    (w.drew.alloc (.cells ((cs.toList.take (len*esz)).toArray++((List.range (news.length*esz)).map f).toArray++Builtin.zeroCells ez.cells (grownCap w (len+news.length) cap e-(len+news.length))) e)):=by
 obtain⟨i,i1,rfl,rfl,i4⟩:=T.inf;have hmx:len+news.length<=140737488355328:=BU (by have:=CY (len+news.length) h1;omega) hby;exact run_append_grow (P:=P) w t ty e i ez T.under i1 i4 ⟨b,0,none⟩ len cap (cs.toList.take (len*i.size)) (by simp;omega) (λj v hv=>by
   rw[Ee]at hv;split at hv
   ·rw[HV]
    simp only[Iy]at hv;simp[World.cell?,hb,hv]
   ·cases hv) a news.length c ((List.range (news.length*i.size)).map f) (by simp) (λj v hv=>by
   rw[A0]at hv
   by_cases hj:j<news.length*i.size
   ·rw[I3 hj]at hv;cases hv;exact hs.cell j hj
   ·rw[Db (by simp;omega)]at hv;cases hv) hg (by omega) (growslice_fits hg hby)
structure RT (P:Program)(w:World)(t u ty e esz eby:Nat)(ez sv:Value)(n:Nat)(f:Nat->Value):Prop where
 room:∀(b len cap:Nat) (cs:Array Value),w.heap[b]?=some (.cells cs e (0,0))->len+n<=cap->len*esz+n*esz<=cs.size ->
  (Builtin.append_ #[t,u] ty #[.slice (some ⟨b,0,none⟩) len cap,sv]).run P w=.ok (.slice (some ⟨b,0,none⟩) (len+n) cap) (w.setRow b (cs.toList.take (len*esz)++(List.range (n*esz)).map f++cs.toList.drop (len*esz+((List.range (n*esz)).map f).length)).toArray)
 grow:∀(b len cap:Nat) (cs:Array Value),w.heap[b]?=some (.cells cs e (0,0))->len*esz<=cs.size->cap<len+n->(len+n)*eby<=140737488355328 ->
  (Builtin.append_ #[t,u] ty #[.slice (some ⟨b,0,none⟩) len cap,sv]).run P w=.ok (.slice (some ⟨w.heap.size,0,none⟩) (len+n) (grownCap w (len+n) cap e))
   (w.drew.alloc (.cells ((cs.toList.take (len*esz)).toArray++((List.range (n*esz)).map f).toArray++Builtin.zeroCells ez.cells (grownCap w (len+n) cap e-(len+n))) e))
 none_:0<n->n*eby<=140737488355328->(Builtin.append_ #[t,u] ty #[.slice none 0 0,sv]).run P w=.ok (.slice (some ⟨w.heap.size,0,none⟩) n (grownCap w n 0 e))
   (w.drew.alloc (.cells (((List.range (n*esz)).map f).toArray++Builtin.zeroCells ez.cells (grownCap w n 0 e-n)) e))
 zero_:n=0->(Builtin.append_ #[t,u] ty #[.slice none 0 0,sv]).run P w=.ok (.slice none 0 0) w
theorem O9 {O:Nat->Prop}{k g sz len cap b T:Nat}{cs:Array Value}{fz:Nat×Nat}(hr:ρ k g=some b)(hb:w.heap[b]?=some (.cells cs T fz))(hc:len<=cap)(hs:cap*sz=cs.size)(hm:cap<=maxLen):
  AV ρ O w (.osl k g sz 0 len) (.slice (some ⟨b,0,none⟩) len cap):=by
 have:=AV.osl (O:=O) (ρ:=ρ) (k:=k) (g:=g) (i:=0) (sz:=sz) (len:=len) hr hb hc (by rw[BR];exact hs) (by rw[BR];exact hm)
 rwa [Gr]at this
structure KQ (C:BC)(F:Ab)(H:Hp)(ρ:Lk)(w:World)(n:Nat)(d:D)(H':Hp)(v:Value)(ρ':Lk)(w':World):Prop where
 mem:Ao C F ρ' H' w'
 ext:BT ρ (AN F.X ρ H) w ρ' (AN F.X ρ' H') w'
 far:∀k g',g'≠n->ρ' k g'=ρ k g'
 rep:AV ρ' (AN F.X ρ' H') w' d v
theorem Pa {xs ys:Array Value}{q:Nat}(h:q<xs.size):(xs++ys).getD q undef=xs.getD q undef:=by
 simp only[Az];rw[GR h]
theorem fp {xs ys:Array Value}{q:Nat}(h:xs.size<=q):(xs++ys).getD q undef=ys.getD (q-xs.size) undef:=by
 simp only[Az];rw[GQ h]
theorem Vj {t e0 esz eby ty n k:Nat}{ez:Value}(T:Lg C.P t e0 esz eby ez){H1 H2:Hp}{e:Aw}{b len cap:Nat}(m:Ao C F ρ (H1++e::H2) w)(hr:ρ e.k e.g=some b)(hT:e.T=e0)(hsz:esz=e.sz)(hle:len<=e.es.length)
  {cs:Array Value} (hbk:w.heap[b]?=some (.cells cs e.T (0,0))) (hcs:cap*esz=cs.size) (hcap:cap<=maxLen) (fr:∀k,ρ k n=none) (hlt:∀e'∈H1++e::H2,e'.g≠n) {news:List D} {f:Nat->Value} {u:Nat} {sv:Value}
  (S:RT C.P w t u ty e0 esz eby ez sv news.length f) (hs:M1 ρ (AN F.X ρ (H1++e::H2)) w esz news f) (hby:(len+news.length)*eby<=140737488355328) (h1:1<=eby):
  ∃v ρ' w',(Builtin.append_ #[t,u] ty #[.slice (some ⟨b,0,none⟩) len cap,sv]).run C.P w=.ok v w' /\
   KQ C F (H1++e::H2) ρ w n (.osl k n esz 0 (len+news.length)) (⟨k,n,e0,esz,e.es.take len++news⟩::(H1++H2)) v ρ' w':=by
 subst hT hsz;obtain⟨cs0,q1,q2⟩:=m.at (e:=e) (by simp) hr;rw[hbk]at q1;cases q1;have hlc:len*e.sz<=cs.size:=BU (CG _ hle) q2.len;have hmx:len+news.length<=maxLen:=by
  have:=CY (len+news.length) h1
  simp only[maxLen];omega
 have hlim:∀q,q<len*e.sz->q<cs.size:=λq hq=>by omega
 by_cases hroom:len+news.length<=cap
 ·have hfit:len*e.sz+news.length*e.sz<=cs.size:=by rw[<-hcs,<-Bs];exact CG _ hroom
  have run:=S.room b len cap cs hbk hroom hfit;generalize hcs':(cs.toList.take (len*e.sz)++(List.range (news.length*e.sz)).map f++cs.toList.drop (len*e.sz+((List.range (news.length*e.sz)).map f).length)).toArray=cs' at run;have hsz':cs'.size=cs.size:=by rw[<-hcs'];simp;omega
  have get:∀q,cs'[q]?=if q<len*e.sz then cs[q]? else if q<len*e.sz+news.length*e.sz then some (f (q-len*e.sz))else cs[q]?:=λq=>by
   rw[<-hcs'];simp only[Ji];rw[Di];have hl1:(cs.toList.take (len*e.sz)).length=len*e.sz:=by simp;omega
   rcases BA q (len*e.sz)with hq|hq
   ·rw[FY (by omega),AG hq,Ee,AG hq];simp
   ·rw[Ed (by omega),AF (by omega),hl1]
    rcases BA (q-len*e.sz) (news.length*e.sz)with hq2|hq2
    ·rw[FY (by simp;omega),AG (by omega),A0,I3 hq2];rfl
    ·rw[Ed (by simp;omega),AF (by omega),GO]
     simp only[Ac,List.length_range];rw[show len*e.sz+news.length*e.sz+(q-len*e.sz-news.length*e.sz)=q from by omega];simp
  have ho:DC ρ (AN F.X ρ (H1++e::H2)) w ⟨e.k,e.g,e.T,e.sz,e.es.take len++news⟩ cs':=Zu q2 hle hs
   (λq hq=>by rw[Az,get,AG hq,<-Az])
   (λj hj=>by rw[Az,get,AF (by omega),AG (by omega),show len*e.sz+j-len*e.sz=j from by omega];rfl)
   (by rw[hsz',Bs];exact hfit) (λq v hv=>by
    rw[get]at hv;split at hv
    ·exact q2.one _ _ hv
    ·split at hv
     ·cases hv;exact hs.one _ (by omega)
     ·exact q2.one _ _ hv)
  obtain⟨m1,x1⟩:=m.write (e':=⟨e.k,e.g,e.T,e.sz,e.es.take len++news⟩) hr hbk rfl rfl rfl hsz' ho;obtain⟨m2,x2⟩:=m1.rename (e:=⟨e.k,e.g,e.T,e.sz,e.es.take len++news⟩) (k:=k) (n:=n) hr (fr k) (λe' he'=>by
   rcases List.mem_append.1 he' with h|h
   ·exact hlt e' (by simp[h])
   ·rcases BF.1 h with rfl|h
    ·exact hlt e (by simp)
    ·exact hlt e' (by simp[h]))
  rw[Sj hbk]at run;refine⟨_,ρ.put k n b,_,run,?_⟩;refine⟨m2,x1.trans x2,λk' g' hg=>by unfold Lk.put;rw[AF λh=>hg h.2],?_⟩;have hlt:b<w.heap.size:=(Array.getElem?_eq_some_iff.1 hbk).1;exact O9 (b:=b) (T:=e.T) (cs:=cs') (fz:=(0,0)) (EE _ _ _ _) (by rw[Ky _ _ _ _ _ hlt,AG rfl]) hroom (by rw[hsz',<-hcs]) hcap
 ·have run:=S.grow b len cap cs hbk hlc (Nat.lt_of_not_le hroom) hby
  generalize hcap':grownCap w (len+news.length) cap e.T=cap' at run;have hge:len+news.length<=cap':=by rw[<-hcap'];exact grownCap_ge ..
  have hmx':cap'<=maxLen:=by rw[<-hcap'];exact grownCap_le_maxLen _ _ _ _ hmx
  generalize hcs':(cs.toList.take (len*e.sz)).toArray++((List.range (news.length*e.sz)).map f).toArray++Builtin.zeroCells ez.cells (cap'-(len+news.length))=cs' at run;have s1:(cs.toList.take (len*e.sz)).toArray.size=len*e.sz:=by simp;omega
  have s2:((List.range (news.length*e.sz)).map f).toArray.size=news.length*e.sz:=by simp
  have hsz':cs'.size=cap'*e.sz:=by
   rw[<-hcs',I4,I4,s1,s2,size_zeroCells,T.zs,<-Bs,<-Bs]
   congr 1;omega
  obtain⟨m0,hO0⟩:=m.sub (H':=H1++H2) (PK (PO _) (PE _ _));have x0:BT ρ (AN F.X ρ (H1++e::H2)) w ρ (AN F.X ρ (H1++H2)) w.drew:=
   ⟨Ai _,λ_ _ _ h=>h,λb' _ h=>⟨λh'=>h (hO0 b' h'),rfl⟩,λ_ cs _ _ h=>⟨cs,_,h,rfl⟩⟩
  have ho:DC ρ (AN F.X ρ (H1++H2)) w.drew ⟨k,n,e.T,e.sz,e.es.take len++news⟩ cs':=by
   have hlow:∀q,q<len*e.sz->cs'.getD q undef=cs.getD q undef:=λq hq=>by
    rw[<-hcs',Pa (by rw[I4];omega),Pa (by omega)];simp only[Az,Ji,Ee,AG hq];simp
   have hmid:∀j,j<news.length*e.sz->cs'.getD (len*e.sz+j) undef=f j:=λj hj=>by
    rw[<-hcs',Pa (by rw[I4];omega),fp (by omega),s1,show len*e.sz+j-len*e.sz=j from by omega];simp[Az,hj]
   refine(Zu q2 hle hs hlow hmid (by rw[hsz'];exact CG _ hge) λq v hv=>?_).mono x0;rw[<-hcs']at hv;rcases BA q (len*e.sz+news.length*e.sz)with hq|hq
   ·rw[GR (by rw[I4];omega)]at hv
    rcases BA q (len*e.sz)with hq2|hq2
    ·rw[GR (by omega)]at hv
     simp only[Ji,Ee,AG hq2]at hv;exact q2.one q v (by simpa using hv)
    ·rw[GQ (by omega),s1]at hv
     simp only[Ji,A0]at hv;rw[I3 (by omega)]at hv;cases hv;exact hs.one _ (by omega)
   ·rw[GQ (by rw[I4];omega)]at hv
    exact Pc T.zo _ _ v hv
  obtain⟨m1,x1⟩:=m0.drew.alloc ⟨k,n,e.T,e.sz,e.es.take len++news⟩ cs' (fr k) (λe' he' h=>hlt e' (by rcases List.mem_append.1 he' with h|h<;>simp[h]) h.2) ho;refine⟨_,_,_,run,m1,x0.trans x1,λk' g' hg=>by unfold Lk.put;rw[AF λh=>hg h.2],?_⟩;exact O9 (b:=w.heap.size) (T:=e.T) (cs:=cs') (fz:=(0,0)) (EE _ _ _ _) (by rw[EA];exact AG rfl) hge hsz'.symm hmx'
theorem SW {t e0 esz eby ty:Nat}{P:Program}{O:Nat->Prop}{ez:Value}(T:Lg P t e0 esz eby ez)(h1:1<=eby){news:List D}{a:Addr}{c:Nat}{f:Nat->Value}(hs:Na ρ O w esz news a f):
  RT P w t t ty e0 esz eby ez (.slice (some a) news.length c) news.length f where
 room b len cap cs hbk hroom hfit:=by
  obtain⟨i,i1,rfl,i3,i4⟩:=T.inf;exact run_append_room (P:=P) w t ty e0 i T.under i1 b len cap cs hbk a news.length c ((List.range (news.length*i.size)).map f) (by simp) (λj v hv=>by
   rw[A0]at hv
   by_cases hj:j<news.length*i.size
   ·rw[I3 hj]at hv;cases hv;exact hs.cell j hj
   ·rw[Db (by simp;omega)]at hv;cases hv) (λu hu=>by
    rw[b7];obtain⟨j,hj,rfl⟩:=List.mem_map.1 hu;exact hs.one j (by simpa using hj)) hroom (by simp;exact hfit)
 grow b len cap cs hb hlc hg hby:=ge (P:=P) (ty:=ty) (c:=c) T hb hlc hs hg hby h1
 none_ h0 hby:=by
  obtain⟨i,i1,rfl,rfl,i4⟩:=T.inf;have hmx:news.length<=maxLen:=by
   have:=CY news.length h1
   simp only[maxLen];omega
  exact run_append_nil (P:=P) w t ty e0 i ez T.under i1 i4 a news.length c ((List.range (news.length*i.size)).map f) (by simp) (λj v hv=>by
   rw[A0]at hv
   by_cases hj:j<news.length*i.size
   ·rw[I3 hj]at hv;cases hv;exact hs.cell j hj
   ·rw[Db (by simp;omega)]at hv;cases hv) h0 (by simp only[maxLen]at hmx;omega) (by omega)
 zero_ h0:=by
  obtain⟨i,i1,rfl,rfl,i4⟩:=T.inf;simp[Builtin.append_,Ck T.under,sizeOf,typeInfo,i1,Builtin.lenOf,Builtin.firstCells,loadCells,loadCellsFrom,h0]
theorem append_nil {t e0 esz eby ty n k:Nat}{ez:Value}(T:Lg C.P t e0 esz eby ez)(m:Ao C F ρ H w)(fr:∀k,ρ k n=none)(hlt:∀e'∈H,e'.g≠n){news:List D}{f:Nat->Value}{u:Nat}{sv:Value}
  (S:RT C.P w t u ty e0 esz eby ez sv news.length f) (hs:M1 ρ (AN F.X ρ H) w esz news f) (hby:news.length*eby<=140737488355328) (h1:1<=eby):
  ∃v ρ' w',(Builtin.append_ #[t,u] ty #[.slice none 0 0,sv]).run C.P w=.ok v w' /\
   KQ C F H ρ w n (.osl k n esz 0 news.length) (⟨k,n,e0,esz,news⟩::H) v ρ' w':=by
 rcases Dh news.length with h0|h0
 ·have hn:=FF h0
  subst hn;obtain⟨m1,hO⟩:=m.ghost (k:=k) (n:=n) (T:=e0) (sz:=esz) (fr k);exact⟨.slice none 0 0,ρ,w,S.zero_ rfl,m1,by rw[hO];exact .refl _ _ _,λ_ _ _=>rfl,.onil _ _ _⟩
 ·have hmx:news.length<=maxLen:=by
   have:=CY news.length h1
   simp only[maxLen];omega
  have run:=S.none_ h0 hby;generalize hcap':grownCap w news.length 0 e0=cap' at run;have hge:news.length<=cap':=by rw[<-hcap'];exact grownCap_ge ..
  have hmx':cap'<=maxLen:=by rw[<-hcap'];exact grownCap_le_maxLen _ _ _ _ hmx
  generalize hcs':((List.range (news.length*esz)).map f).toArray++Builtin.zeroCells ez.cells (cap'-news.length)=cs' at run;have s2:((List.range (news.length*esz)).map f).toArray.size=news.length*esz:=by simp
  have hsz':cs'.size=cap'*esz:=by
   rw[<-hcs',I4,s2,size_zeroCells,T.zs,<-Bs]
   congr 1;omega
  have hmid:∀j,j<news.length*esz->cs'.getD j undef=f j:=λj hj=>by
   rw[<-hcs',Pa (by omega)];simp[Az,hj]
  have ho:DC ρ (AN F.X ρ H) w.drew ⟨k,n,e0,esz,news⟩ cs':=by
   refine DC.mono ⟨?_,hs.siz,λq v hv=>?_,λq d j c hd hc=>?_⟩ (BT.drew ρ (AN F.X ρ H) w)
   ·dsimp only;rw[hsz'];exact CG _ hge
   ·rw[<-hcs']at hv
    rcases BA q (news.length*esz)with hq|hq
    ·rw[GR (by omega)]at hv
     simp only[Ji,A0]at hv;rw[I3 hq]at hv;cases hv;exact hs.one _ hq
    ·rw[GQ (by omega)]at hv
     exact Pc T.zo _ _ v hv
   ·dsimp only at hd⊢
    have hj:j<esz:=by rw[<-hs.siz q d hd];exact(List.getElem?_eq_some_iff.1 hc).1
    have hq:q<news.length:=(List.getElem?_eq_some_iff.1 hd).1;rw[hmid]
    ·exact hs.rep q d j c hd hc
    ·have:(q+1)*esz<=news.length*esz:=CG _ hq
     rw[Bs]at this;omega
  obtain⟨m1,x1⟩:=m.drew.alloc ⟨k,n,e0,esz,news⟩ cs' (fr k) (λe' he' h=>hlt e' he' h.2) ho;refine⟨_,_,_,run,m1,(BT.drew _ _ _).trans x1,λk' g' hg=>by unfold Lk.put;rw[AF λh=>hg h.2],?_⟩;exact O9 (b:=w.heap.size) (T:=e0) (cs:=cs') (fz:=(0,0)) (EE _ _ _ _) (by rw[EA];exact AG rfl) hge hsz'.symm hmx'
theorem Sa {tt:Nat->Option Ay}{o:Oper}{g:Operand->D}{ev:Operand->Value}{n k:Nat}{d:D}{H':Hp}{p:Prop}(htt:Co C.P tt)(m:Ao C F ρ H w)(fr:∀k,ρ k n=none)(hlt:∀e∈H,e.g≠n)
  (hg:∀x,AV ρ (AN F.X ρ H) w (g x) (ev x)) (h:D8 tt H n k g o.op=some (d,H',p)) (hp:p):
  ∃v ρ' w',(execOp ev o).run C.P w=.ok (.value v) w'/\KQ C F H ρ w n d H' v ρ' w':=by
 unfold D8 at h;split at h<;>try(cases h;done)
 rename_i args tys ho;split at h<;>try(cases h;done)
 rename_i s x hargs;split at h<;>try(cases h;done)
 rename_i t t' htys;split at h<;>try(cases h;done)
 rename_i htt';obtain rfl:=B4 htt';split at h<;>try(cases h;done)
 rename_i i hi;split at h<;>try(cases h;done)
 rename_i e esz eby ez hk;split at h<;>try(cases h;done)
 rename_i news q hsrc;obtain⟨k1,⟨inf,k2,k3,k4,k5⟩,k6,k7⟩:=EW (htt _ _ hi) hk;have T:Lg C.P t e esz eby ez:=⟨k1,⟨inf,k2,k3,k4,k5⟩,k6,k7⟩
 have hargs':args = #[s,x]:=by rw[<-Rw (xs:=args),hargs]
 have htys':tys = #[t,t]:=by rw[<-Rw (xs:=tys),htys]
 subst hargs' htys';have fin:∀v1 v2,ev s=v1->ev x=v2->(∃v ρ' w',(Builtin.append_ #[t,t] o.type #[v1,v2]).run C.P w=.ok v w'/\KQ C F H ρ w n d H' v ρ' w') ->
   ∃v ρ' w',(execOp ev o).run C.P w=.ok (.value v) w'/\KQ C F H ρ w n d H' v ρ' w':=by
  rintro v1 v2 h1 h2 ⟨v,ρ',w',h3,h4⟩;refine⟨v,ρ',w',?_,h4⟩;unfold execOp;simp only[ho,resolve,invoke,builtin,Sem.run_bind,Sem.run_pure,Result.andThen_ok,List.map_toArray,Ct,List.map_nil,h1,h2,h3]
 have hx:=hg x;have hsr:=hg s;generalize hvx:ev x=vx at hx;generalize hvs:ev s=vs at hsr;refine fin vs vx hvs hvx ?_;split at h<;>try(cases h;done)
 ·rename_i k0 g1 sz len hgs
  split at h<;>try(cases h;done)
  rename_i e1 he1;simp only[BL,Bf]at h;obtain⟨rfl,rfl,rfl⟩:=h;obtain⟨hq,rfl,rfl,rfl,rfl,hle,hby,hb1,hs1⟩:=hp;obtain⟨hm,hke⟩:=Hp.get_mem he1;obtain⟨H1,H2,a1,_,a3⟩:=Lv e1 he1;rw[hgs]at hsr;rw[a3];rcases bC m hsrc hq hx with⟨rfl,rfl⟩|⟨a,c,f,rfl,hc,hs⟩
  ·
   simp only[HE,DR,DB];cases hsr with
   |onil=>
    obtain⟨m0,hO0⟩:=m.sub (H':=H1++H2) (by rw[a1];exact PK (PO _) (PE _ _));obtain⟨m1,hO⟩:=m0.ghost (k:=k) (n:=n) (T:=e1.T) (sz:=e1.sz) (fr k);refine⟨_,ρ,w,SE k1 k2 (Ai _),by simpa using m1,?_,λ_ _ _=>rfl,.onil _ _ _⟩;simp only[NM];rw[hO];exact⟨Ai _,λ_ _ _ h=>h,λb' _ h=>⟨λh'=>h (hO0 b' h'),rfl⟩,λ_ cs _ _ h=>⟨cs,_,h,rfl⟩⟩
   |osl hr hb hc hs hmx=>
    rename_i cap b T' cs fz;rw[<-hke]at hr;obtain⟨cs0,q1,q2⟩:=m.at hm hr;rw[hb]at q1;cases q1;rw[a1]at m;have q3:DC ρ (AN F.X ρ (H1++e1::H2)) w ⟨e1.k,e1.g,e1.T,e1.sz,e1.es.take len⟩ cs:=by
     rw[<-a1];refine⟨by dsimp only;simp only[Bb];exact BU (CG _ (Nat.min_le_right _ _)) q2.len,λi d hd=>?_,q2.one,λi d j c hd hc=>?_⟩
     ·dsimp only at hd;rw[Ee]at hd;split at hd
      ·exact q2.siz i d hd
      ·cases hd
     ·dsimp only at hd⊢;rw[Ee]at hd;split at hd
      ·exact q2.rep i d j c hd hc
      ·cases hd
    obtain⟨m1,x1⟩:=m.write (e':=⟨e1.k,e1.g,e1.T,e1.sz,e1.es.take len⟩) hr hb rfl rfl rfl rfl q3;have hsame:World.setBlk w b cs e1.T=w:=by
     unfold World.setBlk
     have:w.heap.setIfInBounds b (.cells cs e1.T (0,0))=w.heap:=by
      apply Array.ext_getElem?;intro q;rw[IS]
      by_cases hq:b=q
      ·subst hq;rw[AG rfl,AG (Array.getElem?_eq_some_iff.1 hb).1,hb]
      ·rw[AF hq]
     rw[this]
    rw[hsame]at m1 x1;obtain⟨m2,x2⟩:=m1.rename (e:=⟨e1.k,e1.g,e1.T,e1.sz,e1.es.take len⟩) (k:=k) (n:=n) hr (fr k) (λe' he'=>by
     rcases List.mem_append.1 he' with h|h
     ·exact hlt e' (by rw[a1];simp[h])
     ·rcases BF.1 h with rfl|h
      ·exact hlt e1 hm
      ·exact hlt e' (by rw[a1];simp[h]))
    refine⟨_,_,w,SE k1 k2 hc,m2,by rw[a1];exact x1.trans x2,λk' g' hg=>by unfold Lk.put;rw[AF λh=>hg h.2],?_⟩;have fin:=AV.osl (ρ:=ρ.put k n b) (O:=AN F.X (ρ.put k n b) (⟨k,n,e1.T,e1.sz,e1.es.take len⟩::(H1++H2))) (k:=k) (g:=n) (i:=0) (EE _ _ _ _) hb hc hs hmx;exact fin
  ·cases hsr with
   |onil=>
    obtain⟨m0,hO0⟩:=m.sub (H':=H1++H2) (by rw[a1];exact PK (PO _) (PE _ _));have x0:BT ρ (AN F.X ρ H) w ρ (AN F.X ρ (H1++H2)) w:=⟨Ai _,λ_ _ _ h=>h,λb' _ h=>⟨λh'=>h (hO0 b' h'),rfl⟩,λ_ cs _ _ h=>⟨cs,_,h,rfl⟩⟩
    have hs':M1 ρ (AN F.X ρ (H1++H2)) w e1.sz news f:=⟨hs.one,hs.siz,λi e j d h1 h2=>(hs.rep i e j d h1 h2).mono x0⟩
    obtain⟨v,ρ',w',r1,r2⟩:=append_nil (ty:=o.type) (k:=k) T m0 fr (λe' he'=>hlt e' (by rw[a1];rcases List.mem_append.1 he' with h|h<;>simp[h])) (SW (c:=c) T hb1 hs) hs' (by simpa using hby) hb1;refine⟨v,ρ',w',r1,?_⟩;simp only[BR,NM,EO];exact⟨r2.mem,x0.trans r2.ext,r2.far,r2.rep⟩
   |osl hr hb hc' hcs hmx=>
    rename_i cap b T' cs fz;rw[<-hke]at hr;obtain⟨cs0,q1,q2⟩:=m.at hm hr;rw[hb]at q1;cases q1;rw[a1]at m hlt hs;obtain⟨v,ρ',w',r1,r2⟩:=Vj (ty:=o.type) (k:=k) T m hr rfl rfl hle hb (by simpa using hcs) (by simpa using hmx) fr hlt (SW (c:=c) T hb1 hs) hs.srcv hby hb1;rw[a1];refine⟨v,ρ',w',?_,r2⟩;simpa using r1
 ·rename_i hgs
  simp only[BL,Bf]at h;obtain⟨rfl,rfl,rfl⟩:=h;obtain⟨hq,hby,hb1,hs1⟩:=hp;rw[hgs]at hsr;cases hsr;rcases bC m hsrc hq hx with⟨rfl,rfl⟩|⟨a,c,f,rfl,hc,hs⟩
  ·obtain⟨m1,hO⟩:=m.ghost (k:=k) (n:=n) (T:=e) (sz:=esz) (fr k)
   exact⟨_,ρ,w,SE k1 k2 (Ai _),m1,by rw[hO];exact .refl _ _ _,λ_ _ _=>rfl,.onil _ _ _⟩
  ·exact append_nil (ty:=o.type) (k:=k) T m fr hlt (SW (c:=c) T hb1 hs) hs.srcv hby hb1
end
section
variable {C:BC} {F:Ab} {s:St} {ops:Array Oper} {o:Oper} {os:List Oper} {K:St->Prop}
theorem VL:∀ {H:Hp} {k:Nat} {e:Aw},e∈Hp.del H k->e∈H
 |e0::r,k,e,h=>by
  simp only[Hp.del]at h;split at h
  ·exact CQ _ h
  ·rcases BF.1 h with rfl|h
   ·exact CM ..
   ·exact CQ _ (VL h)
theorem ml {tt:Nat->Option Ay}{H:Hp}{n k:Nat}{g:Operand->D}{op:Op}{d:D}{H':Hp}{p:Prop}(h:D8 tt H n k g op=some (d,H',p))(hl:∀e∈H,e.g<n):∀e∈H',e.g<n+1:=by
 unfold D8 at h
 (repeat' split at h)<;>try(cases h;done)
 ·cases h
  intro e he;rcases BF.1 he with rfl|he
  ·exact HK _
  ·exact DE (hl e (VL he))
 ·cases h
  intro e he;rcases BF.1 he with rfl|he
  ·exact HK _
  ·exact DE (hl e he)
theorem fC {tt:Nat->Option Ay}(k:Nat)(htt:Co C.P tt){d:D}{H':Hp}{p:Prop}(hw:CC ops s.env o=some true)(he:D8 tt s.H s.n k (BG s.env) o.op=some (d,H',p))(hp:p)
  (h:BH C F ops os ⟨Ba s.env o.dst d,H',s.n+1⟩ K):BH C F ops (o::os) s K:=
 BH.step hw (λρ a w hs=>by
  obtain⟨v,ρ',w',h1,h2⟩:=Sa htt hs.mem (λk=>hs.fresh k _ (Ai _)) (λe he=>Nat.ne_of_lt (hs.gen e he)) (DF hs.env) he hp;exact⟨v,ρ',w',.inl h1,⟨h2.mem,h2.ext,λk g hg=>by rw[h2.far k g (by omega)];exact hs.fresh k g (by omega),h2.rep⟩,ml he hs.gen⟩) h
end
def H9 (s:ByteArray):List D:=s.data.toList.map λb=>.prim (.int .u8 (b.toNat:Int))
theorem I9 (s:ByteArray):(H9 s).length=s.size:=by
 unfold H9;rw[Ac,IR];rfl
def JK (s:ByteArray)(j:Nat):Value:=.int .u8 ((s.data.toList.getD j 0).toNat:Int)
theorem SF (s:ByteArray):(List.range (s.size*1)).map (JK s)=Lib.strCells s:=by
 refine PP λj=>?_
 have hs:s.data.toList.length=s.size:=by rw[IR];rfl
 rw[D6,A0,Lib.strCells,A0];rcases BA j s.size with h|h
 ·rw[I3 h,BE (by omega)]
  simp[JK,Da,BE (show j<s.data.toList.length by omega)]
 ·rw[Db (by simp;omega),Db (by omega)];rfl
section
variable {C:BC} {F:Ab} {ρ:Lk} {H:Hp} {w:World}
theorem SN {O:Nat->Prop}(s:ByteArray):M1 ρ O w 1 (H9 s) (JK s) where
 one _ _:=rfl
 siz i e h:=by
  unfold H9 at h;rw[A0]at h;obtain⟨b,_,rfl⟩:=Option.map_eq_some_iff.1 h;rfl
 rep i e j d h1 h2:=by
  unfold H9 at h1;rw[A0]at h1;obtain⟨b,hb,rfl⟩:=Option.map_eq_some_iff.1 h1;rcases j with _|j
  ·cases h2
   have:JK s (i*1+0)=.int .u8 (b.toNat:Int):=by
    unfold JK;rw[D6,DR,Da,hb];rfl
   rw[this];exact .prim _
  ·simp[D.cells]at h2
theorem Vk {P:Program}{t u ty e0:Nat}(T:Lg P t e0 1 1 (.int .u8 0))(hu:P.underlying u=some .string)(s:ByteArray):
  RT P w t u ty e0 1 1 (.int .u8 0) (.string s) s.size (JK s) where
 room b len cap cs hbk hroom hfit:=by
  obtain⟨i,i1,i2,i3,i4⟩:=T.inf;rw[SF,Lib.strCells_length,D6];exact Lib.run_append_room_string w t u ty e0 i T.under hu i1 i2 b len cap cs hbk s hroom (by omega)
 grow b len cap cs hb hlc hg hby:=by
  obtain⟨i,i1,i2,i3,i4⟩:=T.inf;rw[SF];rw[D6]at hlc⊢;exact Lib.run_append_grow_string w t u ty e0 i (.int .u8 0) T.under hu i1 i4 ⟨b,0,none⟩ len cap (cs.toList.take len) (by rw[i2];simp;omega) (λj v hv=>by
   rw[Ee]at hv;split at hv
   ·rw[HV]
    simp only[Iy]at hv;simp[World.cell?,hb,hv]
   ·cases hv) s hg (by omega) (by rw[i3];exact growslice_fits hg (by omega))
 none_ h0 hby:=by
  obtain⟨i,i1,i2,i3,i4⟩:=T.inf;have hr:=run_append_nil_string (P:=P) w t u ty e0 i (.int .u8 0) T.under hu i1 i4 s (by omega) (by omega) (by rw[i3];omega);have e1:(s.data.map λb=>Value.int .u8 b.toNat)=(Lib.strCells s).toArray:=by
   apply Array.ext';simp[Lib.strCells]
  rw[SF,<-e1];exact hr
 zero_ h0:=by
  obtain⟨i,i1,i2,i3,i4⟩:=T.inf;have hf:=Lib.run_firstCells_string (P:=P) w 1 s;rw[h0]at hf;simp[Builtin.append_,Ck T.under,Ck hu,sizeOf,typeInfo,i1,i2,Builtin.lenOf,h0,hf]
def M5 (tt:Nat->Option Ay)(H:Hp)(n k:Nat)(g:Operand->D):Op->Option (D×Hp×Prop)
 | .call ⟨.builtin .append,args,tys⟩=>match args.toList with
  | [s,x]=>match tys.toList with
   | [t,t']=>match tt t' with
    |some i'=>match i'.ti with
     | .string=>match tt t with
      |some i=>match i.ti with
       | .slice e esz eby ez=>match g x with
        | .prim (.string str)=>match g s with
         | .osl k1 g1 sz 0 len=>match Hp.get H k1 with
          |some e1=>some (.osl k n 1 0 (len+str.size),⟨k,n,e,1,e1.es.take len++H9 str⟩::Hp.del H k1,
            esz=1/\eby=1/\ez=.int .u8 0/\g1=e1.g/\sz=e1.sz/\sz=1/\e1.T=e/\len<=e1.es.length/\len+str.size<=140737488355328)
          |none=>none
         | .prim (.slice none 0 0)=>some (.osl k n 1 0 str.size,⟨k,n,e,1,H9 str⟩::H,esz=1/\eby=1/\ez=.int .u8 0/\str.size<=140737488355328)
         |_=>none
        |_=>none
       |_=>none
      |none=>none
     |_=>none
    |none=>none
   |_=>none
  |_=>none
 |_=>none
theorem iA {tt:Nat->Option Ay}{o:Oper}{g:Operand->D}{ev:Operand->Value}{n k:Nat}{d:D}{H':Hp}{p:Prop}(htt:Co C.P tt)(m:Ao C F ρ H w)(fr:∀k,ρ k n=none)(hlt:∀e∈H,e.g≠n)
  (hg:∀x,AV ρ (AN F.X ρ H) w (g x) (ev x)) (h:M5 tt H n k g o.op=some (d,H',p)) (hp:p):
  ∃v ρ' w',(execOp ev o).run C.P w=.ok (.value v) w'/\KQ C F H ρ w n d H' v ρ' w':=by
 unfold M5 at h;split at h<;>try(cases h;done)
 rename_i args tys ho;split at h<;>try(cases h;done)
 rename_i s x hargs;split at h<;>try(cases h;done)
 rename_i t t' htys;split at h<;>try(cases h;done)
 rename_i i' hi';split at h<;>try(cases h;done)
 rename_i hk';split at h<;>try(cases h;done)
 rename_i i hi;split at h<;>try(cases h;done)
 rename_i e esz eby ez hk;split at h<;>try(cases h;done)
 rename_i str hgx;have hu:=Kw (htt _ _ hi') hk';obtain⟨k1,⟨inf,k2,k3,k4,k5⟩,k6,k7⟩:=EW (htt _ _ hi) hk;have T0:Lg C.P t e esz eby ez:=⟨k1,⟨inf,k2,k3,k4,k5⟩,k6,k7⟩
 have hargs':args = #[s,x]:=by rw[<-Rw (xs:=args),hargs]
 have htys':tys = #[t,t']:=by rw[<-Rw (xs:=tys),htys]
 subst hargs' htys';have fin:∀v1 v2,ev s=v1->ev x=v2->(∃v ρ' w',(Builtin.append_ #[t,t'] o.type #[v1,v2]).run C.P w=.ok v w'/\KQ C F H ρ w n d H' v ρ' w') ->
   ∃v ρ' w',(execOp ev o).run C.P w=.ok (.value v) w'/\KQ C F H ρ w n d H' v ρ' w':=by
  rintro v1 v2 h1 h2 ⟨v,ρ',w',h3,h4⟩;refine⟨v,ρ',w',?_,h4⟩;unfold execOp;simp only[ho,resolve,invoke,builtin,Sem.run_bind,Sem.run_pure,Result.andThen_ok,List.map_toArray,Ct,List.map_nil,h1,h2,h3]
 have hx:=hg x;have hsr:=hg s;generalize hvx:ev x=vx at hx;generalize hvs:ev s=vs at hsr;refine fin vs vx hvs hvx ?_;rw[hgx]at hx;cases hx;split at h<;>try(cases h;done)
 ·rename_i k0 g1 sz len hgs
  split at h<;>try(cases h;done)
  rename_i e1 he1;simp only[BL,Bf]at h;obtain⟨rfl,rfl,rfl⟩:=h;obtain⟨rfl,rfl,rfl,rfl,q1,rfl,rfl,hle,hby⟩:=hp;have T:=T0;obtain⟨hm,hke⟩:=Hp.get_mem he1;obtain⟨H1,H2,a1,_,a3⟩:=Lv e1 he1;rw[hgs]at hsr;rw[a3];have S:=Vk (w:=w) (ty:=o.type) T hu str;cases hsr with
  |onil=>
   obtain⟨m0,hO0⟩:=m.sub (H':=H1++H2) (by rw[a1];exact PK (PO _) (PE _ _));have x0:BT ρ (AN F.X ρ H) w ρ (AN F.X ρ (H1++H2)) w:=⟨Ai _,λ_ _ _ h=>h,λb' _ h=>⟨λh'=>h (hO0 b' h'),rfl⟩,λ_ cs _ _ h=>⟨cs,_,h,rfl⟩⟩
   obtain⟨v,ρ',w',r1,r2⟩:=append_nil (ty:=o.type) (k:=k) (news:=H9 str) (f:=JK str) T m0 fr (λe' he'=>hlt e' (by rw[a1];rcases List.mem_append.1 he' with h|h<;>simp[h])) (by rw[I9];exact S) (SN str) (by rw[I9];omega) (Ai _);refine⟨v,ρ',w',r1,?_⟩;simp only[BR,NM,EO];rw[I9]at r2;exact⟨r2.mem,x0.trans r2.ext,r2.far,r2.rep⟩
  |osl hr hb hc' hcs hmx=>
   rename_i cap b T' cs fz;rw[<-hke]at hr;obtain⟨cs0,q2,q3⟩:=m.at hm hr;rw[hb]at q2;cases q2;rw[a1]at m hlt;obtain⟨v,ρ',w',r1,r2⟩:=Vj (ty:=o.type) (k:=k) (news:=H9 str) (f:=JK str) T m hr rfl q1 hle hb (by simpa using hcs) (by simpa using hmx) fr hlt (by rw[I9];exact S) (SN str) (by rw[I9];omega) (Ai _);rw[a1];refine⟨v,ρ',w',?_,?_⟩
   ·simpa using r1
   ·rw[I9]at r2;exact r2
 ·rename_i hgs
  simp only[BL,Bf]at h;obtain⟨rfl,rfl,rfl⟩:=h;obtain⟨rfl,rfl,rfl,hby⟩:=hp;have T:=T0;rw[hgs]at hsr;cases hsr;have S:=Vk (w:=w) (ty:=o.type) T hu str;obtain⟨v,ρ',w',r1,r2⟩:=append_nil (ty:=o.type) (k:=k) (news:=H9 str) (f:=JK str) T m fr hlt (by rw[I9];exact S) (SN str) (by rw[I9];omega) (Ai _);rw[I9]at r2;exact⟨v,ρ',w',r1,r2⟩
end
section
variable {C:BC} {F:Ab} {s:St} {ops:Array Oper} {o:Oper} {os:List Oper} {K:St->Prop}
theorem kw {tt:Nat->Option Ay}{H:Hp}{n k:Nat}{g:Operand->D}{op:Op}{d:D}{H':Hp}{p:Prop}(h:M5 tt H n k g op=some (d,H',p))(hl:∀e∈H,e.g<n):∀e∈H',e.g<n+1:=by
 unfold M5 at h
 (repeat' split at h)<;>try(cases h;done)
 ·cases h
  intro e he;rcases BF.1 he with rfl|he
  ·exact HK _
  ·exact DE (hl e (VL he))
 ·cases h
  intro e he;rcases BF.1 he with rfl|he
  ·exact HK _
  ·exact DE (hl e he)
theorem yF {tt:Nat->Option Ay}(k:Nat)(htt:Co C.P tt){d:D}{H':Hp}{p:Prop}(hw:CC ops s.env o=some true)(he:M5 tt s.H s.n k (BG s.env) o.op=some (d,H',p))(hp:p)
  (h:BH C F ops os ⟨Ba s.env o.dst d,H',s.n+1⟩ K):BH C F ops (o::os) s K:=
 BH.step hw (λρ a w hs=>by
  obtain⟨v,ρ',w',h1,h2⟩:=iA htt hs.mem (λk=>hs.fresh k _ (Ai _)) (λe he=>Nat.ne_of_lt (hs.gen e he)) (DF hs.env) he hp;exact⟨v,ρ',w',.inl h1,⟨h2.mem,h2.ext,λk g hg=>by rw[h2.far k g (by omega)];exact hs.fresh k g (by omega),h2.rep⟩,kw he hs.gen⟩) h
end
inductive XI where
 |map (key elem:Nat) (zero:Value)
 |strs (n:Nat)
def Nm (P:Program):Nat->List Field->Bool
 |_,[]=>true
 |i,f::fs=>(f.name != "_")&&Nat.beq f.offset i&&(match P.underlying f.type with|some .string=>true|_=>false)&&Nm P (i+1) fs
def Lf (P:Program)(t:Nat):Option XI:=match P.underlying t with
 |some (.map k e)=>match P.underlying k with
  |some .string=>match P.info? e with
   |some i=>match i.zero with
    |some z=>match KT z i.size with
     |true=>some (.map k e z)
     |false=>none
    |none=>none
   |none=>none
  |_=>none
 |some (.struct fs)=>match P.stoodInHeld t||P.eqGuardType P.depth t with
  |false=>match Nm P 0 fs.toList with
   |true=>some (.strs fs.size)
   |false=>none
  |true=>none
 |_=>none
def Ll (P:Program)(xt:Nat->Option XI):Prop:=∀t i,xt t=some i->Lf P t=some i
def Hb (s:ByteArray):List D->List D->Option (Option D)
 | [],[]=>some none
 | .prim (.string k)::ks,d::vs=>match BI s k with
  |true=>some (some d)
  |false=>Hb s ks vs
 |_,_=>none
def GZ:List D->List D->Option Bool
 | [],[]=>some true
 | .prim (.string a)::l,.prim (.string b)::l'=>match GZ l l' with
  |some r=>some (BI a b&&r)
  |none=>none
 |_,_=>none
def Hq (ok:Bool)(d:D)(b:Bool):D:=match ok with
 |true=>.tup [d,.prim (.bool b)]
 |false=>d
def br:TI->Bool
 | .other | .ptr=>false
 |_=>true
def Fv (tt:Nat->Option Ay)(xt:Nat->Option XI)(g:Operand->D):Op->Option (D×Prop)
 | .makeInterface t x=>match tt t with
  |some i=>match br i.ti with
   |true=>some (.ifc t (g x),True)
   |false=>none
  |none=>none
 | .lookup t x ix ok=>match xt t with
  |some (.map _ _ z)=>match g x with
   | .mp ks vs=>match g ix with
    | .prim (.string s)=>match Hb s ks vs with
     |some (some d)=>some (Hq ok d true,True)
     |some none=>some (Hq ok (ofV z) false,True)
     |none=>none
    |_=>none
   |_=>none
  |_=>none
 | .binOp op t x y _=>match xt t with
  |some (.strs n)=>match g x with
   | .agg l=>match g y with
    | .agg l'=>match GZ l l' with
     |some b=>match NB op b with
      |some c=>some (.prim (.bool c),Nat.beq l.length n=true)
      |none=>none
     |none=>none
    |_=>none
   |_=>none
  |_=>none
 |_=>none
section
variable {P:Program} {ρ:Lk} {O:Nat->Prop} {w:World}
theorem Sv (a b:ByteArray):(a==b)=BI a b:=beq_toListBytes a b
theorem WW {s:ByteArray}:∀ {ks vs:List D} {es:List MapEntry} {r:Option D} (i:Nat),Hb s ks vs=some r->es.length=ks.length->es.length=vs.length ->
  (∀(j:Nat) (d:D),ks[j]?=some d->AV ρ O w d (es.getD j default).key)->(∀(j:Nat) (d:D),vs[j]?=some d->AV ρ O w d (es.getD j default).val) ->
  (match r with
   |none=>Instr.findNow .string (.string s) es i=some none
   |some d=>∃j v,Instr.findNow .string (.string s) es i=some (some (j,v))/\AV ρ O w d v)
 | [],[],[],r,i,h,_,_,_,_=>by simp only[Hb,BL]at h;subst h;rfl
 |k::ks,v::vs,e::es,r,i,h,h1,h2,hk,hv=>by
  obtain⟨kb,rfl⟩:∃a,k=.prim (.string a):=by
   unfold Hb at h;split at h<;>try(cases h;done)
   ·simp at*
   ·rename_i h1 _;cases h1;exact⟨_,rfl⟩
  simp only[Hb]at h;have h0:e.key=.string kb:=by
   have:=hk 0 _ rfl
   simp at this;generalize e.key=q at this;cases this;rfl
  have h3:Instr.findNow .string (.string s) (e::es) i=(match Instr.sameNow .string (.string s) e.key with
    |some true=>some (some (i,e.val))|some false=>Instr.findNow .string (.string s) es (i+1)|none=>none):=rfl
  rw[h0]at h3;have h4:Instr.sameNow .string (.string s) (.string kb)=some (BI s kb):=by
   show some (s==kb)=_;rw[Sv]
  rw[h4]at h3;cases hb:BI s kb with
  |true=>
   rw[hb]at h h3;simp only[BL]at h;subst h;exact⟨i,e.val,h3,by simpa using hv 0 v rfl⟩
  |false=>
   rw[hb]at h h3;dsimp only at h h3;rw[h3];exact WW (i+1) h (by simpa using h1) (by simpa using h2) (λj d hd=>by simpa using hk (j+1) d (by simpa using hd)) (λj d hd=>by simpa using hv (j+1) d (by simpa using hd))
 | [],_::_,_,_,_,h,_,_,_,_=>by simp[Hb]at h
 | [],[],_::_,_,_,_,h1,_,_,_=>by simp at h1
 |_::_,[],[],_,_,_,h1,_,_,_=>by simp at h1
 |_::_,[],_::_,_,_,_,_,h2,_,_=>by simp at h2
 |_::_,_::_,[],_,_,_,h1,_,_,_=>by simp at h1
theorem Nq {t k e:Nat}{z:Value}(h:Lf P t=some (.map k e z)):P.underlying t=some (.map k e)/\P.underlying k=some .string/\(∃i,P.info? e=some i/\i.zero=some z) /\
  ∀(j:Nat) (x:Value),z.cells[j]?=some x->one x=true:=by
 unfold Lf at h;split at h<;>try(cases h;done)
 ·rename_i k' e' h1
  split at h<;>try(cases h;done)
  rename_i h2;split at h<;>try(cases h;done)
  rename_i i h3;split at h<;>try(cases h;done)
  rename_i z' h4;split at h<;>try(cases h;done)
  rename_i h5;cases h;exact⟨h1,h2,⟨i,h3,h4⟩,(Ni h5).2⟩
 ·(repeat' split at h)<;>cases h
theorem iW {t n:Nat}(h:Lf P t=some (.strs n)):∃fs:Array Field,P.underlying t=some (.struct fs)/\P.stoodInHeld t=false/\P.eqGuardType P.depth t=false/\Nm P 0 fs.toList=true/\fs.size=n:=by
 unfold Lf at h;split at h<;>try(cases h;done)
 ·(repeat' split at h)<;>cases h
 ·rename_i fs h1
  split at h<;>try(cases h;done)
  rename_i h2;split at h<;>try(cases h;done)
  rename_i h3;cases h;simp only[Iz]at h2;exact⟨fs,h1,h2.1,h2.2,h3,rfl⟩
theorem WH:∀ {l l':List D} {b:Bool},GZ l l'=some b->l.length=l'.length
 | [],[],_,_=>rfl
 | [],_::_,_,h=>by simp[GZ]at h
 |c::l,[],_,h=>by
  unfold GZ at h;split at h
  ·simp at*
  ·simp at*
  ·cases h
 |c::l,c'::l',b,h=>by
  unfold GZ at h;split at h
  ·simp at*
  ·rename_i h1 h2
   cases h1;cases h2;split at h
   ·rename_i hr;simp[WH hr]
   ·cases h
  ·cases h
theorem Vf (d:Nat){xs ys:Array Value}:∀(fs:List Field) (i:Nat) (l l':List D) (b:Bool),Nm P i fs=true->GZ l l'=some b->l.length=fs.length ->
  (∀(j:Nat) (c:D),l[j]?=some c->AV ρ O w c (xs.getD (i+j) undef))->(∀(j:Nat) (c:D),l'[j]?=some c->AV ρ O w c (ys.getD (i+j) undef)) ->
  (∀j,j<fs.length->i+j<xs.size/\i+j<ys.size)->(Op.eqFields (d+1) xs ys fs).run P w=.ok b w
 | [],i,[],l',b,_,h,_,_,_,_=>by
  cases l' with
  |nil=>simp only[GZ,BL]at h;subst h;rfl
  |cons=>simp[GZ]at h
 |f::fs,i,c::l,l',b,hf,h,hl,hx,hy,hin=>by
  cases l' with
  |nil=>simp[GZ]at h
  |cons c' l'=>
   obtain⟨a,rfl⟩:∃a,c=.prim (.string a):=by
    unfold GZ at h;split at h<;>try(cases h;done)
    ·simp at*
    ·rename_i h1 _;cases h1;exact⟨_,rfl⟩
   obtain⟨a',rfl⟩:∃a,c'=.prim (.string a):=by
    unfold GZ at h;split at h<;>try(cases h;done)
    ·simp at*
    ·rename_i _ h1;cases h1;exact⟨_,rfl⟩
   simp only[GZ]at h;cases hr:GZ l l' with
   |none=>simp[hr]at h
   |some r=>
    simp only[hr,BL]at h;simp only[Nm,BP]at hf;obtain⟨⟨⟨f1,f2⟩,f3⟩,f4⟩:=hf;have f2:=B4 f2;have f3:P.underlying f.type=some .string:=by split at f3<;>first|assumption|cases f3
    have hxa:xs[i]?=some (.string a):=by
     have:=hx 0 _ rfl
     rw[DR]at this;have hlt:=(hin 0 (by simp)).1;rw[DR]at hlt;rw[Az,Bn hlt,IV]at this;rw[Bn hlt];generalize xs[i]=q at this;cases this;rfl
    have hya:ys[i]?=some (.string a'):=by
     have:=hy 0 _ rfl
     rw[DR]at this;have hlt:=(hin 0 (by simp)).2;rw[DR]at hlt;rw[Az,Bn hlt,IV]at this;rw[Bn hlt];generalize ys[i]=q at this;cases this;rfl
    have ag:(isAgg f.type).run P w=.ok false w:=by
     unfold isAgg;rw[run_bind,Ck f3];rfl
    have part1:(part f.type xs f.offset).run P w=.ok (.string a) w:=by
     unfold part;rw[run_bind,ag];dsimp only;rw[AF (by simp),f2];simp only[hxa];rfl
    have part2:(part f.type ys f.offset).run P w=.ok (.string a') w:=by
     unfold part;rw[run_bind,ag];dsimp only;rw[AF (by simp),f2];simp only[hya];rfl
    have hne:f.name ≠ "_":=by simpa using f1
    simp only[Op.eqFields];rw[AG hne,run_bind,part1];dsimp only;rw[run_bind,part2];dsimp only;rw[run_bind,run_equalIn_string w d f.type a a' f3];dsimp only;have ih:=Vf d fs (i+1) l l' r f4 hr (by simpa using hl) (λj c hc=>by have:=hx (j+1) c (by simpa using hc);rwa [show i+(j+1)=i+1+j from by omega]at this)
     (λj c hc=>by have:=hy (j+1) c (by simpa using hc);rwa [show i+(j+1)=i+1+j from by omega]at this) (λj hj=>by have:=hin (j+1) (by simp;omega);omega)
    subst h;cases hb:BI a a' with
    |true=>
     unfold BI at hb;rw[hb];simpa using ih
    |false=>
     unfold BI at hb;rw[hb];rfl
 | [],_,_::_,_,_,_,_,h,_,_,_=>by simp at h
 |_::_,_,[],_,_,_,_,h,_,_,_=>by simp at h
theorem lZ {t:Nat}{i:Ay}(h:D3 P t=some i)(hc:br i.ti=true):∃u,P.underlying t=some u/\∀ms,u≠.interface ms:=by
 cases hk:i.ti with
 |int k=>exact⟨_,W3 h hk,by simp⟩
 |bool=>exact⟨_,Wj h hk,by simp⟩
 |string=>exact⟨_,Kw h hk,by simp⟩
 |struct fs=>obtain⟨a,h1,_⟩:=SG h hk;exact⟨_,h1,by simp⟩
 |slice e a b c=>exact⟨_,(EW h hk).1,by simp⟩
 |arr n e a=>obtain⟨a,h1,_⟩:=Sy h hk;exact⟨_,h1,by simp⟩
 |ptr=>rw[hk]at hc;cases hc
 |other=>rw[hk]at hc;cases hc
theorem Zy {tt:Nat->Option Ay}{xt:Nat->Option XI}{o:Oper}{g:Operand->D}{ev:Operand->Value}{d:D}{p:Prop}(htt:Co P tt)(hxt:Ll P xt)(hg:∀x,AV ρ O w (g x) (ev x))
  (h:Fv tt xt g o.op=some (d,p)) (hp:p):∃v,(execOp ev o).run P w=.ok (.value v) w/\AV ρ O w d v:=by
 unfold execOp;unfold Fv at h;split at h<;>try(cases h;done)
 ·rename_i t x ho
  simp only[ho];split at h<;>try(cases h;done)
  rename_i i hi;split at h<;>try(cases h;done)
  rename_i hc;cases h;obtain⟨u,h1,h2⟩:=lZ (htt _ _ hi) hc;refine⟨.iface t (ev x),?_,.ifc (hg x)⟩;rw[run_bind]
  have:(Instr.makeInterface t (ev x)).run P w=.ok (.iface t (ev x)) w:=by
   unfold Instr.makeInterface;rw[run_bind,Ck h1];dsimp only;split
   ·rename_i ms;exact Ah rfl (h2 ms)
   ·rfl
  rw[this];rfl
 ·rename_i t x ix ok ho
  simp only[ho];split at h<;>try(cases h;done)
  rename_i k e z hi;split at h<;>try(cases h;done)
  rename_i ks vs hgx;split at h<;>try(cases h;done)
  rename_i s hgi;obtain⟨a1,a2,⟨inf,a3,a4⟩,a5⟩:=Nq (hxt _ _ hi);have hx:=hg x;have hy:=hg ix;rw[hgx]at hx;rw[hgi]at hy;generalize ev x=vx at hx;generalize ev ix=vi at hy;cases hy;cases hx with
  |mp hO hr hb h1 h2 hB hk hv=>
   rename_i r clock es;have hc:(Instr.checkKey es.isEmpty 10000 k (.string s)).run P w=.ok () w:=MapKept.run_checkKey (k:=.string s) a2 (by simp[MapKept.IsKey]) _ 9999;have hz:(zeroValue e).run P w=.ok z w:=Pb a3 a4 w;have find:∀q,Hb s ks vs=some q->_:=λq hq=>WW (ρ:=ρ) (O:=O) (w:=w) (es:=es.toList) 0 hq (by simpa using h1) (by simpa using h2) (λj d hd=>by simpa[Az]using hk j d hd) (λj d hd=>by simpa[Az]using hv j d hd)
   have okR:∀(d:D) (v:Value) (b:Bool),AV ρ O w d v->AV ρ O w (Hq ok d b) (if ok then .tuple #[v,.bool b]else v):=by
    intro d v b hr;cases ok with
    |false=>exact hr
    |true=>
     refine .tup rfl λi d' hd=>?_
     match i with
     | 0=>simp at hd;subst hd;exact hr
     | 1=>simp at hd;subst hd;exact .prim _
     |n+2=>simp at hd
   split at h<;>try(cases h;done)
   ·rename_i d' hq
    cases h;obtain⟨j,v,hf,hr'⟩:=find _ hq;refine⟨_,?_,okR _ v true hr'⟩;rw[run_bind]
    have:(Instr.lookup t (.map (some r)) (.string s) ok).run P w=.ok (if ok then .tuple #[v,.bool true]else v) w:=by
     simp[Instr.lookup,Ck a1,MapKept.run_getObj_map hb,hc,MapKept.run_findKey a2 hf,Result.andThen]
    rw[this];rfl
   ·rename_i hq
    cases h;have hf:=find _ hq;refine⟨_,?_,okR _ z false (.ofV λi x hx=>.inl (a5 i x hx))⟩;rw[run_bind]
    have:(Instr.lookup t (.map (some r)) (.string s) ok).run P w=.ok (if ok then .tuple #[z,.bool false]else z) w:=by
     simp[Instr.lookup,Ck a1,MapKept.run_getObj_map hb,hc,MapKept.run_findKey a2 hf,hz,Result.andThen]
    rw[this];rfl
 ·rename_i op t x y yt ho
  simp only[ho];split at h<;>try(cases h;done)
  rename_i n hi;split at h<;>try(cases h;done)
  rename_i l hgx;split at h<;>try(cases h;done)
  rename_i l' hgy;split at h<;>try(cases h;done)
  rename_i b hb;split at h<;>try(cases h;done)
  rename_i c hn;cases h;obtain⟨fs,a1,a2,a3,a4,a5⟩:=iW (hxt _ _ hi);have hx:=hg x;have hy:=hg y;rw[hgx]at hx;rw[hgy]at hy;generalize ev x=vx at hx;generalize ev y=vy at hy;have hp:=B4 hp;have hl':=WH hb;cases hx with
  |agg n1 o1 r1=>
   cases hy with
   |agg n2 o2 r2=>
    rename_i xs ys;have eqf:P.fieldsOf t=fs:=by unfold Program.fieldsOf;rw[a1]
    have run:(Op.equalIn 10000 t (.agg xs) (.agg ys)).run P w=.ok b w:=by
     rw[show(10000:Nat)=9998+1+1 from rfl,run_equalIn_struct w _ t xs ys (by rw[eqf];exact a1) a2,eqf];exact Vf (ρ:=ρ) (O:=O) 9998 fs.toList 0 l l' b a4 hb (by simp;omega) (λj c hc=>by rw[BR];exact r1 j c hc) (λj c hc=>by rw[BR];exact r2 j c hc)
      (λj hj=>by simp at hj;omega)
    refine⟨.bool c,?_,.prim _⟩;have r3:(do eqGuard op t x y (.agg xs) (.agg ys);binOp op t (.agg xs) (.agg ys):Sem Value).run P w=.ok (.bool c) w:=by
     rw[run_bind,run_eqGuard_agg w op t x y xs ys a3];dsimp only;unfold NB at hn;cases op<;>simp only[BL,reduceCtorEq]at hn
     ·subst hn;rw[run_eql_struct,run];rfl
     ·subst hn;rw[run_neq_struct,run];rfl
    rw[run_bind,r3];rfl
end
def Jn (tt:Nat->Option Ay)(n k:Nat)(g:Operand->D):Op->Option (D×Aw×Prop)
 | .makeSlice t l c=>match tt t with
  |some i=>match i.ti with
   | .slice e esz eby ez=>match g l with
    | .prim (.int _ a)=>match g c with
     | .prim (.int _ b)=>some (.osl k n esz 0 a.toNat,⟨k,n,e,esz,List.replicate a.toNat (ofV ez)⟩,0<=a/\a<=b/\(eby:Int)*b<=281474976710656/\b<=9223372036854775807)
     |_=>none
    |_=>none
   |_=>none
  |none=>none
 |_=>none
section
variable {C:BC} {F:Ab} {s:St} {ops:Array Oper} {o:Oper} {os:List Oper} {K:St->Prop} {ρ:Lk} {H:Hp} {w:World}
theorem Xl {α:Type}{n i:Nat}{x d:α}(h:(List.replicate n x)[i]?=some d):i<n/\x=d:=by
 rw[List.getElem?_replicate]at h;split at h
 ·rename_i hi;exact⟨hi,Fs h⟩
 ·cases h
theorem oO {tt:Nat->Option Ay}{g:Operand->D}{ev:Operand->Value}{n k:Nat}{d:D}{e':Aw}{p:Prop}(htt:Co C.P tt)(m:Ao C F ρ H w)(fr:∀k,ρ k n=none)(hlt:∀e∈H,e.g≠n)
  (hg:∀x,AV ρ (AN F.X ρ H) w (g x) (ev x)) (h:Jn tt n k g o.op=some (d,e',p)) (hp:p):
  ∃v ρ' w',(execOp ev o).run C.P w=.ok (.value v) w'/\Ir C F H ρ w n d (some e') v ρ' w':=by
 unfold Jn at h;split at h<;>try(cases h;done)
 rename_i t l c ho;split at h<;>try(cases h;done)
 rename_i i hi;split at h<;>try(cases h;done)
 rename_i e esz eby ez hk;split at h<;>try(cases h;done)
 rename_i kl a hl;split at h<;>try(cases h;done)
 rename_i kc b hc;cases h;obtain⟨h0,hab,hby,hmx⟩:=hp;obtain⟨k1,⟨inf,k2,rfl,rfl,k5⟩,k6,k7⟩:=EW (htt _ _ hi) hk;have h1:=hg l;have h2:=hg c;rw[hl]at h1;rw[hc]at h2;generalize hvl:ev l=vl at h1;generalize hvc:ev c=vc at h2;cases h1;cases h2;have run:=run_make (P:=C.P) w t e inf ez k1 k2 k5 kl kc a b h0 hab hby hmx;have hcell:∀q,q<b.toNat*inf.size->(madeCells ez.cells (b.toNat*inf.size)).getD q undef=ez.cells.getD (q%inf.size) undef/\q%inf.size<ez.cells.size:=λq hq=>by
  have hpos:0<inf.size:=by
   rcases Dh inf.size with h|h
   ·rw[h]at hq;simp at hq
   ·exact h
  have hm:q%ez.cells.size<ez.cells.size:=B0 _ (by omega);rw[k6]at hm;refine⟨?_,by omega⟩;unfold madeCells;simp only[Az,Array.getElem?_map];rw[Bn (by simpa using hq)];simp only[Array.getElem_range,I6,IV];rw[k6,getElem!_pos ez.cells (q%inf.size) (by omega),Bn (by omega)];rfl
 have hec:(ofV ez).cells.length=inf.size/\∀(j:Nat) (c:D),(ofV ez).cells[j]?=some c->c=.prim (ez.cells.getD j undef):=by
  cases ez
  case tuple vs=>
   have:=k7 0 (.tuple vs) rfl
   simp[Ide.one]at this
  case agg vs=>
   refine⟨by simp only[ofV,D.cells,Ac,IR];exact k6,λj c hc=>?_⟩;simp only[ofV,D.cells,A0,Iy,Option.map_eq_some_iff]at hc;obtain⟨x,hx,rfl⟩:=hc;show D.prim x=.prim (vs.getD j undef);rw[Az,hx];rfl
  all_goals
   refine⟨k6,λj c hc=>?_⟩
   match j with
   | 0=>simp only[ofV,D.cells,Rs,BL]at hc;subst hc;rfl
   |j+1=>simp[ofV,D.cells]at hc
 have hle:a.toNat<=b.toNat:=by omega
 have ho':DC ρ (AN F.X ρ H) w ⟨k,n,e,inf.size,List.replicate a.toNat (ofV ez)⟩ (madeCells ez.cells (b.toNat*inf.size)):=by
  refine⟨by simp only[Hl,size_madeCells];exact CG _ hle,λq d hd=>?_,λq v hv=>?_,λq d j c hd hcj=>?_⟩
  ·obtain⟨_,rfl⟩:=Xl hd
   exact hec.1
  ·have hq:q<b.toNat*inf.size:=by have:=(Array.getElem?_eq_some_iff.1 hv).1;rw[size_madeCells]at this;exact this
   obtain⟨c1,c2⟩:=hcell q hq;rw[Az,hv,IV,Az,Bn c2,IV]at c1;rw[c1];exact k7 _ _ (Bn c2)
  ·obtain⟨hq,rfl⟩:=Xl hd
   have hj:j<inf.size:=by rw[<-hec.1];exact(List.getElem?_eq_some_iff.1 hcj).1
   rw[hec.2 j c hcj];dsimp only;have hlt2:q*inf.size+j<b.toNat*inf.size:=by
    have:(q+1)*inf.size<=b.toNat*inf.size:=CG _ (by omega)
    rw[Bs]at this;omega
   rw[(hcell _ hlt2).1,BQ,Nat.mul_add_mod,Dd hj];exact .prim _
 obtain⟨m1,x1⟩:=m.alloc ⟨k,n,e,inf.size,List.replicate a.toNat (ofV ez)⟩ _ (fr k) (λe' he' h=>hlt e' he' h.2) ho';refine⟨.slice (some ⟨w.heap.size,0,none⟩) a.toNat b.toNat,ρ.put k n w.heap.size,_,?_,m1,x1,λk' g' hg=>by unfold Lk.put;rw[AF λh=>hg h.2],?_⟩
 ·unfold execOp
  simp only[ho,hvl,hvc];rw[run_bind,run];rfl
 ·exact O9 (b:=w.heap.size) (T:=e) (fz:=(0,0)) (EE _ _ _ _) (by rw[EA];exact AG rfl) hle (by rw[size_madeCells]) (by simp only[maxLen];omega)
theorem mn {tt:Nat->Option Ay}{n k:Nat}{g:Operand->D}{op:Op}{d:D}{e:Aw}{p:Prop}(h:Jn tt n k g op=some (d,e,p)):e.g=n:=by
 unfold Jn at h
 (repeat' split at h)<;>first|(cases h;done)|(cases h;rfl)
theorem fF {tt:Nat->Option Ay}(k:Nat)(htt:Co C.P tt){d:D}{e':Aw}{p:Prop}(hw:CC ops s.env o=some true)(he:Jn tt s.n k (BG s.env) o.op=some (d,e',p))(hp:p)
  (h:BH C F ops os ⟨Ba s.env o.dst d,e'::s.H,s.n+1⟩ K):BH C F ops (o::os) s K:=
 BH.step hw (λρ a w hs=>by
  obtain⟨v,ρ',w',h1,h2⟩:=oO htt hs.mem (λk=>hs.fresh k _ (Ai _)) (λe he=>Nat.ne_of_lt (hs.gen e he)) (DF hs.env) he hp;refine⟨v,ρ',w',.inl h1,⟨h2.mem,h2.ext,λk g hg=>by rw[h2.far k g (by omega)];exact hs.fresh k g (by omega),h2.rep⟩,λe he2=>?_⟩;rcases BF.1 he2 with rfl|he2
  ·have:=mn he;omega
  ·exact DE (hs.gen e he2)) h
theorem BH.l' {tt:Nat->Option Ay}(k:Nat)(htt:Co C.P tt){d:D}{ne:Option Aw}{p:Prop}(hw:CC ops s.env o=some true)(he:EF tt s.H s.n k (BG s.env) o.op=some (d,ne,p))(hp:p)
  (h:BH C F ops os ⟨Ba s.env o.dst d,Cx ne s.H,s.n+1⟩ K):BH C F ops (o::os) s K:=
 BH.step hw (λρ a w hs=>by
  obtain⟨v,ρ',w',h1,h2⟩:=Zw (λ_ h=>h) htt hs.mem (λk=>hs.fresh k _ (Ai _)) (λe he=>Nat.ne_of_lt (hs.gen e he)) (DF hs.env) he hp;refine⟨v,ρ',w',.inl h1,⟨h2.mem,h2.ext,λk g hg=>by rw[h2.far k g (by omega)];exact hs.fresh k g (by omega),h2.rep⟩,λe he'=>?_⟩;cases ne with
  |none=>exact DE (hs.gen e he')
  |some e'=>
   rcases BF.1 he' with rfl|he'
   ·have:=YL he
    omega
   ·exact DE (hs.gen e he')) h
theorem BH.q {tt:Nat->Option Ay}{xt:Nat->Option XI}(htt:Co C.P tt)(hxt:Ll C.P xt){d:D}{p:Prop}(hw:CC ops s.env o=some true)(he:Fv tt xt (BG s.env) o.op=some (d,p))(hp:p)
  (h:BH C F ops os ⟨Ba s.env o.dst d,s.H,s.n+1⟩ K):BH C F ops (o::os) s K:=
 BH.step hw (λρ a w hs=>by
  obtain⟨v,h1,h2⟩:=Zy htt hxt (DF hs.env) he hp;exact⟨v,ρ,w,.inl h1,.pure hs h2,λe he=>DE (hs.gen e he)⟩) h
theorem WD {f t:Nat}{name:String}{d0:D}{r:Operand}{args:Array Operand}{tys:Array Nat}{a:Act}(ho:o.op=.call ⟨.invoke r name,args,tys⟩)(hr:BG s.env r=.ifc t d0)
  (hm:∀v w,(method (C.P.types.size+Made.depth) t v name).run C.P w=.ok (f,v) w) (hcall:JC C.P f) (hs:Bk C F ρ s a w):
  ∃vs,(execOp a.eval o).run C.P w=.ok (.enter f vs) w/\vs.size=(d0::args.toList.map (BG s.env)).length /\
   ∀(i:Nat) (d:D),(d0::args.toList.map (BG s.env))[i]?=some d->AV ρ (AN F.X ρ s.H) w d (vs.getD i undef):=by
 have hrr:=DF hs.env r;rw[hr]at hrr;generalize hv:a.eval r=v at hrr;cases hrr with
 |ifc h0=>
  rename_i v0;refine⟨#[v0]++args.map a.eval,?_,by simp;omega,λi d hd=>?_⟩
  ·unfold execOp
   simp only[ho];rw[run_bind]
   have:(resolve a.eval ⟨.invoke r name,args,tys⟩ o.type).run C.P w=.ok { target:=.fn (.method name) #[],args:=#[.iface t v0]++args.map a.eval } w:=by
    unfold resolve;simp only[hv];rfl
   rw[this];dsimp only;unfold invoke;have g0:(#[Value.iface t v0]++args.map a.eval)[0]?=some (.iface t v0):=by rw[GR (by simp)];rfl
   have g1:(#[Value.iface t v0]++args.map a.eval).extract 1 (#[Value.iface t v0]++args.map a.eval).size=args.map a.eval:=by
    apply Array.ext_getElem?;intro q;rw[Array.getElem?_extract];simp only[I4,Jf,Bp,HE,Array.size_map];rw[GQ (by simp)];simp only[Jf,Bp,HE];split
    ·congr 1;omega
    ·rw[PC (by simp;omega)]
   simp only[g0,g1];unfold callMethod;simp only[];rw[run_bind,Ph];dsimp only;rw[run_bind,hm];dsimp only;exact SH hcall _ w
  ·cases i with
   |zero=>
    simp at hd;subst hd
    have:(#[v0]++args.map a.eval).getD 0 undef=v0:=by rw[Az,GR (by simp)];rfl
    rw[this];exact h0
   |succ i=>
    simp only[Jg,A0,Iy,Option.map_eq_some_iff]at hd;obtain⟨x,hx,rfl⟩:=hd
    have:(#[v0]++args.map a.eval).getD (i+1) undef=a.eval x:=by
     simp only[Az];rw[GQ (by simp)];simp[hx]
    rw[this];exact DF hs.env x
theorem yI {f t:Nat}{name:String}{d0:D}{ds:List D}{r:Operand}{args:Array Operand}{tys:Array Nat}{Φ:D->Hp->Nat->Prop}(hw:CC ops s.env o=some true)(ho:o.op=.call ⟨.invoke r name,args,tys⟩)(hr:BG s.env r=.ifc t d0)
  (hm:∀v w,(method (C.P.types.size+Made.depth) t v name).run C.P w=.ok (f,v) w) (hds:d0::args.toList.map (BG s.env)=ds) (hc:Ca C f ds s.H s.n Φ)
  (h:∀d H' n',Φ d H' n'->BH C F ops os ⟨Ba s.env o.dst d,H',n'⟩ K):BH C F ops (o::os) s K:=by
 intro hd l hl ρ a w hs;cases l with
 |nil=>simp at hl
 |cons i l=>
  simp only[Ct,Et]at hl;simp only[FX,BP]at hd;obtain⟨vs,h1,h2,h3⟩:=WD ho hr hm hc.1 hs;rw[hds]at h2 h3;simp only[wpOps,hl.1];rw[AG (LG hs.env hw)];refine .inl ?_;unfold Oper.wp;rw[h1];refine(hc.2 F ρ w vs hs.mem hs.fresh hs.gen h2 h3).mono ?_;rintro e w' ⟨v,d,H',n',ρ',rfl,hΦ,m,x,fr,g,r⟩;exact h d H' n' hΦ hd.2 l hl.2 ρ' (a.put o.dst v) w' (hs.put m x fr g r hd.1)
structure oc (es:Array MapEntry)(clock:Nat)(ks vs:List D):Prop where
 hB:JI es clock
 h1:es.size=ks.length
 h2:es.size=vs.length
 hk:∀(i:Nat) (d:D),ks[i]?=some d->∀ρ O w,AV ρ O w d (es.getD i default).key
 hv:∀(i:Nat) (d:D),vs[i]?=some d->∀ρ O w,AV ρ O w d (es.getD i default).val
theorem JI.push {es:Array MapEntry}{clock:Nat}(h:JI es clock)(k v:Value):JI (es.push { key:=k,val:=v,born:=clock }) (clock+1):=by
 refine⟨λi e he=>?_,λi j e e' he he' hb=>?_⟩
 ·rw[PJ]at he
  split at he
  ·cases he;exact HK _
  ·exact DE (h.1 i e he)
 ·rw[PJ]at he he'
  split at he<;>split at he'
  ·omega
  ·cases he
   have:=h.1 j e' he'
   simp only at hb;omega
  ·cases he'
   have:=h.1 i e he
   simp only at hb;omega
  ·exact h.2 i j e e' he he' hb
def Vd (C:BC)(F:Ab)(ops:Array Oper)(os:List Oper)(m:Nat)(ks vs:List D)(s:St)(K:St->Prop):Prop:=
 os.all (De F.nt)=true->∀(l:List Nat),l.map (ops[·]?)=os.map some->∀ρ a w es clock,Bk C F ρ s a w->a.tmps.getD m undef=.map (some w.heap.size)->m<a.tmps.size->oc es clock ks vs ->
  wpOps C.P ops (Kv C F K) l a (w.alloc (.map es clock))
theorem Vd.done {m:Nat}{ks vs:List D}(h:BH C F ops os ⟨Ba s.env (some m) (.mp ks vs),s.H,s.n⟩ K):Vd C F ops os m ks vs s K:=by
 intro hds l hl ρ a w es clock hs hm hlt hr;have hO:¬AN F.X ρ s.H w.heap.size:=λh'=>Ah (hs.mem.own_lt h') (Nat.lt_irrefl _)
 have x:=BT.allocPure (ρ:=ρ) (F:=F) (H:=s.H) (w:=w) (.map es clock);refine h hds l hl ρ a _ ⟨hs.mem.allocPure _,hs.fresh,hs.gen,λt=>?_,hs.nt,hs.dfr⟩;show AV _ _ _ (Ar.get ((m,.mp ks vs)::s.env) t) _;rw[IM]
 by_cases ht:m=t
 ·subst ht
  rw[AG rfl,hm];exact .mp hO (by simp) (by rw[EA,AG rfl]) hr.h1 hr.h2 hr.hB (λi d hd=>hr.hk i d hd _ _ _) (λi d hd=>hr.hv i d hd _ _ _)
 ·rw[AF ht];exact(hs.env t).mono x
def KH (C:BC)(f:Nat)(ds:List D)(d:D):Prop:=∀(ρ:Lk) (O:Nat->Prop) (w:World) (vs:Array Value),vs.size=ds.length->(∀(i:Nat) (x:D),ds[i]?=some x->AV ρ O w x (vs.getD i undef)) ->
 ∃v,(callFunc f vs).run C.P w=.ok (.value v) w/\AV ρ O w d v
theorem V4 {f:Nat}{g:Operand->D}{O:Nat->Prop}{first captured:List D}{fop:Operand}{args:Array Operand}{tys:Array Nat}{ρ:Lk}{a:Act}{w:World}(ho:o.op=.call ⟨.value fop,args,tys⟩)
  (hf:g fop=.clo (.func f) first captured) (hg:∀x,AV ρ O w (g x) (a.eval x)):
  ∃vs,(execOp a.eval o).run C.P w=(callFunc f vs).run C.P w/\vs.size=(first++args.toList.map g++captured).length /\
   ∀(i:Nat) (d:D),(first++args.toList.map g++captured)[i]?=some d->AV ρ O w d (vs.getD i undef):=by
 have hfr:=hg fop;rw[hf]at hfr;generalize hv:a.eval fop=v at hfr;cases hfr with
 |clo hn hc h1 h2=>
  rename_i fs cs;refine⟨fs++args.map a.eval++cs,?_,by simp[hn,hc],λi d hd=>?_⟩
  ·unfold execOp
   simp only[ho];rw[run_bind]
   have:(resolve a.eval ⟨.value fop,args,tys⟩ o.type).run C.P w=.ok { target:=.fn (.func f) cs,args:=fs++args.map a.eval } w:=by
    unfold resolve;simp only[hv];rfl
   rw[this];dsimp only;unfold invoke;rfl
  ·rw[Di]at hd
   rcases BA i first.length with hi|hi
   ·rw[FY hi]at hd
    have:(fs++args.map a.eval++cs).getD i undef=fs.getD i undef:=by
     simp only[Az];rw[Ly,GR (by omega)]
    rw[this];exact h1 i d hd
   ·rw[Ed hi]at hd
    rcases BA (i-first.length) args.size with hj|hj
    ·rw[FY (by simpa using hj)]at hd
     simp at hd;obtain⟨x,hx,rfl⟩:=hd
     have:(fs++args.map a.eval++cs).getD i undef=a.eval x:=by
      simp only[Az];rw[Ly,GQ (by omega),GR (by simp;omega),hn];simp[hx]
     rw[this];exact hg x
    ·rw[Ed (by simpa using hj)]at hd
     have:(fs++args.map a.eval++cs).getD i undef=cs.getD (i-first.length-args.size) undef:=by
      simp only[Az];rw[Ly,GQ (by omega),GQ (by simp;omega),hn];simp
     rw[this];exact h2 _ d (by simpa using hd)
theorem BH.nat {f:Nat}{first captured ds:List D}{fop:Operand}{args:Array Operand}{tys:Array Nat}{d:D}(hw:CC ops s.env o=some true)(ho:o.op=.call ⟨.value fop,args,tys⟩)
  (hf:BG s.env fop=.clo (.func f) first captured) (hds:first++args.toList.map (BG s.env)++captured=ds) (hc:KH C f ds d)
  (h:BH C F ops os ⟨Ba s.env o.dst d,s.H,s.n+1⟩ K):BH C F ops (o::os) s K:=
 BH.step hw (λρ a w hs=>by
  obtain⟨vs,h1,h2,h3⟩:=V4 (C:=C) (a:=a) ho hf (DF hs.env);rw[hds]at h2 h3;obtain⟨v,h4,h5⟩:=hc _ _ _ vs h2 h3;exact⟨v,ρ,w,.inl (h1.trans h4),.pure hs h5,λe he=>DE (hs.gen e he)⟩) h
theorem CI.nat {H:Hp}{g f:Nat}{env:Ar}{first captured ds:List D}{fop:Operand}{args:Array Operand}{tys:Array Nat}{d:D}(hw:CC ops env o=some true)(ho:o.op=.call ⟨.value fop,args,tys⟩)
  (hf:BG env fop=.clo (.func f) first captured) (hds:first++args.toList.map (BG env)++captured=ds) (hc:KH C f ds d):CI C F ops H g env o d none:=by
 refine⟨by simp,λHe ρ a w m hsub fr hne hr=>.inr ⟨Hv hr hw,.inl ?_⟩⟩;obtain⟨g',h1,h2⟩:=Ih hr;have hfop:fop∈o.op.operands:=by rw[ho];simp[Op.operands,Call.operands]
 have harg:∀x∈args.toList,BG env x=g' x:=λx hx=>h1 x (by rw[ho];simp[Op.operands,Call.operands];right;simpa using hx)
 rw[h1 fop hfop]at hf;rw[L8 harg]at hds;obtain⟨vs,q1,q2,q3⟩:=V4 (C:=C) (g:=g') ho hf h2;rw[hds]at q2 q3;obtain⟨v,h4,h5⟩:=hc _ _ _ vs q2 q3;exact⟨v,ρ,w,q1.trans h4,m,.refl _ _ _,λ_ _ _=>rfl,h5⟩
end
def dX (op:BinOp)(k k':IntKind)(b:Int):Bool:=match op with
 | .quo | .rem=>decide (k=k') && !(decide (b=0))
 | .shl | .shr=>decide (0<=b)
 |_=>decide (k=k')
def R5 (op:BinOp)(x y:Value):Bool:=match x,y with
 | .int k _,.int k' b=>dX op k k' b
 | .string a,.string b=>match op with
  | .add=>Nat.ble (a.size+b.size) 9223372036854775807
  |_=>true
 |_,_=>true
theorem b6 {op:BinOp}{x y v:Value}{p:Prop}(h:M3 op x y=some (v,p))(hk:R5 op x y=true):p:=by
 unfold M3 at h;unfold R5 at hk;split at h
 ·dsimp only at hk
  unfold dX at hk;cases op<;>simp only[BL,Bf]at h<;>obtain⟨_,rfl⟩:=h<;>simpa using hk
 ·cases op<;>simp only[BL,Bf,reduceCtorEq]at h<;>obtain⟨_,rfl⟩:=h<;>first|trivial|(dsimp only at hk;exact Bg hk)
 ·cases h
def VW (ti:TI)(x y:D):Bool:=match ti,x,y with
 | .slice ..,.sl false _ es,.prim (.slice none _ _)=>!es.isEmpty
 |_,_,_=>true
theorem th {ti:TI}{x y:D}{b:Bool}{p:Prop}(h:L1 ti x y=some (b,p))(hk:VW ti x y=true):p:=by
 unfold L1 at h;split at h<;>try(cases h;done)
 all_goals(simp only[BL,Bf]at h;obtain⟨_,rfl⟩:=h)
 all_goals first
  |trivial
  |(simp only[VW]at hk;intro he;subst he;simp at hk)
def U2 (tt:Nat->Option Ay)(op:BinOp)(t:Nat)(x y:D):Bool:=match x,y with
 | .prim (.int k a),.prim (.int k' b)=>R5 op (.int k a) (.int k' b)
 | .prim (.string a),.prim (.string b)=>R5 op (.string a) (.string b)
 |x,y=>match tt t with
  |some i=>VW i.ti x y
  |none=>true
theorem mb {tt:Nat->Option Ay}{op:BinOp}{t:Nat}{x y d:D}{p:Prop}(h:Oy tt op t x y=some (d,p))(hk:U2 tt op t x y=true):p:=by
 unfold Oy at h;unfold U2 at hk;split at h
 ·dsimp only at hk
  split at h<;>try(cases h;done)
  rename_i hb;cases h;exact b6 hb hk
 ·dsimp only at hk
  split at h<;>try(cases h;done)
  rename_i hb;cases h;exact b6 hb hk
 ·rename_i h1 h2
  split at hk
  ·exact Ah rfl (h1 _ _ _ _ rfl)
  ·exact Ah rfl (h2 _ _ rfl)
  ·split at h<;>try(cases h;done)
   rename_i i hi;split at h<;>try(cases h;done)
   rename_i b q hb;split at h<;>try(cases h;done)
   cases h;rw[hi]at hk;exact th hb hk
def My (ag:Bool)(sz:Nat)(d:D):Bool:=match ag with
 |true=>match d with
  | .agg ds=>Nat.beq ds.length sz
  |_=>false
 |false=>Nat.beq sz 1&&d.one
theorem Nx {ag:Bool}{sz:Nat}{d:D}(h:My ag sz d=true):Bq ag sz d:=by
 unfold My at h;split at h
 ·split at h
  ·rw[<-B4 h];exact Bq.agg
  ·cases h
 ·simp only[BP]at h
  rw[B4 h.1];exact CU h.2
def RC (fs:List (Nat×Nat×Bool))(g:Operand->D):List (Nat×Operand)->List D->Bool
 | [],_=>true
 |(i,x)::r,cs=>match fs[i]? with
  |some (o,sz,ag)=>My ag sz (g x)&&Nat.ble (o+sz) cs.length&&RC fs g r (Er cs o (Eh ag (g x)))
  |none=>true
theorem XM {fs:List (Nat×Nat×Bool)}{g:Operand->D}:∀ {ps:List (Nat×Operand)} {cs cs':List D} {p:Prop},G3 fs g ps cs=some (cs',p)->RC fs g ps cs=true->p
 | [],cs,cs',p,h,_=>by simp only[G3,BL,Bf]at h;obtain⟨_,rfl⟩:=h;trivial
 |(i,x)::r,cs,cs',p,h,hk=>by
  simp only[G3]at h;simp only[RC]at hk;cases hf:fs[i]? with
  |none=>simp[hf]at h
  |some q=>
   obtain⟨o,sz,ag⟩:=q;simp only[hf]at h hk;cases hr:G3 fs g r (Er cs o (Eh ag (g x)))with
   |none=>simp[hr]at h
   |some q=>
    obtain⟨c2,p2⟩:=q;simp only[hr,BL,Bf]at h;obtain⟨_,rfl⟩:=h;simp only[BP]at hk;exact⟨⟨Nx hk.1.1,Bg hk.1.2⟩,XM hr hk.2⟩
def O0 (n:Nat):D->Bool
 | .prim (.int _ x)=>decide (0<=x)&&decide (x<=n)
 |_=>true
theorem QY {n m:Nat}{d:D}{p:Prop}(h:KS n d=some (m,p))(hk:O0 n d=true):p:=by
 unfold KS at h;split at h
 ·simp only[BL,Bf]at h;obtain⟨_,rfl⟩:=h
  simpa[O0]using hk
 ·cases h
def Ol (n:Nat)(lo hi:Option D):Bool:=match hi with
 |none=>match lo with
  |none=>true
  |some l=>O0 n l
 |some h=>O0 n h&&(match KS n h with
  |some (m,_)=>match lo with
   |none=>true
   |some l=>O0 m l
  |none=>true)
theorem S8 {n a b:Nat}{lo hi:Option D}{p:Prop}(h:H8 n lo hi=some (a,b,p))(hk:Ol n lo hi=true):p:=by
 unfold H8 at h;unfold Ol at hk;cases hi with
 |none=>
  cases lo with
  |none=>simp only[BL,Bf]at h;obtain⟨_,_,rfl⟩:=h;trivial
  |some l=>
   dsimp only at h hk;split at h<;>try(cases h;done)
   rename_i hb;cases h;exact QY hb hk
 |some hh=>
  dsimp only at h hk;simp only[BP]at hk;split at h<;>try(cases h;done)
  rename_i m q hb;rw[hb]at hk;cases lo with
  |none=>cases h;exact QY hb hk.1
  |some l=>
   dsimp only at h hk;split at h<;>try(cases h;done)
   rename_i hb2;cases h;exact⟨QY hb hk.1,QY hb2 hk.2⟩
def TY (tt:Nat->Option Ay)(t:Nat)(x:D)(lo hi:Option D):Bool:=match tt t with
 |some i=>match i.ti,x with
  | .string,.prim (.string s)=>Ol s.size lo hi
  | .slice _ esz _ _,.sl _ sz es=>Ol es.length lo hi&&Nat.beq esz sz
  | .slice _ esz _ _,.osl _ _ sz _ len=>Ol len lo hi&&Nat.beq esz sz&&(match H8 len lo hi with
   |some (l,h,_)=>Nat.blt l h||Nat.beq l 0
   |none=>true)
  |_,_=>true
 |none=>true
theorem iD {tt:Nat->Option Ay}{t:Nat}{x d:D}{lo hi:Option D}{p:Prop}(h:OU tt t x lo hi=some (d,p))(hk:TY tt t x lo hi=true):p:=by
 unfold OU at h;unfold TY at hk;cases hi':tt t with
 |none=>simp[hi']at h
 |some i=>
  simp only[hi']at h hk;split at h<;>try(cases h;done)
  ·rename_i hti
   simp only[hti]at hk;split at h<;>try(cases h;done)
   rename_i hb;cases h;exact S8 hb hk
  ·rename_i hti
   simp only[hti,BP]at hk;split at h<;>try(cases h;done)
   rename_i hb;cases h;exact⟨S8 hb hk.1,B4 hk.2⟩
  ·rename_i hti
   simp only[hti,BP]at hk;split at h<;>try(cases h;done)
   rename_i l hh q hb;cases h;simp only[hb]at hk;refine⟨S8 hb hk.1.1,B4 hk.1.2,?_⟩
   have:=hk.2
   simp only[Jl]at this;exact this.imp Nat.blt_eq.mp B4
theorem Wu {k:IntKind}:∀ {r:List D} {a:Int} {d:D} {p:Prop},KL k a r=some (d,p)->p
 | [],a,d,p,h=>by simp only[KL,BL,Bf]at h;obtain⟨_,rfl⟩:=h;trivial
 |x::r,a,d,p,h=>by
  unfold KL at h;split at h
  ·rename_i h1;cases h1
  ·rename_i h1;cases h1;exact Wu h
  ·cases h
theorem Wt {k:IntKind}:∀ {r:List D} {a:Int} {d:D} {p:Prop},KK k a r=some (d,p)->p
 | [],a,d,p,h=>by simp only[KK,BL,Bf]at h;obtain⟨_,rfl⟩:=h;trivial
 |x::r,a,d,p,h=>by
  unfold KK at h;split at h
  ·rename_i h1;cases h1
  ·rename_i h1;cases h1;exact Wt h
  ·cases h
theorem iC {tt:Nat->Option Ay}{b:Builtin}{tys:List Nat}{args:List D}{d:D}{p:Prop}(h:Nv tt b tys args=some (d,p)):p:=by
 unfold Nv at h
 (repeat' split at h)<;>first|(cases h;done)|(cases h;trivial)|exact Wu h|exact Wt h
def L4 (tt:Nat->Option Ay)(g:Operand->D):Op->Bool
 | .pick c a b=>match g c with
  | .prim (.bool true)=>(G9 (g a)).2
  | .prim (.bool false)=>(G9 (g b)).2
  |_=>true
 | .build t ps=>match tt t with
  |some i=>match Qa i.ti with
   |some fs=>RC fs g ps.toList (i.zero.cells.toList.map .prim)
   |none=>true
  |none=>true
 | .binOp op t x y _=>U2 tt op t (g x) (g y)
 | .slice t x lo hi none=>TY tt t (g x) (lo.map g) (hi.map g)
 | .indexAddr t x ix=>match tt t with
  |some i=>match i.ti,g ix with
   | .arr n _ _,.prim (.int _ j)=>decide (0<=j)&&decide (j<n)
   | .slice _ esz _ _,.prim (.int _ j)=>match g x with
    | .osl _ _ sz _ len=>decide (0<=j)&&decide (j<len)&&Nat.beq esz sz
    |_=>true
   |_,_=>true
  |none=>true
 | .index t x ix=>match tt t with
  |some i=>match i.ti,g x,g ix with
   | .string,.prim (.string s),.prim (.int _ j)=>decide (0<=j)&&decide (j<s.size)
   |_,_,_=>true
  |none=>true
 |_=>true
theorem bY {tt:Nat->Option Ay}{g:Operand->D}{op:Op}{d:D}{p:Prop}(h:GU tt g op=some (d,p))(hk:L4 tt g op=true):p:=by
 unfold GU at h;split at h<;>try(cases h;done)
 ·cases h;trivial
 ·cases h;trivial
 ·rename_i c a b
  simp only[L4]at hk;split at h<;>try(cases h;done)
  rename_i t hc;rw[hc]at hk;cases h;cases t
  ·exact⟨λh=>(by cases h),λ_=>hk⟩
  ·exact⟨λ_=>hk,λh=>(by cases h)⟩
 ·rename_i t ps
  simp only[L4]at hk;unfold OQ at h;split at h<;>try(cases h;done)
  rename_i i hi;simp only[hi]at hk;split at h<;>try(cases h;done)
  rename_i fs hf;simp only[hf]at hk;split at h<;>try(cases h;done)
  rename_i hfl;cases h;exact XM hfl hk
 ·split at h<;>first|(cases h;done)|(cases h;trivial)
 ·exact mb h hk
 ·split at h<;>first|(cases h;done)|(cases h;trivial)
 ·split at h<;>try(cases h;done)
  split at h<;>first|(cases h;done)|(cases h;trivial)
 ·cases h;trivial
 ·exact iD h hk
 ·(repeat' split at h)<;>first|(cases h;done)|(cases h;trivial)
 ·(repeat' split at h)<;>first|(cases h;done)|(cases h;trivial)
 ·rename_i t x ix
  simp only[L4]at hk;split at h<;>try(cases h;done)
  rename_i i hi;simp only[hi]at hk;split at h<;>try(cases h;done)
  ·rename_i h1 h2
   simp only[h1,h2]at hk;split at h<;>try(cases h;done)
   cases h;simpa using hk
  ·rename_i h1 h2
   simp only[h1,h2]at hk;split at h<;>try(cases h;done)
   rename_i h3;cases h;simp only[h3,BP,GP]at hk;exact⟨hk.1.1,hk.1.2,B4 hk.2⟩
 ·rename_i t x ix
  simp only[L4]at hk;split at h<;>try(cases h;done)
  rename_i i hi;simp only[hi]at hk;split at h<;>try(cases h;done)
  rename_i h1 h2 h3;simp only[h1,h2,h3]at hk;cases h;simpa using hk
 ·(repeat' split at h)<;>first|(cases h;done)|(cases h;trivial)
 ·exact iC h
def M0 (ag:Bool)(sz:Nat):List D->Bool
 | []=>true
 |d::l=>My ag sz d&&M0 ag sz l
theorem X3 {ag:Bool}{sz:Nat}:∀ {l:List D},M0 ag sz l=true->Qm ag sz l
 | [],_=>trivial
 | [d],h=>by simp only[M0,BP]at h;exact Nx h.1
 |d::d'::l,h=>by simp only[M0,BP]at h;exact⟨Nx h.1,X3 (by simp only[M0,BP];exact h.2)⟩
def Jr (tt:Nat->Option Ay)(H:Hp)(g:Operand->D):Op->Bool
 | .load t x=>match tt t with
  |some i=>match g x with
   | .optr k gg sz j off=>match Hp.get H k with
    |some e=>match e.es[j]? with
     |some d=>Nat.beq gg e.g&&Nat.beq sz e.sz&&(bif i.ag then Nat.ble (off+i.sz) d.cells.length else true)
     |none=>true
    |none=>true
   | .pptr d=>match i.ag with
    |true=>match d with
     | .agg ds=>Nat.beq ds.length i.sz
     |_=>true
    |false=>JM d
   |_=>true
  |none=>true
 | .box t x=>match tt t with
  |some i=>My i.ag i.sz (g x)
  |none=>true
 | .buildSlice t len ps=>match tt t with
  |some i=>match i.ti with
   | .slice e esz _ _=>match len with
    | 0=>true
    |len+1=>match tt e with
     |some ie=>match Ij g 0 ps.toList with
      |some es=>M0 ie.ag esz es&&Nat.beq es.length (len+1)&&Nat.ble ((len+1)*esz) 16777216&&Nat.ble 1 esz
      |none=>true
     |none=>true
   |_=>true
  |none=>true
 |_=>true
theorem UT {tt:Nat->Option Ay}{H:Hp}{n k:Nat}{g:Operand->D}{op:Op}{d:D}{ne:Option Aw}{p:Prop}(h:EF tt H n k g op=some (d,ne,p))(hk:Jr tt H g op=true):p:=by
 unfold EF at h;split at h<;>try(cases h;done)
 ·simp only[Jr]at hk
  split at h<;>try(cases h;done)
  rename_i i hi;simp only[hi]at hk;split at h<;>try(cases h;done)
  ·rename_i h1
   simp only[h1]at hk;split at h<;>try(cases h;done)
   rename_i e he;simp only[he]at hk;split at h<;>try(cases h;done)
   rename_i d1 hd;simp only[hd]at hk;split at h<;>try(cases h;done)
   cases h;simp only[BP]at hk;exact⟨B4 hk.1.1,B4 hk.1.2,hk.2⟩
  ·rename_i h1
   simp only[h1]at hk;split at h
   ·rename_i ha
    simp only[ha]at hk;split at h<;>try(cases h;done)
    cases h;exact hk
   ·rename_i ha
    simp only[ha]at hk;cases h;exact hk
 ·split at h<;>first|(cases h;done)|(cases h;trivial)
 ·simp only[Jr]at hk
  split at h<;>try(cases h;done)
  rename_i i hi;simp only[hi]at hk;cases h;exact Nx hk
 ·simp only[Jr]at hk
  split at h<;>try(cases h;done)
  rename_i i hi;simp only[hi]at hk;split at h<;>try(cases h;done)
  rename_i h1;simp only[h1]at hk;split at h
  ·split at h<;>first|(cases h;done)|(cases h;trivial)
  ·dsimp only at hk
   split at h<;>try(cases h;done)
   rename_i h2;simp only[h2]at hk;split at h<;>try(cases h;done)
   rename_i h3;simp only[h3,BP]at hk;cases h;exact⟨X3 hk.1.1.1,B4 hk.1.1.2,hk.1.2,hk.2⟩
def R4 (tt:Nat->Option Ay)(H:Hp)(g:Operand->D):Op->Bool
 | .store t x y=>match tt t with
  |some i=>match g x with
   | .optr k gg sz _ off=>match Hp.get H k with
    |some e=>My i.ag i.sz (g y)&&Nat.beq gg e.g&&Nat.beq sz e.sz&&Nat.ble (off+i.sz) e.sz
    |none=>true
   |_=>true
  |none=>true
 |_=>true
theorem b5 {tt:Nat->Option Ay}{H:Hp}{g:Operand->D}{op:Op}{k:Nat}{e':Aw}{p:Prop}(h:Ez tt H g op=some (k,e',p))(hk:R4 tt H g op=true):p:=by
 unfold Ez at h;split at h<;>try(cases h;done)
 simp only[R4]at hk;split at h<;>try(cases h;done)
 rename_i i hi;simp only[hi]at hk;split at h<;>try(cases h;done)
 rename_i h1;simp only[h1]at hk;split at h<;>try(cases h;done)
 rename_i h2;simp only[h2,BP]at hk;split at h<;>try(cases h;done)
 cases h;exact⟨Nx hk.1.1.1,B4 hk.1.1.2,B4 hk.1.2,hk.2⟩
def U3 (H:Hp)(esz:Nat):D->Bool
 | .sl _ sz _=>Nat.beq sz esz
 | .osl k g sz i len=>match Hp.get H k with
  |some e=>Nat.beq g e.g&&Nat.beq sz e.sz&&Nat.beq sz esz&&Nat.ble (i+len) e.es.length
  |none=>true
 |_=>true
theorem X6 {H:Hp}{esz:Nat}{d:D}{es:List D}{p:Prop}(h:Hj H esz d=some (es,p))(hk:U3 H esz d=true):p:=by
 unfold Hj at h;split at h<;>try(cases h;done)
 ·cases h;exact B4 hk
 ·simp only[U3]at hk
  split at h<;>try(cases h;done)
  rename_i h1;simp only[h1,BP]at hk;cases h;exact⟨B4 hk.1.1.1,B4 hk.1.1.2,B4 hk.1.2,Bg hk.2⟩
 ·cases h;trivial
def PR (tt:Nat->Option Ay)(H:Hp)(g:Operand->D):Op->Bool
 | .call ⟨.builtin .append,args,tys⟩=>match args.toList with
  | [s,x]=>match tys.toList with
   | [t,_]=>match tt t with
    |some i=>match i.ti with
     | .slice e esz eby _=>U3 H esz (g x)&&Nat.ble 1 eby&&Nat.ble 1 esz&&(match Hj H esz (g x)with
      |some (news,_)=>match g s with
       | .osl k1 g1 sz _ len=>match Hp.get H k1 with
        |some e1=>Nat.beq g1 e1.g&&Nat.beq sz e1.sz&&Nat.beq sz esz&&Nat.beq e1.T e&&Nat.ble len e1.es.length&&Nat.ble ((len+news.length)*eby) 140737488355328
        |none=>true
       |_=>Nat.ble (news.length*eby) 140737488355328
      |none=>true)
     |_=>true
    |none=>true
   |_=>true
  |_=>true
 |_=>true
theorem US {tt:Nat->Option Ay}{H:Hp}{n k:Nat}{g:Operand->D}{op:Op}{d:D}{H':Hp}{p:Prop}(h:D8 tt H n k g op=some (d,H',p))(hk:PR tt H g op=true):p:=by
 unfold D8 at h;split at h<;>try(cases h;done)
 simp only[PR]at hk;split at h<;>try(cases h;done)
 rename_i h1;simp only[h1]at hk;split at h<;>try(cases h;done)
 rename_i h2;simp only[h2]at hk;split at h<;>try(cases h;done)
 split at h<;>try(cases h;done)
 rename_i h3;simp only[h3]at hk;split at h<;>try(cases h;done)
 rename_i h4;simp only[h4]at hk;split at h<;>try(cases h;done)
 rename_i h5;simp only[h5,BP]at hk;obtain⟨⟨⟨k1,k2⟩,k3⟩,k4⟩:=hk;split at h<;>try(cases h;done)
 ·rename_i h6
  simp only[h6]at k4;split at h<;>try(cases h;done)
  rename_i h7;simp only[h7,BP]at k4;cases h;exact⟨X6 h5 k1,B4 k4.1.1.1.1.1,B4 k4.1.1.1.1.2,B4 k4.1.1.1.2,B4 k4.1.1.2,Bg k4.1.2,Bg k4.2,
   Bg k2,Bg k3⟩
 ·rename_i h6
  simp only[h6]at k4;cases h;exact⟨X6 h5 k1,Bg k4,Bg k2,Bg k3⟩
def VX (tt:Nat->Option Ay)(g:Operand->D):Op->Bool
 | .makeSlice t l c=>match tt t with
  |some i=>match i.ti with
   | .slice _ _ eby _=>match g l with
    | .prim (.int _ a)=>match g c with
     | .prim (.int _ b)=>decide (0<=a)&&decide (a<=b)&&decide ((eby:Int)*b<=281474976710656)&&decide (b<=9223372036854775807)
     |_=>true
    |_=>true
   |_=>true
  |none=>true
 |_=>true
theorem tj {tt:Nat->Option Ay}{n k:Nat}{g:Operand->D}{op:Op}{d:D}{e:Aw}{p:Prop}(h:Jn tt n k g op=some (d,e,p))(hk:VX tt g op=true):p:=by
 unfold Jn at h;split at h<;>try(cases h;done)
 simp only[VX]at hk;split at h<;>try(cases h;done)
 rename_i h1;simp only[h1]at hk;split at h<;>try(cases h;done)
 rename_i h2;simp only[h2]at hk;split at h<;>try(cases h;done)
 rename_i h3;simp only[h3]at hk;split at h<;>try(cases h;done)
 rename_i h4;simp only[h4,BP,GP]at hk;cases h;exact⟨hk.1.1.1,hk.1.1.2,hk.1.2,hk.2⟩
def R3 (xt:Nat->Option XI)(g:Operand->D):Op->Bool
 | .binOp _ t x _ _=>match xt t with
  |some (.strs n)=>match g x with
   | .agg l=>Nat.beq l.length n
   |_=>true
  |_=>true
 |_=>true
theorem bZ {tt:Nat->Option Ay}{xt:Nat->Option XI}{g:Operand->D}{op:Op}{d:D}{p:Prop}(h:Fv tt xt g op=some (d,p))(hk:R3 xt g op=true):p:=by
 unfold Fv at h;split at h<;>try(cases h;done)
 ·(repeat' split at h)<;>first|(cases h;done)|(cases h;trivial)
 ·(repeat' split at h)<;>first|(cases h;done)|(cases h;trivial)
 ·simp only[R3]at hk
  split at h<;>try(cases h;done)
  rename_i h1;simp only[h1]at hk;split at h<;>try(cases h;done)
  rename_i h2;simp only[h2]at hk;split at h<;>try(cases h;done)
  split at h<;>try(cases h;done)
  split at h<;>try(cases h;done)
  cases h;exact hk
def Gs {α:Type}(n:Nat)(k:Nat->α):α:=match n with
 | 0=>k 0
 |m+1=>k (m+1)
def fV {α:Type}(z:Int)(k:Int->α):α:=match z with
 | .ofNat n=>match n with
  | 0=>k (.ofNat 0)
  |m+1=>k (.ofNat (m+1))
 | .negSucc n=>match n with
  | 0=>k (.negSucc 0)
  |m+1=>k (.negSucc (m+1))
def Rz {α:Type}:List UInt8->(List UInt8->α)->α
 | [],k=>k []
 |b::l,k=>Gs b.toNat λn=>Rz l λl'=>k (UInt8.ofNat n::l')
def VS {α:Type}(v:Value)(k:D->α):α:=match v with
 | .int kd z=>fV z λz'=>k (.prim (.int kd z'))
 | .bool b=>match b with
  |true=>k (.prim (.bool true))
  |false=>k (.prim (.bool false))
 | .string s=>Rz s.data.toList λl=>k (.prim (.string ⟨l.toArray⟩))
 |v=>k (.prim v)
def Ks {α:Type}(d:D)(k:D->α):α:=match d with
 | .prim v=>VS v k
 | .osl a g sz i len=>Gs a λa=>Gs g λg=>Gs i λi=>Gs len λlen=>k (.osl a g sz i len)
 | .optr a g sz i off=>Gs a λa=>Gs g λg=>Gs i λi=>Gs off λoff=>k (.optr a g sz i off)
 |d=>k d
def NT {α:Type}:List D->(List D->α)->α
 | [],k=>k []
 |d::l,k=>Ks d λd'=>NT l λl'=>k (d'::l')
def NS {α:Type}(d:D)(k:D->α):α:=match d with
 | .agg l=>NT l λl'=>k (.agg l')
 | .tup l=>NT l λl'=>k (.tup l')
 | .sl nn sz es=>NT es λes'=>k (.sl nn sz es')
 |d=>Ks d k
theorem LT {α:Type}(n:Nat)(k:Nat->α):Gs n k=k n:=by cases n<;>rfl
theorem tJ {α:Type}(z:Int)(k:Int->α):fV z k=k z:=by
 cases z with
 |ofNat n=>cases n<;>rfl
 |negSucc n=>cases n<;>rfl
theorem aQ {α:Type}:∀(l:List UInt8) (k:List UInt8->α),Rz l k=k l
 | [],_=>rfl
 |b::l,k=>by simp only[Rz,LT,aQ l];congr 2;exact UInt8.ofNat_toNat
theorem tI {α:Type}(v:Value)(k:D->α):VS v k=k (.prim v):=by
 unfold VS;split
 ·exact tJ _ _
 ·rename_i b;cases b<;>rfl
 ·rw[aQ]
 ·rfl
theorem aP {α:Type}(d:D)(k:D->α):Ks d k=k d:=by
 unfold Ks;split
 ·exact tI _ _
 ·simp only[LT]
 ·simp only[LT]
 ·rfl
theorem Qq {α:Type}:∀(l:List D) (k:List D->α),NT l k=k l
 | [],_=>rfl
 |d::l,k=>by simp only[NT,aP,Qq l]
theorem MY {α:Type}(d:D)(k:D->α):NS d k=k d:=by
 unfold NS;split
 ·exact Qq _ _
 ·exact Qq _ _
 ·exact Qq _ _
 ·exact aP _ _
def Hd (f:D->Bool):List D->Bool
 | []=>true
 |d::l=>f d&&Hd f l
def Qx (f:D->Bool):D->Bool
 | .agg l=>Hd f l
 |d=>f d
def G7:Nat->D->Bool
 | 0,_=>false
 |n+1,d=>match d with
  | .any=>true
  | .prim _=>true
  | .agg l=>Hd (G7 n) l
  | .tup l=>Hd (G7 n) l
  | .sl _ _ es=>Hd (Qx (G7 n)) es
  | .pptr e=>Qx (G7 n) e
  | .clo _ a b=>Hd (G7 n) a&&Hd (G7 n) b
  | .mp a b=>Hd (G7 n) a&&Hd (G7 n) b
  | .ifc _ d=>G7 n d
  |_=>false
theorem Ii {f:D->Bool}:∀ {l:List D},Hd f l=true->∀d∈l,f d=true
 | [],_,_,h=>by simp at h
 |x::l,h,d,hd=>by
  simp only[Hd,BP]at h;rcases BF.1 hd with rfl|hd
  ·exact h.1
  ·exact Ii h.2 d hd
theorem Wm {f:D->Bool}{d:D}(h:Qx f d=true):∀c∈d.cells,f c=true:=by
 unfold Qx at h;split at h
 ·exact Ii h
 ·rename_i hne
  intro c hc;cases d<;>simp only[D.cells,List.mem_singleton]at hc<;>first|(subst hc;exact h)|exact Ah rfl (hne _)
theorem Gz:∀ {n:Nat} {d:D},G7 n d=true->B5 d
 | 0,_,h=>by cases h
 |n+1,d,h=>by
  simp only[G7]at h;split at h
  ·exact .any
  ·exact .prim _
  ·exact .agg λd hd=>Gz (Ii h d hd)
  ·exact .tup λd hd=>Gz (Ii h d hd)
  ·exact .sl λe he c hc=>Gz (Wm (Ii h e he) c hc)
  ·exact .pptr λc hc=>Gz (Wm h c hc)
  ·simp only[BP]at h
   exact .clo (λd hd=>Gz (Ii h.1 d hd)) (λd hd=>Gz (Ii h.2 d hd))
  ·simp only[BP]at h
   exact .mp (λd hd=>Gz (Ii h.1 d hd)) (λd hd=>Gz (Ii h.2 d hd))
  ·exact .ifc (Gz h)
  ·cases h
def Je {α β:Type}(f:α->Option β):List α->Option (List β)
 | []=>some []
 |x::l=>match f x with
  |some y=>match Je f l with
   |some r=>some (y::r)
   |none=>none
  |none=>none
theorem MP {α β:Type}{f:α->Option β}:∀ {l:List α} {r:List β},Je f l=some r->l.length=r.length/\∀(i:Nat) (x:α) (y:β),l[i]?=some x->r[i]?=some y->f x=some y
 | [],r,h=>by simp only[Je,BL]at h;subst h;simp
 |x::l,r,h=>by
  simp only[Je]at h;split at h<;>try(cases h;done)
  rename_i y hy;split at h<;>try(cases h;done)
  rename_i r' hr;cases h;obtain⟨h1,h2⟩:=MP hr;refine⟨by simp[h1],λi a b ha hb=>?_⟩;cases i with
  |zero=>simp at ha hb;subst ha hb;exact hy
  |succ i=>exact h2 i a b (by simpa using ha) (by simpa using hb)
theorem QG {α β:Type}{f:α->Option β}{l:List α}{r:List β}(h:Je f l=some r):∀y∈r,∃x∈l,f x=some y:=λy hy=>by
 obtain⟨h1,h2⟩:=MP h;obtain⟨i,hi,rfl⟩:=NG hy;exact⟨l[i]'(by omega),List.getElem_mem _,h2 i _ _ (BE (by omega)) (BE hi)⟩
def UG (f:D->Option D)(d:D):Option D:=match d with
 | .agg cs=>match Je f cs with
  |some cs'=>some (.agg cs')
  |none=>none
 |d=>match f d with
  |some d'=>match JM d' with
   |true=>some d'
   |false=>none
  |none=>none
def NU:Nat->Hp->D->Option D
 | 0,_,_=>none
 |n+1,H,d=>match d with
  | .agg l=>match Je (NU n H) l with
   |some l'=>some (.agg l')
   |none=>none
  | .tup l=>match Je (NU n H) l with
   |some l'=>some (.tup l')
   |none=>none
  | .osl k g sz i len=>match Hp.get H k with
   |some e=>match Nat.beq g e.g&&Nat.beq sz e.sz&&Nat.ble (i+len) e.es.length with
    |true=>match Je (UG (NU n H)) ((e.es.drop i).take len)with
     |some es'=>some (.sl false sz es')
     |none=>none
    |false=>none
   |none=>none
  |d=>match G7 20 d with
   |true=>some d
   |false=>none
theorem Vp {d:D}(h:JM d=true):d.cells=[d]:=by cases d<;>first|rfl|cases h
theorem So {H:Hp}{f:D->Option D}(hf:∀d d',f d=some d'->Fz H [] d d'/\B5 d'){d d':D}(h:UG f d=some d'):
  d'.cells.length=d.cells.length/\(∀(q:Nat) (c c':D),d.cells[q]?=some c->d'.cells[q]?=some c'->Fz H [] c c')/\∀c∈d'.cells,B5 c:=by
 unfold UG at h;split at h
 ·rename_i cs
  split at h<;>try(cases h;done)
  rename_i cs' hm;cases h;obtain⟨h1,h2⟩:=MP hm;refine⟨h1.symm,λq c c' hc hc'=>(hf _ _ (h2 q c c' hc hc')).1,λc hc=>?_⟩;obtain⟨x,_,hx⟩:=QG hm c hc;exact(hf _ _ hx).2
 ·rename_i hne
  split at h<;>try(cases h;done)
  rename_i d1 hd;split at h<;>try(cases h;done)
  rename_i hn;cases h;have hc:d.cells=[d]:=Vp (by cases d<;>first|rfl|exact Ah rfl (hne _));rw[hc,Vp hn];refine⟨rfl,λq c c' h1 h2=>?_,λc hc=>?_⟩
  ·cases q with
   |zero=>simp at h1 h2;subst h1 h2;exact(hf _ _ hd).1
   |succ q=>simp at h1
  ·simp at hc;subst hc;exact(hf _ _ hd).2
theorem KO {H:Hp}:∀ {n:Nat} {d d':D},NU n H d=some d'->Fz H [] d d'/\B5 d'
 | 0,_,_,h=>by cases h
 |n+1,d,d',h=>by
  simp only[NU]at h;split at h
  ·split at h<;>try(cases h;done)
   rename_i hm;cases h;obtain⟨h1,h2⟩:=MP hm;refine⟨.agg h1 λi a b ha hb=>(KO (h2 i a b ha hb)).1,.agg λc hc=>?_⟩;obtain⟨x,_,hx⟩:=QG hm c hc;exact(KO hx).2
  ·split at h<;>try(cases h;done)
   rename_i hm;cases h;obtain⟨h1,h2⟩:=MP hm;refine⟨.tup h1 λi a b ha hb=>(KO (h2 i a b ha hb)).1,.tup λc hc=>?_⟩;obtain⟨x,_,hx⟩:=QG hm c hc;exact(KO hx).2
  ·split at h<;>try(cases h;done)
   rename_i k g sz i len _ e he;split at h<;>try(cases h;done)
   rename_i hb;split at h<;>try(cases h;done)
   rename_i es' hm;cases h;simp only[BP]at hb;obtain⟨⟨b1,b2⟩,b3⟩:=hb;have b3:=Bg b3;obtain⟨h1,h2⟩:=MP hm;have hget:∀(j:Nat) (x:D),j<len->e.es[i+j]?=some x->((e.es.drop i).take len)[j]?=some x:=λj x hj hx=>by
    rw[Ee,AG hj,GO];exact hx
   have hlen:es'.length=len:=by rw[<-h1];simp;omega
   refine⟨.osl he rfl (B4 b1) (B4 b2) b3 hlen (λj x y hx hy=>?_) (λj x y q c c' hx hy hc hc'=>?_),.sl λe' he' c hc=>?_⟩
   ·have hj:j<len:=by rw[<-hlen];exact(List.getElem?_eq_some_iff.1 hy).1
    exact(So (λ_ _ h=>KO h) (h2 j x y (hget j x hj hx) hy)).1
   ·have hj:j<len:=by rw[<-hlen];exact(List.getElem?_eq_some_iff.1 hy).1
    exact(So (λ_ _ h=>KO h) (h2 j x y (hget j x hj hx) hy)).2.1 q c c' hc hc'
   ·obtain⟨x,_,hx⟩:=QG hm e' he'
    exact(So (λ_ _ h=>KO h) hx).2.2 c hc
  ·split at h<;>try(cases h;done)
   rename_i hp;cases h;exact⟨.refl _,Gz hp⟩
structure WR where
 iw:Nat
 ia:Option Nat
 e:Aw
 e':Aw
 R:Hp
def WR.tail (W:WR)(L:Array Bool):Hp:=if L.getD W.iw false=true then W.e'::W.R else match W.ia with
 |none=>W.e::W.R
 |some ia=>if L.getD ia false=true then W.e::W.R else W.R
def WR.start (W:WR):Hp:=match W.ia with
 |none=>W.e::W.R
 |some _=>W.R
theorem fJ {W:WR}{L:Array Bool}(h:Ls L W.iw):W.tail L=W.e'::W.R:=AG h
section
variable {C:BC} {F:Ab} {ops:Array Oper}
def Jz (C:BC)(F:Ab)(ops:Array Oper)(W:WR)(g:Nat)(env:Ar)(o:Oper)(d:D):Prop:=
 ∀(He:Hp) (ρ:Lk) (a:Act) (w:World),Ao C F ρ (W.e::He) w->(∀x∈W.R,x∈He)->(∀k,ρ k g=none)->(∀x∈W.e::He,x.g≠g) ->
  (∀t∈o.looksAt ops,AV ρ (AN F.X ρ (W.e::He)) w (env.get t) (a.tmps.getD t undef)) ->
  Region.wanted o (yielded ops a.tmps)=true/\∃v ρ' w',((execOp a.eval o).run C.P w=.ok (.value v) w'\/((execOp a.eval o).run C.P w=.ok .skip w'/\v=undef)) /\
   Ao C F ρ' (W.e'::He) w'/\BT ρ (AN F.X ρ (W.e::He)) w ρ' (AN F.X ρ' (W.e'::He)) w'/\(∀k g',g'≠g->ρ' k g'=ρ k g')/\AV ρ' (AN F.X ρ' (W.e'::He)) w' d v
theorem nz {l:List DN}(hn:(l.map (·.i)).Nodup){a b:DN}(ha:a∈l)(hb:b∈l)(he:a.i=b.i):a=b:=by
 induction l with
 |nil=>simp at ha
 |cons x l ih=>
  rw[Ct,List.nodup_cons]at hn;rcases BF.1 ha with h1|h1
  ·rcases BF.1 hb with h2|h2
   ·rw[h1,h2]
   ·exact Ah (List.mem_map.2 ⟨b,h2,by rw[<-he,h1]⟩) hn.1
  ·rcases BF.1 hb with h2|h2
   ·exact Ah (List.mem_map.2 ⟨a,h1,by rw[he,h2]⟩) hn.1
   ·exact ih hn.2 h1 h2
def M2 (C:BC)(F:Ab)(ops:Array Oper)(W:WR)(g:Nat)(env:Ar)(r:DN):Prop:=
 (r.i≠W.iw/\W.ia≠some r.i/\((W.ia=none/\D2 ops W.iw r.i/\CI C F ops (W.e::W.R) g env r.o r.d r.ne)\/CI C F ops W.R g env r.o r.d r.ne))\/(r.i=W.iw/\W.ia≠some r.i/\r.ne=none/\Jz C F ops W g env r.o r.d) \/
  (r.i≠W.iw/\W.ia=some r.i/\r.ne=none/\CI C F ops W.R g env r.o r.d (some W.e))
theorem M2.gen {W:WR}{g:Nat}{env:Ar}{r:DN}(h:M2 C F ops W g env r):∀e,r.ne=some e->e.g=g:=by
 rcases h with⟨_,_,⟨_,_,h⟩|h⟩|⟨_,_,h,_⟩|⟨_,_,h,_⟩
 ·exact h.1
 ·exact h.1
 ·intro e he;rw[h]at he;cases he
 ·intro e he;rw[h]at he;cases he
theorem eW {H H':Hp}{n:Nat}{env:Ar}{A B:List DN}{r:DN}{L:Array Bool}{a:Act}{w:World}{ρ:Lk}{He:Hp}(h:DI C F H n env (A++r::B) L a w ρ He)(hi:r.i<L.size)(hn:¬Ls L r.i)
  (hnd:((A++r::B).map (·.i)).Nodup) (hdst:(A++r::B).Pairwise (λr r'=>∀t,r.o.dst=some t->r'.o.dst≠some t)) (hok:De F.nt r.o=true) {v:Value} {ρ':Lk} {w':World} {He':Hp}
  (pm:Ao C F ρ' He' w') (px:BT ρ (AN F.X ρ He) w ρ' (AN F.X ρ' He') w') (pf:∀k g',g'≠n+r.i->ρ' k g'=ρ k g') (pr:AV ρ' (AN F.X ρ' He') w' r.d v)
  (pp:He'.Perm ((A++r::B).filterMap (λr'=>if(L.setIfInBounds r.i true).getD r'.i false then r'.ne else none)++H')):
  DI C F H' n env (A++r::B) (L.setIfInBounds r.i true) (a.put r.o.dst v) w' ρ' He':=by
 have hset:∀j,Ls (L.setIfInBounds r.i true) j↔j=r.i\/Ls L j:=λj=>Ls.set hi
 have hne:∀r'∈A++B,r'.i≠r.i:=by
  simp only[Cs,Ct]at hnd;intro r' hr' he;rw[Ef,List.nodup_cons]at hnd;rcases List.mem_append.1 hr' with hr'|hr'
  ·exact hnd.2.2 r'.i (List.mem_map.2 ⟨r',hr',rfl⟩) r.i (by simp) he
  ·exact hnd.2.1.1 (List.mem_map.2 ⟨r',hr',he⟩)
 have hput:∀t,(a.put r.o.dst v).tmps.getD t undef=if r.o.dst=some t then v else a.tmps.getD t undef:=by
  intro t;cases hd:r.o.dst with
  |none=>simp[Act.put]
  |some k=>
   have hk:k<a.tmps.size:=by
    rw[h.nt];unfold De at hok;rw[hd]at hok;exact Nat.blt_eq.mp hok
   show(a.tmps.setIfInBounds k v).getD t undef=_;rw[Az,IS]
   by_cases hkt:k=t
   ·subst hkt;simp[hk]
   ·rw[AF hkt,AF (by simpa using hkt),<-Az]
 refine⟨pm,pp,λr' hr' hl t ht=>?_,λt ht=>?_,λk g hg hk=>?_,?_,?_⟩
 ·rw[hput]
  by_cases hrr:r'=r
  ·subst hrr;rw[AG ht];exact pr
  ·have hr2:r'∈A++B:=by
    rcases List.mem_append.1 hr' with h|h
    ·simp[h]
    ·rcases BF.1 h with h|h
     ·exact Ah h hrr
     ·simp[h]
   have hl2:=((hset r'.i).1 hl).resolve_left (hne r' hr2);rw[AF]
   ·exact(h.reps r' hr' hl2 t ht).mono px
   ·intro hrt
    rw[Ko,Dw]at hdst;rcases List.mem_append.1 hr2 with h|h
    ·exact hdst.2.2 r' h r (by simp) t ht hrt
    ·exact hdst.2.1.1 r' h t hrt ht
 ·rw[hput,AF (ht r (by simp) ((hset r.i).2 (.inl rfl)))]
  exact(h.old t λr' hr' hl=>ht r' hr' ((hset r'.i).2 (.inr hl))).mono px
 ·by_cases hgr:g=n+r.i
  ·exact⟨r,by simp,(hset r.i).2 (.inl rfl),hgr⟩
  ·rw[pf k g hgr]at hk
   obtain⟨r',h1,h2,h3⟩:=h.fresh k g hg hk;exact⟨r',h1,(hset r'.i).2 (.inr h2),h3⟩
 ·cases r.o.dst<;>simp[Act.put,h.nt]
 ·cases r.o.dst<;>simp[Act.put,h.dfr]
theorem g9 {W:WR}{Q:Exit->Act->World->Prop}{n:Nat}{env:Ar}{rs:List DN}{suf:List Nat}(ho:Ob ops rs suf)(hiw:W.iw<ops.size)(hwg:W.e'.g=W.e.g\/W.e'.g=n+W.iw)(hgen:∀e∈W.R,e.g<n)(hge:W.ia=none->W.e.g<n)(hga:∀ia,W.ia=some ia->W.e.g=n+ia/\D2 ops W.iw ia)(hd:∀r∈rs,De F.nt r.o=true)
  (hst:∀A r B,rs=A++r::B->ops[r.i]?=some r.o/\M2 C F ops W (n+r.i) (Gb A env) r)
  (hend:∀(L:Array Bool) (a:Act) (w:World) (ρ:Lk) (He:Hp),L.size=ops.size->(∀r∈rs,Ls L r.i)->DI C F (W.e'::W.R) n env rs L a w ρ He->wpOps C.P ops Q suf a w):
  (hw:∀ {L:Array Bool},(∀r∈rs,Ls L r.i)->Ls L W.iw)->∀(fuel:Nat) (L:Array Bool) (a:Act) (w:World) (ρ:Lk) (He:Hp),L.size=ops.size->((rs.map (·.i)++suf).filter (λi=>!L.getD i false)).length<=fuel->Cl ops L->(∀i∈suf,¬Ls L i) ->
   DI C F (W.tail L) n env rs L a w ρ He->wpAny C.P .any ops Q fuel L a w:=by
 intro hw fuel
 induction fuel with
 |zero=>
  intro L a w ρ He hL hf hc hs hi;have h0:(rs.map (·.i)++suf).filter (λi=>!L.getD i false)=[]:=FF (by omega);have hall:∀r∈rs,Ls L r.i:=λr hr=>by
   have:=List.filter_eq_nil_iff.1 h0 r.i (by simp;exact .inl ⟨r,hr,rfl⟩)
   simpa[Ls]using this
  have hsuf:suf=[]:=by
   apply List.eq_nil_iff_forall_not_mem.2;intro i hi2
   have:=List.filter_eq_nil_iff.1 h0 i (by simp[hi2])
   exact hs i hi2 (by simpa[Ls]using this)
  subst hsuf;refine Nh [] 0 L a w hL (Ai _) (λi hi2=>⟨λ_=>by simp,λ_=>?_⟩) .nil (λA i B h=>by cases A<;>simp at h) (by simp) hc (hend L a w ρ He hL hall (by have h0:=hi;rw[fJ (hw hall)]at h0;exact h0))
  have:=ho.all i hi2
  simp at this;obtain⟨r,hr,rfl⟩:=this;exact hall r hr
 |succ fuel ih=>
  intro L a w ρ He hL hf hc hs hi
  by_cases hall:∀r∈rs,Ls L r.i
  ·refine Nh suf (fuel+1) L a w hL ?_ (λi hi2=>?_) ?_ (λA i B hAB=>⟨λj hj=>?_,λj hj=>ho.suf A i B hAB j (by simp[hj])⟩) (λi hi2=>ho.lt i (by simp[hi2])) hc (hend L a w ρ He hL hall (by have h0:=hi;rw[fJ (hw hall)]at h0;exact h0))
   ·refine BU ?_ hf
    rw[List.filter_append,Bh];rw[(List.filter_eq_self (l:=suf)).2 λi hi2=>by have:=hs i hi2;unfold Ls at this;simpa using this];omega
   ·constructor
    ·intro h1 h2;exact hs i h2 h1
    ·intro h1
     have:=ho.all i hi2
     rcases List.mem_append.1 this with h|h
     ·obtain⟨r,hr,rfl⟩:=List.mem_map.1 h;exact hall r hr
     ·exact Ah h h1
   ·exact(Ef.1 ho.nodup).2.1
   ·have hA:=ho.first (rs.map (·.i)++A) i B (by simp[hAB]) j hj
    refine⟨ho.lt j (by rw[hAB];rcases List.mem_append.1 hA with h|h<;>simp[h]),λhB=>?_⟩;have hnd:=ho.nodup;rw[hAB,<-Di,Ef]at hnd;exact hnd.2.2 j hA j hB rfl
  ·have hnot:∃r∈rs,¬Ls L r.i:=by
    apply DU;intro hn;exact hall λr hr=>DU λh=>hn ⟨r,hr,h⟩
   have hLt:∀j,j<ops.size->(L.getD j true=true↔Ls L j):=λj hj=>by
    unfold Ls;rw[Az,Az,Bn (by omega)];simp
   have hsome:Region.ready .any ops L≠[]:=by
    obtain⟨r0,hr0,hn0⟩:=hnot
    have:∀X:List DN,∀Y,rs=X++Y->(∃r∈Y,¬Ls L r.i)->(∀r∈X,Ls L r.i)->∃A r B,rs=A++r::B/\¬Ls L r.i/\∀r∈A,Ls L r.i:=by
     intro X Y
     induction Y generalizing X with
     |nil=>rintro _ ⟨r,hr,_⟩ _;simp at hr
     |cons y Y ihY=>
      intro hXY hex hX
      by_cases hy:Ls L y.i
      ·obtain⟨r,hr,hrn⟩:=hex
       rcases BF.1 hr with rfl|hr
       ·exact Ah hy hrn
       ·exact ihY (X++[y]) (by simp[hXY]) ⟨r,hr,hrn⟩ (λr hr=>by
         rcases List.mem_append.1 hr with h|h
         ·exact hX r h
         ·simp at h;subst h;exact hy)
      ·exact⟨X,y,Y,hXY,hy,hX⟩
    obtain⟨A,r,B,h1,h2,h3⟩:=this [] rs rfl ⟨r0,hr0,hn0⟩ (by simp);intro hnil;have hrlt:=ho.lt r.i (by rw[h1];simp)
    have:r.i∈Region.ready .any ops L:=by
     rw[F3];refine⟨hrlt,?_,λj hj=>?_⟩
     ·cases hb:L.getD r.i true with
      |false=>rfl
      |true=>exact Ah ((hLt r.i hrlt).1 hb) h2
     ·have:=ho.first (A.map (·.i)) r.i (B.map (·.i)++suf) (by rw[h1];simp) j hj
      obtain⟨r',hr',rfl⟩:=List.mem_map.1 this;exact h3 r' hr'
    rw[hnil]at this;simp at this
   refine⟨λh0=>Ah h0 hsome,λi hir=>?_⟩;obtain⟨hilt,hin,hid⟩:=F3.1 hir;have hnL:¬Ls L i:=λh=>by rw[(hLt i hilt).2 h]at hin;cases hin
   have hpre:i∈rs.map (·.i):=by
    rcases List.mem_append.1 (ho.all i hilt)with h|h
    ·exact h
    ·obtain⟨A,B,hAB⟩:=Ey h
     obtain⟨r0,hr0,hn0⟩:=hnot
     have:=HP hL hc (ho.suf A i B hAB r0.i (HF _ (List.mem_map.2 ⟨r0,hr0,rfl⟩))) hid
     exact Ah this hn0
   obtain⟨r,hr,rfl⟩:=List.mem_map.1 hpre;obtain⟨A,B,hAB⟩:=Ey hr;obtain⟨hor,hstr⟩:=hst A r B hAB;have hset:∀j,Ls (L.setIfInBounds r.i true) j↔j=r.i\/Ls L j:=λj=>Ls.set (by omega)
   have hndr:(rs.map (·.i)).Nodup:=(Ef.1 ho.nodup).1;have hgt:∀e∈W.tail L,(e∈W.R\/(e=W.e/\∀ia,W.ia=some ia->Ls L ia)\/(e=W.e'/\Ls L W.iw)):=λe he=>by
    unfold WR.tail at he
    by_cases hwl:L.getD W.iw false=true
    ·rw[AG hwl]at he
     rcases BF.1 he with rfl|he
     ·exact .inr (.inr ⟨rfl,hwl⟩)
     ·exact .inl he
    ·rw[AF hwl]at he
     cases hia:W.ia with
     |none=>
      rw[hia]at he;rcases BF.1 he with rfl|he
      ·exact .inr (.inl ⟨rfl,by simp⟩)
      ·exact .inl he
     |some ia=>
      rw[hia]at he;dsimp only at he
      by_cases hal:L.getD ia false=true
      ·rw[AG hal]at he
       rcases BF.1 he with rfl|he
       ·exact .inr (.inl ⟨rfl,λj hj=>by cases hj;exact hal⟩)
       ·exact .inl he
      ·rw[AF hal]at he
       exact .inl he
   have hfr:∀k,ρ k (n+r.i)=none:=λk=>by
    apply DU;intro hk;obtain⟨r',h1,h2,h3⟩:=hi.fresh k (n+r.i) (by omega) hk
    have:r'.i=r.i:=by omega
    rw[this]at h2;exact hnL h2
   have hne:∀e∈He,e.g≠n+r.i:=λe he hg=>by
    rcases List.mem_append.1 (hi.perm.mem_iff.1 he)with h|h
    ·obtain⟨r',h1,h2⟩:=List.mem_filterMap.1 h
     split at h2
     ·rename_i hl
      obtain⟨A',B',hAB'⟩:=Ey h1
      have:=(hst A' r' B' hAB').2.gen e h2
      have:r'.i=r.i:=by omega
      rw[this]at hl;exact hnL hl
     ·cases h2
    ·have hE:(∀ia,W.ia=some ia->Ls L ia)->W.e.g≠n+r.i:=λhal hg=>by
      cases hia:W.ia with
      |none=>have:=hge hia;omega
      |some ia=>
       have h1:=(hga ia hia).1
       have:ia=r.i:=by omega
       rw[<-this]at hnL;exact hnL (hal ia hia)
     rcases hgt e h with h|⟨rfl,hal⟩|⟨rfl,hl⟩
     ·have:=hgen e h;omega
     ·exact hE hal hg
     ·rcases hwg with h'|h'
      ·refine hE (λia hia=>?_) (by omega)
       refine HP hL hc (hga ia hia).2 λk hk=>?_
       have hwl':Ls L W.iw:=hl;exact hc W.iw ((hLt W.iw hiw).2 hwl') hiw k hk
      ·have:W.iw=r.i:=by omega
       rw[this]at hl;exact hnL hl
   have go:∀(a':Act) (w':World) (ρ':Lk) (He':Hp),DI C F (W.tail (L.setIfInBounds r.i true)) n env rs (L.setIfInBounds r.i true) a' w' ρ' He'->wpAny C.P .any ops Q fuel (L.setIfInBounds r.i true) a' w':=by
    intro a' w' ρ' He' hn';refine ih _ _ _ ρ' He' (by simp[hL]) ?_ ?_ (λj hj=>?_) hn'
    ·have:((rs.map (·.i)++suf).filter (λi=>!(L.setIfInBounds r.i true).getD i false)).length<((rs.map (·.i)++suf).filter (λi=>!L.getD i false)).length:=by
      have sub:(rs.map (·.i)++suf).filter (λi=>!(L.setIfInBounds r.i true).getD i false)=((rs.map (·.i)++suf).filter (λi=>!L.getD i false)).filter (λi=>!Nat.beq i r.i):=by
       rw[List.filter_filter];apply List.filter_congr;intro x hx;have h1:=hset x;unfold Ls at h1
       by_cases hxr:x=r.i
       ·subst hxr
        have:(L.setIfInBounds r.i true).getD r.i false=true:=h1.2 (.inl rfl)
        simp[this]
       ·have hb:Nat.beq x r.i=false:=by
         cases hb:Nat.beq x r.i with
         |false=>rfl
         |true=>exact Ah (B4 hb) hxr
        rw[hb]
        by_cases hlx:L.getD x false=true
        ·rw[h1.2 (.inr hlx),hlx];rfl
        ·have:¬(L.setIfInBounds r.i true).getD x false=true:=λh=>hlx ((h1.1 h).resolve_left hxr)
         simp only[Bool.not_eq_true]at this hlx;rw[this,hlx];rfl
      rw[sub];apply List.length_filter_lt_length_iff_exists.2;exact⟨r.i,by rw[List.mem_filter];exact⟨by simp;exact .inl ⟨r,hr,rfl⟩,by unfold Ls at hnL;simpa using hnL⟩,by simp⟩
     omega
    ·intro k hk2 hks x hx
     have hk3:Ls (L.setIfInBounds r.i true) k:=by
      unfold Ls;rw[Az,Bn (by simp;omega)]at hk2⊢;simpa using hk2
     show Ls _ x;rw[hset];rcases(hset k).1 hk3 with rfl|hk3
     ·exact .inr (hid x hx)
     ·exact .inr (hc k ((hLt k hks).2 hk3) hks x hx)
    ·rw[hset]
     rintro(rfl|h)
     ·have hnd:=ho.nodup
      rw[Ef]at hnd;exact hnd.2.2 r.i (List.mem_map.2 ⟨r,hr,rfl⟩) r.i hj rfl
     ·exact hs j hj h
   have hdst:=ho.dst;rw[hAB]at hdst hndr;have keep:∀ {α:Type} (j:Nat) (x y:α),j≠r.i->(if(L.setIfInBounds r.i true).getD j false=true then x else y)=(if L.getD j false=true then x else y):=λj x y hj=>by
    have:=hset j
    unfold Ls at this
    by_cases hl:L.getD j false=true
    ·rw[AG hl,AG (this.2 (.inr hl))]
    ·rw[AF hl,AF λh=>hl ((this.1 h).resolve_left hj)]
   have wset:r.i≠W.iw->W.ia≠some r.i->W.tail (L.setIfInBounds r.i true)=W.tail L:=λhr hr2=>by
    unfold WR.tail;rw[keep W.iw _ _ (Ne.symm hr)];cases hia:W.ia with
    |none=>rfl
    |some ia=>
     dsimp only;rw[keep ia _ _ λh=>hr2 (by rw[hia,h])]
   have next:r.i≠W.iw->W.ia≠some r.i->∀v ρ' w',Ir C F He ρ w (n+r.i) r.d r.ne v ρ' w'->wpAny C.P .any ops Q fuel (L.setIfInBounds r.i true) (a.put r.o.dst v) w':=by
    intro hriw hria v ρ' w' p;have hi':=hi;rw[hAB]at hi';have hn':=DI.next hi' (by omega) hnL hndr hdst (hd r hr) p;rw[<-hAB,<-wset hriw hria]at hn';exact go _ _ _ _ hn'
   unfold wpOp;simp only[hor];have hR:∀e∈W.R,e∈He:=λe he=>hi.perm.mem_iff.2 (by
    refine List.mem_append_right _ ?_;unfold WR.tail;cases W.ia<;>dsimp only<;>(repeat' split)<;>simp[he])
   have samefm:r.ne=none->∀ {fm:List Aw},(A++r::B).filterMap (λr'=>if L.getD r'.i false then r'.ne else none)=fm ->
     (A++r::B).filterMap (λr'=>if(L.setIfInBounds r.i true).getD r'.i false then r'.ne else none)=fm:=λhnone fm hfm=>by
    rw[<-hfm];refine MG λr' hr'=>?_
    by_cases hrr:r'.i=r.i
    ·have:r'=r:=nz hndr hr' (by simp) hrr
     subst this;rw[hnone];simp
    ·exact keep r'.i _ _ hrr
   rcases hstr with⟨hriw,hria,hstd⟩|⟨hriw,hria,hnone,hstw⟩|⟨hriw,hria,hnone,hstd⟩
   ·have hgo:∀Hr:Hp,(∀e∈Hr,e∈He)->CI C F ops Hr (n+r.i) (Gb A env) r.o r.d r.ne->_:=λHr hsub hs=>hs.2 He ρ a w hi.mem hsub hfr hne (hi.look ho hL hc hAB hir)
    have fin:_:=(show(Region.wanted r.o (yielded ops a.tmps)=false/\r.ne=none/\AV ρ (AN F.X ρ He) w r.d undef)\/(Region.wanted r.o (yielded ops a.tmps)=true/\du C F He ρ w (n+r.i) r.d r.ne r.o a)from by
     rcases hstd with⟨hia,hre,hs⟩|hs
     ·refine hgo _ (λe he=>hi.perm.mem_iff.2 ?_) hs
      have hnw:¬L.getD W.iw false=true:=λhwl=>hnL (by
       refine HP hL hc hre λk hk=>?_
       have hwl':Ls L W.iw:=hwl;exact hc W.iw ((hLt W.iw hiw).2 hwl') hiw k hk)
      unfold WR.tail;rw[AF hnw,hia];rcases BF.1 he with rfl|he
      ·simp
      ·simp[he]
     ·exact hgo _ hR hs)
    rcases fin with⟨hw0,hn0,hrep⟩|⟨hw0,hout⟩
    ·rw[AF (by rw[hw0];simp)]
     exact next hriw hria undef ρ w ⟨by rw[hn0];exact hi.mem,by rw[hn0];exact .refl _ _ _,λ_ _ _=>rfl,by rw[hn0];exact hrep⟩
    ·rw[AG hw0]
     refine .inl ?_;unfold Oper.wp;rcases hout with⟨v,ρ',w',h1,h2⟩|⟨f,vs,h1,h2⟩
     ·rw[h1];exact next hriw hria v ρ' w' h2
     ·rw[h1]
      refine h2.mono ?_;rintro e w' ⟨v,rfl,ρ',h3⟩;exact next hriw hria v ρ' w' h3
   ·
    have hnw:¬L.getD W.iw false=true:=λh=>hnL (by rw[hriw];exact h)
    generalize hfm:rs.filterMap (λr'=>if L.getD r'.i false then r'.ne else none)=fm at*;have hperm:He.Perm (W.e::(fm++W.R)):=by
     have h0:=hi.perm;have htl:W.tail L=W.e::W.R:=by
      unfold WR.tail;rw[AF hnw];cases hia:W.ia with
      |none=>rfl
      |some ia=>
       dsimp only;have hre:=(hga ia hia).2;rw[<-hriw]at hre;exact AG (HP hL hc hre hid)
     rw[htl,hfm]at h0;exact h0.trans HG
    have m1:=hi.mem.perm hperm;have ho1:=AN.perm (X:=F.X) (ρ:=ρ) hperm;obtain⟨hw0,v,ρ',w',hrun,m2,x2,far2,rep2⟩:=hstw (fm++W.R) ρ a w m1 (λe he=>by simp[he]) hfr (λe he=>hne e (hperm.mem_iff.2 he)) (λt ht=>by
     rw[<-ho1];exact hi.look ho hL hc hAB hir t ht)
    rw[<-ho1]at x2;have hi':=hi;rw[hAB]at hi' hfm;have nx:=eW (H':=W.e'::W.R) hi' (by omega) hnL hndr hdst (hd r hr) (v:=v) m2 x2 far2 rep2 (by
     rw[samefm hnone hfm];exact HG.symm)
    have hwt:W.tail (L.setIfInBounds r.i true)=W.e'::W.R:=by
     exact AG ((hset W.iw).2 (.inl hriw.symm))
    rw[<-hAB,<-hwt]at nx;rw[AG hw0];refine .inl ?_;unfold Oper.wp;rcases hrun with hrun|⟨hrun,rfl⟩
    ·rw[hrun];exact go _ _ _ _ nx
    ·rw[hrun];exact go _ _ _ _ nx
   ·
    have htl:W.tail L=W.R:=by
     have hnw:¬L.getD W.iw false=true:=λhwl=>hnL (by
      refine HP hL hc (hga r.i hria).2 λk hk=>?_
      have hwl':Ls L W.iw:=hwl;exact hc W.iw ((hLt W.iw hiw).2 hwl') hiw k hk)
     unfold WR.tail;rw[AF hnw,hria];exact AF hnL
    have hwt:W.tail (L.setIfInBounds r.i true)=W.e::W.R:=by
     have hnw:¬(L.setIfInBounds r.i true).getD W.iw false=true:=λhwl=>by
      rcases(hset W.iw).1 hwl with h|h
      ·exact hriw h.symm
      ·exact hnL (by
        refine HP hL hc (hga r.i hria).2 λk hk=>?_
        exact hc W.iw ((hLt W.iw hiw).2 h) hiw k hk)
     unfold WR.tail;rw[AF hnw,hria];exact AG ((hset r.i).2 (.inl rfl))
    have nxt:∀v ρ' w',Ir C F He ρ w (n+r.i) r.d (some W.e) v ρ' w'->wpAny C.P .any ops Q fuel (L.setIfInBounds r.i true) (a.put r.o.dst v) w':=λv ρ' w' p=>by
     have hi':=hi;rw[hAB]at hi';have nx:=eW (H':=W.e::W.R) hi' (by omega) hnL hndr hdst (hd r hr) (v:=v) p.mem p.ext p.far p.rep (by
      rw[samefm hnone rfl];have h0:=hi'.perm;rw[htl]at h0;exact(List.Perm.cons W.e h0).trans HG.symm)
     rw[<-hAB,<-hwt]at nx;exact go _ _ _ _ nx
    rcases hstd.2 He ρ a w hi.mem hR hfr hne (hi.look ho hL hc hAB hir)with⟨hw0,hn0,hrep⟩|⟨hw0,hout⟩
    ·cases hn0
    ·rw[AG hw0]
     refine .inl ?_;unfold Oper.wp;rcases hout with⟨v,ρ',w',h1,h2⟩|⟨f,vs,h1,h2⟩
     ·rw[h1];exact nxt v ρ' w' h2
     ·rw[h1]
      refine h2.mono ?_;rintro e w' ⟨v,rfl,ρ',h3⟩;exact nxt v ρ' w' h3
inductive IG (C:BC)(F:Ab)(ops:Array Oper)(W:WR)(n:Nat):List Nat->Ar->Hp->Ar->Hp->Prop
 |nil (env:Ar) (N:Hp):IG C F ops W n [] env N env N
 |cons {i:Nat} {l:List Nat} {o:Oper} {d:D} {ne:Option Aw} {env env':Ar} {N N':Hp} (ho:ops[i]?=some o) (hs:M2 C F ops W (n+i) env ⟨i,o,d,ne⟩)
   (h:IG C F ops W n l (Ba env o.dst d) (Cx ne N) env' N'):IG C F ops W n (i::l) env N env' N'
theorem IG.recs {W:WR}{n:Nat}{l:List Nat}{env env':Ar}{N N':Hp}(h:IG C F ops W n l env N env' N'):
  ∃rs:List DN,rs.map (·.i)=l/\env'=Gb rs env/\N'=Mz rs N /\
   ∀A r B,rs=A++r::B->ops[r.i]?=some r.o/\M2 C F ops W (n+r.i) (Gb A env) r:=by
 induction h with
 |nil env N=>exact⟨[],rfl,rfl,rfl,λA r B h=>by cases A<;>simp at h⟩
 | @cons i l o d ne env env' N N' ho hs _ ih=>
  obtain⟨rs,h1,h2,h3,h4⟩:=ih;refine⟨⟨i,o,d,ne⟩::rs,by simp[h1],h2,h3,λA r B hr=>?_⟩;cases A with
  |nil=>
   simp only[EO,Et]at hr;obtain⟨rfl,rfl⟩:=hr;exact⟨ho,hs⟩
  |cons r0 A=>
   simp only[D5,Et]at hr;obtain⟨rfl,rfl⟩:=hr;exact h4 A r B rfl
theorem fB {W:WR}{s:St}{Q:Exit->St->Prop}{pre suf:List Nat}{envF:Ar}{N:Hp}(hc:IH ops pre suf=true)
  (hH:s.H.Perm W.start) (hga:∀ia,W.ia=some ia->W.e.g=s.n+ia/\D2 ops W.iw ia/\ia∈pre) (hiw:W.iw∈pre) (hwg:W.e'.g=W.e.g\/W.e'.g=s.n+W.iw)
  (hpre:IG C F ops W s.n pre s.env [] envF N)
  (h:BH C F ops (suf.map λj=>ops.getD j default) ⟨envF,N++W.e'::W.R,s.n+ops.size⟩ (Q .normal)) (hd:ops.toList.all (De F.nt)=true) (ρ:Lk) (a:Act) (w:World) (hs:Bk C F ρ s a w):
  wpAny C.P .any ops (Kv C F (Q .normal)) ops.size (Array.replicate ops.size false) a w.drew:=by
 obtain⟨rs,h1,h2,h3,h4⟩:=hpre.recs;have hor:∀r∈rs,ops[r.i]?=some r.o:=λr hr=>by
  obtain⟨A,B,hAB⟩:=Ey hr;exact(h4 A r B hAB).1
 have ho:=S9 h1 hor hc;have hds:∀r∈rs,De F.nt r.o=true:=λr hr=>by
  refine CS.1 hd r.o ?_
  have:=hor r hr
  exact Array.mem_toList_iff.2 (IP this)
 have hrep:∀j,(Array.replicate ops.size false).getD j false=false:=λj=>by
  rw[Az];rw[NK];split<;>rfl
 have hnL:∀j,¬Ls (Array.replicate ops.size false) j:=λj hj=>by unfold Ls at hj;rw[hrep]at hj;cases hj
 have hgen:∀e∈W.R,e.g<s.n:=λe he=>hs.gen e (hH.mem_iff.2 (by unfold WR.start;cases W.ia<;>simp[he]))
 have hge:W.ia=none->W.e.g<s.n:=λhia=>hs.gen _ (hH.mem_iff.2 (by unfold WR.start;rw[hia];simp))
 have hlw:=ho.lt W.iw (by rw[h1];simp[hiw]);have htl:W.tail (Array.replicate ops.size false)=W.start:=by
  unfold WR.tail WR.start;rw[AF (by rw[hrep];simp)];cases W.ia with
  |none=>rfl
  |some ia=>exact AF (by rw[hrep];simp)
 have hin:DI C F (W.tail (Array.replicate ops.size false)) s.n s.env rs (Array.replicate ops.size false) a w.drew ρ s.H:=by
  refine⟨hs.mem.drew,?_,λr _ hl=>Ah hl (hnL _),λt _=>(hs.env t).mono (.drew _ _ _),λk g hg hk=>Ah (hs.fresh k g hg) hk,hs.nt,hs.dfr⟩
  have:rs.filterMap (λr=>if(Array.replicate ops.size false).getD r.i false then r.ne else none)=[]:=by
   rw[VO];intro r _;rw[hrep];rfl
  rw[this,htl];exact hH
 refine g9 ho hlw hwg hgen hge (λia h=>⟨(hga ia h).1,(hga ia h).2.1⟩) hds h4 ?_ (λhall=>by
  rw[<-h1]at hiw;obtain⟨r,hr,he⟩:=List.mem_map.1 hiw;rw[<-he];exact hall r hr) ops.size _ a w.drew ρ s.H (by simp) ?_ ?_ (λj _=>hnL j) hin
 ·intro L a' w' ρ' He hL hall hi
  have hN:He.Perm (N++W.e'::W.R):=by
   refine hi.perm.trans (List.Perm.append_right _ ?_);have e:rs.filterMap (λr=>if L.getD r.i false then r.ne else none)=rs.filterMap (·.ne):=MG λr hr=>by
    have:=hall r hr;unfold Ls at this;rw[this];rfl
   rw[e,h3]
   have:=K7 rs []
   rw[DB]at this;exact this.symm
  refine h ?_ suf ?_ ρ' a' w' ⟨hi.mem.perm hN,?_,?_,λt=>?_,hi.nt,hi.dfr⟩
  ·rw[CS]
   intro o' ho';obtain⟨j,hj,rfl⟩:=List.mem_map.1 ho';have hlt:=ho.lt j (by simp[hj]);refine CS.1 hd _ ?_;rw[Az,Bn hlt];simp
  ·rw[List.map_map]
   refine NH λj hj=>?_
   have hlt:=ho.lt j (by simp[hj]);simp[Az,Bn hlt]
  ·intro k g hg
   apply DU;intro hk;obtain⟨r,hr,_,he⟩:=hi.fresh k g (by simp at hg;omega) hk
   have:=ho.lt r.i (by simp;exact .inl ⟨r,hr,rfl⟩)
   simp at hg;omega
  ·intro e he
   rcases List.mem_append.1 he with he|he
   ·rw[h3]at he
    have he:=(K7 rs []).mem_iff.1 he;rw[DB]at he;obtain⟨r,hr,hre⟩:=List.mem_filterMap.1 he;obtain⟨A,B,hAB⟩:=Ey hr
    have:=(h4 A r B hAB).2.gen e hre
    have:=ho.lt r.i (by simp;exact .inl ⟨r,hr,rfl⟩)
    show e.g<s.n+ops.size;omega
   ·show e.g<s.n+ops.size
    rcases BF.1 he with rfl|he
    ·have hE:W.e.g<s.n+ops.size:=by
      cases hia:W.ia with
      |none=>have:=hge hia;omega
      |some ia=>
       obtain⟨q1,_,q3⟩:=hga ia hia
       have:=ho.lt ia (by rw[h1];simp[q3])
       omega
     rcases hwg with h|h<;>omega
    ·have:=hgen e he
     omega
  ·show AV ρ' (AN F.X ρ' (N++W.e'::W.R)) w' (envF.get t) _
   rw[<-AN.perm hN,h2]
   by_cases hw:∃r∈rs,r.o.dst=some t
   ·obtain⟨r,hr,hrd⟩:=hw
    rw[Nw rs s.env t ho.dst r hr hrd];exact hi.reps r hr (hall r hr) t hrd
   ·rw[Kx rs s.env t λr hr hrd=>hw ⟨r,hr,hrd⟩]
    exact hi.old t λr hr _ hrd=>hw ⟨r,hr,hrd⟩
 ·refine BU (List.length_filter_le _ _) ?_
  have hsub:∀(l:List Nat) (n:Nat),l.Nodup->(∀x∈l,x<n)->l.length<=n:=by
   intro l n
   induction n generalizing l with
   |zero=>intro _ h;cases l with
    |nil=>simp
    |cons x l=>exact Ah (h x (by simp)) (by omega)
   |succ n ihn=>
    intro hnd hlt;have h1:=ihn (l.erase n) (hnd.erase n) λx hx=>by
     have:=hlt x (List.mem_of_mem_erase hx)
     have:x≠n:=λh=>by subst h;exact(VQ hnd) hx
     omega
    have:=List.length_erase (a:=n) (l:=l)
    split at this<;>omega
  exact hsub _ _ ho.nodup ho.lt
 ·intro k hk
  have:k<ops.size\/¬k<ops.size:=by omega
  rcases this with hlt|hlt
  ·rw[Az,NK,AG hlt]at hk;cases hk
  ·intro h;exact Ah h hlt
theorem kJ {P:Program}{o:Oper}{a:Act}{R R':Exit->Act->World->Prop}{K K':Act->World->Prop}(hk:∀a w,K a w->K' a w)(h:∀e a w,R e a w->R' e a w):∀r,o.upon P a K R r->o.upon P a K' R' r:=λr hr=>by
 unfold Oper.upon at hr⊢;split at hr
 ·exact hk _ _ hr
 ·exact hk _ _ hr
 ·exact hk _ _ hr
 ·refine hr.mono ?_
  intro e w'' q;cases e with
  |returned v=>exact hk _ _ q
  |panicked c=>exact h _ _ _ q
  |outgrown=>obtain⟨a,w,q⟩:=q;exact⟨a,w,h _ _ _ q⟩
 ·exact λc cs=>by
   obtain⟨v,w',h1,h2⟩:=hr c cs;exact⟨v,w',hk _ _ h1,h2⟩
 ·exact h _ _ _ hr
 ·exact hr.elim
theorem Px {P:Program}{R R':Exit->Act->World->Prop}(h:∀e a w,R e a w->R' e a w):∀(fuel:Nat) (L:Array Bool) (a:Act) (w:World),wpAny P .any ops R fuel L a w->wpAny P .any ops R' fuel L a w
 | 0,L,a,w,hh=>⟨hh.1,h _ _ _ hh.2⟩
 |fuel+1,L,a,w,hh=>⟨λh0=>h _ _ _ (hh.1 h0),λi hi=>by
   have hq:=hh.2 i hi;unfold wpOp at hq⊢;split
   ·rename_i ho;simp only[ho]at hq;exact Px h _ _ _ _ hq
   ·rename_i o ho
    simp only[ho]at hq;split
    ·rename_i hw
     rw[AG hw]at hq;rcases hq with hq|⟨h1,a,w,h2⟩
     ·exact .inl (kJ (λa w=>Px h _ _ a w) h _ hq)
     ·exact .inr ⟨h1,a,w,h _ _ _ h2⟩
    ·rename_i hw
     rw[AF hw]at hq;exact Px h _ _ _ _ hq⟩
theorem yC {W:WR}{i:Nat}{s:St}{Q:Exit->St->Prop}{pre suf:List Nat}{envF:Ar}{N:Hp}(hm:C.P.follows .mixedOrders=true)(hc:IH ops pre suf=true)
  (hH:s.H.Perm W.start) (hga:∀ia,W.ia=some ia->W.e.g=s.n+ia/\D2 ops W.iw ia/\ia∈pre) (hiw:W.iw∈pre) (hwg:W.e'.g=W.e.g\/W.e'.g=s.n+W.iw)
  (hpre:IG C F ops W s.n pre s.env [] envF N)
  (h:BH C F ops (suf.map λj=>ops.getD j default) ⟨envF,N++W.e'::W.R,s.n+ops.size⟩ (Q .normal)):Ok C F (.region i ops true) s Q:=λhd ρ a w hs=>by
 refine wp_region_any hm (Px (λe a w h=>?_) _ _ _ _ (fB hc hH hga hiw hwg hpre h hd ρ a w hs));obtain⟨rfl,s',ρ',h1,h2⟩:=h;exact⟨s',ρ',h1,h2⟩
theorem j9 {tt:Nat->Option Ay}{H:Hp}{g g':Operand->D}{op:Op}(h:∀x∈op.operands,g x=g' x):Ez tt H g op=Ez tt H g' op:=by
 cases op<;>simp only[Op.operands]at h<;>try rfl
 case store t x y=>simp only[Ez];rw[h x (by simp),h y (by simp)]
theorem kz {tt:Nat->Option Ay}{e:Aw}{He:Hp}{g:Operand->D}{op:Op}{k:Nat}{e':Aw}{p:Prop}(h:Ez tt [e] g op=some (k,e',p)):
  Ez tt (e::He) g op=some (k,e',p)/\Hp.set (e::He) k e'=e'::He/\e'.g=e.g:=by
 unfold Ez at h;split at h<;>try(cases h;done)
 rename_i t x y;simp only[Ez];split at h<;>try(cases h;done)
 rename_i i hi
 try simp only[hi]
 split at h<;>try(cases h;done)
 rename_i h1
 try simp only[h1]
 split at h<;>try(cases h;done)
 rename_i e1 h2;have hb:Nat.beq e.k k=true/\e1=e:=by
  split at h<;>try(cases h;done)
  cases h;simp only[Hp.get]at h2;split at h2
  ·rename_i hb;cases h2;exact⟨hb,rfl⟩
  ·cases h2
 have hget:∀k0,Hp.get [e] k0=some e1->Hp.get (e::He) k0=some e1:=λk0 hk=>by
  simp only[Hp.get]at hk⊢;split at hk
  ·exact hk
  ·cases hk
 try rw[hget _ h2]
 split at h<;>try(cases h;done)
 rename_i h3;cases h;refine⟨by first|rfl|simp only[h3],?_,by rw[hb.2]⟩;simp only[Hp.set,hb.1]
theorem Jz.store {W:WR}{g:Nat}{env:Ar}{o:Oper}{tt:Nat->Option Ay}(htt:Co C.P tt){k:Nat}{p:Prop}(hw:CC ops env o=some true)(he:Ez tt [W.e] (BG env) o.op=some (k,W.e',p))(hp:p):
  Jz C F ops W g env o (.prim (.tuple #[])):=λHe ρ a w m _ _ _ hr=>by
 refine⟨Hv hr hw,?_⟩;obtain⟨g',h1,h2⟩:=Ih hr;rw[j9 h1]at he;obtain⟨q1,q2,_⟩:=kz (He:=He) he;obtain⟨w',r1,r2,r3,_⟩:=W2 (s:=⟨[],W.e::He,0⟩) htt m h2 q1 hp;simp only[q2]at r2 r3;exact⟨undef,ρ,w',.inr ⟨r1,rfl⟩,r2,r3,λ_ _ _=>rfl,.prim _⟩
theorem Wq {tt:Nat->Option Ay}{H:Hp}{n k:Nat}{g g':Operand->D}{op:Op}(h:∀x∈op.operands,g x=g' x):D8 tt H n k g op=D8 tt H n k g' op:=by
 unfold D8;split
 ·rename_i args tys
  cases hargs:args.toList with
  |nil=>rfl
  |cons s r=>
   cases r with
   |nil=>rfl
   |cons x r=>
    cases r with
    |nil=>
     have hs:s∈args.toList:=by rw[hargs];simp
     have hx:x∈args.toList:=by rw[hargs];simp
     dsimp only;rw[h s (by simp[Op.operands,Call.operands];simpa using hs),h x (by simp[Op.operands,Call.operands];simpa using hx)]
    |cons=>rfl
 ·rfl
theorem Ym {e e1:Aw}{k:Nat}{He:Hp}(h:Hp.get [e] k=some e1):e1=e/\Hp.get (e::He) k=some e/\Hp.del (e::He) k=He/\Hp.del [e] k=[]:=by
 simp only[Hp.get]at h;split at h
 ·rename_i hb
  cases h;refine⟨rfl,?_,?_,?_⟩
  ·simp only[Hp.get,hb]
  ·simp only[Hp.del,hb]
  ·simp only[Hp.del,hb]
 ·cases h
theorem kY {e:Aw}{He:Hp}{esz:Nat}{d:D}{r:List D×Prop}(h:Hj [e] esz d=some r):Hj (e::He) esz d=some r:=by
 unfold Hj at h⊢;split at h<;>try exact h
 split at h<;>try(cases h;done)
 rename_i h1;obtain⟨rfl,h2,_,_⟩:=Ym (He:=He) h1;rw[h2];exact h
theorem ky {tt:Nat->Option Ay}{e e':Aw}{He:Hp}{n k:Nat}{g:Operand->D}{op:Op}{d:D}{p:Prop}(h:D8 tt [e] n k g op=some (d,[e'],p)):
  D8 tt (e::He) n k g op=some (d,e'::He,p)/\e'.g=n:=by
 unfold D8 at h⊢;split at h<;>try(cases h;done)
 split at h<;>try(cases h;done)
 rename_i h1
 try rw[h1]
 try dsimp only
 split at h<;>try(cases h;done)
 rename_i h2
 try rw[h2]
 try dsimp only
 split at h<;>try(cases h;done)
 rename_i h3
 try rw[h3]
 try dsimp only
 split at h<;>try(cases h;done)
 rename_i h4
 try rw[h4]
 try dsimp only
 split at h<;>try(cases h;done)
 rename_i h5
 try rw[h5]
 try dsimp only
 split at h<;>try(cases h;done)
 rename_i h6
 try rw[kY h6]
 try dsimp only
 split at h<;>try(cases h;done)
 ·rename_i h7
  try rw[h7]
  try dsimp only
  split at h<;>try(cases h;done)
  rename_i h8;obtain⟨rfl,a1,a2,a3⟩:=Ym (He:=He) h8
  try rw[a1]
  try dsimp only
  rw[a3]at h;rw[a2];cases h;exact⟨rfl,rfl⟩
theorem fL {W:WR}{g:Nat}{env:Ar}{o:Oper}{tt:Nat->Option Ay}(k:Nat)(htt:Co C.P tt){d:D}{p:Prop}(hw:CC ops env o=some true)(he:D8 tt [W.e] g k (BG env) o.op=some (d,[W.e'],p))(hp:p):
  Jz C F ops W g env o d:=λHe ρ a w m _ fr hne hr=>by
 refine⟨Hv hr hw,?_⟩;obtain⟨g',h1,h2⟩:=Ih hr;rw[Wq h1]at he;obtain⟨q1,_⟩:=ky (He:=He) he;obtain⟨v,ρ',w',r1,r2⟩:=Sa htt m fr hne h2 q1 hp;exact⟨v,ρ',w',.inl r1,r2.mem,r2.ext,r2.far,r2.rep⟩
theorem Xa {tt:Nat->Option Ay}{e':Aw}{He:Hp}{n k:Nat}{g:Operand->D}{op:Op}{d:D}{p:Prop}(h:D8 tt [] n k g op=some (d,[e'],p)):
  D8 tt He n k g op=some (d,e'::He,p)/\e'.g=n:=by
 have src:∀ {esz:Nat} {x:D} {r:List D×Prop},Hj [] esz x=some r->Hj He esz x=some r:=λ{esz x r} h=>by
  unfold Hj at h⊢;split at h<;>try exact h
  split at h<;>try(cases h;done)
  rename_i h1;cases h1
 unfold D8 at h⊢;split at h<;>try(cases h;done)
 split at h<;>try(cases h;done)
 rename_i h1
 try rw[h1]
 try dsimp only
 split at h<;>try(cases h;done)
 rename_i h2
 try rw[h2]
 try dsimp only
 split at h<;>try(cases h;done)
 rename_i h3
 try rw[h3]
 try dsimp only
 split at h<;>try(cases h;done)
 rename_i h4
 try rw[h4]
 try dsimp only
 split at h<;>try(cases h;done)
 rename_i h5
 try rw[h5]
 try dsimp only
 split at h<;>try(cases h;done)
 rename_i h6
 try rw[src h6]
 try dsimp only
 split at h<;>try(cases h;done)
 cases h;exact⟨rfl,rfl⟩
theorem fK {H:Hp}{g:Nat}{env:Ar}{o:Oper}{e:Aw}{tt:Nat->Option Ay}(k:Nat)(htt:Co C.P tt){d:D}{p:Prop}(hw:CC ops env o=some true)(he:D8 tt [] g k (BG env) o.op=some (d,[e],p))(hp:p):
  CI C F ops H g env o d (some e):=by
 refine⟨λe' h=>by cases h;exact(Xa (He:=[]) he).2,λHe ρ a w m _ fr hne hr=>.inr ⟨Hv hr hw,.inl ?_⟩⟩;obtain⟨g',h1,h2⟩:=Ih hr;rw[Wq h1]at he;obtain⟨q1,_⟩:=Xa (He:=He) he;obtain⟨v,ρ',w',r1,r2⟩:=Sa htt m fr hne h2 q1 hp;exact⟨v,ρ',w',r1,r2.mem,r2.ext,r2.far,r2.rep⟩
end
noncomputable section
structure FI where
 nt:Nat
 res:List ResultVar
 code:Code
structure EV where
 tt:Nat->Option Ay
 xt:Nat->Option XI
 ft:Nat->Option FI
 np:Nat->Bool
 orc:Nat->List D->Option D
 mt:Nat->String->Option Nat
 nat:Nat->List D->Option D
structure FA (C:BC)(X:EV):Prop where
 tt:Co C.P X.tt
 xt:Ll C.P X.xt
 ft:∀f i,X.ft f=some i->∃fn,C.P.funcs[f]?=some fn/\fn.body=some i.code/\(fn.name == "runtime.NumGoroutine")=false/\DG fn.ntmps i.code=true/\fn.ntmps=i.nt/\fn.results.toList=i.res
 orc:∀f ds d,X.orc f ds=some d->AJ C f ds d/\Ak ds
 mixed:C.P.follows .mixedOrders=true
 mt:∀t name f,X.mt t name=some f->∀v w,(method (C.P.types.size+Made.depth) t v name).run C.P w=.ok (f,v) w
 nat:∀f ds d,X.nat f ds=some d->KH C f ds d
noncomputable def VF (env:Ar)(t:Nat):D:=List.rec (motive:=λ_=>D) .any (λp _ ih=>Bool.rec (motive:=λ_=>D) ih p.2 (Nat.beq p.1 t)) env
theorem Yk (t:Nat):∀env:Ar,VF env t=env.get t
 | []=>rfl
 |(k,d)::r=>by
  show Bool.rec (motive:=λ_=>D) (VF r t) d (Nat.beq k t)=_;rw[Yk t r];simp only[Ar.get];cases Nat.beq k t<;>rfl
noncomputable def M8 (env:Ar)(x:Operand):D:=match x with
 | .tmp t=>VF env t
 | .const v=>KN v
 | .global g=>.prim (.pointer (some ⟨g,0,none⟩))
 | .func f=>.clo (.func f) [] []
theorem OK (env:Ar):M8 env=BG env:=by
 funext x
 cases x<;>first|rfl|exact Yk _ _
noncomputable def Ra (i:Nat)(l:List Nat):Bool:=List.rec (motive:=λ_=>Bool) false (λj _ ih=>Bool.rec (motive:=λ_=>Bool) ih true (Nat.beq i j)) l
theorem Yd (i:Nat):∀l:List Nat,Ra i l=CX i l
 | []=>rfl
 |j::l=>by
  show Bool.rec (motive:=λ_=>Bool) (Ra i l) true (Nat.beq i j)=_;rw[Yd i l];simp only[CX];cases Nat.beq i j<;>rfl
abbrev IB:=Nat->List D->Hp->Nat->Option (D×Hp×Nat)
abbrev HX:=Nat->List D->Option D
def JY (b:Bool)(r:D×Hp×Nat):Option (D×Hp×Nat):=match b with
 |true=>some r
 |false=>none
def RY (tt:Nat->Option Ay)(g:Operand->D)(t:Nat)(x ix:Operand):Option D:=match tt t with
 |some i=>match i.ti with
  | .slice _ esz _ _=>match g ix with
   | .prim (.int _ j)=>match g x with
    | .sl _ sz es=>match Nat.beq sz esz&&decide (0<=j)with
     |true=>match es[j.toNat]? with
      |some d=>some (.pptr d)
      |none=>none
     |false=>none
    |_=>none
   |_=>none
  |_=>none
 |none=>none
def Ow (X:EV)(g:Operand->D)(H:Hp)(n:Nat)(op:Op):Option (D×Hp×Nat):=match GU X.tt g op with
 |some (d,_)=>JY (L4 X.tt g op) (d,H,n+1)
 |none=>none
def RX (X:EV)(g:Operand->D)(H:Hp)(n:Nat)(op:Op):Option (D×Hp×Nat):=match Fv X.tt X.xt g op with
 |some (d,_)=>JY (R3 X.xt g op) (d,H,n+1)
 |none=>none
def KE {α:Type}(a:Option α)(b:Option α):Option α:=match a with
 |some x=>some x
 |none=>b
def eC (X:EV)(cl:IB)(g:Operand->D)(H:Hp)(n:Nat)(op:Op):Option (D×Hp×Nat):=match op with
 | .call ⟨.value fop,args,_⟩=>match g fop with
  | .clo (.func f) first captured=>match X.nat f (first++args.toList.map g++captured)with
   |some d=>some (d,H,n+1)
   |none=>cl f (first++args.toList.map g++captured) H n
  |_=>none
 | .call ⟨.invoke r name,args,_⟩=>match g r with
  | .ifc t d0=>match X.mt t name with
   |some f=>cl f (d0::args.toList.map g) H n
   |none=>none
  |_=>none
 | .call ⟨.builtin .append,_,_⟩=>match D8 X.tt H n n g op with
  |some (d,H',_)=>JY (PR X.tt H g op) (d,H',n+1)
  |none=>none
 | .makeSlice _ _ _=>match Jn X.tt n n g op with
  |some (d,e,_)=>JY (VX X.tt g op) (d,e::H,n+1)
  |none=>none
 | .store _ _ _=>match Ez X.tt H g op with
  |some (k,e,_)=>JY (R4 X.tt H g op) (.prim (.tuple #[]),Hp.set H k e,n+1)
  |none=>none
 | .load _ _ | .alloc _ | .box _ _ | .buildSlice _ _ _=>match EF X.tt H n n g op with
  |some (d,ne,_)=>JY (Jr X.tt H g op) (d,Cx ne H,n+1)
  |none=>none
 | .indexAddr t x ix=>KE (Ow X g H n op) (match RY X.tt g t x ix with
  |some d=>some (d,H,n+1)
  |none=>none)
 | .makeInterface _ _ | .lookup _ _ _ _=>RX X g H n op
 | .binOp _ _ _ _ _=>KE (Ow X g H n op) (RX X g H n op)
 |_=>Ow X g H n op
def T6 (X:EV)(cl:IB)(ops:Array Oper)(s:St)(o:Oper):Option (D×Hp×Nat):=match CC ops s.env o with
 |some true=>eC X cl (M8 s.env) s.H s.n o.op
 |some false=>some (.prim (.tuple #[]),s.H,s.n+1)
 |none=>none
def Ld (X:EV)(cl:IB)(ops:Array Oper):List Oper->St->Option St
 | [],s=>some s
 |o::os,s=>match T6 X cl ops s o with
  |some (d,H',n')=>NS d λd=>Gs n' λn'=>Ld X cl ops os ⟨Ba s.env o.dst d,H',n'⟩
  |none=>none
def R0 (d:D)(H:Hp)(n:Nat):D->Hp->Nat->Prop:=λd1 H1 n1=>d1=d/\H1=H/\n1=n
def MV (C:BC)(cl:IB):Prop:=∀f ds H n d H' n',cl f ds H n=some (d,H',n')->Ca C f ds H n (R0 d H' n')
def LJ (C:BC)(cp:HX):Prop:=∀f ds d,cp f ds=some d->AJ C f ds d/\Ak ds
section
variable {C:BC} {F:Ab} {X:EV} {cl:IB} {cp:HX} {ops:Array Oper}
theorem K0 {b:Bool}{r r':D×Hp×Nat}(h:JY b r=some r'):b=true/\r=r':=by
 cases b
 ·cases h
 ·cases h;exact⟨rfl,rfl⟩
theorem W9 {tt:Nat->Option Ay}{g:Operand->D}{t:Nat}{x ix:Operand}{d:D}(h:RY tt g t x ix=some d):∃i e esz eby ez kk j nn es d',tt t=some i/\i.ti=.slice e esz eby ez/\g ix=.prim (.int kk j) /\
  g x=.sl nn esz es/\0<=j/\es[j.toNat]?=some d'/\d=.pptr d':=by
 unfold RY at h;split at h<;>try(cases h;done)
 rename_i i h1;split at h<;>try(cases h;done)
 rename_i e esz eby ez h2;split at h<;>try(cases h;done)
 rename_i kk j h3;split at h<;>try(cases h;done)
 rename_i nn sz es h4;split at h<;>try(cases h;done)
 rename_i h5;split at h<;>try(cases h;done)
 rename_i d' h6;cases h;simp only[BP,GP]at h5;obtain rfl:=B4 h5.1;exact⟨i,e,sz,eby,ez,kk,j,nn,es,d',h1,h2,h3,h4,h5.2,h6,rfl⟩
theorem ja (hX:FA C X)(hcl:MV C cl){s:St}{o:Oper}{os:List Oper}{K:St->Prop}{d:D}{H':Hp}{n':Nat}(h:T6 X cl ops s o=some (d,H',n'))
  (hk:BH C F ops os ⟨Ba s.env o.dst d,H',n'⟩ K):BH C F ops (o::os) s K:=by
 unfold T6 at h;rw[OK]at h;split at h<;>try(cases h;done)
 ·rename_i hw
  have pe:Ow X (BG s.env) s.H s.n o.op=some (d,H',n')->BH C F ops (o::os) s K:=λh=>by
   unfold Ow at h;split at h<;>try(cases h;done)
   rename_i hp;obtain⟨hb,hr⟩:=K0 h;cases hr;exact BH.p hX.tt hw hp (bY hp hb) hk
  have qe:RX X (BG s.env) s.H s.n o.op=some (d,H',n')->BH C F ops (o::os) s K:=λh=>by
   unfold RX at h;split at h<;>try(cases h;done)
   rename_i hp;obtain⟨hb,hr⟩:=K0 h;cases hr;exact BH.q hX.tt hX.xt hw hp (bZ hp hb) hk
  have le:∀r,(match EF X.tt s.H s.n s.n (BG s.env) o.op with
    |some (d,ne,_)=>JY (Jr X.tt s.H (BG s.env) o.op) (d,Cx ne s.H,s.n+1)
    |none=>none)=some r->r=(d,H',n')->BH C F ops (o::os) s K:=λr h hr=>by
   split at h<;>try(cases h;done)
   rename_i hp;obtain⟨hb,hr'⟩:=K0 h;rw[<-hr']at hr;cases hr;exact BH.l' s.n hX.tt hw hp (UT hp hb) hk
  unfold eC at h;split at h
  ·rename_i fop args tys ho
   split at h<;>try(cases h;done)
   rename_i f first captured hf
   split at h
   ·rename_i hn
    cases h;exact BH.nat hw ho hf rfl (hX.nat _ _ _ hn) hk
   refine yG hw ho hf rfl (hcl _ _ _ _ _ _ _ h) λd1 H1 n1 hΦ=>?_
   obtain⟨rfl,rfl,rfl⟩:=hΦ;exact hk
  ·rename_i r name args tys ho
   split at h<;>try(cases h;done)
   rename_i t d0 hr;split at h<;>try(cases h;done)
   rename_i f hf;refine yI hw ho hr (hX.mt _ _ _ hf) rfl (hcl _ _ _ _ _ _ _ h) λd1 H1 n1 hΦ=>?_
   obtain⟨rfl,rfl,rfl⟩:=hΦ;exact hk
  ·split at h<;>try(cases h;done)
   rename_i hp;obtain⟨hb,hr⟩:=K0 h;cases hr;exact fC s.n hX.tt hw hp (US hp hb) hk
  ·split at h<;>try(cases h;done)
   rename_i hp;obtain⟨hb,hr⟩:=K0 h;cases hr;exact fF s.n hX.tt hw hp (tj hp hb) hk
  ·split at h<;>try(cases h;done)
   rename_i hp;obtain⟨hb,hr⟩:=K0 h;cases hr;exact BH.store hX.tt hw hp (b5 hp hb) hk
  ·exact le _ h rfl
  ·exact le _ h rfl
  ·exact le _ h rfl
  ·exact le _ h rfl
  ·rename_i t x ix ho
   unfold KE at h;split at h
   ·rename_i hr;cases h;exact pe hr
   ·split at h<;>try(cases h;done)
    rename_i hi;cases h;obtain⟨i,e,esz,eby,ez,kk,j,nn,es,d',a1,a2,a3,a4,a5,a6,rfl⟩:=W9 hi;exact BH.idx hX.tt hw ho a1 a2 a3 a4 a5 a6 hk
  ·exact qe h
  ·exact qe h
  ·unfold KE at h
   split at h
   ·rename_i hr;cases h;exact pe hr
   ·exact qe h
  ·exact pe h
 ·rename_i hw
  cases h;exact BH.skip hw hk
theorem QC (hX:FA C X)(hcl:MV C cl){K:St->Prop}:∀ {os:List Oper} {s s':St},Ld X cl ops os s=some s'->K s'->BH C F ops os s K
 | [],s,s',h,hk=>by
  simp only[Ld,BL]at h;subst h;exact BH.nil hk
 |o::os,s,s',h,hk=>by
  simp only[Ld]at h;split at h<;>try(cases h;done)
  rename_i hs;rw[MY,LT]at h;exact ja hX hcl hs (QC hX hcl h hk)
theorem CI.l' {H:Hp}{g:Nat}{env:Ar}{o:Oper}{tt:Nat->Option Ay}(k:Nat)(htt:Co C.P tt){d:D}{ne:Option Aw}{p:Prop}(hw:CC ops env o=some true)(he:EF tt H g k (BG env) o.op=some (d,ne,p))(hp:p):CI C F ops H g env o d ne:=by
 refine⟨λe h=>by subst h;exact YL he,λHe ρ a w m hsub fr hne hr=>.inr ⟨Hv hr hw,.inl ?_⟩⟩;obtain⟨g',h1,h2⟩:=Ih hr;obtain⟨v,ρ',w',r1,r2⟩:=Zw (g:=g') hsub htt m fr hne h2 (by rw[<-jK h1];exact he) hp;exact⟨v,ρ',w',r1,r2⟩
theorem j8 {tt:Nat->Option Ay}{xt:Nat->Option XI}{g g':Operand->D}{op:Op}(h:∀x∈op.operands,g x=g' x):Fv tt xt g op=Fv tt xt g' op:=by
 cases op<;>simp only[Op.operands]at h<;>try rfl
 case binOp op t x y yt=>simp only[Fv];rw[h x (by simp),h y (by simp)]
 case makeInterface t x=>simp only[Fv];rw[h x (by simp)]
 case lookup t x ix ok=>simp only[Fv];rw[h x (by simp),h ix (by simp)]
theorem CI.q {H:Hp}{g:Nat}{env:Ar}{o:Oper}{tt:Nat->Option Ay}{xt:Nat->Option XI}(htt:Co C.P tt)(hxt:Ll C.P xt){d:D}{p:Prop}(hw:CC ops env o=some true)(he:Fv tt xt (BG env) o.op=some (d,p))(hp:p):
  CI C F ops H g env o d none:=by
 refine⟨by simp,λHe ρ a w m _ _ _ hr=>.inr ⟨Hv hr hw,.inl ?_⟩⟩;obtain⟨g',h1,h2⟩:=Ih hr;obtain⟨v,r1,r2⟩:=Zy (g:=g') htt hxt h2 (by rw[<-j8 h1];exact he) hp;exact⟨v,ρ,w,r1,m,.refl _ _ _,λ_ _ _=>rfl,r2⟩
def NA (b:Bool)(r:D×Option Aw):Option (D×Option Aw):=match b with
 |true=>some r
 |false=>none
theorem Pv {b:Bool}{r r':D×Option Aw}(h:NA b r=some r'):b=true/\r=r':=by
 cases b
 ·cases h
 ·cases h;exact⟨rfl,rfl⟩
def PT (X:EV)(g:Operand->D)(op:Op):Option (D×Option Aw):=match GU X.tt g op with
 |some (d,_)=>NA (L4 X.tt g op) (d,none)
 |none=>none
def R7 (X:EV)(g:Operand->D)(op:Op):Option (D×Option Aw):=match Fv X.tt X.xt g op with
 |some (d,_)=>NA (R3 X.xt g op) (d,none)
 |none=>none
def eM (X:EV)(cp:HX)(g:Operand->D)(H:Hp)(n:Nat)(op:Op):Option (D×Option Aw):=match op with
 | .call ⟨.value fop,args,_⟩=>match g fop with
  | .clo (.func f) first captured=>match X.nat f (first++args.toList.map g++captured)with
   |some d=>some (d,none)
   |none=>match cp f (first++args.toList.map g++captured)with
    |some d=>some (d,none)
    |none=>none
  |_=>none
 | .call ⟨.builtin .append,_,_⟩=>match D8 X.tt [] n n g op with
  |some (d,[e],_)=>NA (PR X.tt [] g op) (d,some e)
  |_=>none
 | .load _ _ | .alloc _ | .box _ _ | .buildSlice _ _ _=>match EF X.tt H n n g op with
  |some (d,ne,_)=>NA (Jr X.tt H g op) (d,ne)
  |none=>none
 | .indexAddr t x ix=>KE (PT X g op) (match RY X.tt g t x ix with
  |some d=>some (d,none)
  |none=>none)
 | .makeInterface _ _ | .lookup _ _ _ _=>R7 X g op
 | .binOp _ _ _ _ _=>KE (PT X g op) (R7 X g op)
 |_=>PT X g op
def OV (X:EV)(cp:HX)(ops:Array Oper)(H:Hp)(n:Nat)(env:Ar)(o:Oper):Option (D×Option Aw):=match CC ops env o with
 |some true=>eM X cp (M8 env) H n o.op
 |some false=>some (.prim (.tuple #[]),none)
 |none=>none
theorem Ss (hX:FA C X)(hcp:LJ C cp){H:Hp}{n:Nat}{env:Ar}{o:Oper}{d:D}{ne:Option Aw}(h:OV X cp ops H n env o=some (d,ne)):CI C F ops H n env o d ne:=by
 unfold OV at h;rw[OK]at h;split at h<;>try(cases h;done)
 ·rename_i hw
  have pe:PT X (BG env) o.op=some (d,ne)->CI C F ops H n env o d ne:=λh=>by
   unfold PT at h;split at h<;>try(cases h;done)
   rename_i hp;obtain⟨hb,hr⟩:=Pv h;cases hr;exact CI.p hX.tt hw hp (bY hp hb)
  have qe:R7 X (BG env) o.op=some (d,ne)->CI C F ops H n env o d ne:=λh=>by
   unfold R7 at h;split at h<;>try(cases h;done)
   rename_i hp;obtain⟨hb,hr⟩:=Pv h;cases hr;exact CI.q hX.tt hX.xt hw hp (bZ hp hb)
  have le:∀r,(match EF X.tt H n n (BG env) o.op with
    |some (d,ne,_)=>NA (Jr X.tt H (BG env) o.op) (d,ne)
    |none=>none)=some r->r=(d,ne)->CI C F ops H n env o d ne:=λr h hr=>by
   split at h<;>try(cases h;done)
   rename_i hp;obtain⟨hb,hr'⟩:=Pv h;rw[<-hr']at hr;cases hr;exact CI.l' n hX.tt hw hp (UT hp hb)
  unfold eM at h;split at h
  ·rename_i fop args tys ho
   split at h<;>try(cases h;done)
   rename_i f first captured hf
   split at h
   ·rename_i hn
    cases h;exact CI.nat hw ho hf rfl (hX.nat _ _ _ hn)
   split at h<;>try(cases h;done)
   rename_i hc;cases h;obtain⟨c1,c2⟩:=hcp _ _ _ hc;exact CI.call hw ho hf rfl c1 c2
  ·split at h<;>try(cases h;done)
   rename_i hp;obtain⟨hb,hr⟩:=Pv h;cases hr;exact fK n hX.tt hw hp (US hp hb)
  ·exact le _ h rfl
  ·exact le _ h rfl
  ·exact le _ h rfl
  ·exact le _ h rfl
  ·rename_i t x ix ho
   unfold KE at h;split at h
   ·rename_i hr;cases h;exact pe hr
   ·split at h<;>try(cases h;done)
    rename_i hi;cases h;obtain⟨i,e,esz,eby,ez,kk,j,nn,es,d',a1,a2,a3,a4,a5,a6,rfl⟩:=W9 hi;exact CI.idx hX.tt hw ho a1 a2 a3 a4 a5 a6
  ·exact qe h
  ·exact qe h
  ·unfold KE at h
   split at h
   ·rename_i hr;cases h;exact pe hr
   ·exact qe h
  ·exact pe h
 ·rename_i hw
  cases h;exact CI.skip hw
def Mv (X:EV)(cp:HX)(ops:Array Oper)(H:Hp)(n:Nat):List Nat->Ar->Hp->Option (Ar×Hp)
 | [],env,N=>some (env,N)
 |i::l,env,N=>match ops[i]? with
  |some o=>match OV X cp ops H (n+i) env o with
   |some (d,ne)=>NS d λd=>Mv X cp ops H n l (Ba env o.dst d) (Cx ne N)
   |none=>none
  |none=>none
theorem Xb (hX:FA C X)(hcp:LJ C cp){H:Hp}{n:Nat}:∀ {l:List Nat} {env env':Ar} {N N':Hp},Mv X cp ops H n l env N=some (env',N')->IZ C F ops H n l env N env' N'
 | [],env,env',N,N',h=>by
  simp only[Mv,BL,Bf]at h;obtain⟨rfl,rfl⟩:=h;exact .nil _ _
 |i::l,env,env',N,N',h=>by
  simp only[Mv]at h;split at h<;>try(cases h;done)
  rename_i o ho;split at h<;>try(cases h;done)
  rename_i d ne hs;rw[MY]at h;exact .cons ho (Ss hX hcp hs) (Xb hX hcp h)
def XN (ops:Array Oper)(done:List Nat):List Nat->Option (Nat×List Nat)
 | []=>none
 |i::r=>match Im (F6 ops i) done with
  |true=>some (i,r)
  |false=>match XN ops done r with
   |some (j,r')=>some (j,i::r')
   |none=>none
def VE (ops:Array Oper):Nat->List Nat->List Nat->List Nat
 | 0,done,rest=>done.reverse++rest
 |f+1,done,rest=>match XN ops done rest with
  |some (i,rest')=>VE ops f (i::done) rest'
  |none=>done.reverse++rest
def Uf (clo:List (Nat×List Nat)):List Nat->List Nat->List Nat->List Nat->List Nat×List Nat
 |_,[],pre,cur=>(pre.reverse,cur.reverse)
 |done,i::l,pre,cur=>match Im done (FQ clo i)with
  |true=>Uf clo (i::done) l pre (i::cur)
  |false=>Uf clo (i::done) l (i::(cur++pre)) []
def xQ (ops:Array Oper):List Nat×List Nat:=
 Uf (Iw ops (VE ops ops.size [] (List.range ops.size)) []) [] (VE ops ops.size [] (List.range ops.size)) [] []
def xc:Op->Bool
 | .store _ _ _=>true
 | .call ⟨.builtin .append,_,_⟩=>true
 |_=>false
def bs (ops:Array Oper):List Nat->Option Nat
 | []=>none
 |i::l=>match ops[i]? with
  |some o=>match xc o.op with
   |true=>some i
   |false=>bs ops l
  |none=>none
def eQ (i:Nat):List Nat->List Nat
 | []=>[]
 |j::l=>match Nat.beq i j with
  |true=>[]
  |false=>j::eQ i l
def xq (g:Operand->D):Op->Option Nat
 | .store _ x _=>match g x with
  | .optr k _ _ _ _=>some k
  |_=>none
 | .call ⟨.builtin .append,args,_⟩=>match args.toList with
  | [s,_]=>match g s with
   | .osl k _ _ _ _=>some k
   |_=>none
  |_=>none
 |_=>none
def U7 (X:EV)(e:Aw)(n:Nat)(g:Operand->D)(op:Op):Option (D×Aw):=match op with
 | .store _ _ _=>match Ez X.tt [e] g op with
  |some (_,e',_)=>match R4 X.tt [e] g op with
   |true=>some (.prim (.tuple #[]),e')
   |false=>none
  |none=>none
 |_=>match D8 X.tt [e] n n g op with
  |some (d,[e'],_)=>match PR X.tt [e] g op with
   |true=>some (d,e')
   |false=>none
  |_=>none
def II (ia:Option Nat)(i:Nat):Bool:=match ia with
 |some j=>Nat.beq i j
 |none=>false
def Ha (ia:Option Nat)(accE:Option Aw)(R:Hp)(b:Bool):Hp:=match ia with
 |none=>match accE with
  |some e=>match b with
   |true=>e::R
   |false=>R
  |none=>R
 |some _=>R
def Ip (X:EV)(cp:HX)(ops:Array Oper)(iw:Nat)(ia:Option Nat)(R:Hp)(clo:List Nat)(n:Nat):List Nat->Ar->Hp->Option Aw->Option Aw->Option (Ar×Hp×Aw×Aw)
 | [],env,N,accE,acc=>match accE with
  |some e=>match acc with
   |some e'=>some (env,N,e,e')
   |none=>none
  |none=>none
 |i::l,env,N,accE,acc=>match ops[i]? with
  |some o=>match Nat.beq i iw with
   |true=>match acc with
    |some _=>none
    |none=>match accE with
     |some e=>match CC ops env o with
      |some true=>match U7 X e (n+i) (M8 env) o.op with
       |some (d,e')=>Ip X cp ops iw ia R clo n l (Ba env o.dst d) N accE (some e')
       |none=>none
      |_=>none
     |none=>none
   |false=>match II ia i with
    |true=>match accE with
     |some _=>none
     |none=>match OV X cp ops R (n+i) env o with
      |some (d,some e)=>NS d λd=>Ip X cp ops iw ia R clo n l (Ba env o.dst d) N (some e) acc
      |_=>none
    |false=>match OV X cp ops (Ha ia accE R (CX i clo)) (n+i) env o with
     |some (d,ne)=>NS d λd=>Ip X cp ops iw ia R clo n l (Ba env o.dst d) (Cx ne N) accE acc
     |none=>none
  |none=>none
theorem K6 {iw:Nat}{ia:Option Nat}{R:Hp}{clo:List Nat}{n:Nat}:∀ {l:List Nat} {env env':Ar} {N N':Hp} {accE acc:Option Aw} {e e':Aw},Ip X cp ops iw ia R clo n l env N accE acc=some (env',N',e,e') ->
  (∀a,accE=some a->e=a)/\(∀a,acc=some a->e'=a)
 | [],_,_,_,_,_,_,_,_,h=>by
  simp only[Ip]at h;split at h<;>try(cases h;done)
  split at h<;>try(cases h;done)
  simp only[BL,Bf]at h;exact⟨λa ha=>by cases ha;exact h.2.2.1.symm,λa ha=>by cases ha;exact h.2.2.2.symm⟩
 |i::l,_,_,_,_,_,_,_,_,h=>by
  simp only[Ip]at h;split at h<;>try(cases h;done)
  split at h
  ·split at h<;>try(cases h;done)
   split at h<;>try(cases h;done)
   split at h<;>try(cases h;done)
   split at h<;>try(cases h;done)
   exact⟨(K6 h).1,by simp⟩
  ·split at h
   ·split at h<;>try(cases h;done)
    split at h<;>try(cases h;done)
    rw[MY]at h;exact⟨by simp,(K6 h).2⟩
   ·split at h<;>try(cases h;done)
    rw[MY]at h;exact K6 h
theorem mq (hX:FA C X){W:WR}{n:Nat}{env:Ar}{o:Oper}{d:D}(hw:CC ops env o=some true)(h:U7 X W.e n (BG env) o.op=some (d,W.e')):Jz C F ops W n env o d:=by
 unfold U7 at h;split at h
 ·split at h<;>try(cases h;done)
  rename_i he;split at h<;>try(cases h;done)
  rename_i hk;simp only[BL,Bf]at h;obtain⟨rfl,h2⟩:=h;rw[h2]at he;exact Jz.store hX.tt hw he (b5 he hk)
 ·split at h<;>try(cases h;done)
  rename_i he;split at h<;>try(cases h;done)
  rename_i hk;simp only[BL,Bf]at h;obtain⟨rfl,h2⟩:=h;rw[h2]at he;exact fL n hX.tt hw he (US he hk)
theorem QE {ia:Option Nat}{i:Nat}:II ia i=true↔ia=some i:=by
 cases ia with
 |none=>simp[II]
 |some j=>
  simp only[II,BL];exact⟨λh=>(B4 h).symm,λh=>by rw[h];exact NO _⟩
theorem Pt (hX:FA C X)(hcp:LJ C cp){W:WR}(hwa:W.ia≠some W.iw){clo:List Nat}(hclo:∀j∈clo,D2 ops W.iw j){n:Nat}:∀ {l:List Nat} {env env':Ar} {N N':Hp} {accE acc:Option Aw},
  Ip X cp ops W.iw W.ia W.R clo n l env N accE acc=some (env',N',W.e,W.e')->IG C F ops W n l env N env' N'
 | [],env,env',N,N',accE,acc,h=>by
  simp only[Ip]at h;split at h<;>try(cases h;done)
  split at h<;>try(cases h;done)
  simp only[BL,Bf]at h;obtain⟨rfl,rfl,_⟩:=h;exact .nil _ _
 |i::l,env,env',N,N',accE,acc,h=>by
  simp only[Ip,OK]at h;split at h<;>try(cases h;done)
  rename_i o ho;split at h
  ·rename_i hb
   have hb:=B4 hb;split at h<;>try(cases h;done)
   split at h<;>try(cases h;done)
   rename_i e0;split at h<;>try(cases h;done)
   rename_i hw;split at h<;>try(cases h;done)
   rename_i d e1 he;obtain⟨h1,h2⟩:=K6 h;rw[<-h1 _ rfl,<-h2 _ rfl]at he;exact .cons (ne:=none) ho (.inr (.inl ⟨hb,by rw[hb];exact hwa,rfl,mq hX hw he⟩)) (Pt hX hcp hwa hclo h)
  ·rename_i hb
   have hne:i≠W.iw:=λhi=>by rw[hi,NO]at hb;cases hb
   split at h
   ·rename_i hi
    have hi:=QE.1 hi;split at h<;>try(cases h;done)
    split at h<;>try(cases h;done)
    rename_i d e0 hs;rw[MY]at h;have h1:=(K6 h).1 _ rfl;rw[<-h1]at hs;exact .cons (ne:=none) ho (.inr (.inr ⟨hne,hi,rfl,Ss (F:=F) hX hcp hs⟩)) (Pt hX hcp hwa hclo h)
   ·rename_i hi
    have hi:W.ia≠some i:=λh=>by rw[QE.2 h]at hi;cases hi
    split at h<;>try(cases h;done)
    rename_i d ne hs;rw[MY]at h;have hacc:=(K6 h).1;refine .cons ho (.inl ⟨hne,hi,?_⟩) (Pt hX hcp hwa hclo h);have hst:=Ss (F:=F) hX hcp hs;unfold Ha at hst;cases hia:W.ia with
    |none=>
     rw[hia]at hst;cases accE with
     |none=>exact .inr hst
     |some a=>
      have:=hacc a rfl
      subst this;dsimp only at hst;cases hm:CX i clo with
      |true=>rw[hm]at hst;exact .inl ⟨rfl,hclo i (HS.1 hm),hst⟩
      |false=>rw[hm]at hst;exact .inr hst
    |some ia=>rw[hia]at hst;exact .inr hst
def bQ (s:St)(N1:Hp)(k:Nat):Option (Option Nat×Option Aw×Hp):=match Hp.get s.H k with
 |some e=>some (none,some e,Hp.del s.H k)
 |none=>match Hp.get N1 k with
  |some e=>some (some (e.g-s.n),none,s.H)
  |none=>none
def eG (n:Nat)(pre clo:List Nat)(e:Aw)(iw:Nat):Option Nat->Bool
 |none=>true
 |some ia=>Nat.beq e.g (n+ia)&&CX ia clo&&CX ia pre && !(Nat.beq ia iw)
def YK (X:EV)(cl:IB)(cp:HX)(ops:Array Oper)(pre suf:List Nat)(iw:Nat)(s:St):Option St:=match Mv X cp ops s.H s.n (eQ iw pre) s.env []with
 |some (env1,N1)=>match xq (M8 env1) (ops.getD iw default).op with
  |some k=>match bQ s N1 k with
   |some (ia,accE,R)=>match CX iw pre with
    |true=>match Ip X cp ops iw ia R (FQ (Iw ops (pre++suf) []) iw) s.n pre s.env [] accE none with
     |some (env,N,e,e')=>match (Nat.beq e'.g e.g||Nat.beq e'.g (s.n+iw))&&eG s.n pre (FQ (Iw ops (pre++suf) []) iw) e iw ia with
      |true=>Gs (s.n+ops.size) λn=>Ld X cl ops (suf.map λj=>ops.getD j default) ⟨env,N++e'::R,n⟩
      |false=>none
     |none=>none
    |false=>none
   |none=>none
  |none=>none
 |none=>none
def T3 (X:EV)(cl:IB)(cp:HX)(ops:Array Oper)(s:St):Option St:=match xQ ops with
 |(pre,suf)=>match IH ops pre suf with
  |true=>match (match bs ops pre with
    |some iw=>YK X cl cp ops pre suf iw s
    |none=>none)with
   |some s'=>some s'
   |none=>match Mv X cp ops s.H s.n pre s.env []with
    |some (env,N)=>Gs (s.n+ops.size) λn=>Ld X cl ops (suf.map λj=>ops.getD j default) ⟨env,N++s.H,n⟩
    |none=>none
  |false=>none
noncomputable def dd (e:Ar):List Nat->Ar:=List.rec (motive:=λ_=>List Nat->Ar) (λ_=>[]) (λp _ ih seen=>Bool.rec (motive:=λ_=>Ar) (p::ih (p.1::seen)) (ih seen) (Ra p.1 seen)) e
theorem nf (k:Nat)(d:D)(r:Ar)(seen:List Nat):dd ((k,d)::r) seen=match CX k seen with
  |true=>dd r seen
  |false=>(k,d)::dd r (k::seen):=by
 show Bool.rec (motive:=λ_=>Ar) _ _ (Ra k seen)=_;rw[Yd];cases CX k seen<;>rfl
theorem Ty:∀(e:Ar) (seen:List Nat) (t:Nat),t∉seen->(dd e seen).get t=e.get t
 | [],_,_,_=>rfl
 |(k,d)::r,seen,t,h=>by
  rw[nf];cases hb:CX k seen with
  |true=>
   dsimp only;have hk:k≠t:=λhk=>h (hk ▸ HS.1 hb)
   rw[Ty r seen t h,IM,AF hk]
  |false=>
   dsimp only;rw[IM,IM]
   by_cases hk:k=t
   ·rw[AG hk,AG hk]
   ·rw[AF hk,AF hk,Ty r (k::seen) t (by simp;exact⟨λh=>hk h.symm,h⟩)]
def NC (f:D->List Nat->List Nat):List D->List Nat->List Nat
 | [],acc=>acc
 |d::l,acc=>NC f l (f d acc)
def Jd:Nat->D->List Nat->List Nat
 | 0,_,acc=>acc
 |n+1,d,acc=>match d with
  | .osl k _ _ _ _=>k::acc
  | .optr k _ _ _ _=>k::acc
  | .agg l=>NC (Jd n) l acc
  | .tup l=>NC (Jd n) l acc
  | .clo _ a b=>NC (Jd n) a (NC (Jd n) b acc)
  | .gd _ d=>Jd n d acc
  | .ifc _ d=>Jd n d acc
  |_=>acc
def bi:Ar->List Nat->List Nat
 | [],acc=>acc
 |(_,d)::r,acc=>bi r (Jd 5 d acc)
def RN:Hp->List Nat->List Nat
 | [],acc=>acc
 |e::r,acc=>RN r (NC (Jd 5) e.es acc)
def KW (p:Aw->Bool):Hp->Hp
 | []=>[]
 |e::r=>match p e with
  |true=>e::KW p r
  |false=>KW p r
theorem Pw (p:Aw->Bool):∀H:Hp,(KW p H).Sublist H
 | []=>.slnil
 |e::r=>by
  simp only[KW];split
  ·exact(Pw p r).cons_cons e
  ·exact(Pw p r).cons e
def M7 {α:Type}:List Nat->(List Nat->α)->α
 | [],k=>k []
 |n::l,k=>Gs n λn=>M7 l λl=>k (n::l)
theorem QV {α:Type}:∀(l:List Nat) (k:List Nat->α),M7 l k=k l
 | [],_=>rfl
 |n::l,k=>by simp only[M7,LT,QV l]
def Oz {α:Type}:Hp->(Hp->α)->α
 | [],k=>k []
 |e::l,k=>Oz l λl=>k (e::l)
theorem Tp {α:Type}:∀(l:Hp) (k:Hp->α),Oz l k=k l
 | [],_=>rfl
 |e::l,k=>by simp only[Oz,Tp l]
def VT {α:Type}(n:Nat)(env:Ar)(H:Hp)(k:Hp->α):α:=M7 (RN H (bi env [])) λks=>Oz (KW (λe=>match Nat.blt e.g n with
  |true=>true
  |false=>CX e.k ks) H) k
theorem uL {α:Type}(n:Nat)(env:Ar)(H:Hp)(k:Hp->α):∃H':Hp,H'.Sublist H/\VT n env H k=k H':=⟨_,Pw _ _,by unfold VT;rw[QV,Tp]⟩
def VU {α:Type}(n:Nat)(d:D)(H:Hp)(k:Hp->α):α:=
 M7 (RN (KW (λe=>Nat.blt e.g n) H) (Jd 5 d [])) λks=>M7 (RN (KW (λe=>CX e.k ks) H) ks) λks=>Oz (KW (λe=>match Nat.blt e.g n with
  |true=>true
  |false=>CX e.k ks) H) k
theorem uM {α:Type}(n:Nat)(d:D)(H:Hp)(k:Hp->α):∃H':Hp,H'.Sublist H/\VU n d H k=k H':=⟨_,Pw _ _,by unfold VU;rw[QV,QV,Tp]⟩
def Og (f:St->Option (Exit×St))(n0:Nat):Nat->St->Option (Exit×St)
 | 0,_=>none
 |k+1,s=>VT n0 s.env s.H λH=>match f ⟨dd s.env [],H,s.n⟩with
  |some (.normal,s')=>Og f n0 k s'
  |r=>r
def Dq (X:EV)(cl:IB)(cp:HX)(lf:Nat):Code->St->Option (Exit×St)
 | .skip,s=>some (.normal,s)
 | .region _ ops draw,s=>match draw with
  |true=>match T3 X cl cp ops s with
   |some s'=>some (.normal,s')
   |none=>none
  |false=>match Ld X cl ops ops.toList s with
   |some s'=>some (.normal,s')
   |none=>none
 | .seq a b,s=>match Dq X cl cp lf a s with
  |some (.normal,s')=>Dq X cl cp lf b s'
  |r=>r
 | .cond c a b,s=>match M8 s.env c with
  | .prim (.bool true)=>Dq X cl cp lf a s
  | .prim (.bool false)=>Dq X cl cp lf b s
  |_=>none
 | .block i b,s=>match Dq X cl cp lf b s with
  |some (.exit j,s')=>match Nat.beq j i with
   |true=>some (.normal,s')
   |false=>some (.exit j,s')
  |r=>r
 | .loop b,s=>Og (Dq X cl cp lf b) (lf/1048576) (lf%1048576) s
 | .exit i,s=>some (.exit i,s)
 | .ret,s=>some (.ret,s)
 |_,_=>none
def isS (e:Exit)(s:St):Exit->St->Prop:=λe1 s1=>e1=e/\s1=s
theorem yE {c:Code}{s s2:St}{Q:Exit->St->Prop}(he:∀t,s2.env.get t=s.env.get t)(hH:s2.H=s.H)(hn:s2.n=s.n)(h:Ok C F c s2 Q):Ok C F c s Q:=
 λhd ρ a w hs=>h hd ρ a w ⟨by rw[hH];exact hs.mem,by rw[hn];exact hs.fresh,by rw[hH,hn];exact hs.gen,λt=>by rw[he,hH];exact hs.env t,hs.nt,hs.dfr⟩
theorem Ok.subH {c:Code}{env:Ar}{H H':Hp}{n:Nat}{Q:Exit->St->Prop}(hs:H'.Sublist H)(h:Ok C F c ⟨env,H',n⟩ Q):Ok C F c ⟨env,H,n⟩ Q:=
 λhd ρ a w hS=>by
  obtain⟨m,hO⟩:=hS.mem.sub hs;exact h hd ρ a w ⟨m,hS.fresh,λe he=>hS.gen e (hs.subset he),λt=>(hS.env t).anti hO,hS.nt,hS.dfr⟩
theorem Ca.subH {f:Nat}{ds:List D}{H H1 H2:Hp}{n n':Nat}{d:D}(hs:H2.Sublist H1)(h:Ca C f ds H n (R0 d H1 n')):Ca C f ds H n (R0 d H2 n'):=by
 refine⟨h.1,λF ρ w vs m hfr hg hvs hr=>(h.2 F ρ w vs m hfr hg hvs hr).mono ?_⟩;rintro e w' ⟨v,d',H',n2,ρ',rfl,⟨rfl,rfl,rfl⟩,m',x,fr,gn,rep⟩;obtain⟨m2,hO⟩:=m'.sub hs;exact⟨v,_,_,_,ρ',rfl,⟨rfl,rfl,rfl⟩,m2,⟨x.size,x.link,λb hb hb'=>⟨λh=>(x.pure b hb hb').1 (hO b h),(x.pure b hb hb').2⟩,x.shape⟩,fr,λe he=>gn e (hs.subset he),rep.anti hO⟩
theorem jJ (hX:FA C X)(hcl:MV C cl)(hcp:LJ C cp){i:Nat}{s s':St}(h:T3 X cl cp ops s=some s'):Ok C F (.region i ops true) s (isS .normal s'):=by
 unfold T3 at h;split at h;rename_i pre suf ho;split at h<;>try(cases h;done)
 rename_i hc;split at h
 ·rename_i s1 hh
  cases h
  revert hh
  intro h;split at h<;>try(cases h;done)
  rename_i iw _;unfold YK at h;simp only[OK]at h;split at h<;>try(cases h;done)
  split at h<;>try(cases h;done)
  split at h<;>try(cases h;done)
  rename_i k _ ia accE R hwb;split at h<;>try(cases h;done)
  rename_i hm;split at h<;>try(cases h;done)
  rename_i env N e e' hp;split at h<;>try(cases h;done)
  rename_i hg;rw[LT]at h;simp only[BP,Jl]at hg;obtain⟨hg1,hg2⟩:=hg;have hreach:∀j∈FQ (Iw ops (pre++suf) []) iw,D2 ops iw j:=λj hj=>Pd (Pk _ _ (by simp)) _ _ hj
  have hia:∀j,ia=some j->e.g=s.n+j/\D2 ops iw j/\j∈pre/\j≠iw:=λj hj=>by
   subst hj;simp only[eG,BP,Bi]at hg2;exact⟨B4 hg2.1.1.1,hreach j (HS.1 hg2.1.1.2),HS.1 hg2.1.2,λh=>by rw[h,NO]at hg2;cases hg2.2⟩
  have hacc:=(K6 hp).1;have hst:s.H.Perm (WR.start ⟨iw,ia,e,e',R⟩):=by
   unfold bQ at hwb;split at hwb
   ·rename_i e0 he
    cases hwb;obtain⟨H1,H2,q1,_,q3⟩:=Lv e0 he;rw[q3,hacc e0 rfl];unfold WR.start;rw[q1];exact HG
   ·split at hwb<;>try(cases hwb;done)
    cases hwb;exact List.Perm.refl _
  exact yC (W:=⟨iw,ia,e,e',R⟩) hX.mixed hc hst (λj hj=>⟨(hia j hj).1,(hia j hj).2.1,(hia j hj).2.2.1⟩) (HS.1 hm) (hg1.imp B4 B4)
   (Pt (W:=⟨iw,ia,e,e',R⟩) hX hcp (λh=>(hia iw h).2.2.2 rfl) hreach hp) (QC hX hcl h ⟨rfl,rfl⟩)
 ·split at h<;>try(cases h;done)
  rename_i env N hp;rw[LT]at h;exact yB hX.mixed hc (Xb hX hcp hp) (QC hX hcl h ⟨rfl,rfl⟩)
theorem Hu (hX:FA C X)(hcl:MV C cl)(hcp:LJ C cp){lf:Nat}:∀ {c:Code} {s s':St} {e:Exit},Dq X cl cp lf c s=some (e,s')->Ok C F c s (isS e s')
 | .skip,s,s',e,h=>by simp only[Dq,BL,Bf]at h;obtain⟨rfl,rfl⟩:=h;exact Ok.skip ⟨rfl,rfl⟩
 | .region i ops draw,s,s',e,h=>by
  simp only[Dq]at h;split at h
  ·split at h<;>try(cases h;done)
   rename_i hd;cases h;exact jJ hX hcl hcp hd
  ·split at h<;>try(cases h;done)
   rename_i hd;cases h;exact Ok.region (QC hX hcl hd ⟨rfl,rfl⟩)
 | .seq a b,s,s',e,h=>by
  simp only[Dq]at h;refine Ok.seq ?_;split at h
  ·rename_i s1 h1
   refine(Hu hX hcl hcp h1).mono ?_;rintro _ _ ⟨rfl,rfl⟩;exact Hu hX hcl hcp h
  ·rename_i hne
   refine(Hu hX hcl hcp h).mono ?_;rintro e1 s1 ⟨h1,h2⟩;rw[h1,h2];cases e with
   |normal=>exact Ah h (hne _)
   |_=>exact⟨rfl,rfl⟩
 | .cond c a b,s,s',e,h=>by
  simp only[Dq,OK]at h;have hr:∀x,BG s.env c=.prim (.bool x)->∀ρ a w,Bk C F ρ s a w->a.eval c=.bool x:=λx hx ρ a w hs=>by
   have:=DF hs.env c
   rw[hx]at this;generalize a.eval c=v at this;cases this;rfl
  split at h
  ·rename_i hx
   exact Ok.cond true (hr _ hx) (λ_=>Hu hX hcl hcp h) (λh=>by cases h)
  ·rename_i hx
   exact Ok.cond false (hr _ hx) (λh=>by cases h) (λ_=>Hu hX hcl hcp h)
  ·cases h
 | .block i b,s,s',e,h=>by
  simp only[Dq]at h;refine Ok.block ?_;split at h
  ·rename_i j s1 h1
   refine(Hu hX hcl hcp h1).mono ?_;rintro _ _ ⟨rfl,rfl⟩;dsimp only;split at h
   ·rename_i hb
    cases h;rw[AG (B4 hb)];exact⟨rfl,rfl⟩
   ·rename_i hb
    cases h;rw[AF (λhj=>by rw[hj,NO]at hb;cases hb)];exact⟨rfl,rfl⟩
  ·rename_i hne
   refine(Hu hX hcl hcp h).mono ?_;rintro e1 s1 ⟨h1,h2⟩;rw[h1,h2];cases e with
   |exit j=>exact Ah h (hne _ _)
   |_=>exact⟨rfl,rfl⟩
 | .loop b,s,s',e,h=>by
  simp only[Dq]at h;refine Ok.loop (λm s=>Og (Dq X cl cp lf b) (lf/1048576) m s=some (e,s')) h λm s1 hI=>?_
  cases m with
  |zero=>cases hI
  |succ m=>
   simp only[Og]at hI;obtain⟨H2,hsub,hgc⟩:=uL (α:=Option (Exit×St)) (lf/1048576) s1.env s1.H (λH=>match Dq X cl cp lf b ⟨dd s1.env [],H,s1.n⟩with
    |some (.normal,s')=>Og (Dq X cl cp lf b) (lf/1048576) m s'
    |r=>r)
   rw[hgc]at hI;refine yE (s2:=⟨dd s1.env [],s1.H,s1.n⟩) (λt=>Ty _ _ _ (by simp)) rfl rfl ?_;refine Ok.subH hsub ?_;split at hI
   ·rename_i s2 h2
    refine(Hu hX hcl hcp h2).mono ?_;rintro _ _ ⟨rfl,rfl⟩;exact⟨m,HK m,hI⟩
   ·rename_i hne
    refine(Hu hX hcl hcp hI).mono ?_;rintro e1 s1 ⟨h1,h2⟩;rw[h1,h2];cases e with
    |normal=>exact Ah hI (hne _)
    |_=>exact⟨rfl,rfl⟩
 | .exit i,s,s',e,h=>by simp only[Dq,BL,Bf]at h;obtain⟨rfl,rfl⟩:=h;exact Ok.exit ⟨rfl,rfl⟩
 | .ret,s,s',e,h=>by simp only[Dq,BL,Bf]at h;obtain⟨rfl,rfl⟩:=h;exact Ok.ret ⟨rfl,rfl⟩
 | .rangeFunc ..,_,_,_,h=>by simp[Dq]at h
 | .scope _,_,_,_,h=>by simp[Dq]at h
 | .label _,_,_,_,h=>by simp[Dq]at h
 | .goto _,_,_,_,h=>by simp[Dq]at h
 | .refuse _,_,_,_,h=>by simp[Dq]at h
def okR (tt:Nat->Option Ay)(s:St):List ResultVar->Bool
 | []=>true
 | .tmp _::r=>okR tt s r
 | .cell a t::r=>Jr tt s.H (λ_=>s.env.get a) (.load t (.tmp 0))&&okR tt s r
theorem RE {tt:Nat->Option Ay}{s:St}:∀ {rs:List ResultVar} {l:List D} {p:Prop},JN tt s rs=some (l,p)->okR tt s rs=true->p
 | [],_,_,h,_=>by simp only[JN,BL,Bf]at h;obtain⟨_,rfl⟩:=h;trivial
 |r::rs,l,p,h,hk=>by
  simp only[JN]at h;split at h<;>try(cases h;done)
  rename_i d q h1;split at h<;>try(cases h;done)
  rename_i l' q' h2;cases h;cases r with
  |tmp t=>
   simp only[Mj,BL,Bf]at h1;obtain⟨_,rfl⟩:=h1;exact⟨trivial,RE h2 hk⟩
  |cell a t=>
   simp only[okR,BP]at hk;simp only[Mj]at h1;split at h1<;>try(cases h1;done)
   rename_i he;cases h1;exact⟨UT he hk.1,RE h2 hk.2⟩
def RH (tt:Nat->Option Ay)(s:St)(rs:List ResultVar):Option (D×Hp×Nat):=match IJ tt s rs with
 |some (d,_)=>JY (okR tt s rs) (d,s.H,s.n)
 |none=>none
theorem Xc {tt:Nat->Option Ay}{s:St}{rs:List ResultVar}{d:D}{H:Hp}{n:Nat}(h:RH tt s rs=some (d,H,n)):∃p,IJ tt s rs=some (d,p)/\p/\H=s.H/\n=s.n:=by
 unfold RH at h;split at h<;>try(cases h;done)
 rename_i d' p hr;obtain⟨hb,he⟩:=K0 h;cases he;refine⟨p,hr,?_,rfl,rfl⟩;unfold IJ at hr;split at hr<;>try(cases hr;done)
 ·rename_i ha;cases hr;exact RE ha hb
 ·rename_i ha;cases hr;exact RE ha hb
def RO (X:EV)(cl:IB)(cp:HX)(lf f:Nat)(ds:List D)(H:Hp)(n:Nat):Option (D×Hp×Nat):=match X.ft f with
 |some i=>match Nat.ble ds.length i.nt with
  |true=>match Dq X cl cp (lf+n*1048576) i.code ⟨DH 0 ds,H,n⟩with
   |some (.normal,s)=>RH X.tt s i.res
   |some (.ret,s)=>RH X.tt s i.res
   |_=>none
  |false=>none
 |none=>none
def RF (X:EV)(cl:IB)(cp:HX)(lf f:Nat)(ds:List D):Option D:=match X.orc f ds with
 |some d=>some d
 |none=>match X.np f with
  |true=>none
  |false=>match Hd (G7 20) ds with
   |true=>match RO X cl cp lf f ds [] 0 with
    |some (d,H,_)=>NU 20 H d
    |none=>none
   |false=>none
def GT (X:EV)(lf:Nat):Nat->HX×IB
 | 0=>(λ_ _=>none,λ_ _ _ _=>none)
 |fu+1=>(RF X (GT X lf fu).2 (GT X lf fu).1 lf,λf ds H n=>match RF X (GT X lf fu).2 (GT X lf fu).1 lf f ds with
  |some d=>some (d,H,n+1)
  |none=>match RO X (GT X lf fu).2 (GT X lf fu).1 lf f ds H n with
   |some (d,H',n')=>VU n d H' λH2=>some (d,H2,n')
   |none=>none)
theorem Xm (hX:FA C X){lf f:Nat}{ds:List D}{H H':Hp}{n n':Nat}{d:D}(h:RO X cl cp lf f ds H n=some (d,H',n')):
  ∃fn i e s p,X.ft f=some i/\C.P.funcs[f]?=some fn/\fn.body=some i.code/\(fn.name == "runtime.NumGoroutine")=false/\DG fn.ntmps i.code=true/\Nat.ble ds.length fn.ntmps=true /\
   (e=.normal\/e=.ret)/\Dq X cl cp (lf+n*1048576) i.code ⟨DH 0 ds,H,n⟩=some (e,s)/\IJ X.tt s fn.results.toList=some (d,p)/\p/\H'=s.H/\n'=s.n:=by
 unfold RO at h;split at h<;>try(cases h;done)
 rename_i i hi;obtain⟨fn,a1,a2,a3,a4,a5,a6⟩:=hX.ft f i hi;split at h<;>try(cases h;done)
 rename_i hb;split at h<;>try(cases h;done)
 ·rename_i s hc
  obtain⟨p,b1,b2,b3,b4⟩:=Xc h;exact⟨fn,i,.normal,s,p,hi,a1,a2,a3,a4,by rw[a5];exact hb,.inl rfl,hc,by rw[a6];exact b1,b2,b3,b4⟩
 ·rename_i s hc
  obtain⟨p,b1,b2,b3,b4⟩:=Xc h;exact⟨fn,i,.ret,s,p,hi,a1,a2,a3,a4,by rw[a5];exact hb,.inr rfl,hc,by rw[a6];exact b1,b2,b3,b4⟩
theorem XO (hX:FA C X)(hcl:MV C cl)(hcp:LJ C cp){lf f:Nat}{ds:List D}{d:D}(h:RF X cl cp lf f ds=some d):AJ C f ds d/\Ak ds:=by
 unfold RF at h;split at h
 ·rename_i ho;cases h;exact hX.orc _ _ _ ho
 ·split at h<;>try(cases h;done)
  split at h<;>try(cases h;done)
  rename_i hp;split at h<;>try(cases h;done)
  rename_i d0 H0 n0 hr;obtain⟨fn,i,e,s,p,_,a1,a2,a3,a4,a5,a6,a7,a8,a9,rfl,rfl⟩:=Xm hX hr;obtain⟨z1,z2⟩:=KO h;refine⟨Ag.intro hX.tt a1 a2 a3 a4 a5 λF=>(Hu hX hcl hcp a7).mono ?_,⟨λx hx=>Gz (Ii hp x hx)⟩⟩;rintro _ _ ⟨rfl,rfl⟩;exact⟨a6,d0,p,a8,a9,d,z1,z2,rfl⟩
theorem Ca.ofPure {f:Nat}{ds:List D}{d:D}{H:Hp}{n:Nat}(h:AJ C f ds d)(hp:Ak ds):Ca C f ds H n (R0 d H (n+1)):=by
 refine⟨h.1,λF ρ w vs m hfr hg hvs hr=>(h.2 (AN F.X ρ H) w vs m.g (BU m.gn m.size) (λb hb=>m.own_lt hb) hvs λi x hx=>hp.out x (Ax hx) _ _ _ _ _ (hr i x hx)).mono ?_⟩;rintro e w' ⟨v,d',rfl,hb,rfl,hrep⟩;have x:BT ρ (AN F.X ρ H) w ρ (AN F.X ρ H) w':=⟨hb.size,λ_ _ _ h=>h,λb hb' hO=>⟨hO,hb.block b hb'⟩,λb cs T fz hh=>⟨cs,_,by
  rw[hb.block b (Array.getElem?_eq_some_iff.1 hh).1];exact hh,rfl⟩⟩
 exact⟨v,_,_,_,ρ,rfl,⟨rfl,rfl,rfl⟩,m.same x hb.os hb.tape hb.output hb.block,x,λk g hg=>hfr k g (by omega),λe he=>DE (hg e he),hrep.nol⟩
theorem Zv (hX:FA C X)(lf:Nat):∀fu,LJ C (GT X lf fu).1/\MV C (GT X lf fu).2
 | 0=>⟨λ_ _ _ h=>by simp[GT]at h,λ_ _ _ _ _ _ _ h=>by simp[GT]at h⟩
 |fu+1=>by
  obtain⟨hcp,hcl⟩:=Zv hX lf fu;refine⟨λf ds d h=>XO hX hcl hcp h,λf ds H n d H' n' h=>?_⟩;simp only[GT]at h;split at h
  ·rename_i d0 hp
   cases h;obtain⟨h1,h2⟩:=XO hX hcl hcp hp;exact .ofPure h1 h2
  ·split at h<;>try(cases h;done)
   rename_i d1 H1 n1 hrun;obtain⟨H2,hsub,hgc⟩:=uM (α:=Option (D×Hp×Nat)) n d1 H1 (λH2=>some (d1,H2,n1));rw[hgc]at h;cases h;refine Ca.subH hsub ?_;obtain⟨fn,i,e,s,p,_,a1,a2,a3,a4,a5,a6,a7,a8,a9,rfl,rfl⟩:=Xm hX hrun;refine Ca.intro hX.tt a1 a2 a3 a4 a5 λF _=>(Hu hX hcl hcp a7).mono ?_
   rintro _ _ ⟨rfl,rfl⟩;exact⟨a6,d,p,a8,a9,rfl,rfl,rfl⟩
theorem CD (hX:FA C X)(lf fu:Nat){f:Nat}{ds:List D}{d:D}(h:(GT X lf fu).1 f ds=some d):AJ C f ds d:=((Zv hX lf fu).1 f ds d h).1
end
end
inductive Bt (α:Type) where
 |nil
 |node (k:Nat) (v:α) (l r:Bt α)
def Bt.get {α:Type}:Bt α->Nat->Option α
 | .nil,_=>none
 | .node k v l r,t=>match Nat.beq t k with
  |true=>some v
  |false=>match Nat.ble t k with
   |true=>l.get t
   |false=>r.get t
def Bt.toL {α:Type}:Bt α->List (Nat×α)
 | .nil=>[]
 | .node k v l r=>(k,v)::(l.toL++r.toL)
theorem Bt.get_mem {α:Type}:∀ {b:Bt α} {t:Nat} {v:α},b.get t=some v->(t,v)∈b.toL
 | .nil,_,_,h=>by cases h
 | .node k v l r,t,u,h=>by
  simp only[Bt.get]at h;split at h
  ·rename_i hb;cases h;rw[B4 hb];exact CM ..
  ·split at h
   ·exact CQ _ (HF _ (Bt.get_mem h))
   ·exact CQ _ (List.mem_append_right _ (Bt.get_mem h))
theorem ya {P:Program}{b:Bt Ay}(h:b.toL.map (λp=>D3 P p.1)=b.toL.map (λp=>some p.2)):Co P b.get:=λt i hi=>by
 have hm:=Bt.get_mem hi;obtain⟨j,hj,he⟩:=NG hm
 have:=congrArg (λl=>l[j]?) h
 simp only[A0,BE hj,he,I6,BL]at this;exact this
theorem xy {P:Program}{b:Bt XI}(h:b.toL.map (λp=>Lf P p.1)=b.toL.map (λp=>some p.2)):Ll P b.get:=λt i hi=>by
 have hm:=Bt.get_mem hi;obtain⟨j,hj,he⟩:=NG hm
 have:=congrArg (λl=>l[j]?) h
 simp only[A0,BE hj,he,I6,BL]at this;exact this
def I8 (P:Program) (f:Nat) (i:FI):Prop:=∃fn,P.funcs[f]?=some fn/\fn.body=some i.code/\(fn.name == "runtime.NumGoroutine")=false/\DG fn.ntmps i.code=true/\fn.ntmps=i.nt/\fn.results.toList=i.res
def Ot (P:Program):Bt FI->Prop
 | .nil=>True
 | .node k v l r=>I8 P k v/\Ot P l/\Ot P r
theorem VN {P:Program}:∀ {b:Bt FI},Ot P b->∀f i,b.get f=some i->I8 P f i
 | .nil,_,_,_,h=>by cases h
 | .node k v l r,h,f,i,hi=>by
  simp only[Bt.get]at hi;split at hi
  ·rename_i hb;cases hi;rw[B4 hb];exact h.1
  ·split at hi
   ·exact VN h.2.1 f i hi
   ·exact VN h.2.2 f i hi
def Ke (f:Func):FI:=⟨f.ntmps,f.results.toList,f.body.getD .skip⟩
def fw (rd:Option Nat):Fence:={ Fence.wide with round:=rd }
theorem J6 {rd:Option Nat}{n:Nat}{P:Program}{f:FuncId}{args:Array Value}{w:World}{R:Ending->World->Prop}:CallsIn (fw rd) n P f args w R↔Calls P f args w R:=
 (show CallsIn (fw rd) n P f args w R↔CallsIn Fence.wide n P f args w R from Iff.rfl).trans callsIn_wide
theorem LB {rd:Option Nat}{n:Nat}:(fw rd).depth.isSome=true->1<=n:=λh=>by cases h
theorem P1 {P:Program}{ρ:Operand->Value}{o:Oper}{w w':World}{x:Next}(h:(execOp ρ o).run P w=.ok x w')(hx:∀d,x≠.defer d):∀c,o.op≠.defer c:=λc hc=>by
 unfold execOp at h;simp only[hc]at h;rw[run_bind]at h;split at h
 ·cases h;exact hx _ rfl
 ·cases h
section
variable {C:BC} {F:Ab} {ops:Array Oper} {rd:Option Nat} {Q:Exit->Act->World->Prop}
theorem Ng {P:Program}{o:Oper}{a:Act}{w w':World}{v:Value}{K:Act->World->Prop}(h:(execOp a.eval o).run P w=.ok (.value v) w')(hk:K (a.put o.dst v) w'):o.wpIn (fw rd) 0 P a w K Q:=by
 refine⟨λ_ _=>trivial,?_⟩;rw[Oper.semAt_eq _ _ _ (P1 h (by simp)),h];exact hk
theorem iT {P:Program}{o:Oper}{a:Act}{w w':World}{K:Act->World->Prop}(h:(execOp a.eval o).run P w=.ok .skip w')(hk:K (a.put o.dst undef) w'):o.wpIn (fw rd) 0 P a w K Q:=by
 refine⟨λ_ _=>trivial,?_⟩;rw[Oper.semAt_eq _ _ _ (P1 h (by simp)),h];exact hk
theorem iR {P:Program}{o:Oper}{a:Act}{w w':World}{f:Nat}{vs:Array Value}{K:Act->World->Prop}(h:(execOp a.eval o).run P w=.ok (.enter f vs) w')
  (hc:Calls P f vs w' λe w''=>∃v,e=.returned v/\K (a.put o.dst v) w''):o.wpIn (fw rd) 0 P a w K Q:=by
 refine⟨λ_ _=>trivial,?_⟩;rw[Oper.semAt_eq _ _ _ (P1 h (by simp)),h];refine⟨LB,J6.2 (hc.mono ?_)⟩;rintro e w'' ⟨v,rfl,hk⟩;exact hk
theorem iS {P:Program}{o:Oper}{a:Act}{w w':World}{l f:Nat}{tmps:Array Value}{as bd:Code}{K:Act->World->Prop}(h:(execOp a.eval o).run P w=.ok (.round l f tmps as bd) w')
  (hc:RoundIn (fw rd) 0 P l f tmps as bd w' λe w''=>∃v,e=.returned v/\K (a.put o.dst v) w''):o.wpIn (fw rd) 0 P a w K Q:=by
 refine⟨λ_ _=>trivial,?_⟩;rw[Oper.semAt_eq _ _ _ (P1 h (by simp)),h];refine⟨LB,hc.mono ?_⟩;rintro e w'' ⟨v,rfl,hk⟩;exact hk
theorem FL {R:Exit->Act->World->Prop}{l2:List Nat}(hR:∀e a w,R e a w->e=.normal/\wpOpsIn (fw rd) 0 C.P ops Q l2 a w)(hnd:∀(i:Nat) (o:Oper),ops[i]?=some o->∀c,o.op≠.defer c):
  ∀(l:List Nat) (a:Act) (w:World),wpOps C.P ops R l a w->wpOpsIn (fw rd) 0 C.P ops Q (l++l2) a w
 | [],a,w,h=>(hR _ _ _ h).2
 |i::l,a,w,h=>by
  have hlet:¬LetsOut R:=λ⟨a,w,h⟩=>by have:=(hR _ _ _ h).1;cases this
  simp only[wpOps]at h;simp only[D5,wpOpsIn];cases ho:ops[i]? with
  |none=>simp only[ho]at h;exact FL hR hnd l a w h
  |some o=>
   simp only[ho]at h;dsimp only;split
   ·rename_i hw
    rw[AG hw]at h;rcases h with h|⟨_,h⟩
    ·unfold Oper.wp at h
     refine⟨λ_ _=>trivial,?_⟩;rw[Oper.semAt_eq _ _ _ (hnd i o ho)]
     revert h
     generalize(execOp a.eval o).run C.P w=r;intro h;unfold Oper.upon at h;unfold Oper.uponIn;split at h
     ·exact FL hR hnd l _ _ h
     ·exact FL hR hnd l _ _ h
     ·exact FL hR hnd l _ _ h
     ·refine⟨LB,J6.2 (h.mono ?_)⟩
      intro e w'' h;cases e with
      |returned v=>exact FL hR hnd l _ _ h
      |panicked c=>have:=(hR _ _ _ h).1;cases this
      |outgrown=>exact Ah h hlet
     ·exact⟨LB,λc cs hr=>by
       obtain⟨v,w',h1,h2⟩:=h c cs;exact⟨v,w',FL hR hnd l _ _ h1,stepsIn_wide.2 h2⟩⟩
     ·have:=(hR _ _ _ h).1;cases this
     ·exact h.elim
    ·exact Ah h hlet
   ·rename_i hw
    rw[AF hw]at h;exact⟨λ_ _=>trivial,FL hR hnd l _ _ h⟩
theorem SM {Q:Exit->Act->World->Prop}:∀(l:List Nat) (fuel:Nat) (L:Array Bool) (a:Act) (w:World),L.size=ops.size->l.length<=fuel->(∀i,i<ops.size->(Ls L i↔i∉l))->l.Nodup ->
  (∀A i B,l=A++i::B->(∀j∈F6 ops i,j<ops.size/\j∉i::B)/\∀j∈A,D2 ops i j)->(∀i∈l,i<ops.size)->Cl ops L ->
  wpOpsIn (fw rd) 0 C.P ops Q l a w->wpAnyIn (fw rd) 0 C.P .any ops Q fuel L a w
 | [],fuel,L,a,w,hs,_,hl,_,_,_,_,h=>by
  have hr:Region.ready .any ops L=[]:=by
   apply List.eq_nil_iff_forall_not_mem.2;intro i hi;obtain⟨h1,h2,_⟩:=F3.1 hi
   have:=(hl i h1).2 (by simp)
   unfold Ls at this;rw[Az,Bn (by omega)]at this h2;simp at this h2;rw[this]at h2;cases h2
  cases fuel with
  |zero=>exact⟨hr,h⟩
  |succ fuel=>exact⟨λ_=>h,λi hi=>by rw[hr]at hi;simp at hi⟩
 |i::l,0,_,_,_,_,hf,_,_,_,_,_,_=>by simp at hf
 |i::l,fuel+1,L,a,w,hs,hf,hl,hnd,hd,hlt,hcl,h=>by
  have hil:=hlt i (by simp);have hLi:∀j,j<ops.size->(L.getD j true=true↔Ls L j):=λj hj=>by
   unfold Ls;rw[Az,Az,Bn (by omega)];simp
  have hready:∀j,j∈Region.ready .any ops L↔j=i:=by
   intro j;rw[F3];constructor
   ·rintro⟨h1,h2,h3⟩
    have hj:j∈i::l:=by
     apply DU;intro hn
     have:=(hLi j h1).2 ((hl j h1).2 hn)
     rw[h2]at this;cases this
    apply DU;intro hne;have hjl:j∈l:=by simpa[hne]using hj
    obtain⟨A,B,rfl⟩:=Ey hjl;have hreach:=(hd (i::A) j B (by simp)).2 i (by simp)
    have:=HP hs hcl hreach h3
    exact Ah ((hl i hil).1 this) (by simp)
   ·rintro rfl
    refine⟨hil,?_,λk hk=>?_⟩
    ·cases hb:L.getD j true with
     |false=>rfl
     |true=>exact Ah ((hl j hil).1 ((hLi j hil).1 hb)) (by simp)
    ·have hk2:=(hd [] j l rfl).1 k hk
     exact(hl k hk2.1).2 hk2.2
  have hset:∀j,Ls (L.setIfInBounds i true) j↔j=i\/Ls L j:=λj=>Ls.set (by omega)
  refine⟨λh0=>?_,λj hj=>?_⟩
  ·have:=(hready i).2 rfl
   rw[h0]at this;simp at this
  ·obtain rfl:=(hready j).1 hj
   rw[wpOpsIn_cons]at h;obtain⟨n1,n2⟩:=List.nodup_cons.1 hnd;refine wpOpIn_mono (λa w hk=>?_) h;refine SM l fuel _ a w (by simp[hs]) (by simp at hf;omega) (λk hk2=>?_) n2 (λA k B hAB=>?_) (λk hk2=>hlt k (by simp[hk2])) ?_ hk
   ·rw[hset,hl k hk2]
    by_cases hkj:k=j
    ·subst hkj;simp[n1]
    ·simp[hkj]
   ·obtain⟨q1,q2⟩:=hd (j::A) k B (by simp[hAB])
    exact⟨q1,λx hx=>q2 x (by simp[hx])⟩
   ·intro k hk2 hks x hx
    have hk3:Ls (L.setIfInBounds j true) k:=by
     unfold Ls;rw[Az,Bn (by simp;omega)]at hk2⊢;simpa using hk2
    show Ls _ x;rw[hset];rcases(hset k).1 hk3 with rfl|hk3
    ·exact .inr ((F3.1 hj).2.2 x hx)
    ·exact .inr (hcl k ((hLi k hks).2 hk3) hks x hx)
theorem g8 {Q:Exit->Act->World->Prop}{H:Hp}{n:Nat}{env:Ar}{rs:List DN}{suf:List Nat}(ho:Ob ops rs suf)(hgen:∀e∈H,e.g<n)(hd:∀r∈rs,De F.nt r.o=true)
  (hst:∀A r B,rs=A++r::B->ops[r.i]?=some r.o/\CI C F ops H (n+r.i) (Gb A env) r.o r.d r.ne)
  (hend:∀(L:Array Bool) (a:Act) (w:World) (ρ:Lk) (He:Hp),L.size=ops.size->(∀r∈rs,Ls L r.i)->DI C F H n env rs L a w ρ He->wpOpsIn (fw rd) 0 C.P ops Q suf a w):
  ∀(fuel:Nat) (L:Array Bool) (a:Act) (w:World) (ρ:Lk) (He:Hp),L.size=ops.size->((rs.map (·.i)++suf).filter (λi=>!L.getD i false)).length<=fuel->Cl ops L->(∀i∈suf,¬Ls L i) ->
   DI C F H n env rs L a w ρ He->wpAnyIn (fw rd) 0 C.P .any ops Q fuel L a w:=by
 intro fuel
 induction fuel with
 |zero=>
  intro L a w ρ He hL hf hc hs hi;have h0:(rs.map (·.i)++suf).filter (λi=>!L.getD i false)=[]:=FF (by omega);have hall:∀r∈rs,Ls L r.i:=λr hr=>by
   have:=List.filter_eq_nil_iff.1 h0 r.i (by simp;exact .inl ⟨r,hr,rfl⟩)
   simpa[Ls]using this
  have hsuf:suf=[]:=by
   apply List.eq_nil_iff_forall_not_mem.2;intro i hi2
   have:=List.filter_eq_nil_iff.1 h0 i (by simp[hi2])
   exact hs i hi2 (by simpa[Ls]using this)
  subst hsuf;refine SM [] 0 L a w hL (Ai _) (λi hi2=>⟨λ_=>by simp,λ_=>?_⟩) .nil (λA i B h=>by cases A<;>simp at h) (by simp) hc (hend L a w ρ He hL hall hi)
  have:=ho.all i hi2
  simp at this;obtain⟨r,hr,rfl⟩:=this;exact hall r hr
 |succ fuel ih=>
  intro L a w ρ He hL hf hc hs hi
  by_cases hall:∀r∈rs,Ls L r.i
  ·refine SM suf (fuel+1) L a w hL ?_ (λi hi2=>?_) ?_ (λA i B hAB=>⟨λj hj=>?_,λj hj=>ho.suf A i B hAB j (by simp[hj])⟩) (λi hi2=>ho.lt i (by simp[hi2])) hc (hend L a w ρ He hL hall hi)
   ·refine BU ?_ hf
    rw[List.filter_append,Bh];rw[(List.filter_eq_self (l:=suf)).2 λi hi2=>by have:=hs i hi2;unfold Ls at this;simpa using this];omega
   ·constructor
    ·intro h1 h2;exact hs i h2 h1
    ·intro h1
     have:=ho.all i hi2
     rcases List.mem_append.1 this with h|h
     ·obtain⟨r,hr,rfl⟩:=List.mem_map.1 h;exact hall r hr
     ·exact Ah h h1
   ·exact(Ef.1 ho.nodup).2.1
   ·have hA:=ho.first (rs.map (·.i)++A) i B (by simp[hAB]) j hj
    refine⟨ho.lt j (by rw[hAB];rcases List.mem_append.1 hA with h|h<;>simp[h]),λhB=>?_⟩;have hnd:=ho.nodup;rw[hAB,<-Di,Ef]at hnd;exact hnd.2.2 j hA j hB rfl
  ·have hnot:∃r∈rs,¬Ls L r.i:=by
    apply DU;intro hn;exact hall λr hr=>DU λh=>hn ⟨r,hr,h⟩
   have hLt:∀j,j<ops.size->(L.getD j true=true↔Ls L j):=λj hj=>by
    unfold Ls;rw[Az,Az,Bn (by omega)];simp
   have hsome:Region.ready .any ops L≠[]:=by
    obtain⟨r0,hr0,hn0⟩:=hnot
    have:∀X:List DN,∀Y,rs=X++Y->(∃r∈Y,¬Ls L r.i)->(∀r∈X,Ls L r.i)->∃A r B,rs=A++r::B/\¬Ls L r.i/\∀r∈A,Ls L r.i:=by
     intro X Y
     induction Y generalizing X with
     |nil=>rintro _ ⟨r,hr,_⟩ _;simp at hr
     |cons y Y ihY=>
      intro hXY hex hX
      by_cases hy:Ls L y.i
      ·obtain⟨r,hr,hrn⟩:=hex
       rcases BF.1 hr with rfl|hr
       ·exact Ah hy hrn
       ·exact ihY (X++[y]) (by simp[hXY]) ⟨r,hr,hrn⟩ (λr hr=>by
         rcases List.mem_append.1 hr with h|h
         ·exact hX r h
         ·simp at h;subst h;exact hy)
      ·exact⟨X,y,Y,hXY,hy,hX⟩
    obtain⟨A,r,B,h1,h2,h3⟩:=this [] rs rfl ⟨r0,hr0,hn0⟩ (by simp);intro hnil;have hrlt:=ho.lt r.i (by rw[h1];simp)
    have:r.i∈Region.ready .any ops L:=by
     rw[F3];refine⟨hrlt,?_,λj hj=>?_⟩
     ·cases hb:L.getD r.i true with
      |false=>rfl
      |true=>exact Ah ((hLt r.i hrlt).1 hb) h2
     ·have:=ho.first (A.map (·.i)) r.i (B.map (·.i)++suf) (by rw[h1];simp) j hj
      obtain⟨r',hr',rfl⟩:=List.mem_map.1 this;exact h3 r' hr'
    rw[hnil]at this;simp at this
   refine⟨λh0=>Ah h0 hsome,λi hir=>?_⟩;obtain⟨hilt,hin,hid⟩:=F3.1 hir;have hnL:¬Ls L i:=λh=>by rw[(hLt i hilt).2 h]at hin;cases hin
   have hpre:i∈rs.map (·.i):=by
    rcases List.mem_append.1 (ho.all i hilt)with h|h
    ·exact h
    ·obtain⟨A,B,hAB⟩:=Ey h
     obtain⟨r0,hr0,hn0⟩:=hnot
     have:=HP hL hc (ho.suf A i B hAB r0.i (HF _ (List.mem_map.2 ⟨r0,hr0,rfl⟩))) hid
     exact Ah this hn0
   obtain⟨r,hr,rfl⟩:=List.mem_map.1 hpre;obtain⟨A,B,hAB⟩:=Ey hr;obtain⟨hor,hgen2,hsteady⟩:=hst A r B hAB;have hset:∀j,Ls (L.setIfInBounds r.i true) j↔j=r.i\/Ls L j:=λj=>Ls.set (by omega)
   have hndr:(rs.map (·.i)).Nodup:=(Ef.1 ho.nodup).1;have hsub:∀e∈H,e∈He:=λe he=>hi.perm.mem_iff.2 (by simp[he])
   have hfr:∀k,ρ k (n+r.i)=none:=λk=>by
    apply DU;intro hk;obtain⟨r',h1,h2,h3⟩:=hi.fresh k (n+r.i) (by omega) hk
    have:r'.i=r.i:=by omega
    rw[this]at h2;exact hnL h2
   have hne:∀e∈He,e.g≠n+r.i:=λe he hg=>by
    rcases List.mem_append.1 (hi.perm.mem_iff.1 he)with h|h
    ·obtain⟨r',h1,h2⟩:=List.mem_filterMap.1 h
     split at h2
     ·rename_i hl
      obtain⟨A',B',hAB'⟩:=Ey h1
      have:=(hst A' r' B' hAB').2.1 e h2
      have:r'.i=r.i:=by omega
      rw[this]at hl;exact hnL hl
     ·cases h2
    ·have:=hgen e h;omega
   have next:∀v ρ' w',Ir C F He ρ w (n+r.i) r.d r.ne v ρ' w'->wpAnyIn (fw rd) 0 C.P .any ops Q fuel (L.setIfInBounds r.i true) (a.put r.o.dst v) w':=by
    intro v ρ' w' p;have hi':=hi;rw[hAB]at hi' hndr;have hdst:=ho.dst;rw[hAB]at hdst;have hn':=DI.next hi' (by omega) hnL hndr hdst (hd r hr) p;rw[<-hAB]at hn';refine ih _ _ _ ρ' (Cx r.ne He) (by simp[hL]) ?_ ?_ (λj hj=>?_) hn'
    ·have:((rs.map (·.i)++suf).filter (λi=>!(L.setIfInBounds r.i true).getD i false)).length<((rs.map (·.i)++suf).filter (λi=>!L.getD i false)).length:=by
      have sub:(rs.map (·.i)++suf).filter (λi=>!(L.setIfInBounds r.i true).getD i false)=((rs.map (·.i)++suf).filter (λi=>!L.getD i false)).filter (λi=>!Nat.beq i r.i):=by
       rw[List.filter_filter];apply List.filter_congr;intro x hx;have h1:=hset x;unfold Ls at h1
       by_cases hxr:x=r.i
       ·subst hxr
        have:(L.setIfInBounds r.i true).getD r.i false=true:=h1.2 (.inl rfl)
        simp[this]
       ·have hb:Nat.beq x r.i=false:=by
         cases hb:Nat.beq x r.i with
         |false=>rfl
         |true=>exact Ah (B4 hb) hxr
        rw[hb]
        by_cases hlx:L.getD x false=true
        ·rw[h1.2 (.inr hlx),hlx];rfl
        ·have:¬(L.setIfInBounds r.i true).getD x false=true:=λh=>hlx ((h1.1 h).resolve_left hxr)
         simp only[Bool.not_eq_true]at this hlx;rw[this,hlx];rfl
      rw[sub];apply List.length_filter_lt_length_iff_exists.2;exact⟨r.i,by rw[List.mem_filter];exact⟨by simp;exact .inl ⟨r,hr,rfl⟩,by unfold Ls at hnL;simpa using hnL⟩,by simp⟩
     omega
    ·intro k hk2 hks x hx
     have hk3:Ls (L.setIfInBounds r.i true) k:=by
      unfold Ls;rw[Az,Bn (by simp;omega)]at hk2⊢;simpa using hk2
     show Ls _ x;rw[hset];rcases(hset k).1 hk3 with rfl|hk3
     ·exact .inr (hid x hx)
     ·exact .inr (hc k ((hLt k hks).2 hk3) hks x hx)
    ·rw[hset]
     rintro(rfl|h)
     ·have hnd:=ho.nodup
      rw[Ef]at hnd;exact hnd.2.2 r.i (List.mem_map.2 ⟨r,hr,rfl⟩) r.i hj rfl
     ·exact hs j hj h
   unfold wpOpIn;simp only[hor];rcases hsteady He ρ a w hi.mem hsub hfr hne (hi.look ho hL hc hAB hir)with⟨hw,hn0,hrep⟩|⟨hw,hout⟩
   ·rw[AF (by rw[hw];simp)]
    exact⟨λ_ _=>trivial,next undef ρ w ⟨by rw[hn0];exact hi.mem,by rw[hn0];exact .refl _ _ _,λ_ _ _=>rfl,by rw[hn0];exact hrep⟩⟩
   ·rw[AG hw]
    rcases hout with⟨v,ρ',w',h1,h2⟩|⟨f,vs,h1,h2⟩
    ·exact Ng h1 (next v ρ' w' h2)
    ·refine iR h1 (h2.mono ?_)
     rintro e w' ⟨v,rfl,ρ',h3⟩;exact⟨v,rfl,next v ρ' w' h3⟩
theorem vk {R:Exit->Act->World->Prop}{i:Nat}{s:St}{pre suf:List Nat}{envF:Ar}{N:Hp}(hm:C.P.follows .mixedOrders=true)(hc:IH ops pre suf=true)
  (hpre:IZ C F ops s.H s.n pre s.env [] envF N)
  (h:(∀j∈suf,j<ops.size)->∀(ρ:Lk) (a:Act) (w:World),Bk C F ρ ⟨envF,N++s.H,s.n+ops.size⟩ a w->wpOpsIn (fw rd) 0 C.P ops R suf a w) (hd:ops.toList.all (De F.nt)=true) (ρ:Lk) (a:Act) (w:World) (hs:Bk C F ρ s a w):
  (Code.region i ops true).wpIn (fw rd) 0 C.P R a w:=by
 obtain⟨rs,h1,h2,h3,h4⟩:=hpre.recs;have hor:∀r∈rs,ops[r.i]?=some r.o:=λr hr=>by
  obtain⟨A,B,hAB⟩:=Ey hr;exact(h4 A r B hAB).1
 have ho:=S9 h1 hor hc;have hds:∀r∈rs,De F.nt r.o=true:=λr hr=>by
  refine CS.1 hd r.o ?_
  have:=hor r hr
  exact Array.mem_toList_iff.2 (IP this)
 have hrep:∀j,(Array.replicate ops.size false).getD j false=false:=λj=>by
  rw[Az];rw[NK];split<;>rfl
 have hnL:∀j,¬Ls (Array.replicate ops.size false) j:=λj hj=>by unfold Ls at hj;rw[hrep]at hj;cases hj
 refine wpIn_region_any hm ?_;have hin:DI C F s.H s.n s.env rs (Array.replicate ops.size false) a w.drew ρ s.H:=by
  refine⟨hs.mem.drew,?_,λr _ hl=>Ah hl (hnL _),λt _=>(hs.env t).mono (.drew _ _ _),λk g hg hk=>Ah (hs.fresh k g hg) hk,hs.nt,hs.dfr⟩
  have:rs.filterMap (λr=>if(Array.replicate ops.size false).getD r.i false then r.ne else none)=[]:=by
   rw[VO];intro r _;rw[hrep];rfl
  rw[this];exact List.Perm.refl _
 refine g8 ho hs.gen hds h4 ?_ ops.size _ a w.drew ρ s.H (by simp) ?_ ?_ (λj _=>hnL j) hin
 ·intro L a' w' ρ' He hL hall hi
  have hN:He.Perm (N++s.H):=by
   refine hi.perm.trans (List.Perm.append_right _ ?_);have e:rs.filterMap (λr=>if L.getD r.i false then r.ne else none)=rs.filterMap (·.ne):=MG λr hr=>by
    have:=hall r hr;unfold Ls at this;rw[this];rfl
   rw[e,h3]
   have:=K7 rs []
   rw[DB]at this;exact this.symm
  refine h (λj hj=>ho.lt j (by simp[hj])) ρ' a' w' ⟨hi.mem.perm hN,?_,?_,λt=>?_,hi.nt,hi.dfr⟩
  ·intro k g hg
   apply DU;intro hk;obtain⟨r,hr,_,he⟩:=hi.fresh k g (by simp at hg;omega) hk
   have:=ho.lt r.i (by simp;exact .inl ⟨r,hr,rfl⟩)
   simp at hg;omega
  ·intro e he
   rcases List.mem_append.1 he with he|he
   ·rw[h3]at he
    have he:=(K7 rs []).mem_iff.1 he;rw[DB]at he;obtain⟨r,hr,hre⟩:=List.mem_filterMap.1 he;obtain⟨A,B,hAB⟩:=Ey hr
    have:=(h4 A r B hAB).2.1 e hre
    have:=ho.lt r.i (by simp;exact .inl ⟨r,hr,rfl⟩)
    show e.g<s.n+ops.size;omega
   ·have:=hs.gen e he
    show e.g<s.n+ops.size;omega
  ·show AV ρ' (AN F.X ρ' (N++s.H)) w' (envF.get t) _
   rw[<-AN.perm hN,h2]
   by_cases hw:∃r∈rs,r.o.dst=some t
   ·obtain⟨r,hr,hrd⟩:=hw
    rw[Nw rs s.env t ho.dst r hr hrd];exact hi.reps r hr (hall r hr) t hrd
   ·rw[Kx rs s.env t λr hr hrd=>hw ⟨r,hr,hrd⟩]
    exact hi.old t λr hr _ hrd=>hw ⟨r,hr,hrd⟩
 ·refine BU (List.length_filter_le _ _) ?_
  have hsub:∀(l:List Nat) (n:Nat),l.Nodup->(∀x∈l,x<n)->l.length<=n:=by
   intro l n
   induction n generalizing l with
   |zero=>intro _ h;cases l with
    |nil=>simp
    |cons x l=>exact Ah (h x (by simp)) (by omega)
   |succ n ihn=>
    intro hnd hlt;have h1:=ihn (l.erase n) (hnd.erase n) λx hx=>by
     have:=hlt x (List.mem_of_mem_erase hx)
     have:x≠n:=λh=>by subst h;exact(VQ hnd) hx
     omega
    have:=List.length_erase (a:=n) (l:=l)
    split at this<;>omega
  exact hsub _ _ ho.nodup ho.lt
 ·intro k hk
  have:k<ops.size\/¬k<ops.size:=by omega
  rcases this with hlt|hlt
  ·rw[Az,NK,AG hlt]at hk;cases hk
  ·intro h;exact Ah h hlt
theorem KA {R Q:Exit->Act->World->Prop}(hR:∀e a w,R e a w->e=.normal/\Q .normal a w)(hnd:∀(i:Nat) (o:Oper),ops[i]?=some o->∀c,o.op≠.defer c):
  ∀(fuel:Nat) (L:Array Bool) (a:Act) (w:World),wpAny C.P .any ops R fuel L a w->wpAnyIn (fw rd) 0 C.P .any ops Q fuel L a w
 | 0,L,a,w,h=>⟨h.1,(hR _ _ _ h.2).2⟩
 |fuel+1,L,a,w,h=>⟨λh0=>(hR _ _ _ (h.1 h0)).2,λi hi=>by
   have hlet:¬LetsOut R:=λ⟨a,w,h⟩=>by have:=(hR _ _ _ h).1;cases this
   have hq:=h.2 i hi;unfold wpOp at hq;unfold wpOpIn;split
   ·rename_i ho;simp only[ho]at hq;exact KA hR hnd fuel _ a w hq
   ·rename_i o ho
    simp only[ho]at hq;split
    ·rename_i hw
     rw[AG hw]at hq;rcases hq with hq|⟨_,hq⟩
     ·unfold Oper.wp at hq
      refine⟨λ_ _=>trivial,?_⟩;rw[Oper.semAt_eq _ _ _ (hnd i o ho)]
      revert hq
      generalize(execOp a.eval o).run C.P w=r;intro hq;unfold Oper.upon at hq;unfold Oper.uponIn;split at hq
      ·exact KA hR hnd fuel _ _ _ hq
      ·exact KA hR hnd fuel _ _ _ hq
      ·exact KA hR hnd fuel _ _ _ hq
      ·refine⟨LB,J6.2 (hq.mono ?_)⟩
       intro e w'' h;cases e with
       |returned v=>exact KA hR hnd fuel _ _ _ h
       |panicked c=>have:=(hR _ _ _ h).1;cases this
       |outgrown=>exact Ah h hlet
      ·exact⟨LB,λc cs hr=>by
        obtain⟨v,w',h1,h2⟩:=hq c cs;exact⟨v,w',KA hR hnd fuel _ _ _ h1,stepsIn_wide.2 h2⟩⟩
      ·have:=(hR _ _ _ hq).1;cases this
      ·exact hq.elim
     ·exact Ah hq hlet
    ·rename_i hw
     rw[AF hw]at hq;exact⟨λ_ _=>trivial,KA hR hnd fuel _ _ _ hq⟩⟩
end
end Go.Ide
