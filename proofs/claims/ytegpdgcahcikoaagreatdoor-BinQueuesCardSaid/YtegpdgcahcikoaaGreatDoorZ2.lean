/- The layer of own lemmas and contracts, part 2. -/
import Derived.Test.YtegpdgcahcikoaaGreatDoorZ1
import Derived.Lib.AppendStr
import Derived.Laws.StructEq
import Derived.MapKept
import Derived.OrdersIn
import Derived.RangeFuncLeaves
import Derived.RangeFuncSeq
set_option linter.unusedVariables false
set_option linter.unusedSimpArgs false
namespace Go.Ide
open Go.RowKit
section
variable {C:BD} {F:Ac} {ρ:Lk} {H:Hp} {w:World}
theorem Aq.rename {H1 H2:Hp}{e:Ay}{b k n:Nat}(m:Aq C F ρ (H1++e::H2) w)(hb:ρ e.k e.g=some b)(hn:ρ k n=none)(hne:∀e'∈H1++e::H2,e'.g≠n):
  Aq C F (ρ.put k n b) (⟨k,n,e.T,e.sz,e.es⟩::(H1++H2)) w/\BT ρ (AN F.X ρ (H1++e::H2)) w (ρ.put k n b) (AN F.X (ρ.put k n b) (⟨k,n,e.T,e.sz,e.es⟩::(H1++H2))) w:=by
 have hold:∀e'∈H1++e::H2,∀b',ρ.put k n b e'.k e'.g=some b'↔ρ e'.k e'.g=some b':=λe' he' b'=>by
  unfold Lk.put;rw[AF λh=>hne e' he' h.2]
 have hmem:∀e',e'∈H1++e::H2↔e'=e\/e'∈H1++H2:=λe'=>by simp;constructor<;>(rintro(h|h|h)<;>simp[h])
 have hO:∀b',AN F.X (ρ.put k n b) (⟨k,n,e.T,e.sz,e.es⟩::(H1++H2)) b'↔AN F.X ρ (H1++e::H2) b':=by
  intro b';unfold AN;refine or_congr Iff.rfl ⟨?_,?_⟩
  ·rintro⟨e',he',h⟩
   rcases BA.1 he' with rfl|he'
   ·rw[EO]at h;exact⟨e,by simp,by rw[hb];exact h⟩
   ·have hm:=(hmem e').2 (.inr he')
    exact⟨e',hm,(hold e' hm b').1 h⟩
  ·rintro⟨e',he',h⟩
   rcases(hmem e').1 he' with rfl|h2
   ·rw[hb]at h;cases h
    exact⟨_,CA ..,EO _ _ _ _⟩
   ·exact⟨e',CF _ h2,(hold e' he' b').2 h⟩
 have hOe:AN F.X (ρ.put k n b) (⟨k,n,e.T,e.sz,e.es⟩::(H1++H2))=AN F.X ρ (H1++e::H2):=funext λb=>propext (hO b)
 have x:BT ρ (AN F.X ρ (H1++e::H2)) w (ρ.put k n b) (AN F.X (ρ.put k n b) (⟨k,n,e.T,e.sz,e.es⟩::(H1++H2))) w:=
  ⟨Ai _,λ_ _ _ h=>Ng hn h,λb' _ h=>⟨by rw[hOe];exact h,rfl⟩,λ_ cs _ _ h=>⟨cs,_,h,rfl⟩⟩
 have hinj:=m.hok.inj;rw[LP,D7]at hinj;obtain⟨p1,⟨p2,p3⟩,p4⟩:=hinj;refine⟨⟨⟨λe' he'=>?_,?_,λe' he' b' hb'=>?_⟩,m.os,m.tape,m.output,m.size,m.blk,m.xlt,m.g0,m.gn,m.gw,λ_ _ _ h=>x.link _ _ _ (m.lnk _ _ _ h),m.shp⟩,x⟩
 ·rcases BA.1 he' with rfl|h2
  ·obtain⟨cs,a1,a2⟩:=m.at (e:=e) (by simp) hb
   have z:=a2.mono x;exact .inr ⟨b,cs,EO _ _ _ _,a1,z.len,z.siz,z.one,z.rep⟩
  ·have hm:=(hmem e').2 (.inr h2)
   rcases m.hok.ent e' hm with⟨a1,a2⟩|⟨b',cs,a1,a2,a3⟩
   ·exact .inl ⟨a1,by unfold Lk.put;rw[AF λh=>hne e' hm h.2];exact a2⟩
   ·exact .inr ⟨b',cs,(hold e' hm b').2 a1,a2,a3.mono x⟩
 ·rw[D7,LP]
  have tr:∀ {e1 e2:Ay},e1∈H1++e::H2->e2∈H1++e::H2->(∀b b',ρ e1.k e1.g=some b->ρ e2.k e2.g=some b'->b≠b')->∀b1 b2,ρ.put k n b e1.k e1.g=some b1->ρ.put k n b e2.k e2.g=some b2->b1≠b2:=
   λh1 h2 h b1 b2 hb1 hb2=>h b1 b2 ((hold _ h1 b1).1 hb1) ((hold _ h2 b2).1 hb2)
  refine⟨λe2 he2 b1 b2 hb1 hb2=>?_,?_,?_,?_⟩
  ·rw[EO]at hb1;cases hb1
   have hm:=(hmem e2).2 (.inr he2);have hb2:=(hold _ hm b2).1 hb2;rcases List.mem_append.1 he2 with h|h
   ·exact λhe=>p4 e2 h e (by simp) b2 b hb2 hb he.symm
   ·exact p2 e2 h b b2 hb hb2
  ·exact p1.imp_of_mem λh1 h2 h=>tr (by simp[h1]) (by simp[h2]) h
  ·exact p3.imp_of_mem λh1 h2 h=>tr (by simp[h1]) (by simp[h2]) h
  ·exact λe1 h1 e2 h2=>tr (by simp[h1]) (by simp[h2]) (p4 e1 h1 e2 (by simp[h2]))
 ·rcases BA.1 he' with rfl|h2
  ·rw[EO]at hb';cases hb'
   exact m.hok.own e (by simp) b hb
  ·have hm:=(hmem e').2 (.inr h2)
   exact m.hok.own e' hm b' ((hold _ hm b').1 hb')
theorem Aq.ghost {k n T sz:Nat}(m:Aq C F ρ H w)(hn:ρ k n=none):Aq C F ρ (⟨k,n,T,sz,[]⟩::H) w/\AN F.X ρ (⟨k,n,T,sz,[]⟩::H)=AN F.X ρ H:=by
 have hO:AN F.X ρ (⟨k,n,T,sz,[]⟩::H)=AN F.X ρ H:=funext λb=>propext (by
  unfold AN;refine or_congr Iff.rfl ⟨?_,λ⟨e,he,h⟩=>⟨e,CF _ he,h⟩⟩;rintro⟨e,he,h⟩;rcases BA.1 he with rfl|he
  ·rw[hn]at h;cases h
  ·exact⟨e,he,h⟩)
 refine⟨⟨⟨λe he=>?_,?_,λe he b hb=>?_⟩,m.os,m.tape,m.output,m.size,m.blk,m.xlt,m.g0,m.gn,m.gw,m.lnk,m.shp⟩,hO⟩
 ·rw[hO]
  rcases BA.1 he with rfl|he
  ·exact .inl ⟨rfl,hn⟩
  ·exact m.hok.ent e he
 ·refine D7.2 ⟨λe he b b' hb _=>?_,m.hok.inj⟩
  rw[hn]at hb;cases hb
 ·rcases BA.1 he with rfl|he
  ·rw[hn]at hb;cases hb
  ·exact m.hok.own e he b hb
def IB (H:Hp)(esz:Nat):D->Option (List D×Prop)
 | .sl _ sz es=>some (es,sz=esz)
 | .osl k g sz i len=>match Hp.get H k with
  |some e=>some ((e.es.drop i).take len,g=e.g/\sz=e.sz/\sz=esz/\i+len<=e.es.length)
  |none=>none
 | .prim (.slice none 0 0)=>some ([],True)
 |_=>none
structure N5 (ρ:Lk)(O:Nat->Prop)(w:World)(esz:Nat)(es:List D)(a:Addr)(f:Nat->Value):Prop where
 cell:∀j,j<es.length*esz->w.cell? (a.add j)=some (f j)
 one:∀j,j<es.length*esz->one (f j)=true
 siz:∀(i:Nat) (e:D),es[i]?=some e->e.cells.length=esz
 rep:∀(i:Nat) (e:D) (j:Nat) (d:D),es[i]?=some e->e.cells[j]?=some d->AW ρ O w d (f (i*esz+j))
structure Na (ρ:Lk)(O:Nat->Prop)(w:World)(esz:Nat)(es:List D)(f:Nat->Value):Prop where
 one:∀j,j<es.length*esz->one (f j)=true
 siz:∀(i:Nat) (e:D),es[i]?=some e->e.cells.length=esz
 rep:∀(i:Nat) (e:D) (j:Nat) (d:D),es[i]?=some e->e.cells[j]?=some d->AW ρ O w d (f (i*esz+j))
theorem N5.srcv {ρ:Lk}{O:Nat->Prop}{w:World}{esz:Nat}{es:List D}{a:Addr}{f:Nat->Value}(h:N5 ρ O w esz es a f):Na ρ O w esz es f:=⟨h.one,h.siz,h.rep⟩
theorem d9 {esz:Nat}{d:D}{v:Value}{es:List D}{p:Prop}(m:Aq C F ρ H w)(h:IB H esz d=some (es,p))(hp:p)(hr:AW ρ (AN F.X ρ H) w d v):
  (v=.slice none 0 0/\es=[])\/∃a c f,v=.slice (some a) es.length c/\es.length<=c/\N5 ρ (AN F.X ρ H) w esz es a f:=by
 unfold IB at h;split at h<;>try(cases h;done)
 ·cases h
  cases hr with
  |nil=>exact .inl ⟨rfl,rfl⟩
  |emp a=>exact .inr ⟨a,0,λ_=>undef,rfl,by simp,λj hj=>by simp at hj,λj hj=>by simp at hj,λi e h=>by simp at h,λi e j d h=>by simp at h⟩
  |sl f hl hc hO hb hz hcell ho hh=>
   subst hp;refine .inr ⟨_,_,f,by rw[hl],by omega,λj hj=>?_,λj hj=>ho j (by rw[<-hl];exact hj),hz,hh⟩;rw[Hs];exact hcell j (by rw[<-hl];exact hj)
 ·rename_i k g sz i len
  split at h<;>try(cases h;done)
  rename_i e he;cases h;obtain⟨rfl,rfl,rfl,hle⟩:=hp;obtain⟨hm,hk⟩:=Hp.get_mem he;cases hr with
  |onil=>exact .inl ⟨rfl,by simp⟩
  |osl hr hb hc hs hmx=>
   rename_i cap b T cs fz;rw[<-hk]at hr;obtain⟨cs',h1,h2⟩:=m.at hm hr;rw[hb]at h1;cases h1;have hlen:((e.es.drop i).take len).length=len:=by simp;omega
   have hin:∀j,j<len*e.sz->i*e.sz+j<cs.size:=λj hj=>by
    have:(i+len)*e.sz<=e.es.length*e.sz:=CM _ hle
    rw[Bw]at this;have:=h2.len;omega
   have hget:∀(q:Nat) (d:D),((e.es.drop i).take len)[q]?=some d->e.es[i+q]?=some d:=λq d hq=>by
    rw[Eo]at hq;split at hq
    ·rwa [Hc]at hq
    ·cases hq
   refine .inr ⟨_,cap,λj=>cs.getD (i*e.sz+j) undef,by rw[hlen],by omega,λj hj=>?_,λj hj=>?_,λq d hq=>h2.siz _ d (hget q d hq),λq d j c hq hc=>?_⟩
   ·rw[hlen]at hj
    have:=hin j hj
    rw[Hs];simp[World.cell?,hb,this]
   ·rw[hlen]at hj
    have h':=hin j hj
    have:=h2.one (i*e.sz+j) (cs[i*e.sz+j]) (Bn h')
    simpa[A0,Bn h']using this
   ·have:=h2.rep (i+q) d j c (hget q d hq) hc
    rw[Bw,Ed]at this;exact this
 ·cases h
  cases hr;exact .inl ⟨rfl,rfl⟩
def EI (tt:Nat->Option Az)(H:Hp)(n k:Nat)(g:Operand->D):Op->Option (D×Hp×Prop)
 | .call ⟨.builtin .append,args,tys⟩=>match args.toList with
  | [s,x]=>match tys.toList with
   | [t,t']=>match Nat.beq t t' with
    |true=>match tt t with
     |some i=>match i.ti with
      | .slice e esz eby _=>match IB H esz (g x)with
       |some (news,p)=>match g s with
        | .osl k1 g1 sz 0 len=>match Hp.get H k1 with
         |some e1=>some (.osl k n esz 0 (len+news.length),⟨k,n,e,esz,e1.es.take len++news⟩::Hp.del H k1,
           p/\g1=e1.g/\sz=e1.sz/\sz=esz/\e1.T=e/\len<=e1.es.length/\(len+news.length)*eby<=140737488355328/\1<=eby/\1<=esz)
         |none=>none
        | .prim (.slice none 0 0)=>some (.osl k n esz 0 news.length,⟨k,n,e,esz,news⟩::H,p/\news.length*eby<=140737488355328/\1<=eby/\1<=esz)
        |_=>none
       |none=>none
      |_=>none
     |none=>none
    |false=>none
   |_=>none
  |_=>none
 |_=>none
theorem Sh {P:Program}{t e:Nat}{ty:Nat}{i:TypeInfo}(ht:P.underlying t=some (.slice e))(hi:P.info? e=some i){ao:Option Addr}{len cap:Nat}(hlc:len<=cap):
  (Builtin.append_ #[t,t] ty #[.slice ao len cap,.slice none 0 0]).run P w=.ok (.slice ao len cap) w:=by
 cases ao<;>simp[Builtin.append_,Cm ht,sizeOf,typeInfo,hi,Builtin.lenOf,hlc,run_firstCells_none,storeCells]
theorem an {O:Nat->Prop}{e:Ay}{k g T len:Nat}{news:List D}{f:Nat->Value}{cs cs':Array Value}(h:DB ρ O w e cs)(hl:len<=e.es.length)(hs:Na ρ O w e.sz news f)
  (hlow:∀q,q<len*e.sz->cs'.getD q undef=cs.getD q undef) (hmid:∀j,j<news.length*e.sz->cs'.getD (len*e.sz+j) undef=f j) (hsize:(len+news.length)*e.sz<=cs'.size)
  (hone:∀(q:Nat) (v:Value),cs'[q]?=some v->one v=true):DB ρ O w ⟨k,g,T,e.sz,e.es.take len++news⟩ cs':=by
 have hlen:(e.es.take len).length=len:=by simp;omega
 have hget:∀(i:Nat) (d:D),(e.es.take len++news)[i]?=some d->(i<len/\e.es[i]?=some d)\/(len<=i/\news[i-len]?=some d):=λi d hd=>by
  rcases BI i len with hi|hi
  ·rw[Gh (by omega),Eo,AH hi]at hd;exact .inl ⟨hi,hd⟩
  ·rw[E7 (by omega),hlen]at hd;exact .inr ⟨hi,hd⟩
 refine⟨by dsimp only;rw[Bk,hlen];exact hsize,λi d hd=>?_,hone,λi d j c hd hc=>?_⟩
 ·rcases hget i d hd with⟨_,h1⟩|⟨_,h1⟩
  ·exact h.siz i d h1
  ·exact hs.siz _ d h1
 ·dsimp only at hd⊢
  rcases hget i d hd with⟨hi,h1⟩|⟨hi,h1⟩
  ·have hj:j<e.sz:=by rw[<-h.siz i d h1];exact(List.getElem?_eq_some_iff.1 hc).1
   rw[hlow]
   ·exact h.rep i d j c h1 hc
   ·have:(i+1)*e.sz<=len*e.sz:=CM _ hi
    rw[Bw]at this;omega
  ·have hj:j<e.sz:=by rw[<-hs.siz _ d h1];exact(List.getElem?_eq_some_iff.1 hc).1
   have hil:i-len<news.length:=(List.getElem?_eq_some_iff.1 h1).1;have e1:i*e.sz+j=len*e.sz+((i-len)*e.sz+j):=by
    have:i=len+(i-len):=by omega
    conv=>lhs;rw[this,Bw]
    omega
   rw[e1,hmid]
   ·exact hs.rep _ d j c h1 hc
   ·have:(i-len+1)*e.sz<=news.length*e.sz:=CM _ hil
    rw[Bw]at this;omega
structure ME (P:Program)(t e esz eby:Nat)(ez:Value):Prop where
 under:P.underlying t=some (.slice e)
 inf:∃i:TypeInfo,P.info? e=some i/\i.size=esz/\i.bytes=eby/\i.zero=some ez
 zs:ez.cells.size=esz
 zo:∀(j:Nat) (x:Value),ez.cells[j]?=some x->one x=true
theorem P6 {z:Array Value}(hz:∀(j:Nat) (x:Value),z[j]?=some x->one x=true)(n:Nat):∀(q:Nat) (v:Value),(Builtin.zeroCells z n)[q]?=some v->one v=true:=λq v hv=>by
 unfold Builtin.zeroCells at hv;rw[Array.getElem?_map]at hv;cases hr:(Array.range (n*z.size))[q]? with
 |none=>rw[hr]at hv;cases hv
 |some i=>
  rw[hr]at hv;simp only[JY,BM]at hv;have hi:i<n*z.size:=by
   obtain⟨h1,h2⟩:=Array.getElem?_eq_some_iff.1 hr;simp at h2 h1;omega
  have hpos:0<z.size:=by
   rcases Dh z.size with h|h
   ·rw[h]at hi;simp at hi
   ·exact h
  have hlt:=B4 i hpos;rw[<-hv,getElem!_pos z (i%z.size) hlt];exact hz (i%z.size) _ (Bn hlt)
theorem im {P:Program}{t e esz eby ty:Nat}{ez:Value}(T:ME P t e esz eby ez){b len cap c:Nat}{cs:Array Value}(hb:w.heap[b]?=some (.cells cs e (0,0)))(hlc:len*esz<=cs.size){news:List D}{a:Addr}{f:Nat->Value}{O:Nat->Prop}
  (hs:N5 ρ O w esz news a f) (hg:cap<len+news.length) (hby:(len+news.length)*eby<=140737488355328) (h1:1<=eby):
  (Builtin.append_ #[t,t] ty #[.slice (some ⟨b,0,none⟩) len cap,.slice (some a) news.length c]).run P w =
   .ok (.slice (some ⟨w.heap.size,0,none⟩) (len+news.length) (grownCap w (len+news.length) cap e))
    (w.drew.alloc (.cells ((cs.toList.take (len*esz)).toArray++((List.range (news.length*esz)).map f).toArray++Builtin.zeroCells ez.cells (grownCap w (len+news.length) cap e-(len+news.length))) e)):=by
 obtain⟨i,i1,rfl,rfl,i4⟩:=T.inf;have hmx:len+news.length<=140737488355328:=BR (by have:=Cc (len+news.length) h1;omega) hby;exact run_append_grow (P:=P) w t ty e i ez T.under i1 i4 ⟨b,0,none⟩ len cap (cs.toList.take (len*i.size)) (by simp;omega) (λj v hv=>by
   rw[Eo]at hv;split at hv
   ·rw[Hs]
    simp only[JS]at hv;simp[World.cell?,hb,hv]
   ·cases hv) a news.length c ((List.range (news.length*i.size)).map f) (by simp) (λj v hv=>by
   rw[A7]at hv
   by_cases hj:j<news.length*i.size
   ·rw[JU hj]at hv;cases hv;exact hs.cell j hj
   ·rw[Dk (by simp;omega)]at hv;cases hv) hg (by omega) (growslice_fits hg hby)
structure R2 (P:Program)(w:World)(t u ty e esz eby:Nat)(ez sv:Value)(n:Nat)(f:Nat->Value):Prop where
 room:∀(b len cap:Nat) (cs:Array Value),w.heap[b]?=some (.cells cs e (0,0))->len+n<=cap->len*esz+n*esz<=cs.size ->
  (Builtin.append_ #[t,u] ty #[.slice (some ⟨b,0,none⟩) len cap,sv]).run P w=.ok (.slice (some ⟨b,0,none⟩) (len+n) cap) (w.setRow b (cs.toList.take (len*esz)++(List.range (n*esz)).map f++cs.toList.drop (len*esz+((List.range (n*esz)).map f).length)).toArray)
 grow:∀(b len cap:Nat) (cs:Array Value),w.heap[b]?=some (.cells cs e (0,0))->len*esz<=cs.size->cap<len+n->(len+n)*eby<=140737488355328 ->
  (Builtin.append_ #[t,u] ty #[.slice (some ⟨b,0,none⟩) len cap,sv]).run P w=.ok (.slice (some ⟨w.heap.size,0,none⟩) (len+n) (grownCap w (len+n) cap e))
   (w.drew.alloc (.cells ((cs.toList.take (len*esz)).toArray++((List.range (n*esz)).map f).toArray++Builtin.zeroCells ez.cells (grownCap w (len+n) cap e-(len+n))) e))
 none_:0<n->n*eby<=140737488355328->(Builtin.append_ #[t,u] ty #[.slice none 0 0,sv]).run P w=.ok (.slice (some ⟨w.heap.size,0,none⟩) n (grownCap w n 0 e))
   (w.drew.alloc (.cells (((List.range (n*esz)).map f).toArray++Builtin.zeroCells ez.cells (grownCap w n 0 e-n)) e))
 zero_:n=0->(Builtin.append_ #[t,u] ty #[.slice none 0 0,sv]).run P w=.ok (.slice none 0 0) w
theorem Pe {O:Nat->Prop}{k g sz len cap b T:Nat}{cs:Array Value}{fz:Nat×Nat}(hr:ρ k g=some b)(hb:w.heap[b]?=some (.cells cs T fz))(hc:len<=cap)(hs:cap*sz=cs.size)(hm:cap<=maxLen):
  AW ρ O w (.osl k g sz 0 len) (.slice (some ⟨b,0,none⟩) len cap):=by
 have:=AW.osl (O:=O) (ρ:=ρ) (k:=k) (g:=g) (i:=0) (sz:=sz) (len:=len) hr hb hc (by rw[BV];exact hs) (by rw[BV];exact hm)
 rwa [G8]at this
structure K3 (C:BD)(F:Ac)(H:Hp)(ρ:Lk)(w:World)(n:Nat)(d:D)(H':Hp)(v:Value)(ρ':Lk)(w':World):Prop where
 mem:Aq C F ρ' H' w'
 ext:BT ρ (AN F.X ρ H) w ρ' (AN F.X ρ' H') w'
 far:∀k g',g'≠n->ρ' k g'=ρ k g'
 rep:AW ρ' (AN F.X ρ' H') w' d v
theorem P4 {xs ys:Array Value}{q:Nat}(h:q<xs.size):(xs++ys).getD q undef=xs.getD q undef:=by
 simp only[A0];rw[Gg h]
theorem iM {xs ys:Array Value}{q:Nat}(h:xs.size<=q):(xs++ys).getD q undef=ys.getD (q-xs.size) undef:=by
 simp only[A0];rw[Gf h]
theorem WX {t e0 esz eby ty n k:Nat}{ez:Value}(T:ME C.P t e0 esz eby ez){H1 H2:Hp}{e:Ay}{b len cap:Nat}(m:Aq C F ρ (H1++e::H2) w)(hr:ρ e.k e.g=some b)(hT:e.T=e0)(hsz:esz=e.sz)(hle:len<=e.es.length)
  {cs:Array Value} (hbk:w.heap[b]?=some (.cells cs e.T (0,0))) (hcs:cap*esz=cs.size) (hcap:cap<=maxLen) (fr:∀k,ρ k n=none) (hlt:∀e'∈H1++e::H2,e'.g≠n) {news:List D} {f:Nat->Value} {u:Nat} {sv:Value}
  (S:R2 C.P w t u ty e0 esz eby ez sv news.length f) (hs:Na ρ (AN F.X ρ (H1++e::H2)) w esz news f) (hby:(len+news.length)*eby<=140737488355328) (h1:1<=eby):
  ∃v ρ' w',(Builtin.append_ #[t,u] ty #[.slice (some ⟨b,0,none⟩) len cap,sv]).run C.P w=.ok v w' /\
   K3 C F (H1++e::H2) ρ w n (.osl k n esz 0 (len+news.length)) (⟨k,n,e0,esz,e.es.take len++news⟩::(H1++H2)) v ρ' w':=by
 subst hT hsz;obtain⟨cs0,q1,q2⟩:=m.at (e:=e) (by simp) hr;rw[hbk]at q1;cases q1;have hlc:len*e.sz<=cs.size:=BR (CM _ hle) q2.len;have hmx:len+news.length<=maxLen:=by
  have:=Cc (len+news.length) h1
  simp only[maxLen];omega
 have hlim:∀q,q<len*e.sz->q<cs.size:=λq hq=>by omega
 by_cases hroom:len+news.length<=cap
 ·have hfit:len*e.sz+news.length*e.sz<=cs.size:=by rw[<-hcs,<-Bw];exact CM _ hroom
  have run:=S.room b len cap cs hbk hroom hfit;generalize hcs':(cs.toList.take (len*e.sz)++(List.range (news.length*e.sz)).map f++cs.toList.drop (len*e.sz+((List.range (news.length*e.sz)).map f).length)).toArray=cs' at run;have hsz':cs'.size=cs.size:=by rw[<-hcs'];simp;omega
  have get:∀q,cs'[q]?=if q<len*e.sz then cs[q]? else if q<len*e.sz+news.length*e.sz then some (f (q-len*e.sz))else cs[q]?:=λq=>by
   rw[<-hcs'];simp only[KJ];rw[Di];have hl1:(cs.toList.take (len*e.sz)).length=len*e.sz:=by simp;omega
   rcases BI q (len*e.sz)with hq|hq
   ·rw[Gh (by omega),AH hq,Eo,AH hq];simp
   ·rw[E7 (by omega),AF (by omega),hl1]
    rcases BI (q-len*e.sz) (news.length*e.sz)with hq2|hq2
    ·rw[Gh (by simp;omega),AH (by omega),A7,JU hq2];rfl
    ·rw[E7 (by simp;omega),AF (by omega),Hc]
     simp only[Am,List.length_range];rw[show len*e.sz+news.length*e.sz+(q-len*e.sz-news.length*e.sz)=q from by omega];simp
  have ho:DB ρ (AN F.X ρ (H1++e::H2)) w ⟨e.k,e.g,e.T,e.sz,e.es.take len++news⟩ cs':=an q2 hle hs
   (λq hq=>by rw[A0,get,AH hq,<-A0])
   (λj hj=>by rw[A0,get,AF (by omega),AH (by omega),show len*e.sz+j-len*e.sz=j from by omega];rfl)
   (by rw[hsz',Bw];exact hfit) (λq v hv=>by
    rw[get]at hv;split at hv
    ·exact q2.one _ _ hv
    ·split at hv
     ·cases hv;exact hs.one _ (by omega)
     ·exact q2.one _ _ hv)
  obtain⟨m1,x1⟩:=m.write (e':=⟨e.k,e.g,e.T,e.sz,e.es.take len++news⟩) hr hbk rfl rfl rfl hsz' ho;obtain⟨m2,x2⟩:=m1.rename (e:=⟨e.k,e.g,e.T,e.sz,e.es.take len++news⟩) (k:=k) (n:=n) hr (fr k) (λe' he'=>by
   rcases List.mem_append.1 he' with h|h
   ·exact hlt e' (by simp[h])
   ·rcases BA.1 h with rfl|h
    ·exact hlt e (by simp)
    ·exact hlt e' (by simp[h]))
  rw[Td hbk]at run;refine⟨_,ρ.put k n b,_,run,?_⟩;refine⟨m2,x1.trans x2,λk' g' hg=>by unfold Lk.put;rw[AF λh=>hg h.2],?_⟩;have hlt:b<w.heap.size:=(Array.getElem?_eq_some_iff.1 hbk).1;exact Pe (b:=b) (T:=e.T) (cs:=cs') (fz:=(0,0)) (EO _ _ _ _) (by rw[Lf _ _ _ _ _ hlt,AH rfl]) hroom (by rw[hsz',<-hcs]) hcap
 ·have run:=S.grow b len cap cs hbk hlc (Nat.lt_of_not_le hroom) hby
  generalize hcap':grownCap w (len+news.length) cap e.T=cap' at run;have hge:len+news.length<=cap':=by rw[<-hcap'];exact grownCap_ge ..
  have hmx':cap'<=maxLen:=by rw[<-hcap'];exact grownCap_le_maxLen _ _ _ _ hmx
  generalize hcs':(cs.toList.take (len*e.sz)).toArray++((List.range (news.length*e.sz)).map f).toArray++Builtin.zeroCells ez.cells (cap'-(len+news.length))=cs' at run;have s1:(cs.toList.take (len*e.sz)).toArray.size=len*e.sz:=by simp;omega
  have s2:((List.range (news.length*e.sz)).map f).toArray.size=news.length*e.sz:=by simp
  have hsz':cs'.size=cap'*e.sz:=by
   rw[<-hcs',JW,JW,s1,s2,size_zeroCells,T.zs,<-Bw,<-Bw]
   congr 1;omega
  obtain⟨m0,hO0⟩:=m.sub (H':=H1++H2) (Pl (Pp _) (Pg _ _));have x0:BT ρ (AN F.X ρ (H1++e::H2)) w ρ (AN F.X ρ (H1++H2)) w.drew:=
   ⟨Ai _,λ_ _ _ h=>h,λb' _ h=>⟨λh'=>h (hO0 b' h'),rfl⟩,λ_ cs _ _ h=>⟨cs,_,h,rfl⟩⟩
  have ho:DB ρ (AN F.X ρ (H1++H2)) w.drew ⟨k,n,e.T,e.sz,e.es.take len++news⟩ cs':=by
   have hlow:∀q,q<len*e.sz->cs'.getD q undef=cs.getD q undef:=λq hq=>by
    rw[<-hcs',P4 (by rw[JW];omega),P4 (by omega)];simp only[A0,KJ,Eo,AH hq];simp
   have hmid:∀j,j<news.length*e.sz->cs'.getD (len*e.sz+j) undef=f j:=λj hj=>by
    rw[<-hcs',P4 (by rw[JW];omega),iM (by omega),s1,show len*e.sz+j-len*e.sz=j from by omega];simp[A0,hj]
   refine(an q2 hle hs hlow hmid (by rw[hsz'];exact CM _ hge) λq v hv=>?_).mono x0;rw[<-hcs']at hv;rcases BI q (len*e.sz+news.length*e.sz)with hq|hq
   ·rw[Gg (by rw[JW];omega)]at hv
    rcases BI q (len*e.sz)with hq2|hq2
    ·rw[Gg (by omega)]at hv
     simp only[KJ,Eo,AH hq2]at hv;exact q2.one q v (by simpa using hv)
    ·rw[Gf (by omega),s1]at hv
     simp only[KJ,A7]at hv;rw[JU (by omega)]at hv;cases hv;exact hs.one _ (by omega)
   ·rw[Gf (by rw[JW];omega)]at hv
    exact P6 T.zo _ _ v hv
  obtain⟨m1,x1⟩:=m0.drew.alloc ⟨k,n,e.T,e.sz,e.es.take len++news⟩ cs' (fr k) (λe' he' h=>hlt e' (by rcases List.mem_append.1 he' with h|h<;>simp[h]) h.2) ho;refine⟨_,_,_,run,m1,x0.trans x1,λk' g' hg=>by unfold Lk.put;rw[AF λh=>hg h.2],?_⟩;exact Pe (b:=w.heap.size) (T:=e.T) (cs:=cs') (fz:=(0,0)) (EO _ _ _ _) (by rw[EK];exact AH rfl) hge hsz'.symm hmx'
theorem Su {t e0 esz eby ty:Nat}{P:Program}{O:Nat->Prop}{ez:Value}(T:ME P t e0 esz eby ez)(h1:1<=eby){news:List D}{a:Addr}{c:Nat}{f:Nat->Value}(hs:N5 ρ O w esz news a f):
  R2 P w t t ty e0 esz eby ez (.slice (some a) news.length c) news.length f where
 room b len cap cs hbk hroom hfit:=by
  obtain⟨i,i1,rfl,i3,i4⟩:=T.inf;exact run_append_room (P:=P) w t ty e0 i T.under i1 b len cap cs hbk a news.length c ((List.range (news.length*i.size)).map f) (by simp) (λj v hv=>by
   rw[A7]at hv
   by_cases hj:j<news.length*i.size
   ·rw[JU hj]at hv;cases hv;exact hs.cell j hj
   ·rw[Dk (by simp;omega)]at hv;cases hv) (λu hu=>by
    rw[dS];obtain⟨j,hj,rfl⟩:=List.mem_map.1 hu;exact hs.one j (by simpa using hj)) hroom (by simp;exact hfit)
 grow b len cap cs hb hlc hg hby:=im (P:=P) (ty:=ty) (c:=c) T hb hlc hs hg hby h1
 none_ h0 hby:=by
  obtain⟨i,i1,rfl,rfl,i4⟩:=T.inf;have hmx:news.length<=maxLen:=by
   have:=Cc news.length h1
   simp only[maxLen];omega
  exact run_append_nil (P:=P) w t ty e0 i ez T.under i1 i4 a news.length c ((List.range (news.length*i.size)).map f) (by simp) (λj v hv=>by
   rw[A7]at hv
   by_cases hj:j<news.length*i.size
   ·rw[JU hj]at hv;cases hv;exact hs.cell j hj
   ·rw[Dk (by simp;omega)]at hv;cases hv) h0 (by simp only[maxLen]at hmx;omega) (by omega)
 zero_ h0:=by
  obtain⟨i,i1,rfl,rfl,i4⟩:=T.inf;simp[Builtin.append_,Cm T.under,sizeOf,typeInfo,i1,Builtin.lenOf,Builtin.firstCells,loadCells,loadCellsFrom,h0]
theorem append_nil {t e0 esz eby ty n k:Nat}{ez:Value}(T:ME C.P t e0 esz eby ez)(m:Aq C F ρ H w)(fr:∀k,ρ k n=none)(hlt:∀e'∈H,e'.g≠n){news:List D}{f:Nat->Value}{u:Nat}{sv:Value}
  (S:R2 C.P w t u ty e0 esz eby ez sv news.length f) (hs:Na ρ (AN F.X ρ H) w esz news f) (hby:news.length*eby<=140737488355328) (h1:1<=eby):
  ∃v ρ' w',(Builtin.append_ #[t,u] ty #[.slice none 0 0,sv]).run C.P w=.ok v w' /\
   K3 C F H ρ w n (.osl k n esz 0 news.length) (⟨k,n,e0,esz,news⟩::H) v ρ' w':=by
 rcases Dh news.length with h0|h0
 ·have hn:=En h0
  subst hn;obtain⟨m1,hO⟩:=m.ghost (k:=k) (n:=n) (T:=e0) (sz:=esz) (fr k);exact⟨.slice none 0 0,ρ,w,S.zero_ rfl,m1,by rw[hO];exact .refl _ _ _,λ_ _ _=>rfl,.onil _ _ _⟩
 ·have hmx:news.length<=maxLen:=by
   have:=Cc news.length h1
   simp only[maxLen];omega
  have run:=S.none_ h0 hby;generalize hcap':grownCap w news.length 0 e0=cap' at run;have hge:news.length<=cap':=by rw[<-hcap'];exact grownCap_ge ..
  have hmx':cap'<=maxLen:=by rw[<-hcap'];exact grownCap_le_maxLen _ _ _ _ hmx
  generalize hcs':((List.range (news.length*esz)).map f).toArray++Builtin.zeroCells ez.cells (cap'-news.length)=cs' at run;have s2:((List.range (news.length*esz)).map f).toArray.size=news.length*esz:=by simp
  have hsz':cs'.size=cap'*esz:=by
   rw[<-hcs',JW,s2,size_zeroCells,T.zs,<-Bw]
   congr 1;omega
  have hmid:∀j,j<news.length*esz->cs'.getD j undef=f j:=λj hj=>by
   rw[<-hcs',P4 (by omega)];simp[A0,hj]
  have ho:DB ρ (AN F.X ρ H) w.drew ⟨k,n,e0,esz,news⟩ cs':=by
   refine DB.mono ⟨?_,hs.siz,λq v hv=>?_,λq d j c hd hc=>?_⟩ (BT.drew ρ (AN F.X ρ H) w)
   ·dsimp only;rw[hsz'];exact CM _ hge
   ·rw[<-hcs']at hv
    rcases BI q (news.length*esz)with hq|hq
    ·rw[Gg (by omega)]at hv
     simp only[KJ,A7]at hv;rw[JU hq]at hv;cases hv;exact hs.one _ hq
    ·rw[Gf (by omega)]at hv
     exact P6 T.zo _ _ v hv
   ·dsimp only at hd⊢
    have hj:j<esz:=by rw[<-hs.siz q d hd];exact(List.getElem?_eq_some_iff.1 hc).1
    have hq:q<news.length:=(List.getElem?_eq_some_iff.1 hd).1;rw[hmid]
    ·exact hs.rep q d j c hd hc
    ·have:(q+1)*esz<=news.length*esz:=CM _ hq
     rw[Bw]at this;omega
  obtain⟨m1,x1⟩:=m.drew.alloc ⟨k,n,e0,esz,news⟩ cs' (fr k) (λe' he' h=>hlt e' he' h.2) ho;refine⟨_,_,_,run,m1,(BT.drew _ _ _).trans x1,λk' g' hg=>by unfold Lk.put;rw[AF λh=>hg h.2],?_⟩;exact Pe (b:=w.heap.size) (T:=e0) (cs:=cs') (fz:=(0,0)) (EO _ _ _ _) (by rw[EK];exact AH rfl) hge hsz'.symm hmx'
theorem TF {tt:Nat->Option Az}{o:Oper}{g:Operand->D}{ev:Operand->Value}{n k:Nat}{d:D}{H':Hp}{p:Prop}(htt:Cp C.P tt)(m:Aq C F ρ H w)(fr:∀k,ρ k n=none)(hlt:∀e∈H,e.g≠n)
  (hg:∀x,AW ρ (AN F.X ρ H) w (g x) (ev x)) (h:EI tt H n k g o.op=some (d,H',p)) (hp:p):
  ∃v ρ' w',(execOp ev o).run C.P w=.ok (.value v) w'/\K3 C F H ρ w n d H' v ρ' w':=by
 unfold EI at h;split at h<;>try(cases h;done)
 rename_i args tys ho;split at h<;>try(cases h;done)
 rename_i s x hargs;split at h<;>try(cases h;done)
 rename_i t t' htys;split at h<;>try(cases h;done)
 rename_i htt';obtain rfl:=B6 htt';split at h<;>try(cases h;done)
 rename_i i hi;split at h<;>try(cases h;done)
 rename_i e esz eby ez hk;split at h<;>try(cases h;done)
 rename_i news q hsrc;obtain⟨k1,⟨inf,k2,k3,k4,k5⟩,k6,k7⟩:=Ef (htt _ _ hi) hk;have T:ME C.P t e esz eby ez:=⟨k1,⟨inf,k2,k3,k4,k5⟩,k6,k7⟩
 have hargs':args = #[s,x]:=by rw[<-ST (xs:=args),hargs]
 have htys':tys = #[t,t]:=by rw[<-ST (xs:=tys),htys]
 subst hargs' htys';have fin:∀v1 v2,ev s=v1->ev x=v2->(∃v ρ' w',(Builtin.append_ #[t,t] o.type #[v1,v2]).run C.P w=.ok v w'/\K3 C F H ρ w n d H' v ρ' w') ->
   ∃v ρ' w',(execOp ev o).run C.P w=.ok (.value v) w'/\K3 C F H ρ w n d H' v ρ' w':=by
  rintro v1 v2 h1 h2 ⟨v,ρ',w',h3,h4⟩;refine⟨v,ρ',w',?_,h4⟩;unfold execOp;simp only[ho,resolve,invoke,builtin,Sem.run_bind,Sem.run_pure,Result.andThen_ok,List.map_toArray,Ct,List.map_nil,h1,h2,h3]
 have hx:=hg x;have hsr:=hg s;generalize hvx:ev x=vx at hx;generalize hvs:ev s=vs at hsr;refine fin vs vx hvs hvx ?_;split at h<;>try(cases h;done)
 ·rename_i k0 g1 sz len hgs
  split at h<;>try(cases h;done)
  rename_i e1 he1;simp only[BM,Bh]at h;obtain⟨rfl,rfl,rfl⟩:=h;obtain⟨hq,rfl,rfl,rfl,rfl,hle,hby,hb1,hs1⟩:=hp;obtain⟨hm,hke⟩:=Hp.get_mem he1;obtain⟨H1,H2,a1,_,a3⟩:=MS e1 he1;rw[hgs]at hsr;rw[a3];rcases d9 m hsrc hq hx with⟨rfl,rfl⟩|⟨a,c,f,rfl,hc,hs⟩
  ·
   simp only[G5,De,DE];cases hsr with
   |onil=>
    obtain⟨m0,hO0⟩:=m.sub (H':=H1++H2) (by rw[a1];exact Pl (Pp _) (Pg _ _));obtain⟨m1,hO⟩:=m0.ghost (k:=k) (n:=n) (T:=e1.T) (sz:=e1.sz) (fr k);refine⟨_,ρ,w,Sh k1 k2 (Ai _),by simpa using m1,?_,λ_ _ _=>rfl,.onil _ _ _⟩;simp only[LN];rw[hO];exact⟨Ai _,λ_ _ _ h=>h,λb' _ h=>⟨λh'=>h (hO0 b' h'),rfl⟩,λ_ cs _ _ h=>⟨cs,_,h,rfl⟩⟩
   |osl hr hb hc hs hmx=>
    rename_i cap b T' cs fz;rw[<-hke]at hr;obtain⟨cs0,q1,q2⟩:=m.at hm hr;rw[hb]at q1;cases q1;rw[a1]at m;have q3:DB ρ (AN F.X ρ (H1++e1::H2)) w ⟨e1.k,e1.g,e1.T,e1.sz,e1.es.take len⟩ cs:=by
     rw[<-a1];refine⟨by dsimp only;simp only[Bb];exact BR (CM _ (Nat.min_le_right _ _)) q2.len,λi d hd=>?_,q2.one,λi d j c hd hc=>?_⟩
     ·dsimp only at hd;rw[Eo]at hd;split at hd
      ·exact q2.siz i d hd
      ·cases hd
     ·dsimp only at hd⊢;rw[Eo]at hd;split at hd
      ·exact q2.rep i d j c hd hc
      ·cases hd
    obtain⟨m1,x1⟩:=m.write (e':=⟨e1.k,e1.g,e1.T,e1.sz,e1.es.take len⟩) hr hb rfl rfl rfl rfl q3;have hsame:World.setBlk w b cs e1.T=w:=by
     unfold World.setBlk
     have:w.heap.setIfInBounds b (.cells cs e1.T (0,0))=w.heap:=by
      apply Array.ext_getElem?;intro q;rw[Ir]
      by_cases hq:b=q
      ·subst hq;rw[AH rfl,AH (Array.getElem?_eq_some_iff.1 hb).1,hb]
      ·rw[AF hq]
     rw[this]
    rw[hsame]at m1 x1;obtain⟨m2,x2⟩:=m1.rename (e:=⟨e1.k,e1.g,e1.T,e1.sz,e1.es.take len⟩) (k:=k) (n:=n) hr (fr k) (λe' he'=>by
     rcases List.mem_append.1 he' with h|h
     ·exact hlt e' (by rw[a1];simp[h])
     ·rcases BA.1 h with rfl|h
      ·exact hlt e1 hm
      ·exact hlt e' (by rw[a1];simp[h]))
    refine⟨_,_,w,Sh k1 k2 hc,m2,by rw[a1];exact x1.trans x2,λk' g' hg=>by unfold Lk.put;rw[AF λh=>hg h.2],?_⟩;have fin:=AW.osl (ρ:=ρ.put k n b) (O:=AN F.X (ρ.put k n b) (⟨k,n,e1.T,e1.sz,e1.es.take len⟩::(H1++H2))) (k:=k) (g:=n) (i:=0) (EO _ _ _ _) hb hc hs hmx;exact fin
  ·cases hsr with
   |onil=>
    obtain⟨m0,hO0⟩:=m.sub (H':=H1++H2) (by rw[a1];exact Pl (Pp _) (Pg _ _));have x0:BT ρ (AN F.X ρ H) w ρ (AN F.X ρ (H1++H2)) w:=⟨Ai _,λ_ _ _ h=>h,λb' _ h=>⟨λh'=>h (hO0 b' h'),rfl⟩,λ_ cs _ _ h=>⟨cs,_,h,rfl⟩⟩
    have hs':Na ρ (AN F.X ρ (H1++H2)) w e1.sz news f:=⟨hs.one,hs.siz,λi e j d h1 h2=>(hs.rep i e j d h1 h2).mono x0⟩
    obtain⟨v,ρ',w',r1,r2⟩:=append_nil (ty:=o.type) (k:=k) T m0 fr (λe' he'=>hlt e' (by rw[a1];rcases List.mem_append.1 he' with h|h<;>simp[h])) (Su (c:=c) T hb1 hs) hs' (by simpa using hby) hb1;refine⟨v,ρ',w',r1,?_⟩;simp only[BV,LN,F6];exact⟨r2.mem,x0.trans r2.ext,r2.far,r2.rep⟩
   |osl hr hb hc' hcs hmx=>
    rename_i cap b T' cs fz;rw[<-hke]at hr;obtain⟨cs0,q1,q2⟩:=m.at hm hr;rw[hb]at q1;cases q1;rw[a1]at m hlt hs;obtain⟨v,ρ',w',r1,r2⟩:=WX (ty:=o.type) (k:=k) T m hr rfl rfl hle hb (by simpa using hcs) (by simpa using hmx) fr hlt (Su (c:=c) T hb1 hs) hs.srcv hby hb1;rw[a1];refine⟨v,ρ',w',?_,r2⟩;simpa using r1
 ·rename_i hgs
  simp only[BM,Bh]at h;obtain⟨rfl,rfl,rfl⟩:=h;obtain⟨hq,hby,hb1,hs1⟩:=hp;rw[hgs]at hsr;cases hsr;rcases d9 m hsrc hq hx with⟨rfl,rfl⟩|⟨a,c,f,rfl,hc,hs⟩
  ·obtain⟨m1,hO⟩:=m.ghost (k:=k) (n:=n) (T:=e) (sz:=esz) (fr k)
   exact⟨_,ρ,w,Sh k1 k2 (Ai _),m1,by rw[hO];exact .refl _ _ _,λ_ _ _=>rfl,.onil _ _ _⟩
  ·exact append_nil (ty:=o.type) (k:=k) T m fr hlt (Su (c:=c) T hb1 hs) hs.srcv hby hb1
end
section
variable {C:BD} {F:Ac} {s:St} {ops:Array Oper} {o:Oper} {os:List Oper} {K:St->Prop}
theorem V3:∀ {H:Hp} {k:Nat} {e:Ay},e∈Hp.del H k->e∈H
 |e0::r,k,e,h=>by
  simp only[Hp.del]at h;split at h
  ·exact CF _ h
  ·rcases BA.1 h with rfl|h
   ·exact CA ..
   ·exact CF _ (V3 h)
theorem ol {tt:Nat->Option Az}{H:Hp}{n k:Nat}{g:Operand->D}{op:Op}{d:D}{H':Hp}{p:Prop}(h:EI tt H n k g op=some (d,H',p))(hl:∀e∈H,e.g<n):∀e∈H',e.g<n+1:=by
 unfold EI at h
 (repeat' split at h)<;>try(cases h;done)
 ·cases h
  intro e he;rcases BA.1 he with rfl|he
  ·exact Ha _
  ·exact DD (hl e (V3 he))
 ·cases h
  intro e he;rcases BA.1 he with rfl|he
  ·exact Ha _
  ·exact DD (hl e he)
theorem gV {tt:Nat->Option Az}(k:Nat)(htt:Cp C.P tt){d:D}{H':Hp}{p:Prop}(hw:CG ops s.env o=some true)(he:EI tt s.H s.n k (BH s.env) o.op=some (d,H',p))(hp:p)
  (h:BJ C F ops os ⟨Ba s.env o.dst d,H',s.n+1⟩ K):BJ C F ops (o::os) s K:=
 BJ.step hw (λρ a w hs=>by
  obtain⟨v,ρ',w',h1,h2⟩:=TF htt hs.mem (λk=>hs.fresh k _ (Ai _)) (λe he=>Nat.ne_of_lt (hs.gen e he)) (DK hs.env) he hp;exact⟨v,ρ',w',.inl h1,⟨h2.mem,h2.ext,λk g hg=>by rw[h2.far k g (by omega)];exact hs.fresh k g (by omega),h2.rep⟩,ol he hs.gen⟩) h
end
def IY (s:ByteArray):List D:=s.data.toList.map λb=>.prim (.int .u8 (b.toNat:Int))
theorem Jc (s:ByteArray):(IY s).length=s.size:=by
 unfold IY;rw[Am,IG];rfl
def Js (s:ByteArray)(j:Nat):Value:=.int .u8 ((s.data.toList.getD j 0).toNat:Int)
theorem Si (s:ByteArray):(List.range (s.size*1)).map (Js s)=Lib.strCells s:=by
 refine Pq λj=>?_
 have hs:s.data.toList.length=s.size:=by rw[IG];rfl
 rw[EG,A7,Lib.strCells,A7];rcases BI j s.size with h|h
 ·rw[JU h,BG (by omega)]
  simp[Js,Dw,BG (show j<s.data.toList.length by omega)]
 ·rw[Dk (by simp;omega),Dk (by omega)];rfl
section
variable {C:BD} {F:Ac} {ρ:Lk} {H:Hp} {w:World}
theorem Sw {O:Nat->Prop}(s:ByteArray):Na ρ O w 1 (IY s) (Js s) where
 one _ _:=rfl
 siz i e h:=by
  unfold IY at h;rw[A7]at h;obtain⟨b,_,rfl⟩:=Option.map_eq_some_iff.1 h;rfl
 rep i e j d h1 h2:=by
  unfold IY at h1;rw[A7]at h1;obtain⟨b,hb,rfl⟩:=Option.map_eq_some_iff.1 h1;rcases j with _|j
  ·cases h2
   have:Js s (i*1+0)=.int .u8 (b.toNat:Int):=by
    unfold Js;rw[EG,De,Dw,hb];rfl
   rw[this];exact .prim _
  ·simp[D.cells]at h2
theorem Wm {P:Program}{t u ty e0:Nat}(T:ME P t e0 1 1 (.int .u8 0))(hu:P.underlying u=some .string)(s:ByteArray):
  R2 P w t u ty e0 1 1 (.int .u8 0) (.string s) s.size (Js s) where
 room b len cap cs hbk hroom hfit:=by
  obtain⟨i,i1,i2,i3,i4⟩:=T.inf;rw[Si,Lib.strCells_length,EG];exact Lib.run_append_room_string w t u ty e0 i T.under hu i1 i2 b len cap cs hbk s hroom (by omega)
 grow b len cap cs hb hlc hg hby:=by
  obtain⟨i,i1,i2,i3,i4⟩:=T.inf;rw[Si];rw[EG]at hlc⊢;exact Lib.run_append_grow_string w t u ty e0 i (.int .u8 0) T.under hu i1 i4 ⟨b,0,none⟩ len cap (cs.toList.take len) (by rw[i2];simp;omega) (λj v hv=>by
   rw[Eo]at hv;split at hv
   ·rw[Hs]
    simp only[JS]at hv;simp[World.cell?,hb,hv]
   ·cases hv) s hg (by omega) (by rw[i3];exact growslice_fits hg (by omega))
 none_ h0 hby:=by
  obtain⟨i,i1,i2,i3,i4⟩:=T.inf;have hr:=run_append_nil_string (P:=P) w t u ty e0 i (.int .u8 0) T.under hu i1 i4 s (by omega) (by omega) (by rw[i3];omega);have e1:(s.data.map λb=>Value.int .u8 b.toNat)=(Lib.strCells s).toArray:=by
   apply Array.ext';simp[Lib.strCells]
  rw[Si,<-e1];exact hr
 zero_ h0:=by
  obtain⟨i,i1,i2,i3,i4⟩:=T.inf;have hf:=Lib.run_firstCells_string (P:=P) w 1 s;rw[h0]at hf;simp[Builtin.append_,Cm T.under,Cm hu,sizeOf,typeInfo,i1,i2,Builtin.lenOf,h0,hf]
def Nf (tt:Nat->Option Az)(H:Hp)(n k:Nat)(g:Operand->D):Op->Option (D×Hp×Prop)
 | .call ⟨.builtin .append,args,tys⟩=>match args.toList with
  | [s,x]=>match tys.toList with
   | [t,t']=>match tt t' with
    |some i'=>match i'.ti with
     | .string=>match tt t with
      |some i=>match i.ti with
       | .slice e esz eby ez=>match g x with
        | .prim (.string str)=>match g s with
         | .osl k1 g1 sz 0 len=>match Hp.get H k1 with
          |some e1=>some (.osl k n 1 0 (len+str.size),⟨k,n,e,1,e1.es.take len++IY str⟩::Hp.del H k1,
            esz=1/\eby=1/\ez=.int .u8 0/\g1=e1.g/\sz=e1.sz/\sz=1/\e1.T=e/\len<=e1.es.length/\len+str.size<=140737488355328)
          |none=>none
         | .prim (.slice none 0 0)=>some (.osl k n 1 0 str.size,⟨k,n,e,1,IY str⟩::H,esz=1/\eby=1/\ez=.int .u8 0/\str.size<=140737488355328)
         |_=>none
        |_=>none
       |_=>none
      |none=>none
     |_=>none
    |none=>none
   |_=>none
  |_=>none
 |_=>none
theorem jN {tt:Nat->Option Az}{o:Oper}{g:Operand->D}{ev:Operand->Value}{n k:Nat}{d:D}{H':Hp}{p:Prop}(htt:Cp C.P tt)(m:Aq C F ρ H w)(fr:∀k,ρ k n=none)(hlt:∀e∈H,e.g≠n)
  (hg:∀x,AW ρ (AN F.X ρ H) w (g x) (ev x)) (h:Nf tt H n k g o.op=some (d,H',p)) (hp:p):
  ∃v ρ' w',(execOp ev o).run C.P w=.ok (.value v) w'/\K3 C F H ρ w n d H' v ρ' w':=by
 unfold Nf at h;split at h<;>try(cases h;done)
 rename_i args tys ho;split at h<;>try(cases h;done)
 rename_i s x hargs;split at h<;>try(cases h;done)
 rename_i t t' htys;split at h<;>try(cases h;done)
 rename_i i' hi';split at h<;>try(cases h;done)
 rename_i hk';split at h<;>try(cases h;done)
 rename_i i hi;split at h<;>try(cases h;done)
 rename_i e esz eby ez hk;split at h<;>try(cases h;done)
 rename_i str hgx;have hu:=LX (htt _ _ hi') hk';obtain⟨k1,⟨inf,k2,k3,k4,k5⟩,k6,k7⟩:=Ef (htt _ _ hi) hk;have T0:ME C.P t e esz eby ez:=⟨k1,⟨inf,k2,k3,k4,k5⟩,k6,k7⟩
 have hargs':args = #[s,x]:=by rw[<-ST (xs:=args),hargs]
 have htys':tys = #[t,t']:=by rw[<-ST (xs:=tys),htys]
 subst hargs' htys';have fin:∀v1 v2,ev s=v1->ev x=v2->(∃v ρ' w',(Builtin.append_ #[t,t'] o.type #[v1,v2]).run C.P w=.ok v w'/\K3 C F H ρ w n d H' v ρ' w') ->
   ∃v ρ' w',(execOp ev o).run C.P w=.ok (.value v) w'/\K3 C F H ρ w n d H' v ρ' w':=by
  rintro v1 v2 h1 h2 ⟨v,ρ',w',h3,h4⟩;refine⟨v,ρ',w',?_,h4⟩;unfold execOp;simp only[ho,resolve,invoke,builtin,Sem.run_bind,Sem.run_pure,Result.andThen_ok,List.map_toArray,Ct,List.map_nil,h1,h2,h3]
 have hx:=hg x;have hsr:=hg s;generalize hvx:ev x=vx at hx;generalize hvs:ev s=vs at hsr;refine fin vs vx hvs hvx ?_;rw[hgx]at hx;cases hx;split at h<;>try(cases h;done)
 ·rename_i k0 g1 sz len hgs
  split at h<;>try(cases h;done)
  rename_i e1 he1;simp only[BM,Bh]at h;obtain⟨rfl,rfl,rfl⟩:=h;obtain⟨rfl,rfl,rfl,rfl,q1,rfl,rfl,hle,hby⟩:=hp;have T:=T0;obtain⟨hm,hke⟩:=Hp.get_mem he1;obtain⟨H1,H2,a1,_,a3⟩:=MS e1 he1;rw[hgs]at hsr;rw[a3];have S:=Wm (w:=w) (ty:=o.type) T hu str;cases hsr with
  |onil=>
   obtain⟨m0,hO0⟩:=m.sub (H':=H1++H2) (by rw[a1];exact Pl (Pp _) (Pg _ _));have x0:BT ρ (AN F.X ρ H) w ρ (AN F.X ρ (H1++H2)) w:=⟨Ai _,λ_ _ _ h=>h,λb' _ h=>⟨λh'=>h (hO0 b' h'),rfl⟩,λ_ cs _ _ h=>⟨cs,_,h,rfl⟩⟩
   obtain⟨v,ρ',w',r1,r2⟩:=append_nil (ty:=o.type) (k:=k) (news:=IY str) (f:=Js str) T m0 fr (λe' he'=>hlt e' (by rw[a1];rcases List.mem_append.1 he' with h|h<;>simp[h])) (by rw[Jc];exact S) (Sw str) (by rw[Jc];omega) (Ai _);refine⟨v,ρ',w',r1,?_⟩;simp only[BV,LN,F6];rw[Jc]at r2;exact⟨r2.mem,x0.trans r2.ext,r2.far,r2.rep⟩
  |osl hr hb hc' hcs hmx=>
   rename_i cap b T' cs fz;rw[<-hke]at hr;obtain⟨cs0,q2,q3⟩:=m.at hm hr;rw[hb]at q2;cases q2;rw[a1]at m hlt;obtain⟨v,ρ',w',r1,r2⟩:=WX (ty:=o.type) (k:=k) (news:=IY str) (f:=Js str) T m hr rfl q1 hle hb (by simpa using hcs) (by simpa using hmx) fr hlt (by rw[Jc];exact S) (Sw str) (by rw[Jc];omega) (Ai _);rw[a1];refine⟨v,ρ',w',?_,?_⟩
   ·simpa using r1
   ·rw[Jc]at r2;exact r2
 ·rename_i hgs
  simp only[BM,Bh]at h;obtain⟨rfl,rfl,rfl⟩:=h;obtain⟨rfl,rfl,rfl,hby⟩:=hp;have T:=T0;rw[hgs]at hsr;cases hsr;have S:=Wm (w:=w) (ty:=o.type) T hu str;obtain⟨v,ρ',w',r1,r2⟩:=append_nil (ty:=o.type) (k:=k) (news:=IY str) (f:=Js str) T m fr hlt (by rw[Jc];exact S) (Sw str) (by rw[Jc];omega) (Ai _);rw[Jc]at r2;exact⟨v,ρ',w',r1,r2⟩
end
section
variable {C:BD} {F:Ac} {s:St} {ops:Array Oper} {o:Oper} {os:List Oper} {K:St->Prop}
theorem mN {tt:Nat->Option Az}{H:Hp}{n k:Nat}{g:Operand->D}{op:Op}{d:D}{H':Hp}{p:Prop}(h:Nf tt H n k g op=some (d,H',p))(hl:∀e∈H,e.g<n):∀e∈H',e.g<n+1:=by
 unfold Nf at h
 (repeat' split at h)<;>try(cases h;done)
 ·cases h
  intro e he;rcases BA.1 he with rfl|he
  ·exact Ha _
  ·exact DD (hl e (V3 he))
 ·cases h
  intro e he;rcases BA.1 he with rfl|he
  ·exact Ha _
  ·exact DD (hl e he)
theorem zC {tt:Nat->Option Az}(k:Nat)(htt:Cp C.P tt){d:D}{H':Hp}{p:Prop}(hw:CG ops s.env o=some true)(he:Nf tt s.H s.n k (BH s.env) o.op=some (d,H',p))(hp:p)
  (h:BJ C F ops os ⟨Ba s.env o.dst d,H',s.n+1⟩ K):BJ C F ops (o::os) s K:=
 BJ.step hw (λρ a w hs=>by
  obtain⟨v,ρ',w',h1,h2⟩:=jN htt hs.mem (λk=>hs.fresh k _ (Ai _)) (λe he=>Nat.ne_of_lt (hs.gen e he)) (DK hs.env) he hp;exact⟨v,ρ',w',.inl h1,⟨h2.mem,h2.ext,λk g hg=>by rw[h2.far k g (by omega)];exact hs.fresh k g (by omega),h2.rep⟩,mN he hs.gen⟩) h
end
inductive XI where
 |map (key elem:Nat) (zero:Value)
 |strs (n:Nat)
def ON (P:Program):Nat->List Field->Bool
 |_,[]=>true
 |i,f::fs=>(f.name != "_")&&Nat.beq f.offset i&&(match P.underlying f.type with|some .string=>true|_=>false)&&ON P (i+1) fs
def MD (P:Program)(t:Nat):Option XI:=match P.underlying t with
 |some (.map k e)=>match P.underlying k with
  |some .string=>match P.info? e with
   |some i=>match i.zero with
    |some z=>match Ky z i.size with
     |true=>some (.map k e z)
     |false=>none
    |none=>none
   |none=>none
  |_=>none
 |some (.struct fs)=>match P.stoodInHeld t||P.eqGuardType P.depth t with
  |false=>match ON P 0 fs.toList with
   |true=>some (.strs fs.size)
   |false=>none
  |true=>none
 |_=>none
def MI (P:Program)(xt:Nat->Option XI):Prop:=∀t i,xt t=some i->MD P t=some i
def Hx (s:ByteArray):List D->List D->Option (Option D)
 | [],[]=>some none
 | .prim (.string k)::ks,d::vs=>match BF s k with
  |true=>some (some d)
  |false=>Hx s ks vs
 |_,_=>none
def Gu:List D->List D->Option Bool
 | [],[]=>some true
 | .prim (.string a)::l,.prim (.string b)::l'=>match Gu l l' with
  |some r=>some (BF a b&&r)
  |none=>none
 |_,_=>none
def IJ (ok:Bool)(d:D)(b:Bool):D:=match ok with
 |true=>.tup [d,.prim (.bool b)]
 |false=>d
def dw:TI->Bool
 | .other | .ptr=>false
 |_=>true
def GD (tt:Nat->Option Az)(xt:Nat->Option XI)(g:Operand->D):Op->Option (D×Prop)
 | .makeInterface t x=>match tt t with
  |some i=>match dw i.ti with
   |true=>some (.ifc t (g x),True)
   |false=>none
  |none=>none
 | .lookup t x ix ok=>match xt t with
  |some (.map _ _ z)=>match g x with
   | .mp ks vs=>match g ix with
    | .prim (.string s)=>match Hx s ks vs with
     |some (some d)=>some (IJ ok d true,True)
     |some none=>some (IJ ok (ofV z) false,True)
     |none=>none
    |_=>none
   |_=>none
  |_=>none
 | .binOp op t x y _=>match xt t with
  |some (.strs n)=>match g x with
   | .agg l=>match g y with
    | .agg l'=>match Gu l l' with
     |some b=>match NX op b with
      |some c=>some (.prim (.bool c),Nat.beq l.length n=true)
      |none=>none
     |none=>none
    |_=>none
   |_=>none
  |_=>none
 |_=>none
section
variable {P:Program} {ρ:Lk} {O:Nat->Prop} {w:World}
theorem TK (a b:ByteArray):(a==b)=BF a b:=beq_toListBytes a b
theorem XV {s:ByteArray}:∀ {ks vs:List D} {es:List MapEntry} {r:Option D} (i:Nat),Hx s ks vs=some r->es.length=ks.length->es.length=vs.length ->
  (∀(j:Nat) (d:D),ks[j]?=some d->AW ρ O w d (es.getD j default).key)->(∀(j:Nat) (d:D),vs[j]?=some d->AW ρ O w d (es.getD j default).val) ->
  (match r with
   |none=>Instr.findNow .string (.string s) es i=some none
   |some d=>∃j v,Instr.findNow .string (.string s) es i=some (some (j,v))/\AW ρ O w d v)
 | [],[],[],r,i,h,_,_,_,_=>by simp only[Hx,BM]at h;subst h;rfl
 |k::ks,v::vs,e::es,r,i,h,h1,h2,hk,hv=>by
  obtain⟨kb,rfl⟩:∃a,k=.prim (.string a):=by
   unfold Hx at h;split at h<;>try(cases h;done)
   ·simp at*
   ·rename_i h1 _;cases h1;exact⟨_,rfl⟩
  simp only[Hx]at h;have h0:e.key=.string kb:=by
   have:=hk 0 _ rfl
   simp at this;generalize e.key=q at this;cases this;rfl
  have h3:Instr.findNow .string (.string s) (e::es) i=(match Instr.sameNow .string (.string s) e.key with
    |some true=>some (some (i,e.val))|some false=>Instr.findNow .string (.string s) es (i+1)|none=>none):=rfl
  rw[h0]at h3;have h4:Instr.sameNow .string (.string s) (.string kb)=some (BF s kb):=by
   show some (s==kb)=_;rw[TK]
  rw[h4]at h3;cases hb:BF s kb with
  |true=>
   rw[hb]at h h3;simp only[BM]at h;subst h;exact⟨i,e.val,h3,by simpa using hv 0 v rfl⟩
  |false=>
   rw[hb]at h h3;dsimp only at h h3;rw[h3];exact XV (i+1) h (by simpa using h1) (by simpa using h2) (λj d hd=>by simpa using hk (j+1) d (by simpa using hd)) (λj d hd=>by simpa using hv (j+1) d (by simpa using hd))
 | [],_::_,_,_,_,h,_,_,_,_=>by simp[Hx]at h
 | [],[],_::_,_,_,_,h1,_,_,_=>by simp at h1
 |_::_,[],[],_,_,_,h1,_,_,_=>by simp at h1
 |_::_,[],_::_,_,_,_,_,h2,_,_=>by simp at h2
 |_::_,_::_,[],_,_,_,h1,_,_,_=>by simp at h1
theorem OQ {t k e:Nat}{z:Value}(h:MD P t=some (.map k e z)):P.underlying t=some (.map k e)/\P.underlying k=some .string/\(∃i,P.info? e=some i/\i.zero=some z) /\
  ∀(j:Nat) (x:Value),z.cells[j]?=some x->one x=true:=by
 unfold MD at h;split at h<;>try(cases h;done)
 ·rename_i k' e' h1
  split at h<;>try(cases h;done)
  rename_i h2;split at h<;>try(cases h;done)
  rename_i i h3;split at h<;>try(cases h;done)
  rename_i z' h4;split at h<;>try(cases h;done)
  rename_i h5;cases h;exact⟨h1,h2,⟨i,h3,h4⟩,(OA h5).2⟩
 ·(repeat' split at h)<;>cases h
theorem jd {t n:Nat}(h:MD P t=some (.strs n)):∃fs:Array Field,P.underlying t=some (.struct fs)/\P.stoodInHeld t=false/\P.eqGuardType P.depth t=false/\ON P 0 fs.toList=true/\fs.size=n:=by
 unfold MD at h;split at h<;>try(cases h;done)
 ·(repeat' split at h)<;>cases h
 ·rename_i fs h1
  split at h<;>try(cases h;done)
  rename_i h2;split at h<;>try(cases h;done)
  rename_i h3;cases h;simp only[JT]at h2;exact⟨fs,h1,h2.1,h2.2,h3,rfl⟩
theorem XG:∀ {l l':List D} {b:Bool},Gu l l'=some b->l.length=l'.length
 | [],[],_,_=>rfl
 | [],_::_,_,h=>by simp[Gu]at h
 |c::l,[],_,h=>by
  unfold Gu at h;split at h
  ·simp at*
  ·simp at*
  ·cases h
 |c::l,c'::l',b,h=>by
  unfold Gu at h;split at h
  ·simp at*
  ·rename_i h1 h2
   cases h1;cases h2;split at h
   ·rename_i hr;simp[XG hr]
   ·cases h
  ·cases h
theorem WM (d:Nat){xs ys:Array Value}:∀(fs:List Field) (i:Nat) (l l':List D) (b:Bool),ON P i fs=true->Gu l l'=some b->l.length=fs.length ->
  (∀(j:Nat) (c:D),l[j]?=some c->AW ρ O w c (xs.getD (i+j) undef))->(∀(j:Nat) (c:D),l'[j]?=some c->AW ρ O w c (ys.getD (i+j) undef)) ->
  (∀j,j<fs.length->i+j<xs.size/\i+j<ys.size)->(Op.eqFields (d+1) xs ys fs).run P w=.ok b w
 | [],i,[],l',b,_,h,_,_,_,_=>by
  cases l' with
  |nil=>simp only[Gu,BM]at h;subst h;rfl
  |cons=>simp[Gu]at h
 |f::fs,i,c::l,l',b,hf,h,hl,hx,hy,hin=>by
  cases l' with
  |nil=>simp[Gu]at h
  |cons c' l'=>
   obtain⟨a,rfl⟩:∃a,c=.prim (.string a):=by
    unfold Gu at h;split at h<;>try(cases h;done)
    ·simp at*
    ·rename_i h1 _;cases h1;exact⟨_,rfl⟩
   obtain⟨a',rfl⟩:∃a,c'=.prim (.string a):=by
    unfold Gu at h;split at h<;>try(cases h;done)
    ·simp at*
    ·rename_i _ h1;cases h1;exact⟨_,rfl⟩
   simp only[Gu]at h;cases hr:Gu l l' with
   |none=>simp[hr]at h
   |some r=>
    simp only[hr,BM]at h;simp only[ON,BQ]at hf;obtain⟨⟨⟨f1,f2⟩,f3⟩,f4⟩:=hf;have f2:=B6 f2;have f3:P.underlying f.type=some .string:=by split at f3<;>first|assumption|cases f3
    have hxa:xs[i]?=some (.string a):=by
     have:=hx 0 _ rfl
     rw[De]at this;have hlt:=(hin 0 (by simp)).1;rw[De]at hlt;rw[A0,Bn hlt,Iv]at this;rw[Bn hlt];generalize xs[i]=q at this;cases this;rfl
    have hya:ys[i]?=some (.string a'):=by
     have:=hy 0 _ rfl
     rw[De]at this;have hlt:=(hin 0 (by simp)).2;rw[De]at hlt;rw[A0,Bn hlt,Iv]at this;rw[Bn hlt];generalize ys[i]=q at this;cases this;rfl
    have ag:(isAgg f.type).run P w=.ok false w:=by
     unfold isAgg;rw[run_bind,Cm f3];rfl
    have part1:(part f.type xs f.offset).run P w=.ok (.string a) w:=by
     unfold part;rw[run_bind,ag];dsimp only;rw[AF (by simp),f2];simp only[hxa];rfl
    have part2:(part f.type ys f.offset).run P w=.ok (.string a') w:=by
     unfold part;rw[run_bind,ag];dsimp only;rw[AF (by simp),f2];simp only[hya];rfl
    have hne:f.name ≠ "_":=by simpa using f1
    simp only[Op.eqFields];rw[AH hne,run_bind,part1];dsimp only;rw[run_bind,part2];dsimp only;rw[run_bind,run_equalIn_string w d f.type a a' f3];dsimp only;have ih:=WM d fs (i+1) l l' r f4 hr (by simpa using hl) (λj c hc=>by have:=hx (j+1) c (by simpa using hc);rwa [show i+(j+1)=i+1+j from by omega]at this)
     (λj c hc=>by have:=hy (j+1) c (by simpa using hc);rwa [show i+(j+1)=i+1+j from by omega]at this) (λj hj=>by have:=hin (j+1) (by simp;omega);omega)
    subst h;cases hb:BF a a' with
    |true=>
     unfold BF at hb;rw[hb];simpa using ih
    |false=>
     unfold BF at hb;rw[hb];rfl
 | [],_,_::_,_,_,_,_,h,_,_,_=>by simp at h
 |_::_,_,[],_,_,_,_,h,_,_,_=>by simp at h
theorem mj {t:Nat}{i:Az}(h:ED P t=some i)(hc:dw i.ti=true):∃u,P.underlying t=some u/\∀ms,u≠.interface ms:=by
 cases hk:i.ti with
 |int k=>exact⟨_,Xl h hk,by simp⟩
 |bool=>exact⟨_,W7 h hk,by simp⟩
 |string=>exact⟨_,LX h hk,by simp⟩
 |struct fs=>obtain⟨a,h1,_⟩:=Ss h hk;exact⟨_,h1,by simp⟩
 |slice e a b c=>exact⟨_,(Ef h hk).1,by simp⟩
 |arr n e a=>obtain⟨a,h1,_⟩:=TO h hk;exact⟨_,h1,by simp⟩
 |ptr=>rw[hk]at hc;cases hc
 |other=>rw[hk]at hc;cases hc
theorem au {tt:Nat->Option Az}{xt:Nat->Option XI}{o:Oper}{g:Operand->D}{ev:Operand->Value}{d:D}{p:Prop}(htt:Cp P tt)(hxt:MI P xt)(hg:∀x,AW ρ O w (g x) (ev x))
  (h:GD tt xt g o.op=some (d,p)) (hp:p):∃v,(execOp ev o).run P w=.ok (.value v) w/\AW ρ O w d v:=by
 unfold execOp;unfold GD at h;split at h<;>try(cases h;done)
 ·rename_i t x ho
  simp only[ho];split at h<;>try(cases h;done)
  rename_i i hi;split at h<;>try(cases h;done)
  rename_i hc;cases h;obtain⟨u,h1,h2⟩:=mj (htt _ _ hi) hc;refine⟨.iface t (ev x),?_,.ifc (hg x)⟩;rw[run_bind]
  have:(Instr.makeInterface t (ev x)).run P w=.ok (.iface t (ev x)) w:=by
   unfold Instr.makeInterface;rw[run_bind,Cm h1];dsimp only;split
   ·rename_i ms;exact Ae rfl (h2 ms)
   ·rfl
  rw[this];rfl
 ·rename_i t x ix ok ho
  simp only[ho];split at h<;>try(cases h;done)
  rename_i k e z hi;split at h<;>try(cases h;done)
  rename_i ks vs hgx;split at h<;>try(cases h;done)
  rename_i s hgi;obtain⟨a1,a2,⟨inf,a3,a4⟩,a5⟩:=OQ (hxt _ _ hi);have hx:=hg x;have hy:=hg ix;rw[hgx]at hx;rw[hgi]at hy;generalize ev x=vx at hx;generalize ev ix=vi at hy;cases hy;cases hx with
  |mp hO hr hb h1 h2 hB hk hv=>
   rename_i r clock es;have hc:(Instr.checkKey es.isEmpty 10000 k (.string s)).run P w=.ok () w:=MapKept.run_checkKey (k:=.string s) a2 (by simp[MapKept.IsKey]) _ 9999;have hz:(zeroValue e).run P w=.ok z w:=P5 a3 a4 w;have find:∀q,Hx s ks vs=some q->_:=λq hq=>XV (ρ:=ρ) (O:=O) (w:=w) (es:=es.toList) 0 hq (by simpa using h1) (by simpa using h2) (λj d hd=>by simpa[A0]using hk j d hd) (λj d hd=>by simpa[A0]using hv j d hd)
   have okR:∀(d:D) (v:Value) (b:Bool),AW ρ O w d v->AW ρ O w (IJ ok d b) (if ok then .tuple #[v,.bool b]else v):=by
    intro d v b hr;cases ok with
    |false=>exact hr
    |true=>
     refine .tup rfl λi d' hd=>?_
     match i with
     | 0=>simp at hd;subst hd;exact hr
     | 1=>simp at hd;subst hd;exact .prim _
     |n+2=>simp at hd
   split at h<;>try(cases h;done)
   ·rename_i d' hq
    cases h;obtain⟨j,v,hf,hr'⟩:=find _ hq;refine⟨_,?_,okR _ v true hr'⟩;rw[run_bind]
    have:(Instr.lookup t (.map (some r)) (.string s) ok).run P w=.ok (if ok then .tuple #[v,.bool true]else v) w:=by
     simp[Instr.lookup,Cm a1,MapKept.run_getObj_map hb,hc,MapKept.run_findKey a2 hf,Result.andThen]
    rw[this];rfl
   ·rename_i hq
    cases h;have hf:=find _ hq;refine⟨_,?_,okR _ z false (.ofV λi x hx=>.inl (a5 i x hx))⟩;rw[run_bind]
    have:(Instr.lookup t (.map (some r)) (.string s) ok).run P w=.ok (if ok then .tuple #[z,.bool false]else z) w:=by
     simp[Instr.lookup,Cm a1,MapKept.run_getObj_map hb,hc,MapKept.run_findKey a2 hf,hz,Result.andThen]
    rw[this];rfl
 ·rename_i op t x y yt ho
  simp only[ho];split at h<;>try(cases h;done)
  rename_i n hi;split at h<;>try(cases h;done)
  rename_i l hgx;split at h<;>try(cases h;done)
  rename_i l' hgy;split at h<;>try(cases h;done)
  rename_i b hb;split at h<;>try(cases h;done)
  rename_i c hn;cases h;obtain⟨fs,a1,a2,a3,a4,a5⟩:=jd (hxt _ _ hi);have hx:=hg x;have hy:=hg y;rw[hgx]at hx;rw[hgy]at hy;generalize ev x=vx at hx;generalize ev y=vy at hy;have hp:=B6 hp;have hl':=XG hb;cases hx with
  |agg n1 o1 r1=>
   cases hy with
   |agg n2 o2 r2=>
    rename_i xs ys;have eqf:P.fieldsOf t=fs:=by unfold Program.fieldsOf;rw[a1]
    have run:(Op.equalIn 10000 t (.agg xs) (.agg ys)).run P w=.ok b w:=by
     rw[show(10000:Nat)=9998+1+1 from rfl,run_equalIn_struct w _ t xs ys (by rw[eqf];exact a1) a2,eqf];exact WM (ρ:=ρ) (O:=O) 9998 fs.toList 0 l l' b a4 hb (by simp;omega) (λj c hc=>by rw[BV];exact r1 j c hc) (λj c hc=>by rw[BV];exact r2 j c hc)
      (λj hj=>by simp at hj;omega)
    refine⟨.bool c,?_,.prim _⟩;have r3:(do eqGuard op t x y (.agg xs) (.agg ys);binOp op t (.agg xs) (.agg ys):Sem Value).run P w=.ok (.bool c) w:=by
     rw[run_bind,run_eqGuard_agg w op t x y xs ys a3];dsimp only;unfold NX at hn;cases op<;>simp only[BM,reduceCtorEq]at hn
     ·subst hn;rw[run_eql_struct,run];rfl
     ·subst hn;rw[run_neq_struct,run];rfl
    rw[run_bind,r3];rfl
end
def KP (tt:Nat->Option Az)(n k:Nat)(g:Operand->D):Op->Option (D×Ay×Prop)
 | .makeSlice t l c=>match tt t with
  |some i=>match i.ti with
   | .slice e esz eby ez=>match g l with
    | .prim (.int _ a)=>match g c with
     | .prim (.int _ b)=>some (.osl k n esz 0 a.toNat,⟨k,n,e,esz,List.replicate a.toNat (ofV ez)⟩,0<=a/\a<=b/\(eby:Int)*b<=281474976710656/\b<=9223372036854775807)
     |_=>none
    |_=>none
   |_=>none
  |none=>none
 |_=>none
section
variable {C:BD} {F:Ac} {s:St} {ops:Array Oper} {o:Oper} {os:List Oper} {K:St->Prop} {ρ:Lk} {H:Hp} {w:World}
theorem Yz {α:Type}{n i:Nat}{x d:α}(h:(List.replicate n x)[i]?=some d):i<n/\x=d:=by
 rw[List.getElem?_replicate]at h;split at h
 ·rename_i hi;exact⟨hi,F7 h⟩
 ·cases h
theorem oR {tt:Nat->Option Az}{g:Operand->D}{ev:Operand->Value}{n k:Nat}{d:D}{e':Ay}{p:Prop}(htt:Cp C.P tt)(m:Aq C F ρ H w)(fr:∀k,ρ k n=none)(hlt:∀e∈H,e.g≠n)
  (hg:∀x,AW ρ (AN F.X ρ H) w (g x) (ev x)) (h:KP tt n k g o.op=some (d,e',p)) (hp:p):
  ∃v ρ' w',(execOp ev o).run C.P w=.ok (.value v) w'/\JL C F H ρ w n d (some e') v ρ' w':=by
 unfold KP at h;split at h<;>try(cases h;done)
 rename_i t l c ho;split at h<;>try(cases h;done)
 rename_i i hi;split at h<;>try(cases h;done)
 rename_i e esz eby ez hk;split at h<;>try(cases h;done)
 rename_i kl a hl;split at h<;>try(cases h;done)
 rename_i kc b hc;cases h;obtain⟨h0,hab,hby,hmx⟩:=hp;obtain⟨k1,⟨inf,k2,rfl,rfl,k5⟩,k6,k7⟩:=Ef (htt _ _ hi) hk;have h1:=hg l;have h2:=hg c;rw[hl]at h1;rw[hc]at h2;generalize hvl:ev l=vl at h1;generalize hvc:ev c=vc at h2;cases h1;cases h2;have run:=run_make (P:=C.P) w t e inf ez k1 k2 k5 kl kc a b h0 hab hby hmx;have hcell:∀q,q<b.toNat*inf.size->(madeCells ez.cells (b.toNat*inf.size)).getD q undef=ez.cells.getD (q%inf.size) undef/\q%inf.size<ez.cells.size:=λq hq=>by
  have hpos:0<inf.size:=by
   rcases Dh inf.size with h|h
   ·rw[h]at hq;simp at hq
   ·exact h
  have hm:q%ez.cells.size<ez.cells.size:=B4 _ (by omega);rw[k6]at hm;refine⟨?_,by omega⟩;unfold madeCells;simp only[A0,Array.getElem?_map];rw[Bn (by simpa using hq)];simp only[Array.getElem_range,JY,Iv];rw[k6,getElem!_pos ez.cells (q%inf.size) (by omega),Bn (by omega)];rfl
 have hec:(ofV ez).cells.length=inf.size/\∀(j:Nat) (c:D),(ofV ez).cells[j]?=some c->c=.prim (ez.cells.getD j undef):=by
  cases ez
  case tuple vs=>
   have:=k7 0 (.tuple vs) rfl
   simp[Ide.one]at this
  case agg vs=>
   refine⟨by simp only[ofV,D.cells,Am,IG];exact k6,λj c hc=>?_⟩;simp only[ofV,D.cells,A7,JS,Option.map_eq_some_iff]at hc;obtain⟨x,hx,rfl⟩:=hc;show D.prim x=.prim (vs.getD j undef);rw[A0,hx];rfl
  all_goals
   refine⟨k6,λj c hc=>?_⟩
   match j with
   | 0=>simp only[ofV,D.cells,SP,BM]at hc;subst hc;rfl
   |j+1=>simp[ofV,D.cells]at hc
 have hle:a.toNat<=b.toNat:=by omega
 have ho':DB ρ (AN F.X ρ H) w ⟨k,n,e,inf.size,List.replicate a.toNat (ofV ez)⟩ (madeCells ez.cells (b.toNat*inf.size)):=by
  refine⟨by simp only[Iu,size_madeCells];exact CM _ hle,λq d hd=>?_,λq v hv=>?_,λq d j c hd hcj=>?_⟩
  ·obtain⟨_,rfl⟩:=Yz hd
   exact hec.1
  ·have hq:q<b.toNat*inf.size:=by have:=(Array.getElem?_eq_some_iff.1 hv).1;rw[size_madeCells]at this;exact this
   obtain⟨c1,c2⟩:=hcell q hq;rw[A0,hv,Iv,A0,Bn c2,Iv]at c1;rw[c1];exact k7 _ _ (Bn c2)
  ·obtain⟨hq,rfl⟩:=Yz hd
   have hj:j<inf.size:=by rw[<-hec.1];exact(List.getElem?_eq_some_iff.1 hcj).1
   rw[hec.2 j c hcj];dsimp only;have hlt2:q*inf.size+j<b.toNat*inf.size:=by
    have:(q+1)*inf.size<=b.toNat*inf.size:=CM _ (by omega)
    rw[Bw]at this;omega
   rw[(hcell _ hlt2).1,BS,Nat.mul_add_mod,Dj hj];exact .prim _
 obtain⟨m1,x1⟩:=m.alloc ⟨k,n,e,inf.size,List.replicate a.toNat (ofV ez)⟩ _ (fr k) (λe' he' h=>hlt e' he' h.2) ho';refine⟨.slice (some ⟨w.heap.size,0,none⟩) a.toNat b.toNat,ρ.put k n w.heap.size,_,?_,m1,x1,λk' g' hg=>by unfold Lk.put;rw[AF λh=>hg h.2],?_⟩
 ·unfold execOp
  simp only[ho,hvl,hvc];rw[run_bind,run];rfl
 ·exact Pe (b:=w.heap.size) (T:=e) (fz:=(0,0)) (EO _ _ _ _) (by rw[EK];exact AH rfl) hle (by rw[size_madeCells]) (by simp only[maxLen];omega)
theorem om {tt:Nat->Option Az}{n k:Nat}{g:Operand->D}{op:Op}{d:D}{e:Ay}{p:Prop}(h:KP tt n k g op=some (d,e,p)):e.g=n:=by
 unfold KP at h
 (repeat' split at h)<;>first|(cases h;done)|(cases h;rfl)
theorem gX {tt:Nat->Option Az}(k:Nat)(htt:Cp C.P tt){d:D}{e':Ay}{p:Prop}(hw:CG ops s.env o=some true)(he:KP tt s.n k (BH s.env) o.op=some (d,e',p))(hp:p)
  (h:BJ C F ops os ⟨Ba s.env o.dst d,e'::s.H,s.n+1⟩ K):BJ C F ops (o::os) s K:=
 BJ.step hw (λρ a w hs=>by
  obtain⟨v,ρ',w',h1,h2⟩:=oR htt hs.mem (λk=>hs.fresh k _ (Ai _)) (λe he=>Nat.ne_of_lt (hs.gen e he)) (DK hs.env) he hp;refine⟨v,ρ',w',.inl h1,⟨h2.mem,h2.ext,λk g hg=>by rw[h2.far k g (by omega)];exact hs.fresh k g (by omega),h2.rep⟩,λe he2=>?_⟩;rcases BA.1 he2 with rfl|he2
  ·have:=om he;omega
  ·exact DD (hs.gen e he2)) h
theorem BJ.l' {tt:Nat->Option Az}(k:Nat)(htt:Cp C.P tt){d:D}{ne:Option Ay}{p:Prop}(hw:CG ops s.env o=some true)(he:EP tt s.H s.n k (BH s.env) o.op=some (d,ne,p))(hp:p)
  (h:BJ C F ops os ⟨Ba s.env o.dst d,Cx ne s.H,s.n+1⟩ K):BJ C F ops (o::os) s K:=
 BJ.step hw (λρ a w hs=>by
  obtain⟨v,ρ',w',h1,h2⟩:=aq (λ_ h=>h) htt hs.mem (λk=>hs.fresh k _ (Ai _)) (λe he=>Nat.ne_of_lt (hs.gen e he)) (DK hs.env) he hp;refine⟨v,ρ',w',.inl h1,⟨h2.mem,h2.ext,λk g hg=>by rw[h2.far k g (by omega)];exact hs.fresh k g (by omega),h2.rep⟩,λe he'=>?_⟩;cases ne with
  |none=>exact DD (hs.gen e he')
  |some e'=>
   rcases BA.1 he' with rfl|he'
   ·have:=ZE he
    omega
   ·exact DD (hs.gen e he')) h
theorem BJ.q {tt:Nat->Option Az}{xt:Nat->Option XI}(htt:Cp C.P tt)(hxt:MI C.P xt){d:D}{p:Prop}(hw:CG ops s.env o=some true)(he:GD tt xt (BH s.env) o.op=some (d,p))(hp:p)
  (h:BJ C F ops os ⟨Ba s.env o.dst d,s.H,s.n+1⟩ K):BJ C F ops (o::os) s K:=
 BJ.step hw (λρ a w hs=>by
  obtain⟨v,h1,h2⟩:=au htt hxt (DK hs.env) he hp;exact⟨v,ρ,w,.inl h1,.pure hs h2,λe he=>DD (hs.gen e he)⟩) h
theorem Wl {f t:Nat}{name:String}{d0:D}{r:Operand}{args:Array Operand}{tys:Array Nat}{a:Act}(ho:o.op=.call ⟨.invoke r name,args,tys⟩)(hr:BH s.env r=.ifc t d0)
  (hm:∀v w,(method (C.P.types.size+Made.depth) t v name).run C.P w=.ok (f,v) w) (hcall:Je C.P f) (hs:Bl C F ρ s a w):
  ∃vs,(execOp a.eval o).run C.P w=.ok (.enter f vs) w/\vs.size=(d0::args.toList.map (BH s.env)).length /\
   ∀(i:Nat) (d:D),(d0::args.toList.map (BH s.env))[i]?=some d->AW ρ (AN F.X ρ s.H) w d (vs.getD i undef):=by
 have hrr:=DK hs.env r;rw[hr]at hrr;generalize hv:a.eval r=v at hrr;cases hrr with
 |ifc h0=>
  rename_i v0;refine⟨#[v0]++args.map a.eval,?_,by simp;omega,λi d hd=>?_⟩
  ·unfold execOp
   simp only[ho];rw[run_bind]
   have:(resolve a.eval ⟨.invoke r name,args,tys⟩ o.type).run C.P w=.ok { target:=.fn (.method name) #[],args:=#[.iface t v0]++args.map a.eval } w:=by
    unfold resolve;simp only[hv];rfl
   rw[this];dsimp only;unfold invoke;have g0:(#[Value.iface t v0]++args.map a.eval)[0]?=some (.iface t v0):=by rw[Gg (by simp)];rfl
   have g1:(#[Value.iface t v0]++args.map a.eval).extract 1 (#[Value.iface t v0]++args.map a.eval).size=args.map a.eval:=by
    apply Array.ext_getElem?;intro q;rw[Array.getElem?_extract];simp only[JW,KH,Bp,G5,Array.size_map];rw[Gf (by simp)];simp only[KH,Bp,G5];split
    ·congr 1;omega
    ·rw[Pt (by simp;omega)]
   simp only[g0,g1];unfold callMethod;simp only[];rw[run_bind,QA];dsimp only;rw[run_bind,hm];dsimp only;exact Sj hcall _ w
  ·cases i with
   |zero=>
    simp at hd;subst hd
    have:(#[v0]++args.map a.eval).getD 0 undef=v0:=by rw[A0,Gg (by simp)];rfl
    rw[this];exact h0
   |succ i=>
    simp only[KI,A7,JS,Option.map_eq_some_iff]at hd;obtain⟨x,hx,rfl⟩:=hd
    have:(#[v0]++args.map a.eval).getD (i+1) undef=a.eval x:=by
     simp only[A0];rw[Gf (by simp)];simp[hx]
    rw[this];exact DK hs.env x
theorem zG {f t:Nat}{name:String}{d0:D}{ds:List D}{r:Operand}{args:Array Operand}{tys:Array Nat}{Φ:D->Hp->Nat->Prop}(hw:CG ops s.env o=some true)(ho:o.op=.call ⟨.invoke r name,args,tys⟩)(hr:BH s.env r=.ifc t d0)
  (hm:∀v w,(method (C.P.types.size+Made.depth) t v name).run C.P w=.ok (f,v) w) (hds:d0::args.toList.map (BH s.env)=ds) (hc:Cg C f ds s.H s.n Φ)
  (h:∀d H' n',Φ d H' n'->BJ C F ops os ⟨Ba s.env o.dst d,H',n'⟩ K):BJ C F ops (o::os) s K:=by
 intro hd l hl ρ a w hs;cases l with
 |nil=>simp at hl
 |cons i l=>
  simp only[Ct,FB]at hl;simp only[Fl,BQ]at hd;obtain⟨vs,h1,h2,h3⟩:=Wl ho hr hm hc.1 hs;rw[hds]at h2 h3;simp only[wpOps,hl.1];rw[AH (Lt hs.env hw)];refine .inl ?_;unfold Oper.wp;rw[h1];refine(hc.2 F ρ w vs hs.mem hs.fresh hs.gen h2 h3).mono ?_;rintro e w' ⟨v,d,H',n',ρ',rfl,hΦ,m,x,fr,g,r⟩;exact h d H' n' hΦ hd.2 l hl.2 ρ' (a.put o.dst v) w' (hs.put m x fr g r hd.1)
structure qQ (es:Array MapEntry)(clock:Nat)(ks vs:List D):Prop where
 hB:Jq es clock
 h1:es.size=ks.length
 h2:es.size=vs.length
 hk:∀(i:Nat) (d:D),ks[i]?=some d->∀ρ O w,AW ρ O w d (es.getD i default).key
 hv:∀(i:Nat) (d:D),vs[i]?=some d->∀ρ O w,AW ρ O w d (es.getD i default).val
theorem Jq.push {es:Array MapEntry}{clock:Nat}(h:Jq es clock)(k v:Value):Jq (es.push { key:=k,val:=v,born:=clock }) (clock+1):=by
 refine⟨λi e he=>?_,λi j e e' he he' hb=>?_⟩
 ·rw[Pk]at he
  split at he
  ·cases he;exact Ha _
  ·exact DD (h.1 i e he)
 ·rw[Pk]at he he'
  split at he<;>split at he'
  ·omega
  ·cases he
   have:=h.1 j e' he'
   simp only at hb;omega
  ·cases he'
   have:=h.1 i e he
   simp only at hb;omega
  ·exact h.2 i j e e' he he' hb
def WI (C:BD)(F:Ac)(ops:Array Oper)(os:List Oper)(m:Nat)(ks vs:List D)(s:St)(K:St->Prop):Prop:=
 os.all (Dl F.nt)=true->∀(l:List Nat),l.map (ops[·]?)=os.map some->∀ρ a w es clock,Bl C F ρ s a w->a.tmps.getD m undef=.map (some w.heap.size)->m<a.tmps.size->qQ es clock ks vs ->
  wpOps C.P ops (LW C F K) l a (w.alloc (.map es clock))
theorem WI.done {m:Nat}{ks vs:List D}(h:BJ C F ops os ⟨Ba s.env (some m) (.mp ks vs),s.H,s.n⟩ K):WI C F ops os m ks vs s K:=by
 intro hds l hl ρ a w es clock hs hm hlt hr;have hO:¬AN F.X ρ s.H w.heap.size:=λh'=>Ae (hs.mem.own_lt h') (Nat.lt_irrefl _)
 have x:=BT.allocPure (ρ:=ρ) (F:=F) (H:=s.H) (w:=w) (.map es clock);refine h hds l hl ρ a _ ⟨hs.mem.allocPure _,hs.fresh,hs.gen,λt=>?_,hs.nt,hs.dfr⟩;show AW _ _ _ (Au.get ((m,.mp ks vs)::s.env) t) _;rw[In]
 by_cases ht:m=t
 ·subst ht
  rw[AH rfl,hm];exact .mp hO (by simp) (by rw[EK,AH rfl]) hr.h1 hr.h2 hr.hB (λi d hd=>hr.hk i d hd _ _ _) (λi d hd=>hr.hv i d hd _ _ _)
 ·rw[AF ht];exact(hs.env t).mono x
def Kl (C:BD)(f:Nat)(ds:List D)(d:D):Prop:=∀(ρ:Lk) (O:Nat->Prop) (w:World) (vs:Array Value),vs.size=ds.length->(∀(i:Nat) (x:D),ds[i]?=some x->AW ρ O w x (vs.getD i undef)) ->
 ∃v,(callFunc f vs).run C.P w=.ok (.value v) w/\AW ρ O w d v
theorem Wa {f:Nat}{g:Operand->D}{O:Nat->Prop}{first captured:List D}{fop:Operand}{args:Array Operand}{tys:Array Nat}{ρ:Lk}{a:Act}{w:World}(ho:o.op=.call ⟨.value fop,args,tys⟩)
  (hf:g fop=.clo (.func f) first captured) (hg:∀x,AW ρ O w (g x) (a.eval x)):
  ∃vs,(execOp a.eval o).run C.P w=(callFunc f vs).run C.P w/\vs.size=(first++args.toList.map g++captured).length /\
   ∀(i:Nat) (d:D),(first++args.toList.map g++captured)[i]?=some d->AW ρ O w d (vs.getD i undef):=by
 have hfr:=hg fop;rw[hf]at hfr;generalize hv:a.eval fop=v at hfr;cases hfr with
 |clo hn hc h1 h2=>
  rename_i fs cs;refine⟨fs++args.map a.eval++cs,?_,by simp[hn,hc],λi d hd=>?_⟩
  ·unfold execOp
   simp only[ho];rw[run_bind]
   have:(resolve a.eval ⟨.value fop,args,tys⟩ o.type).run C.P w=.ok { target:=.fn (.func f) cs,args:=fs++args.map a.eval } w:=by
    unfold resolve;simp only[hv];rfl
   rw[this];dsimp only;unfold invoke;rfl
  ·rw[Di]at hd
   rcases BI i first.length with hi|hi
   ·rw[Gh hi]at hd
    have:(fs++args.map a.eval++cs).getD i undef=fs.getD i undef:=by
     simp only[A0];rw[MV,Gg (by omega)]
    rw[this];exact h1 i d hd
   ·rw[E7 hi]at hd
    rcases BI (i-first.length) args.size with hj|hj
    ·rw[Gh (by simpa using hj)]at hd
     simp at hd;obtain⟨x,hx,rfl⟩:=hd
     have:(fs++args.map a.eval++cs).getD i undef=a.eval x:=by
      simp only[A0];rw[MV,Gf (by omega),Gg (by simp;omega),hn];simp[hx]
     rw[this];exact hg x
    ·rw[E7 (by simpa using hj)]at hd
     have:(fs++args.map a.eval++cs).getD i undef=cs.getD (i-first.length-args.size) undef:=by
      simp only[A0];rw[MV,Gf (by omega),Gf (by simp;omega),hn];simp
     rw[this];exact h2 _ d (by simpa using hd)
theorem BJ.nat {f:Nat}{first captured ds:List D}{fop:Operand}{args:Array Operand}{tys:Array Nat}{d:D}(hw:CG ops s.env o=some true)(ho:o.op=.call ⟨.value fop,args,tys⟩)
  (hf:BH s.env fop=.clo (.func f) first captured) (hds:first++args.toList.map (BH s.env)++captured=ds) (hc:Kl C f ds d)
  (h:BJ C F ops os ⟨Ba s.env o.dst d,s.H,s.n+1⟩ K):BJ C F ops (o::os) s K:=
 BJ.step hw (λρ a w hs=>by
  obtain⟨vs,h1,h2,h3⟩:=Wa (C:=C) (a:=a) ho hf (DK hs.env);rw[hds]at h2 h3;obtain⟨v,h4,h5⟩:=hc _ _ _ vs h2 h3;exact⟨v,ρ,w,.inl (h1.trans h4),.pure hs h5,λe he=>DD (hs.gen e he)⟩) h
theorem CQ.nat {H:Hp}{g f:Nat}{env:Au}{first captured ds:List D}{fop:Operand}{args:Array Operand}{tys:Array Nat}{d:D}(hw:CG ops env o=some true)(ho:o.op=.call ⟨.value fop,args,tys⟩)
  (hf:BH env fop=.clo (.func f) first captured) (hds:first++args.toList.map (BH env)++captured=ds) (hc:Kl C f ds d):CQ C F ops H g env o d none:=by
 refine⟨by simp,λHe ρ a w m hsub fr hne hr=>.inr ⟨IL hr hw,.inl ?_⟩⟩;obtain⟨g',h1,h2⟩:=I8 hr;have hfop:fop∈o.op.operands:=by rw[ho];simp[Op.operands,Call.operands]
 have harg:∀x∈args.toList,BH env x=g' x:=λx hx=>h1 x (by rw[ho];simp[Op.operands,Call.operands];right;simpa using hx)
 rw[h1 fop hfop]at hf;rw[Me harg]at hds;obtain⟨vs,q1,q2,q3⟩:=Wa (C:=C) (g:=g') ho hf h2;rw[hds]at q2 q3;obtain⟨v,h4,h5⟩:=hc _ _ _ vs q2 q3;exact⟨v,ρ,w,q1.trans h4,m,.refl _ _ _,λ_ _ _=>rfl,h5⟩
end
def fp (op:BinOp)(k k':IntKind)(b:Int):Bool:=match op with
 | .quo | .rem=>decide (k=k') && !(decide (b=0))
 | .shl | .shr=>decide (0<=b)
 |_=>decide (k=k')
def Sd (op:BinOp)(x y:Value):Bool:=match x,y with
 | .int k _,.int k' b=>fp op k k' b
 | .string a,.string b=>match op with
  | .add=>Nat.ble (a.size+b.size) 9223372036854775807
  |_=>true
 |_,_=>true
theorem dR {op:BinOp}{x y v:Value}{p:Prop}(h:Nd op x y=some (v,p))(hk:Sd op x y=true):p:=by
 unfold Nd at h;unfold Sd at hk;split at h
 ·dsimp only at hk
  unfold fp at hk;cases op<;>simp only[BM,Bh]at h<;>obtain⟨_,rfl⟩:=h<;>simpa using hk
 ·cases op<;>simp only[BM,Bh,reduceCtorEq]at h<;>obtain⟨_,rfl⟩:=h<;>first|trivial|(dsimp only at hk;exact Bj hk)
 ·cases h
def WD (ti:TI)(x y:D):Bool:=match ti,x,y with
 | .slice ..,.sl false _ es,.prim (.slice none _ _)=>!es.isEmpty
 |_,_,_=>true
theorem vV {ti:TI}{x y:D}{b:Bool}{p:Prop}(h:MY ti x y=some (b,p))(hk:WD ti x y=true):p:=by
 unfold MY at h;split at h<;>try(cases h;done)
 all_goals(simp only[BM,Bh]at h;obtain⟨_,rfl⟩:=h)
 all_goals first
  |trivial
  |(simp only[WD]at hk;intro he;subst he;simp at hk)
def Ve (tt:Nat->Option Az)(op:BinOp)(t:Nat)(x y:D):Bool:=match x,y with
 | .prim (.int k a),.prim (.int k' b)=>Sd op (.int k a) (.int k' b)
 | .prim (.string a),.prim (.string b)=>Sd op (.string a) (.string b)
 |x,y=>match tt t with
  |some i=>WD i.ti x y
  |none=>true
theorem nm {tt:Nat->Option Az}{op:BinOp}{t:Nat}{x y d:D}{p:Prop}(h:PP tt op t x y=some (d,p))(hk:Ve tt op t x y=true):p:=by
 unfold PP at h;unfold Ve at hk;split at h
 ·dsimp only at hk
  split at h<;>try(cases h;done)
  rename_i hb;cases h;exact dR hb hk
 ·dsimp only at hk
  split at h<;>try(cases h;done)
  rename_i hb;cases h;exact dR hb hk
 ·rename_i h1 h2
  split at hk
  ·exact Ae rfl (h1 _ _ _ _ rfl)
  ·exact Ae rfl (h2 _ _ rfl)
  ·split at h<;>try(cases h;done)
   rename_i i hi;split at h<;>try(cases h;done)
   rename_i b q hb;split at h<;>try(cases h;done)
   cases h;rw[hi]at hk;exact vV hb hk
def NQ (ag:Bool)(sz:Nat)(d:D):Bool:=match ag with
 |true=>match d with
  | .agg ds=>Nat.beq ds.length sz
  |_=>false
 |false=>Nat.beq sz 1&&d.one
theorem OY {ag:Bool}{sz:Nat}{d:D}(h:NQ ag sz d=true):Br ag sz d:=by
 unfold NQ at h;split at h
 ·split at h
  ·rw[<-B6 h];exact Br.agg
  ·cases h
 ·simp only[BQ]at h
  rw[B6 h.1];exact CY h.2
def Rj (fs:List (Nat×Nat×Bool))(g:Operand->D):List (Nat×Operand)->List D->Bool
 | [],_=>true
 |(i,x)::r,cs=>match fs[i]? with
  |some (o,sz,ag)=>NQ ag sz (g x)&&Nat.ble (o+sz) cs.length&&Rj fs g r (E4 cs o (Es ag (g x)))
  |none=>true
theorem Xx {fs:List (Nat×Nat×Bool)}{g:Operand->D}:∀ {ps:List (Nat×Operand)} {cs cs':List D} {p:Prop},HM fs g ps cs=some (cs',p)->Rj fs g ps cs=true->p
 | [],cs,cs',p,h,_=>by simp only[HM,BM,Bh]at h;obtain⟨_,rfl⟩:=h;trivial
 |(i,x)::r,cs,cs',p,h,hk=>by
  simp only[HM]at h;simp only[Rj]at hk;cases hf:fs[i]? with
  |none=>simp[hf]at h
  |some q=>
   obtain⟨o,sz,ag⟩:=q;simp only[hf]at h hk;cases hr:HM fs g r (E4 cs o (Es ag (g x)))with
   |none=>simp[hr]at h
   |some q=>
    obtain⟨c2,p2⟩:=q;simp only[hr,BM,Bh]at h;obtain⟨_,rfl⟩:=h;simp only[BQ]at hk;exact⟨⟨OY hk.1.1,Bj hk.1.2⟩,Xx hr hk.2⟩
def PZ (n:Nat):D->Bool
 | .prim (.int _ x)=>decide (0<=x)&&decide (x<=n)
 |_=>true
theorem Qs {n m:Nat}{d:D}{p:Prop}(h:K5 n d=some (m,p))(hk:PZ n d=true):p:=by
 unfold K5 at h;split at h
 ·simp only[BM,Bh]at h;obtain⟨_,rfl⟩:=h
  simpa[PZ]using hk
 ·cases h
def PH (n:Nat)(lo hi:Option D):Bool:=match hi with
 |none=>match lo with
  |none=>true
  |some l=>PZ n l
 |some h=>PZ n h&&(match K5 n h with
  |some (m,_)=>match lo with
   |none=>true
   |some l=>PZ m l
  |none=>true)
theorem Tg {n a b:Nat}{lo hi:Option D}{p:Prop}(h:IX n lo hi=some (a,b,p))(hk:PH n lo hi=true):p:=by
 unfold IX at h;unfold PH at hk;cases hi with
 |none=>
  cases lo with
  |none=>simp only[BM,Bh]at h;obtain⟨_,_,rfl⟩:=h;trivial
  |some l=>
   dsimp only at h hk;split at h<;>try(cases h;done)
   rename_i hb;cases h;exact Qs hb hk
 |some hh=>
  dsimp only at h hk;simp only[BQ]at hk;split at h<;>try(cases h;done)
  rename_i m q hb;rw[hb]at hk;cases lo with
  |none=>cases h;exact Qs hb hk.1
  |some l=>
   dsimp only at h hk;split at h<;>try(cases h;done)
   rename_i hb2;cases h;exact⟨Qs hb hk.1,Qs hb2 hk.2⟩
def T7 (tt:Nat->Option Az)(t:Nat)(x:D)(lo hi:Option D):Bool:=match tt t with
 |some i=>match i.ti,x with
  | .string,.prim (.string s)=>PH s.size lo hi
  | .slice _ esz _ _,.sl _ sz es=>PH es.length lo hi&&Nat.beq esz sz
  | .slice _ esz _ _,.osl _ _ sz _ len=>PH len lo hi&&Nat.beq esz sz&&(match IX len lo hi with
   |some (l,h,_)=>Nat.blt l h||Nat.beq l 0
   |none=>true)
  |_,_=>true
 |none=>true
theorem ju {tt:Nat->Option Az}{t:Nat}{x d:D}{lo hi:Option D}{p:Prop}(h:O2 tt t x lo hi=some (d,p))(hk:T7 tt t x lo hi=true):p:=by
 unfold O2 at h;unfold T7 at hk;cases hi':tt t with
 |none=>simp[hi']at h
 |some i=>
  simp only[hi']at h hk;split at h<;>try(cases h;done)
  ·rename_i hti
   simp only[hti]at hk;split at h<;>try(cases h;done)
   rename_i hb;cases h;exact Tg hb hk
  ·rename_i hti
   simp only[hti,BQ]at hk;split at h<;>try(cases h;done)
   rename_i hb;cases h;exact⟨Tg hb hk.1,B6 hk.2⟩
  ·rename_i hti
   simp only[hti,BQ]at hk;split at h<;>try(cases h;done)
   rename_i l hh q hb;cases h;simp only[hb]at hk;refine⟨Tg hb hk.1.1,B6 hk.1.2,?_⟩
   have:=hk.2
   simp only[KN]at this;exact this.imp Nat.blt_eq.mp B6
theorem Xe {k:IntKind}:∀ {r:List D} {a:Int} {d:D} {p:Prop},Ko k a r=some (d,p)->p
 | [],a,d,p,h=>by simp only[Ko,BM,Bh]at h;obtain⟨_,rfl⟩:=h;trivial
 |x::r,a,d,p,h=>by
  unfold Ko at h;split at h
  ·rename_i h1;cases h1
  ·rename_i h1;cases h1;exact Xe h
  ·cases h
theorem Xd {k:IntKind}:∀ {r:List D} {a:Int} {d:D} {p:Prop},Kn k a r=some (d,p)->p
 | [],a,d,p,h=>by simp only[Kn,BM,Bh]at h;obtain⟨_,rfl⟩:=h;trivial
 |x::r,a,d,p,h=>by
  unfold Kn at h;split at h
  ·rename_i h1;cases h1
  ·rename_i h1;cases h1;exact Xd h
  ·cases h
theorem jO {tt:Nat->Option Az}{b:Builtin}{tys:List Nat}{args:List D}{d:D}{p:Prop}(h:OV tt b tys args=some (d,p)):p:=by
 unfold OV at h
 (repeat' split at h)<;>first|(cases h;done)|(cases h;trivial)|exact Xe h|exact Xd h
def Ma (tt:Nat->Option Az)(g:Operand->D):Op->Bool
 | .pick c a b=>match g c with
  | .prim (.bool true)=>(HR (g a)).2
  | .prim (.bool false)=>(HR (g b)).2
  |_=>true
 | .build t ps=>match tt t with
  |some i=>match Qt i.ti with
   |some fs=>Rj fs g ps.toList (i.zero.cells.toList.map .prim)
   |none=>true
  |none=>true
 | .binOp op t x y _=>Ve tt op t (g x) (g y)
 | .slice t x lo hi none=>T7 tt t (g x) (lo.map g) (hi.map g)
 | .indexAddr t x ix=>match tt t with
  |some i=>match i.ti,g ix with
   | .arr n _ _,.prim (.int _ j)=>decide (0<=j)&&decide (j<n)
   | .slice _ esz _ _,.prim (.int _ j)=>match g x with
    | .osl _ _ sz _ len=>decide (0<=j)&&decide (j<len)&&Nat.beq esz sz
    |_=>true
   |_,_=>true
  |none=>true
 | .index t x ix=>match tt t with
  |some i=>match i.ti,g x,g ix with
   | .string,.prim (.string s),.prim (.int _ j)=>decide (0<=j)&&decide (j<s.size)
   |_,_,_=>true
  |none=>true
 |_=>true
theorem dL {tt:Nat->Option Az}{g:Operand->D}{op:Op}{d:D}{p:Prop}(h:Gm tt g op=some (d,p))(hk:Ma tt g op=true):p:=by
 unfold Gm at h;split at h<;>try(cases h;done)
 ·cases h;trivial
 ·cases h;trivial
 ·rename_i c a b
  simp only[Ma]at hk;split at h<;>try(cases h;done)
  rename_i t hc;rw[hc]at hk;cases h;cases t
  ·exact⟨λh=>(by cases h),λ_=>hk⟩
  ·exact⟨λ_=>hk,λh=>(by cases h)⟩
 ·rename_i t ps
  simp only[Ma]at hk;unfold Oy at h;split at h<;>try(cases h;done)
  rename_i i hi;simp only[hi]at hk;split at h<;>try(cases h;done)
  rename_i fs hf;simp only[hf]at hk;split at h<;>try(cases h;done)
  rename_i hfl;cases h;exact Xx hfl hk
 ·split at h<;>first|(cases h;done)|(cases h;trivial)
 ·exact nm h hk
 ·split at h<;>first|(cases h;done)|(cases h;trivial)
 ·split at h<;>try(cases h;done)
  split at h<;>first|(cases h;done)|(cases h;trivial)
 ·cases h;trivial
 ·exact ju h hk
 ·(repeat' split at h)<;>first|(cases h;done)|(cases h;trivial)
 ·(repeat' split at h)<;>first|(cases h;done)|(cases h;trivial)
 ·rename_i t x ix
  simp only[Ma]at hk;split at h<;>try(cases h;done)
  rename_i i hi;simp only[hi]at hk;split at h<;>try(cases h;done)
  ·rename_i h1 h2
   simp only[h1,h2]at hk;split at h<;>try(cases h;done)
   cases h;simpa using hk
  ·rename_i h1 h2
   simp only[h1,h2]at hk;split at h<;>try(cases h;done)
   rename_i h3;cases h;simp only[h3,BQ,F8]at hk;exact⟨hk.1.1,hk.1.2,B6 hk.2⟩
 ·rename_i t x ix
  simp only[Ma]at hk;split at h<;>try(cases h;done)
  rename_i i hi;simp only[hi]at hk;split at h<;>try(cases h;done)
  rename_i h1 h2 h3;simp only[h1,h2,h3]at hk;cases h;simpa using hk
 ·(repeat' split at h)<;>first|(cases h;done)|(cases h;trivial)
 ·exact jO h
def NS (ag:Bool)(sz:Nat):List D->Bool
 | []=>true
 |d::l=>NQ ag sz d&&NS ag sz l
theorem Yq {ag:Bool}{sz:Nat}:∀ {l:List D},NS ag sz l=true->RJ ag sz l
 | [],_=>trivial
 | [d],h=>by simp only[NS,BQ]at h;exact OY h.1
 |d::d'::l,h=>by simp only[NS,BQ]at h;exact⟨OY h.1,Yq (by simp only[NS,BQ];exact h.2)⟩
def KT (tt:Nat->Option Az)(H:Hp)(g:Operand->D):Op->Bool
 | .load t x=>match tt t with
  |some i=>match g x with
   | .optr k gg sz j off=>match Hp.get H k with
    |some e=>match e.es[j]? with
     |some d=>Nat.beq gg e.g&&Nat.beq sz e.sz&&(bif i.ag then Nat.ble (off+i.sz) d.cells.length else true)
     |none=>true
    |none=>true
   | .pptr d=>match i.ag with
    |true=>match d with
     | .agg ds=>Nat.beq ds.length i.sz
     |_=>true
    |false=>Jm d
   |_=>true
  |none=>true
 | .box t x=>match tt t with
  |some i=>NQ i.ag i.sz (g x)
  |none=>true
 | .buildSlice t len ps=>match tt t with
  |some i=>match i.ti with
   | .slice e esz _ _=>match len with
    | 0=>true
    |len+1=>match tt e with
     |some ie=>match JF g 0 ps.toList with
      |some es=>NS ie.ag esz es&&Nat.beq es.length (len+1)&&Nat.ble ((len+1)*esz) 16777216&&Nat.ble 1 esz
      |none=>true
     |none=>true
   |_=>true
  |none=>true
 |_=>true
theorem U9 {tt:Nat->Option Az}{H:Hp}{n k:Nat}{g:Operand->D}{op:Op}{d:D}{ne:Option Ay}{p:Prop}(h:EP tt H n k g op=some (d,ne,p))(hk:KT tt H g op=true):p:=by
 unfold EP at h;split at h<;>try(cases h;done)
 ·simp only[KT]at hk
  split at h<;>try(cases h;done)
  rename_i i hi;simp only[hi]at hk;split at h<;>try(cases h;done)
  ·rename_i h1
   simp only[h1]at hk;split at h<;>try(cases h;done)
   rename_i e he;simp only[he]at hk;split at h<;>try(cases h;done)
   rename_i d1 hd;simp only[hd]at hk;split at h<;>try(cases h;done)
   cases h;simp only[BQ]at hk;exact⟨B6 hk.1.1,B6 hk.1.2,hk.2⟩
  ·rename_i h1
   simp only[h1]at hk;split at h
   ·rename_i ha
    simp only[ha]at hk;split at h<;>try(cases h;done)
    cases h;exact hk
   ·rename_i ha
    simp only[ha]at hk;cases h;exact hk
 ·split at h<;>first|(cases h;done)|(cases h;trivial)
 ·simp only[KT]at hk
  split at h<;>try(cases h;done)
  rename_i i hi;simp only[hi]at hk;cases h;exact OY hk
 ·simp only[KT]at hk
  split at h<;>try(cases h;done)
  rename_i i hi;simp only[hi]at hk;split at h<;>try(cases h;done)
  rename_i h1;simp only[h1]at hk;split at h
  ·split at h<;>first|(cases h;done)|(cases h;trivial)
  ·dsimp only at hk
   split at h<;>try(cases h;done)
   rename_i h2;simp only[h2]at hk;split at h<;>try(cases h;done)
   rename_i h3;simp only[h3,BQ]at hk;cases h;exact⟨Yq hk.1.1.1,B6 hk.1.1.2,hk.1.2,hk.2⟩
def Sc (tt:Nat->Option Az)(H:Hp)(g:Operand->D):Op->Bool
 | .store t x y=>match tt t with
  |some i=>match g x with
   | .optr k gg sz _ off=>match Hp.get H k with
    |some e=>NQ i.ag i.sz (g y)&&Nat.beq gg e.g&&Nat.beq sz e.sz&&Nat.ble (off+i.sz) e.sz
    |none=>true
   |_=>true
  |none=>true
 |_=>true
theorem dQ {tt:Nat->Option Az}{H:Hp}{g:Operand->D}{op:Op}{k:Nat}{e':Ay}{p:Prop}(h:FD tt H g op=some (k,e',p))(hk:Sc tt H g op=true):p:=by
 unfold FD at h;split at h<;>try(cases h;done)
 simp only[Sc]at hk;split at h<;>try(cases h;done)
 rename_i i hi;simp only[hi]at hk;split at h<;>try(cases h;done)
 rename_i h1;simp only[h1]at hk;split at h<;>try(cases h;done)
 rename_i h2;simp only[h2,BQ]at hk;split at h<;>try(cases h;done)
 cases h;exact⟨OY hk.1.1.1,B6 hk.1.1.2,B6 hk.1.2,hk.2⟩
def Vf (H:Hp)(esz:Nat):D->Bool
 | .sl _ sz _=>Nat.beq sz esz
 | .osl k g sz i len=>match Hp.get H k with
  |some e=>Nat.beq g e.g&&Nat.beq sz e.sz&&Nat.beq sz esz&&Nat.ble (i+len) e.es.length
  |none=>true
 |_=>true
theorem Yr {H:Hp}{esz:Nat}{d:D}{es:List D}{p:Prop}(h:IB H esz d=some (es,p))(hk:Vf H esz d=true):p:=by
 unfold IB at h;split at h<;>try(cases h;done)
 ·cases h;exact B6 hk
 ·simp only[Vf]at hk
  split at h<;>try(cases h;done)
  rename_i h1;simp only[h1,BQ]at hk;cases h;exact⟨B6 hk.1.1.1,B6 hk.1.1.2,B6 hk.1.2,Bj hk.2⟩
 ·cases h;trivial
def Pv (tt:Nat->Option Az)(H:Hp)(g:Operand->D):Op->Bool
 | .call ⟨.builtin .append,args,tys⟩=>match args.toList with
  | [s,x]=>match tys.toList with
   | [t,_]=>match tt t with
    |some i=>match i.ti with
     | .slice e esz eby _=>Vf H esz (g x)&&Nat.ble 1 eby&&Nat.ble 1 esz&&(match IB H esz (g x)with
      |some (news,_)=>match g s with
       | .osl k1 g1 sz _ len=>match Hp.get H k1 with
        |some e1=>Nat.beq g1 e1.g&&Nat.beq sz e1.sz&&Nat.beq sz esz&&Nat.beq e1.T e&&Nat.ble len e1.es.length&&Nat.ble ((len+news.length)*eby) 140737488355328
        |none=>true
       |_=>Nat.ble (news.length*eby) 140737488355328
      |none=>true)
     |_=>true
    |none=>true
   |_=>true
  |_=>true
 |_=>true
theorem U8 {tt:Nat->Option Az}{H:Hp}{n k:Nat}{g:Operand->D}{op:Op}{d:D}{H':Hp}{p:Prop}(h:EI tt H n k g op=some (d,H',p))(hk:Pv tt H g op=true):p:=by
 unfold EI at h;split at h<;>try(cases h;done)
 simp only[Pv]at hk;split at h<;>try(cases h;done)
 rename_i h1;simp only[h1]at hk;split at h<;>try(cases h;done)
 rename_i h2;simp only[h2]at hk;split at h<;>try(cases h;done)
 split at h<;>try(cases h;done)
 rename_i h3;simp only[h3]at hk;split at h<;>try(cases h;done)
 rename_i h4;simp only[h4]at hk;split at h<;>try(cases h;done)
 rename_i h5;simp only[h5,BQ]at hk;obtain⟨⟨⟨k1,k2⟩,k3⟩,k4⟩:=hk;split at h<;>try(cases h;done)
 ·rename_i h6
  simp only[h6]at k4;split at h<;>try(cases h;done)
  rename_i h7;simp only[h7,BQ]at k4;cases h;exact⟨Yr h5 k1,B6 k4.1.1.1.1.1,B6 k4.1.1.1.1.2,B6 k4.1.1.1.2,B6 k4.1.1.2,Bj k4.1.2,Bj k4.2,
   Bj k2,Bj k3⟩
 ·rename_i h6
  simp only[h6]at k4;cases h;exact⟨Yr h5 k1,Bj k4,Bj k2,Bj k3⟩
def WE (tt:Nat->Option Az)(g:Operand->D):Op->Bool
 | .makeSlice t l c=>match tt t with
  |some i=>match i.ti with
   | .slice _ _ eby _=>match g l with
    | .prim (.int _ a)=>match g c with
     | .prim (.int _ b)=>decide (0<=a)&&decide (a<=b)&&decide ((eby:Int)*b<=281474976710656)&&decide (b<=9223372036854775807)
     |_=>true
    |_=>true
   |_=>true
  |none=>true
 |_=>true
theorem vW {tt:Nat->Option Az}{n k:Nat}{g:Operand->D}{op:Op}{d:D}{e:Ay}{p:Prop}(h:KP tt n k g op=some (d,e,p))(hk:WE tt g op=true):p:=by
 unfold KP at h;split at h<;>try(cases h;done)
 simp only[WE]at hk;split at h<;>try(cases h;done)
 rename_i h1;simp only[h1]at hk;split at h<;>try(cases h;done)
 rename_i h2;simp only[h2]at hk;split at h<;>try(cases h;done)
 rename_i h3;simp only[h3]at hk;split at h<;>try(cases h;done)
 rename_i h4;simp only[h4,BQ,F8]at hk;cases h;exact⟨hk.1.1.1,hk.1.1.2,hk.1.2,hk.2⟩
def Sb (xt:Nat->Option XI)(g:Operand->D):Op->Bool
 | .binOp _ t x _ _=>match xt t with
  |some (.strs n)=>match g x with
   | .agg l=>Nat.beq l.length n
   |_=>true
  |_=>true
 |_=>true
theorem dO {tt:Nat->Option Az}{xt:Nat->Option XI}{g:Operand->D}{op:Op}{d:D}{p:Prop}(h:GD tt xt g op=some (d,p))(hk:Sb xt g op=true):p:=by
 unfold GD at h;split at h<;>try(cases h;done)
 ·(repeat' split at h)<;>first|(cases h;done)|(cases h;trivial)
 ·(repeat' split at h)<;>first|(cases h;done)|(cases h;trivial)
 ·simp only[Sb]at hk
  split at h<;>try(cases h;done)
  rename_i h1;simp only[h1]at hk;split at h<;>try(cases h;done)
  rename_i h2;simp only[h2]at hk;split at h<;>try(cases h;done)
  split at h<;>try(cases h;done)
  split at h<;>try(cases h;done)
  cases h;exact hk
def G9 {α:Type}(n:Nat)(k:Nat->α):α:=match n with
 | 0=>k 0
 |m+1=>k (m+1)
def iA {α:Type}(z:Int)(k:Int->α):α:=match z with
 | .ofNat n=>match n with
  | 0=>k (.ofNat 0)
  |m+1=>k (.ofNat (m+1))
 | .negSucc n=>match n with
  | 0=>k (.negSucc 0)
  |m+1=>k (.negSucc (m+1))
def SX {α:Type}:List UInt8->(List UInt8->α)->α
 | [],k=>k []
 |b::l,k=>G9 b.toNat λn=>SX l λl'=>k (UInt8.ofNat n::l')
def V9 {α:Type}(v:Value)(k:D->α):α:=match v with
 | .int kd z=>iA z λz'=>k (.prim (.int kd z'))
 | .bool b=>match b with
  |true=>k (.prim (.bool true))
  |false=>k (.prim (.bool false))
 | .string s=>SX s.data.toList λl=>k (.prim (.string ⟨l.toArray⟩))
 |v=>k (.prim v)
def LT {α:Type}(d:D)(k:D->α):α:=match d with
 | .prim v=>V9 v k
 | .osl a g sz i len=>G9 a λa=>G9 g λg=>G9 i λi=>G9 len λlen=>k (.osl a g sz i len)
 | .optr a g sz i off=>G9 a λa=>G9 g λg=>G9 i λi=>G9 off λoff=>k (.optr a g sz i off)
 |d=>k d
def Nw {α:Type}:List D->(List D->α)->α
 | [],k=>k []
 |d::l,k=>LT d λd'=>Nw l λl'=>k (d'::l')
def Nv {α:Type}(d:D)(k:D->α):α:=match d with
 | .agg l=>Nw l λl'=>k (.agg l')
 | .tup l=>Nw l λl'=>k (.tup l')
 | .sl nn sz es=>Nw es λes'=>k (.sl nn sz es')
 |d=>LT d k
theorem Lz {α:Type}(n:Nat)(k:Nat->α):G9 n k=k n:=by cases n<;>rfl
theorem uZ {α:Type}(z:Int)(k:Int->α):iA z k=k z:=by
 cases z with
 |ofNat n=>cases n<;>rfl
 |negSucc n=>cases n<;>rfl
theorem bY {α:Type}:∀(l:List UInt8) (k:List UInt8->α),SX l k=k l
 | [],_=>rfl
 |b::l,k=>by simp only[SX,Lz,bY l];congr 2;exact UInt8.ofNat_toNat
theorem uX {α:Type}(v:Value)(k:D->α):V9 v k=k (.prim v):=by
 unfold V9;split
 ·exact uZ _ _
 ·rename_i b;cases b<;>rfl
 ·rw[bY]
 ·rfl
theorem bX {α:Type}(d:D)(k:D->α):LT d k=k d:=by
 unfold LT;split
 ·exact uX _ _
 ·simp only[Lz]
 ·simp only[Lz]
 ·rfl
theorem RN {α:Type}:∀(l:List D) (k:List D->α),Nw l k=k l
 | [],_=>rfl
 |d::l,k=>by simp only[Nw,bX,RN l]
theorem NG {α:Type}(d:D)(k:D->α):Nv d k=k d:=by
 unfold Nv;split
 ·exact RN _ _
 ·exact RN _ _
 ·exact RN _ _
 ·exact bX _ _
def H3 (f:D->Bool):List D->Bool
 | []=>true
 |d::l=>f d&&H3 f l
def RX (f:D->Bool):D->Bool
 | .agg l=>H3 f l
 |d=>f d
def HP:Nat->D->Bool
 | 0,_=>false
 |n+1,d=>match d with
  | .any=>true
  | .prim _=>true
  | .agg l=>H3 (HP n) l
  | .tup l=>H3 (HP n) l
  | .sl _ _ es=>H3 (RX (HP n)) es
  | .pptr e=>RX (HP n) e
  | .clo _ a b=>H3 (HP n) a&&H3 (HP n) b
  | .mp a b=>H3 (HP n) a&&H3 (HP n) b
  | .ifc _ d=>HP n d
  |_=>false
theorem JD {f:D->Bool}:∀ {l:List D},H3 f l=true->∀d∈l,f d=true
 | [],_,_,h=>by simp at h
 |x::l,h,d,hd=>by
  simp only[H3,BQ]at h;rcases BA.1 hd with rfl|hd
  ·exact h.1
  ·exact JD h.2 d hd
theorem XW {f:D->Bool}{d:D}(h:RX f d=true):∀c∈d.cells,f c=true:=by
 unfold RX at h;split at h
 ·exact JD h
 ·rename_i hne
  intro c hc;cases d<;>simp only[D.cells,List.mem_singleton]at hc<;>first|(subst hc;exact h)|exact Ae rfl (hne _)
theorem HK:∀ {n:Nat} {d:D},HP n d=true->B8 d
 | 0,_,h=>by cases h
 |n+1,d,h=>by
  simp only[HP]at h;split at h
  ·exact .any
  ·exact .prim _
  ·exact .agg λd hd=>HK (JD h d hd)
  ·exact .tup λd hd=>HK (JD h d hd)
  ·exact .sl λe he c hc=>HK (XW (JD h e he) c hc)
  ·exact .pptr λc hc=>HK (XW h c hc)
  ·simp only[BQ]at h
   exact .clo (λd hd=>HK (JD h.1 d hd)) (λd hd=>HK (JD h.2 d hd))
  ·simp only[BQ]at h
   exact .mp (λd hd=>HK (JD h.1 d hd)) (λd hd=>HK (JD h.2 d hd))
  ·exact .ifc (HK h)
  ·cases h
def KG {α β:Type}(f:α->Option β):List α->Option (List β)
 | []=>some []
 |x::l=>match f x with
  |some y=>match KG f l with
   |some r=>some (y::r)
   |none=>none
  |none=>none
theorem Mu {α β:Type}{f:α->Option β}:∀ {l:List α} {r:List β},KG f l=some r->l.length=r.length/\∀(i:Nat) (x:α) (y:β),l[i]?=some x->r[i]?=some y->f x=some y
 | [],r,h=>by simp only[KG,BM]at h;subst h;simp
 |x::l,r,h=>by
  simp only[KG]at h;split at h<;>try(cases h;done)
  rename_i y hy;split at h<;>try(cases h;done)
  rename_i r' hr;cases h;obtain⟨h1,h2⟩:=Mu hr;refine⟨by simp[h1],λi a b ha hb=>?_⟩;cases i with
  |zero=>simp at ha hb;subst ha hb;exact hy
  |succ i=>exact h2 i a b (by simpa using ha) (by simpa using hb)
theorem Qj {α β:Type}{f:α->Option β}{l:List α}{r:List β}(h:KG f l=some r):∀y∈r,∃x∈l,f x=some y:=λy hy=>by
 obtain⟨h1,h2⟩:=Mu h;obtain⟨i,hi,rfl⟩:=Np hy;exact⟨l[i]'(by omega),List.getElem_mem _,h2 i _ _ (BG (by omega)) (BG hi)⟩
def Uu (f:D->Option D)(d:D):Option D:=match d with
 | .agg cs=>match KG f cs with
  |some cs'=>some (.agg cs')
  |none=>none
 |d=>match f d with
  |some d'=>match Jm d' with
   |true=>some d'
   |false=>none
  |none=>none
def Nx:Nat->Hp->D->Option D
 | 0,_,_=>none
 |n+1,H,d=>match d with
  | .agg l=>match KG (Nx n H) l with
   |some l'=>some (.agg l')
   |none=>none
  | .tup l=>match KG (Nx n H) l with
   |some l'=>some (.tup l')
   |none=>none
  | .osl k g sz i len=>match Hp.get H k with
   |some e=>match Nat.beq g e.g&&Nat.beq sz e.sz&&Nat.ble (i+len) e.es.length with
    |true=>match KG (Uu (Nx n H)) ((e.es.drop i).take len)with
     |some es'=>some (.sl false sz es')
     |none=>none
    |false=>none
   |none=>none
  |d=>match HP 20 d with
   |true=>some d
   |false=>none
theorem WQ {d:D}(h:Jm d=true):d.cells=[d]:=by cases d<;>first|rfl|cases h
theorem S8 {H:Hp}{f:D->Option D}(hf:∀d d',f d=some d'->Fz H [] d d'/\B8 d'){d d':D}(h:Uu f d=some d'):
  d'.cells.length=d.cells.length/\(∀(q:Nat) (c c':D),d.cells[q]?=some c->d'.cells[q]?=some c'->Fz H [] c c')/\∀c∈d'.cells,B8 c:=by
 unfold Uu at h;split at h
 ·rename_i cs
  split at h<;>try(cases h;done)
  rename_i cs' hm;cases h;obtain⟨h1,h2⟩:=Mu hm;refine⟨h1.symm,λq c c' hc hc'=>(hf _ _ (h2 q c c' hc hc')).1,λc hc=>?_⟩;obtain⟨x,_,hx⟩:=Qj hm c hc;exact(hf _ _ hx).2
 ·rename_i hne
  split at h<;>try(cases h;done)
  rename_i d1 hd;split at h<;>try(cases h;done)
  rename_i hn;cases h;have hc:d.cells=[d]:=WQ (by cases d<;>first|rfl|exact Ae rfl (hne _));rw[hc,WQ hn];refine⟨rfl,λq c c' h1 h2=>?_,λc hc=>?_⟩
  ·cases q with
   |zero=>simp at h1 h2;subst h1 h2;exact(hf _ _ hd).1
   |succ q=>simp at h1
  ·simp at hc;subst hc;exact(hf _ _ hd).2
theorem Kw {H:Hp}:∀ {n:Nat} {d d':D},Nx n H d=some d'->Fz H [] d d'/\B8 d'
 | 0,_,_,h=>by cases h
 |n+1,d,d',h=>by
  simp only[Nx]at h;split at h
  ·split at h<;>try(cases h;done)
   rename_i hm;cases h;obtain⟨h1,h2⟩:=Mu hm;refine⟨.agg h1 λi a b ha hb=>(Kw (h2 i a b ha hb)).1,.agg λc hc=>?_⟩;obtain⟨x,_,hx⟩:=Qj hm c hc;exact(Kw hx).2
  ·split at h<;>try(cases h;done)
   rename_i hm;cases h;obtain⟨h1,h2⟩:=Mu hm;refine⟨.tup h1 λi a b ha hb=>(Kw (h2 i a b ha hb)).1,.tup λc hc=>?_⟩;obtain⟨x,_,hx⟩:=Qj hm c hc;exact(Kw hx).2
  ·split at h<;>try(cases h;done)
   rename_i k g sz i len _ e he;split at h<;>try(cases h;done)
   rename_i hb;split at h<;>try(cases h;done)
   rename_i es' hm;cases h;simp only[BQ]at hb;obtain⟨⟨b1,b2⟩,b3⟩:=hb;have b3:=Bj b3;obtain⟨h1,h2⟩:=Mu hm;have hget:∀(j:Nat) (x:D),j<len->e.es[i+j]?=some x->((e.es.drop i).take len)[j]?=some x:=λj x hj hx=>by
    rw[Eo,AH hj,Hc];exact hx
   have hlen:es'.length=len:=by rw[<-h1];simp;omega
   refine⟨.osl he rfl (B6 b1) (B6 b2) b3 hlen (λj x y hx hy=>?_) (λj x y q c c' hx hy hc hc'=>?_),.sl λe' he' c hc=>?_⟩
   ·have hj:j<len:=by rw[<-hlen];exact(List.getElem?_eq_some_iff.1 hy).1
    exact(S8 (λ_ _ h=>Kw h) (h2 j x y (hget j x hj hx) hy)).1
   ·have hj:j<len:=by rw[<-hlen];exact(List.getElem?_eq_some_iff.1 hy).1
    exact(S8 (λ_ _ h=>Kw h) (h2 j x y (hget j x hj hx) hy)).2.1 q c c' hc hc'
   ·obtain⟨x,_,hx⟩:=Qj hm e' he'
    exact(S8 (λ_ _ h=>Kw h) hx).2.2 c hc
  ·split at h<;>try(cases h;done)
   rename_i hp;cases h;exact⟨.refl _,HK hp⟩
structure WR where
 iw:Nat
 ia:Option Nat
 e:Ay
 e':Ay
 R:Hp
def WR.tail (W:WR)(L:Array Bool):Hp:=if L.getD W.iw false=true then W.e'::W.R else match W.ia with
 |none=>W.e::W.R
 |some ia=>if L.getD ia false=true then W.e::W.R else W.R
def WR.start (W:WR):Hp:=match W.ia with
 |none=>W.e::W.R
 |some _=>W.R
theorem gm {W:WR}{L:Array Bool}(h:Ls L W.iw):W.tail L=W.e'::W.R:=AH h
section
variable {C:BD} {F:Ac} {ops:Array Oper}
def Kk (C:BD)(F:Ac)(ops:Array Oper)(W:WR)(g:Nat)(env:Au)(o:Oper)(d:D):Prop:=
 ∀(He:Hp) (ρ:Lk) (a:Act) (w:World),Aq C F ρ (W.e::He) w->(∀x∈W.R,x∈He)->(∀k,ρ k g=none)->(∀x∈W.e::He,x.g≠g) ->
  (∀t∈o.looksAt ops,AW ρ (AN F.X ρ (W.e::He)) w (env.get t) (a.tmps.getD t undef)) ->
  Region.wanted o (yielded ops a.tmps)=true/\∃v ρ' w',((execOp a.eval o).run C.P w=.ok (.value v) w'\/((execOp a.eval o).run C.P w=.ok .skip w'/\v=undef)) /\
   Aq C F ρ' (W.e'::He) w'/\BT ρ (AN F.X ρ (W.e::He)) w ρ' (AN F.X ρ' (W.e'::He)) w'/\(∀k g',g'≠g->ρ' k g'=ρ k g')/\AW ρ' (AN F.X ρ' (W.e'::He)) w' d v
theorem ox {l:List DR}(hn:(l.map (·.i)).Nodup){a b:DR}(ha:a∈l)(hb:b∈l)(he:a.i=b.i):a=b:=by
 induction l with
 |nil=>simp at ha
 |cons x l ih=>
  rw[Ct,List.nodup_cons]at hn;rcases BA.1 ha with h1|h1
  ·rcases BA.1 hb with h2|h2
   ·rw[h1,h2]
   ·exact Ae (List.mem_map.2 ⟨b,h2,by rw[<-he,h1]⟩) hn.1
  ·rcases BA.1 hb with h2|h2
   ·exact Ae (List.mem_map.2 ⟨a,h1,by rw[he,h2]⟩) hn.1
   ·exact ih hn.2 h1 h2
def Nc (C:BD)(F:Ac)(ops:Array Oper)(W:WR)(g:Nat)(env:Au)(r:DR):Prop:=
 (r.i≠W.iw/\W.ia≠some r.i/\((W.ia=none/\Dz ops W.iw r.i/\CQ C F ops (W.e::W.R) g env r.o r.d r.ne)\/CQ C F ops W.R g env r.o r.d r.ne))\/(r.i=W.iw/\W.ia≠some r.i/\r.ne=none/\Kk C F ops W g env r.o r.d) \/
  (r.i≠W.iw/\W.ia=some r.i/\r.ne=none/\CQ C F ops W.R g env r.o r.d (some W.e))
theorem Nc.gen {W:WR}{g:Nat}{env:Au}{r:DR}(h:Nc C F ops W g env r):∀e,r.ne=some e->e.g=g:=by
 rcases h with⟨_,_,⟨_,_,h⟩|h⟩|⟨_,_,h,_⟩|⟨_,_,h,_⟩
 ·exact h.1
 ·exact h.1
 ·intro e he;rw[h]at he;cases he
 ·intro e he;rw[h]at he;cases he
theorem gZ {H H':Hp}{n:Nat}{env:Au}{A B:List DR}{r:DR}{L:Array Bool}{a:Act}{w:World}{ρ:Lk}{He:Hp}(h:DI C F H n env (A++r::B) L a w ρ He)(hi:r.i<L.size)(hn:¬Ls L r.i)
  (hnd:((A++r::B).map (·.i)).Nodup) (hdst:(A++r::B).Pairwise (λr r'=>∀t,r.o.dst=some t->r'.o.dst≠some t)) (hok:Dl F.nt r.o=true) {v:Value} {ρ':Lk} {w':World} {He':Hp}
  (pm:Aq C F ρ' He' w') (px:BT ρ (AN F.X ρ He) w ρ' (AN F.X ρ' He') w') (pf:∀k g',g'≠n+r.i->ρ' k g'=ρ k g') (pr:AW ρ' (AN F.X ρ' He') w' r.d v)
  (pp:He'.Perm ((A++r::B).filterMap (λr'=>if(L.setIfInBounds r.i true).getD r'.i false then r'.ne else none)++H')):
  DI C F H' n env (A++r::B) (L.setIfInBounds r.i true) (a.put r.o.dst v) w' ρ' He':=by
 have hset:∀j,Ls (L.setIfInBounds r.i true) j↔j=r.i\/Ls L j:=λj=>Ls.set hi
 have hne:∀r'∈A++B,r'.i≠r.i:=by
  simp only[DG,Ct]at hnd;intro r' hr' he;rw[Ep,List.nodup_cons]at hnd;rcases List.mem_append.1 hr' with hr'|hr'
  ·exact hnd.2.2 r'.i (List.mem_map.2 ⟨r',hr',rfl⟩) r.i (by simp) he
  ·exact hnd.2.1.1 (List.mem_map.2 ⟨r',hr',he⟩)
 have hput:∀t,(a.put r.o.dst v).tmps.getD t undef=if r.o.dst=some t then v else a.tmps.getD t undef:=by
  intro t;cases hd:r.o.dst with
  |none=>simp[Act.put]
  |some k=>
   have hk:k<a.tmps.size:=by
    rw[h.nt];unfold Dl at hok;rw[hd]at hok;exact Nat.blt_eq.mp hok
   show(a.tmps.setIfInBounds k v).getD t undef=_;rw[A0,Ir]
   by_cases hkt:k=t
   ·subst hkt;simp[hk]
   ·rw[AF hkt,AF (by simpa using hkt),<-A0]
 refine⟨pm,pp,λr' hr' hl t ht=>?_,λt ht=>?_,λk g hg hk=>?_,?_,?_⟩
 ·rw[hput]
  by_cases hrr:r'=r
  ·subst hrr;rw[AH ht];exact pr
  ·have hr2:r'∈A++B:=by
    rcases List.mem_append.1 hr' with h|h
    ·simp[h]
    ·rcases BA.1 h with h|h
     ·exact Ae h hrr
     ·simp[h]
   have hl2:=((hset r'.i).1 hl).resolve_left (hne r' hr2);rw[AF]
   ·exact(h.reps r' hr' hl2 t ht).mono px
   ·intro hrt
    rw[LP,D7]at hdst;rcases List.mem_append.1 hr2 with h|h
    ·exact hdst.2.2 r' h r (by simp) t ht hrt
    ·exact hdst.2.1.1 r' h t hrt ht
 ·rw[hput,AF (ht r (by simp) ((hset r.i).2 (.inl rfl)))]
  exact(h.old t λr' hr' hl=>ht r' hr' ((hset r'.i).2 (.inr hl))).mono px
 ·by_cases hgr:g=n+r.i
  ·exact⟨r,by simp,(hset r.i).2 (.inl rfl),hgr⟩
  ·rw[pf k g hgr]at hk
   obtain⟨r',h1,h2,h3⟩:=h.fresh k g hg hk;exact⟨r',h1,(hset r'.i).2 (.inr h2),h3⟩
 ·cases r.o.dst<;>simp[Act.put,h.nt]
 ·cases r.o.dst<;>simp[Act.put,h.dfr]
theorem il {W:WR}{Q:Exit->Act->World->Prop}{n:Nat}{env:Au}{rs:List DR}{suf:List Nat}(ho:O6 ops rs suf)(hiw:W.iw<ops.size)(hwg:W.e'.g=W.e.g\/W.e'.g=n+W.iw)(hgen:∀e∈W.R,e.g<n)(hge:W.ia=none->W.e.g<n)(hga:∀ia,W.ia=some ia->W.e.g=n+ia/\Dz ops W.iw ia)(hd:∀r∈rs,Dl F.nt r.o=true)
  (hst:∀A r B,rs=A++r::B->ops[r.i]?=some r.o/\Nc C F ops W (n+r.i) (Gx A env) r)
  (hend:∀(L:Array Bool) (a:Act) (w:World) (ρ:Lk) (He:Hp),L.size=ops.size->(∀r∈rs,Ls L r.i)->DI C F (W.e'::W.R) n env rs L a w ρ He->wpOps C.P ops Q suf a w):
  (hw:∀ {L:Array Bool},(∀r∈rs,Ls L r.i)->Ls L W.iw)->∀(fuel:Nat) (L:Array Bool) (a:Act) (w:World) (ρ:Lk) (He:Hp),L.size=ops.size->((rs.map (·.i)++suf).filter (λi=>!L.getD i false)).length<=fuel->Cl ops L->(∀i∈suf,¬Ls L i) ->
   DI C F (W.tail L) n env rs L a w ρ He->wpAny C.P .any ops Q fuel L a w:=by
 intro hw fuel
 induction fuel with
 |zero=>
  intro L a w ρ He hL hf hc hs hi;have h0:(rs.map (·.i)++suf).filter (λi=>!L.getD i false)=[]:=En (by omega);have hall:∀r∈rs,Ls L r.i:=λr hr=>by
   have:=List.filter_eq_nil_iff.1 h0 r.i (by simp;exact .inl ⟨r,hr,rfl⟩)
   simpa[Ls]using this
  have hsuf:suf=[]:=by
   apply List.eq_nil_iff_forall_not_mem.2;intro i hi2
   have:=List.filter_eq_nil_iff.1 h0 i (by simp[hi2])
   exact hs i hi2 (by simpa[Ls]using this)
  subst hsuf;refine N8 [] 0 L a w hL (Ai _) (λi hi2=>⟨λ_=>by simp,λ_=>?_⟩) .nil (λA i B h=>by cases A<;>simp at h) (by simp) hc (hend L a w ρ He hL hall (by have h0:=hi;rw[gm (hw hall)]at h0;exact h0))
  have:=ho.all i hi2
  simp at this;obtain⟨r,hr,rfl⟩:=this;exact hall r hr
 |succ fuel ih=>
  intro L a w ρ He hL hf hc hs hi
  by_cases hall:∀r∈rs,Ls L r.i
  ·refine N8 suf (fuel+1) L a w hL ?_ (λi hi2=>?_) ?_ (λA i B hAB=>⟨λj hj=>?_,λj hj=>ho.suf A i B hAB j (by simp[hj])⟩) (λi hi2=>ho.lt i (by simp[hi2])) hc (hend L a w ρ He hL hall (by have h0:=hi;rw[gm (hw hall)]at h0;exact h0))
   ·refine BR ?_ hf
    rw[List.filter_append,Bk];rw[(List.filter_eq_self (l:=suf)).2 λi hi2=>by have:=hs i hi2;unfold Ls at this;simpa using this];omega
   ·constructor
    ·intro h1 h2;exact hs i h2 h1
    ·intro h1
     have:=ho.all i hi2
     rcases List.mem_append.1 this with h|h
     ·obtain⟨r,hr,rfl⟩:=List.mem_map.1 h;exact hall r hr
     ·exact Ae h h1
   ·exact(Ep.1 ho.nodup).2.1
   ·have hA:=ho.first (rs.map (·.i)++A) i B (by simp[hAB]) j hj
    refine⟨ho.lt j (by rw[hAB];rcases List.mem_append.1 hA with h|h<;>simp[h]),λhB=>?_⟩;have hnd:=ho.nodup;rw[hAB,<-Di,Ep]at hnd;exact hnd.2.2 j hA j hB rfl
  ·have hnot:∃r∈rs,¬Ls L r.i:=by
    apply Dd;intro hn;exact hall λr hr=>Dd λh=>hn ⟨r,hr,h⟩
   have hLt:∀j,j<ops.size->(L.getD j true=true↔Ls L j):=λj hj=>by
    unfold Ls;rw[A0,A0,Bn (by omega)];simp
   have hsome:Region.ready .any ops L≠[]:=by
    obtain⟨r0,hr0,hn0⟩:=hnot
    have:∀X:List DR,∀Y,rs=X++Y->(∃r∈Y,¬Ls L r.i)->(∀r∈X,Ls L r.i)->∃A r B,rs=A++r::B/\¬Ls L r.i/\∀r∈A,Ls L r.i:=by
     intro X Y
     induction Y generalizing X with
     |nil=>rintro _ ⟨r,hr,_⟩ _;simp at hr
     |cons y Y ihY=>
      intro hXY hex hX
      by_cases hy:Ls L y.i
      ·obtain⟨r,hr,hrn⟩:=hex
       rcases BA.1 hr with rfl|hr
       ·exact Ae hy hrn
       ·exact ihY (X++[y]) (by simp[hXY]) ⟨r,hr,hrn⟩ (λr hr=>by
         rcases List.mem_append.1 hr with h|h
         ·exact hX r h
         ·simp at h;subst h;exact hy)
      ·exact⟨X,y,Y,hXY,hy,hX⟩
    obtain⟨A,r,B,h1,h2,h3⟩:=this [] rs rfl ⟨r0,hr0,hn0⟩ (by simp);intro hnil;have hrlt:=ho.lt r.i (by rw[h1];simp)
    have:r.i∈Region.ready .any ops L:=by
     rw[GM];refine⟨hrlt,?_,λj hj=>?_⟩
     ·cases hb:L.getD r.i true with
      |false=>rfl
      |true=>exact Ae ((hLt r.i hrlt).1 hb) h2
     ·have:=ho.first (A.map (·.i)) r.i (B.map (·.i)++suf) (by rw[h1];simp) j hj
      obtain⟨r',hr',rfl⟩:=List.mem_map.1 this;exact h3 r' hr'
    rw[hnil]at this;simp at this
   refine⟨λh0=>Ae h0 hsome,λi hir=>?_⟩;obtain⟨hilt,hin,hid⟩:=GM.1 hir;have hnL:¬Ls L i:=λh=>by rw[(hLt i hilt).2 h]at hin;cases hin
   have hpre:i∈rs.map (·.i):=by
    rcases List.mem_append.1 (ho.all i hilt)with h|h
    ·exact h
    ·obtain⟨A,B,hAB⟩:=FA h
     obtain⟨r0,hr0,hn0⟩:=hnot
     have:=Hj hL hc (ho.suf A i B hAB r0.i (IF _ (List.mem_map.2 ⟨r0,hr0,rfl⟩))) hid
     exact Ae this hn0
   obtain⟨r,hr,rfl⟩:=List.mem_map.1 hpre;obtain⟨A,B,hAB⟩:=FA hr;obtain⟨hor,hstr⟩:=hst A r B hAB;have hset:∀j,Ls (L.setIfInBounds r.i true) j↔j=r.i\/Ls L j:=λj=>Ls.set (by omega)
   have hndr:(rs.map (·.i)).Nodup:=(Ep.1 ho.nodup).1;have hgt:∀e∈W.tail L,(e∈W.R\/(e=W.e/\∀ia,W.ia=some ia->Ls L ia)\/(e=W.e'/\Ls L W.iw)):=λe he=>by
    unfold WR.tail at he
    by_cases hwl:L.getD W.iw false=true
    ·rw[AH hwl]at he
     rcases BA.1 he with rfl|he
     ·exact .inr (.inr ⟨rfl,hwl⟩)
     ·exact .inl he
    ·rw[AF hwl]at he
     cases hia:W.ia with
     |none=>
      rw[hia]at he;rcases BA.1 he with rfl|he
      ·exact .inr (.inl ⟨rfl,by simp⟩)
      ·exact .inl he
     |some ia=>
      rw[hia]at he;dsimp only at he
      by_cases hal:L.getD ia false=true
      ·rw[AH hal]at he
       rcases BA.1 he with rfl|he
       ·exact .inr (.inl ⟨rfl,λj hj=>by cases hj;exact hal⟩)
       ·exact .inl he
      ·rw[AF hal]at he
       exact .inl he
   have hfr:∀k,ρ k (n+r.i)=none:=λk=>by
    apply Dd;intro hk;obtain⟨r',h1,h2,h3⟩:=hi.fresh k (n+r.i) (by omega) hk
    have:r'.i=r.i:=by omega
    rw[this]at h2;exact hnL h2
   have hne:∀e∈He,e.g≠n+r.i:=λe he hg=>by
    rcases List.mem_append.1 (hi.perm.mem_iff.1 he)with h|h
    ·obtain⟨r',h1,h2⟩:=List.mem_filterMap.1 h
     split at h2
     ·rename_i hl
      obtain⟨A',B',hAB'⟩:=FA h1
      have:=(hst A' r' B' hAB').2.gen e h2
      have:r'.i=r.i:=by omega
      rw[this]at hl;exact hnL hl
     ·cases h2
    ·have hE:(∀ia,W.ia=some ia->Ls L ia)->W.e.g≠n+r.i:=λhal hg=>by
      cases hia:W.ia with
      |none=>have:=hge hia;omega
      |some ia=>
       have h1:=(hga ia hia).1
       have:ia=r.i:=by omega
       rw[<-this]at hnL;exact hnL (hal ia hia)
     rcases hgt e h with h|⟨rfl,hal⟩|⟨rfl,hl⟩
     ·have:=hgen e h;omega
     ·exact hE hal hg
     ·rcases hwg with h'|h'
      ·refine hE (λia hia=>?_) (by omega)
       refine Hj hL hc (hga ia hia).2 λk hk=>?_
       have hwl':Ls L W.iw:=hl;exact hc W.iw ((hLt W.iw hiw).2 hwl') hiw k hk
      ·have:W.iw=r.i:=by omega
       rw[this]at hl;exact hnL hl
   have go:∀(a':Act) (w':World) (ρ':Lk) (He':Hp),DI C F (W.tail (L.setIfInBounds r.i true)) n env rs (L.setIfInBounds r.i true) a' w' ρ' He'->wpAny C.P .any ops Q fuel (L.setIfInBounds r.i true) a' w':=by
    intro a' w' ρ' He' hn';refine ih _ _ _ ρ' He' (by simp[hL]) ?_ ?_ (λj hj=>?_) hn'
    ·have:((rs.map (·.i)++suf).filter (λi=>!(L.setIfInBounds r.i true).getD i false)).length<((rs.map (·.i)++suf).filter (λi=>!L.getD i false)).length:=by
      have sub:(rs.map (·.i)++suf).filter (λi=>!(L.setIfInBounds r.i true).getD i false)=((rs.map (·.i)++suf).filter (λi=>!L.getD i false)).filter (λi=>!Nat.beq i r.i):=by
       rw[List.filter_filter];apply List.filter_congr;intro x hx;have h1:=hset x;unfold Ls at h1
       by_cases hxr:x=r.i
       ·subst hxr
        have:(L.setIfInBounds r.i true).getD r.i false=true:=h1.2 (.inl rfl)
        simp[this]
       ·have hb:Nat.beq x r.i=false:=by
         cases hb:Nat.beq x r.i with
         |false=>rfl
         |true=>exact Ae (B6 hb) hxr
        rw[hb]
        by_cases hlx:L.getD x false=true
        ·rw[h1.2 (.inr hlx),hlx];rfl
        ·have:¬(L.setIfInBounds r.i true).getD x false=true:=λh=>hlx ((h1.1 h).resolve_left hxr)
         simp only[Bool.not_eq_true]at this hlx;rw[this,hlx];rfl
      rw[sub];apply List.length_filter_lt_length_iff_exists.2;exact⟨r.i,by rw[List.mem_filter];exact⟨by simp;exact .inl ⟨r,hr,rfl⟩,by unfold Ls at hnL;simpa using hnL⟩,by simp⟩
     omega
    ·intro k hk2 hks x hx
     have hk3:Ls (L.setIfInBounds r.i true) k:=by
      unfold Ls;rw[A0,Bn (by simp;omega)]at hk2⊢;simpa using hk2
     show Ls _ x;rw[hset];rcases(hset k).1 hk3 with rfl|hk3
     ·exact .inr (hid x hx)
     ·exact .inr (hc k ((hLt k hks).2 hk3) hks x hx)
    ·rw[hset]
     rintro(rfl|h)
     ·have hnd:=ho.nodup
      rw[Ep]at hnd;exact hnd.2.2 r.i (List.mem_map.2 ⟨r,hr,rfl⟩) r.i hj rfl
     ·exact hs j hj h
   have hdst:=ho.dst;rw[hAB]at hdst hndr;have keep:∀ {α:Type} (j:Nat) (x y:α),j≠r.i->(if(L.setIfInBounds r.i true).getD j false=true then x else y)=(if L.getD j false=true then x else y):=λj x y hj=>by
    have:=hset j
    unfold Ls at this
    by_cases hl:L.getD j false=true
    ·rw[AH hl,AH (this.2 (.inr hl))]
    ·rw[AF hl,AF λh=>hl ((this.1 h).resolve_left hj)]
   have wset:r.i≠W.iw->W.ia≠some r.i->W.tail (L.setIfInBounds r.i true)=W.tail L:=λhr hr2=>by
    unfold WR.tail;rw[keep W.iw _ _ (Ne.symm hr)];cases hia:W.ia with
    |none=>rfl
    |some ia=>
     dsimp only;rw[keep ia _ _ λh=>hr2 (by rw[hia,h])]
   have next:r.i≠W.iw->W.ia≠some r.i->∀v ρ' w',JL C F He ρ w (n+r.i) r.d r.ne v ρ' w'->wpAny C.P .any ops Q fuel (L.setIfInBounds r.i true) (a.put r.o.dst v) w':=by
    intro hriw hria v ρ' w' p;have hi':=hi;rw[hAB]at hi';have hn':=DI.next hi' (by omega) hnL hndr hdst (hd r hr) p;rw[<-hAB,<-wset hriw hria]at hn';exact go _ _ _ _ hn'
   unfold wpOp;simp only[hor];have hR:∀e∈W.R,e∈He:=λe he=>hi.perm.mem_iff.2 (by
    refine List.mem_append_right _ ?_;unfold WR.tail;cases W.ia<;>dsimp only<;>(repeat' split)<;>simp[he])
   have samefm:r.ne=none->∀ {fm:List Ay},(A++r::B).filterMap (λr'=>if L.getD r'.i false then r'.ne else none)=fm ->
     (A++r::B).filterMap (λr'=>if(L.setIfInBounds r.i true).getD r'.i false then r'.ne else none)=fm:=λhnone fm hfm=>by
    rw[<-hfm];refine Mk λr' hr'=>?_
    by_cases hrr:r'.i=r.i
    ·have:r'=r:=ox hndr hr' (by simp) hrr
     subst this;rw[hnone];simp
    ·exact keep r'.i _ _ hrr
   rcases hstr with⟨hriw,hria,hstd⟩|⟨hriw,hria,hnone,hstw⟩|⟨hriw,hria,hnone,hstd⟩
   ·have hgo:∀Hr:Hp,(∀e∈Hr,e∈He)->CQ C F ops Hr (n+r.i) (Gx A env) r.o r.d r.ne->_:=λHr hsub hs=>hs.2 He ρ a w hi.mem hsub hfr hne (hi.look ho hL hc hAB hir)
    have fin:_:=(show(Region.wanted r.o (yielded ops a.tmps)=false/\r.ne=none/\AW ρ (AN F.X ρ He) w r.d undef)\/(Region.wanted r.o (yielded ops a.tmps)=true/\gE C F He ρ w (n+r.i) r.d r.ne r.o a)from by
     rcases hstd with⟨hia,hre,hs⟩|hs
     ·refine hgo _ (λe he=>hi.perm.mem_iff.2 ?_) hs
      have hnw:¬L.getD W.iw false=true:=λhwl=>hnL (by
       refine Hj hL hc hre λk hk=>?_
       have hwl':Ls L W.iw:=hwl;exact hc W.iw ((hLt W.iw hiw).2 hwl') hiw k hk)
      unfold WR.tail;rw[AF hnw,hia];rcases BA.1 he with rfl|he
      ·simp
      ·simp[he]
     ·exact hgo _ hR hs)
    rcases fin with⟨hw0,hn0,hrep⟩|⟨hw0,hout⟩
    ·rw[AF (by rw[hw0];simp)]
     exact next hriw hria undef ρ w ⟨by rw[hn0];exact hi.mem,by rw[hn0];exact .refl _ _ _,λ_ _ _=>rfl,by rw[hn0];exact hrep⟩
    ·rw[AH hw0]
     refine .inl ?_;unfold Oper.wp;rcases hout with⟨v,ρ',w',h1,h2⟩|⟨f,vs,h1,h2⟩
     ·rw[h1];exact next hriw hria v ρ' w' h2
     ·rw[h1]
      refine h2.mono ?_;rintro e w' ⟨v,rfl,ρ',h3⟩;exact next hriw hria v ρ' w' h3
   ·
    have hnw:¬L.getD W.iw false=true:=λh=>hnL (by rw[hriw];exact h)
    generalize hfm:rs.filterMap (λr'=>if L.getD r'.i false then r'.ne else none)=fm at*;have hperm:He.Perm (W.e::(fm++W.R)):=by
     have h0:=hi.perm;have htl:W.tail L=W.e::W.R:=by
      unfold WR.tail;rw[AF hnw];cases hia:W.ia with
      |none=>rfl
      |some ia=>
       dsimp only;have hre:=(hga ia hia).2;rw[<-hriw]at hre;exact AH (Hj hL hc hre hid)
     rw[htl,hfm]at h0;exact h0.trans HY
    have m1:=hi.mem.perm hperm;have ho1:=AN.perm (X:=F.X) (ρ:=ρ) hperm;obtain⟨hw0,v,ρ',w',hrun,m2,x2,far2,rep2⟩:=hstw (fm++W.R) ρ a w m1 (λe he=>by simp[he]) hfr (λe he=>hne e (hperm.mem_iff.2 he)) (λt ht=>by
     rw[<-ho1];exact hi.look ho hL hc hAB hir t ht)
    rw[<-ho1]at x2;have hi':=hi;rw[hAB]at hi' hfm;have nx:=gZ (H':=W.e'::W.R) hi' (by omega) hnL hndr hdst (hd r hr) (v:=v) m2 x2 far2 rep2 (by
     rw[samefm hnone hfm];exact HY.symm)
    have hwt:W.tail (L.setIfInBounds r.i true)=W.e'::W.R:=by
     exact AH ((hset W.iw).2 (.inl hriw.symm))
    rw[<-hAB,<-hwt]at nx;rw[AH hw0];refine .inl ?_;unfold Oper.wp;rcases hrun with hrun|⟨hrun,rfl⟩
    ·rw[hrun];exact go _ _ _ _ nx
    ·rw[hrun];exact go _ _ _ _ nx
   ·
    have htl:W.tail L=W.R:=by
     have hnw:¬L.getD W.iw false=true:=λhwl=>hnL (by
      refine Hj hL hc (hga r.i hria).2 λk hk=>?_
      have hwl':Ls L W.iw:=hwl;exact hc W.iw ((hLt W.iw hiw).2 hwl') hiw k hk)
     unfold WR.tail;rw[AF hnw,hria];exact AF hnL
    have hwt:W.tail (L.setIfInBounds r.i true)=W.e::W.R:=by
     have hnw:¬(L.setIfInBounds r.i true).getD W.iw false=true:=λhwl=>by
      rcases(hset W.iw).1 hwl with h|h
      ·exact hriw h.symm
      ·exact hnL (by
        refine Hj hL hc (hga r.i hria).2 λk hk=>?_
        exact hc W.iw ((hLt W.iw hiw).2 h) hiw k hk)
     unfold WR.tail;rw[AF hnw,hria];exact AH ((hset r.i).2 (.inl rfl))
    have nxt:∀v ρ' w',JL C F He ρ w (n+r.i) r.d (some W.e) v ρ' w'->wpAny C.P .any ops Q fuel (L.setIfInBounds r.i true) (a.put r.o.dst v) w':=λv ρ' w' p=>by
     have hi':=hi;rw[hAB]at hi';have nx:=gZ (H':=W.e::W.R) hi' (by omega) hnL hndr hdst (hd r hr) (v:=v) p.mem p.ext p.far p.rep (by
      rw[samefm hnone rfl];have h0:=hi'.perm;rw[htl]at h0;exact(List.Perm.cons W.e h0).trans HY.symm)
     rw[<-hAB,<-hwt]at nx;exact go _ _ _ _ nx
    rcases hstd.2 He ρ a w hi.mem hR hfr hne (hi.look ho hL hc hAB hir)with⟨hw0,hn0,hrep⟩|⟨hw0,hout⟩
    ·cases hn0
    ·rw[AH hw0]
     refine .inl ?_;unfold Oper.wp;rcases hout with⟨v,ρ',w',h1,h2⟩|⟨f,vs,h1,h2⟩
     ·rw[h1];exact nxt v ρ' w' h2
     ·rw[h1]
      refine h2.mono ?_;rintro e w' ⟨v,rfl,ρ',h3⟩;exact nxt v ρ' w' h3
inductive Ii (C:BD)(F:Ac)(ops:Array Oper)(W:WR)(n:Nat):List Nat->Au->Hp->Au->Hp->Prop
 |nil (env:Au) (N:Hp):Ii C F ops W n [] env N env N
 |cons {i:Nat} {l:List Nat} {o:Oper} {d:D} {ne:Option Ay} {env env':Au} {N N':Hp} (ho:ops[i]?=some o) (hs:Nc C F ops W (n+i) env ⟨i,o,d,ne⟩)
   (h:Ii C F ops W n l (Ba env o.dst d) (Cx ne N) env' N'):Ii C F ops W n (i::l) env N env' N'
theorem Ii.recs {W:WR}{n:Nat}{l:List Nat}{env env':Au}{N N':Hp}(h:Ii C F ops W n l env N env' N'):
  ∃rs:List DR,rs.map (·.i)=l/\env'=Gx rs env/\N'=NR rs N /\
   ∀A r B,rs=A++r::B->ops[r.i]?=some r.o/\Nc C F ops W (n+r.i) (Gx A env) r:=by
 induction h with
 |nil env N=>exact⟨[],rfl,rfl,rfl,λA r B h=>by cases A<;>simp at h⟩
 | @cons i l o d ne env env' N N' ho hs _ ih=>
  obtain⟨rs,h1,h2,h3,h4⟩:=ih;refine⟨⟨i,o,d,ne⟩::rs,by simp[h1],h2,h3,λA r B hr=>?_⟩;cases A with
  |nil=>
   simp only[F6,FB]at hr;obtain⟨rfl,rfl⟩:=hr;exact⟨ho,hs⟩
  |cons r0 A=>
   simp only[Em,FB]at hr;obtain⟨rfl,rfl⟩:=hr;exact h4 A r B rfl
theorem gU {W:WR}{s:St}{Q:Exit->St->Prop}{pre suf:List Nat}{envF:Au}{N:Hp}(hc:H4 ops pre suf=true)
  (hH:s.H.Perm W.start) (hga:∀ia,W.ia=some ia->W.e.g=s.n+ia/\Dz ops W.iw ia/\ia∈pre) (hiw:W.iw∈pre) (hwg:W.e'.g=W.e.g\/W.e'.g=s.n+W.iw)
  (hpre:Ii C F ops W s.n pre s.env [] envF N)
  (h:BJ C F ops (suf.map λj=>ops.getD j default) ⟨envF,N++W.e'::W.R,s.n+ops.size⟩ (Q .normal)) (hd:ops.toList.all (Dl F.nt)=true) (ρ:Lk) (a:Act) (w:World) (hs:Bl C F ρ s a w):
  wpAny C.P .any ops (LW C F (Q .normal)) ops.size (Array.replicate ops.size false) a w.drew:=by
 obtain⟨rs,h1,h2,h3,h4⟩:=hpre.recs;have hor:∀r∈rs,ops[r.i]?=some r.o:=λr hr=>by
  obtain⟨A,B,hAB⟩:=FA hr;exact(h4 A r B hAB).1
 have ho:=Th h1 hor hc;have hds:∀r∈rs,Dl F.nt r.o=true:=λr hr=>by
  refine CS.1 hd r.o ?_
  have:=hor r hr
  exact Array.mem_toList_iff.2 (It this)
 have hrep:∀j,(Array.replicate ops.size false).getD j false=false:=λj=>by
  rw[A0];rw[Nk];split<;>rfl
 have hnL:∀j,¬Ls (Array.replicate ops.size false) j:=λj hj=>by unfold Ls at hj;rw[hrep]at hj;cases hj
 have hgen:∀e∈W.R,e.g<s.n:=λe he=>hs.gen e (hH.mem_iff.2 (by unfold WR.start;cases W.ia<;>simp[he]))
 have hge:W.ia=none->W.e.g<s.n:=λhia=>hs.gen _ (hH.mem_iff.2 (by unfold WR.start;rw[hia];simp))
 have hlw:=ho.lt W.iw (by rw[h1];simp[hiw]);have htl:W.tail (Array.replicate ops.size false)=W.start:=by
  unfold WR.tail WR.start;rw[AF (by rw[hrep];simp)];cases W.ia with
  |none=>rfl
  |some ia=>exact AF (by rw[hrep];simp)
 have hin:DI C F (W.tail (Array.replicate ops.size false)) s.n s.env rs (Array.replicate ops.size false) a w.drew ρ s.H:=by
  refine⟨hs.mem.drew,?_,λr _ hl=>Ae hl (hnL _),λt _=>(hs.env t).mono (.drew _ _ _),λk g hg hk=>Ae (hs.fresh k g hg) hk,hs.nt,hs.dfr⟩
  have:rs.filterMap (λr=>if(Array.replicate ops.size false).getD r.i false then r.ne else none)=[]:=by
   rw[V6];intro r _;rw[hrep];rfl
  rw[this,htl];exact hH
 refine il ho hlw hwg hgen hge (λia h=>⟨(hga ia h).1,(hga ia h).2.1⟩) hds h4 ?_ (λhall=>by
  rw[<-h1]at hiw;obtain⟨r,hr,he⟩:=List.mem_map.1 hiw;rw[<-he];exact hall r hr) ops.size _ a w.drew ρ s.H (by simp) ?_ ?_ (λj _=>hnL j) hin
 ·intro L a' w' ρ' He hL hall hi
  have hN:He.Perm (N++W.e'::W.R):=by
   refine hi.perm.trans (List.Perm.append_right _ ?_);have e:rs.filterMap (λr=>if L.getD r.i false then r.ne else none)=rs.filterMap (·.ne):=Mk λr hr=>by
    have:=hall r hr;unfold Ls at this;rw[this];rfl
   rw[e,h3]
   have:=Lb rs []
   rw[DE]at this;exact this.symm
  refine h ?_ suf ?_ ρ' a' w' ⟨hi.mem.perm hN,?_,?_,λt=>?_,hi.nt,hi.dfr⟩
  ·rw[CS]
   intro o' ho';obtain⟨j,hj,rfl⟩:=List.mem_map.1 ho';have hlt:=ho.lt j (by simp[hj]);refine CS.1 hd _ ?_;rw[A0,Bn hlt];simp
  ·rw[List.map_map]
   refine Nq λj hj=>?_
   have hlt:=ho.lt j (by simp[hj]);simp[A0,Bn hlt]
  ·intro k g hg
   apply Dd;intro hk;obtain⟨r,hr,_,he⟩:=hi.fresh k g (by simp at hg;omega) hk
   have:=ho.lt r.i (by simp;exact .inl ⟨r,hr,rfl⟩)
   simp at hg;omega
  ·intro e he
   rcases List.mem_append.1 he with he|he
   ·rw[h3]at he
    have he:=(Lb rs []).mem_iff.1 he;rw[DE]at he;obtain⟨r,hr,hre⟩:=List.mem_filterMap.1 he;obtain⟨A,B,hAB⟩:=FA hr
    have:=(h4 A r B hAB).2.gen e hre
    have:=ho.lt r.i (by simp;exact .inl ⟨r,hr,rfl⟩)
    show e.g<s.n+ops.size;omega
   ·show e.g<s.n+ops.size
    rcases BA.1 he with rfl|he
    ·have hE:W.e.g<s.n+ops.size:=by
      cases hia:W.ia with
      |none=>have:=hge hia;omega
      |some ia=>
       obtain⟨q1,_,q3⟩:=hga ia hia
       have:=ho.lt ia (by rw[h1];simp[q3])
       omega
     rcases hwg with h|h<;>omega
    ·have:=hgen e he
     omega
  ·show AW ρ' (AN F.X ρ' (N++W.e'::W.R)) w' (envF.get t) _
   rw[<-AN.perm hN,h2]
   by_cases hw:∃r∈rs,r.o.dst=some t
   ·obtain⟨r,hr,hrd⟩:=hw
    rw[OW rs s.env t ho.dst r hr hrd];exact hi.reps r hr (hall r hr) t hrd
   ·rw[Le rs s.env t λr hr hrd=>hw ⟨r,hr,hrd⟩]
    exact hi.old t λr hr _ hrd=>hw ⟨r,hr,hrd⟩
 ·refine BR (List.length_filter_le _ _) ?_
  have hsub:∀(l:List Nat) (n:Nat),l.Nodup->(∀x∈l,x<n)->l.length<=n:=by
   intro l n
   induction n generalizing l with
   |zero=>intro _ h;cases l with
    |nil=>simp
    |cons x l=>exact Ae (h x (by simp)) (by omega)
   |succ n ihn=>
    intro hnd hlt;have h1:=ihn (l.erase n) (hnd.erase n) λx hx=>by
     have:=hlt x (List.mem_of_mem_erase hx)
     have:x≠n:=λh=>by subst h;exact(V8 hnd) hx
     omega
    have:=List.length_erase (a:=n) (l:=l)
    split at this<;>omega
  exact hsub _ _ ho.nodup ho.lt
 ·intro k hk
  have:k<ops.size\/¬k<ops.size:=by omega
  rcases this with hlt|hlt
  ·rw[A0,Nk,AH hlt]at hk;cases hk
  ·intro h;exact Ae h hlt
theorem lW {P:Program}{o:Oper}{a:Act}{R R':Exit->Act->World->Prop}{K K':Act->World->Prop}(hk:∀a w,K a w->K' a w)(h:∀e a w,R e a w->R' e a w):∀r,o.upon P a K R r->o.upon P a K' R' r:=λr hr=>by
 unfold Oper.upon at hr⊢;split at hr
 ·exact hk _ _ hr
 ·exact hk _ _ hr
 ·exact hk _ _ hr
 ·refine hr.mono ?_
  intro e w'' q;cases e with
  |returned v=>exact hk _ _ q
  |panicked c=>exact h _ _ _ q
  |outgrown=>obtain⟨a,w,q⟩:=q;exact⟨a,w,h _ _ _ q⟩
 ·exact λc cs=>by
   obtain⟨v,w',h1,h2⟩:=hr c cs;exact⟨v,w',hk _ _ h1,h2⟩
 ·exact h _ _ _ hr
 ·exact hr.elim
theorem QH {P:Program}{R R':Exit->Act->World->Prop}(h:∀e a w,R e a w->R' e a w):∀(fuel:Nat) (L:Array Bool) (a:Act) (w:World),wpAny P .any ops R fuel L a w->wpAny P .any ops R' fuel L a w
 | 0,L,a,w,hh=>⟨hh.1,h _ _ _ hh.2⟩
 |fuel+1,L,a,w,hh=>⟨λh0=>h _ _ _ (hh.1 h0),λi hi=>by
   have hq:=hh.2 i hi;unfold wpOp at hq⊢;split
   ·rename_i ho;simp only[ho]at hq;exact QH h _ _ _ _ hq
   ·rename_i o ho
    simp only[ho]at hq;split
    ·rename_i hw
     rw[AH hw]at hq;rcases hq with hq|⟨h1,a,w,h2⟩
     ·exact .inl (lW (λa w=>QH h _ _ a w) h _ hq)
     ·exact .inr ⟨h1,a,w,h _ _ _ h2⟩
    ·rename_i hw
     rw[AF hw]at hq;exact QH h _ _ _ _ hq⟩
theorem zd {W:WR}{i:Nat}{s:St}{Q:Exit->St->Prop}{pre suf:List Nat}{envF:Au}{N:Hp}(hm:C.P.follows .mixedOrders=true)(hc:H4 ops pre suf=true)
  (hH:s.H.Perm W.start) (hga:∀ia,W.ia=some ia->W.e.g=s.n+ia/\Dz ops W.iw ia/\ia∈pre) (hiw:W.iw∈pre) (hwg:W.e'.g=W.e.g\/W.e'.g=s.n+W.iw)
  (hpre:Ii C F ops W s.n pre s.env [] envF N)
  (h:BJ C F ops (suf.map λj=>ops.getD j default) ⟨envF,N++W.e'::W.R,s.n+ops.size⟩ (Q .normal)):Ok C F (.region i ops true) s Q:=λhd ρ a w hs=>by
 refine wp_region_any hm (QH (λe a w h=>?_) _ _ _ _ (gU hc hH hga hiw hwg hpre h hd ρ a w hs));obtain⟨rfl,s',ρ',h1,h2⟩:=h;exact⟨s',ρ',h1,h2⟩
theorem kf {tt:Nat->Option Az}{H:Hp}{g g':Operand->D}{op:Op}(h:∀x∈op.operands,g x=g' x):FD tt H g op=FD tt H g' op:=by
 cases op<;>simp only[Op.operands]at h<;>try rfl
 case store t x y=>simp only[FD];rw[h x (by simp),h y (by simp)]
theorem mP {tt:Nat->Option Az}{e:Ay}{He:Hp}{g:Operand->D}{op:Op}{k:Nat}{e':Ay}{p:Prop}(h:FD tt [e] g op=some (k,e',p)):
  FD tt (e::He) g op=some (k,e',p)/\Hp.set (e::He) k e'=e'::He/\e'.g=e.g:=by
 unfold FD at h;split at h<;>try(cases h;done)
 rename_i t x y;simp only[FD];split at h<;>try(cases h;done)
 rename_i i hi
 try simp only[hi]
 split at h<;>try(cases h;done)
 rename_i h1
 try simp only[h1]
 split at h<;>try(cases h;done)
 rename_i e1 h2;have hb:Nat.beq e.k k=true/\e1=e:=by
  split at h<;>try(cases h;done)
  cases h;simp only[Hp.get]at h2;split at h2
  ·rename_i hb;cases h2;exact⟨hb,rfl⟩
  ·cases h2
 have hget:∀k0,Hp.get [e] k0=some e1->Hp.get (e::He) k0=some e1:=λk0 hk=>by
  simp only[Hp.get]at hk⊢;split at hk
  ·exact hk
  ·cases hk
 try rw[hget _ h2]
 split at h<;>try(cases h;done)
 rename_i h3;cases h;refine⟨by first|rfl|simp only[h3],?_,by rw[hb.2]⟩;simp only[Hp.set,hb.1]
theorem Kk.store {W:WR}{g:Nat}{env:Au}{o:Oper}{tt:Nat->Option Az}(htt:Cp C.P tt){k:Nat}{p:Prop}(hw:CG ops env o=some true)(he:FD tt [W.e] (BH env) o.op=some (k,W.e',p))(hp:p):
  Kk C F ops W g env o (.prim (.tuple #[])):=λHe ρ a w m _ _ _ hr=>by
 refine⟨IL hr hw,?_⟩;obtain⟨g',h1,h2⟩:=I8 hr;rw[kf h1]at he;obtain⟨q1,q2,_⟩:=mP (He:=He) he;obtain⟨w',r1,r2,r3,_⟩:=YA (s:=⟨[],W.e::He,0⟩) htt m h2 q1 hp;simp only[q2]at r2 r3;exact⟨undef,ρ,w',.inr ⟨r1,rfl⟩,r2,r3,λ_ _ _=>rfl,.prim _⟩
theorem Xb {tt:Nat->Option Az}{H:Hp}{n k:Nat}{g g':Operand->D}{op:Op}(h:∀x∈op.operands,g x=g' x):EI tt H n k g op=EI tt H n k g' op:=by
 unfold EI;split
 ·rename_i args tys
  cases hargs:args.toList with
  |nil=>rfl
  |cons s r=>
   cases r with
   |nil=>rfl
   |cons x r=>
    cases r with
    |nil=>
     have hs:s∈args.toList:=by rw[hargs];simp
     have hx:x∈args.toList:=by rw[hargs];simp
     dsimp only;rw[h s (by simp[Op.operands,Call.operands];simpa using hs),h x (by simp[Op.operands,Call.operands];simpa using hx)]
    |cons=>rfl
 ·rfl
theorem Zf {e e1:Ay}{k:Nat}{He:Hp}(h:Hp.get [e] k=some e1):e1=e/\Hp.get (e::He) k=some e/\Hp.del (e::He) k=He/\Hp.del [e] k=[]:=by
 simp only[Hp.get]at h;split at h
 ·rename_i hb
  cases h;refine⟨rfl,?_,?_,?_⟩
  ·simp only[Hp.get,hb]
  ·simp only[Hp.del,hb]
  ·simp only[Hp.del,hb]
 ·cases h
theorem lx {e:Ay}{He:Hp}{esz:Nat}{d:D}{r:List D×Prop}(h:IB [e] esz d=some r):IB (e::He) esz d=some r:=by
 unfold IB at h⊢;split at h<;>try exact h
 split at h<;>try(cases h;done)
 rename_i h1;obtain⟨rfl,h2,_,_⟩:=Zf (He:=He) h1;rw[h2];exact h
theorem mO {tt:Nat->Option Az}{e e':Ay}{He:Hp}{n k:Nat}{g:Operand->D}{op:Op}{d:D}{p:Prop}(h:EI tt [e] n k g op=some (d,[e'],p)):
  EI tt (e::He) n k g op=some (d,e'::He,p)/\e'.g=n:=by
 unfold EI at h⊢;split at h<;>try(cases h;done)
 split at h<;>try(cases h;done)
 rename_i h1
 try rw[h1]
 try dsimp only
 split at h<;>try(cases h;done)
 rename_i h2
 try rw[h2]
 try dsimp only
 split at h<;>try(cases h;done)
 rename_i h3
 try rw[h3]
 try dsimp only
 split at h<;>try(cases h;done)
 rename_i h4
 try rw[h4]
 try dsimp only
 split at h<;>try(cases h;done)
 rename_i h5
 try rw[h5]
 try dsimp only
 split at h<;>try(cases h;done)
 rename_i h6
 try rw[lx h6]
 try dsimp only
 split at h<;>try(cases h;done)
 ·rename_i h7
  try rw[h7]
  try dsimp only
  split at h<;>try(cases h;done)
  rename_i h8;obtain⟨rfl,a1,a2,a3⟩:=Zf (He:=He) h8
  try rw[a1]
  try dsimp only
  rw[a3]at h;rw[a2];cases h;exact⟨rfl,rfl⟩
theorem gc {W:WR}{g:Nat}{env:Au}{o:Oper}{tt:Nat->Option Az}(k:Nat)(htt:Cp C.P tt){d:D}{p:Prop}(hw:CG ops env o=some true)(he:EI tt [W.e] g k (BH env) o.op=some (d,[W.e'],p))(hp:p):
  Kk C F ops W g env o d:=λHe ρ a w m _ fr hne hr=>by
 refine⟨IL hr hw,?_⟩;obtain⟨g',h1,h2⟩:=I8 hr;rw[Xb h1]at he;obtain⟨q1,_⟩:=mO (He:=He) he;obtain⟨v,ρ',w',r1,r2⟩:=TF htt m fr hne h2 q1 hp;exact⟨v,ρ',w',.inl r1,r2.mem,r2.ext,r2.far,r2.rep⟩
theorem YD {tt:Nat->Option Az}{e':Ay}{He:Hp}{n k:Nat}{g:Operand->D}{op:Op}{d:D}{p:Prop}(h:EI tt [] n k g op=some (d,[e'],p)):
  EI tt He n k g op=some (d,e'::He,p)/\e'.g=n:=by
 have src:∀ {esz:Nat} {x:D} {r:List D×Prop},IB [] esz x=some r->IB He esz x=some r:=λ{esz x r} h=>by
  unfold IB at h⊢;split at h<;>try exact h
  split at h<;>try(cases h;done)
  rename_i h1;cases h1
 unfold EI at h⊢;split at h<;>try(cases h;done)
 split at h<;>try(cases h;done)
 rename_i h1
 try rw[h1]
 try dsimp only
 split at h<;>try(cases h;done)
 rename_i h2
 try rw[h2]
 try dsimp only
 split at h<;>try(cases h;done)
 rename_i h3
 try rw[h3]
 try dsimp only
 split at h<;>try(cases h;done)
 rename_i h4
 try rw[h4]
 try dsimp only
 split at h<;>try(cases h;done)
 rename_i h5
 try rw[h5]
 try dsimp only
 split at h<;>try(cases h;done)
 rename_i h6
 try rw[src h6]
 try dsimp only
 split at h<;>try(cases h;done)
 cases h;exact⟨rfl,rfl⟩
theorem gt {H:Hp}{g:Nat}{env:Au}{o:Oper}{e:Ay}{tt:Nat->Option Az}(k:Nat)(htt:Cp C.P tt){d:D}{p:Prop}(hw:CG ops env o=some true)(he:EI tt [] g k (BH env) o.op=some (d,[e],p))(hp:p):
  CQ C F ops H g env o d (some e):=by
 refine⟨λe' h=>by cases h;exact(YD (He:=[]) he).2,λHe ρ a w m _ fr hne hr=>.inr ⟨IL hr hw,.inl ?_⟩⟩;obtain⟨g',h1,h2⟩:=I8 hr;rw[Xb h1]at he;obtain⟨q1,_⟩:=YD (He:=He) he;obtain⟨v,ρ',w',r1,r2⟩:=TF htt m fr hne h2 q1 hp;exact⟨v,ρ',w',r1,r2.mem,r2.ext,r2.far,r2.rep⟩
end
noncomputable section
structure FI where
 nt:Nat
 res:List ResultVar
 code:Code
structure EV where
 tt:Nat->Option Az
 xt:Nat->Option XI
 ft:Nat->Option FI
 np:Nat->Bool
 orc:Nat->List D->Option D
 mt:Nat->String->Option Nat
 nat:Nat->List D->Option D
structure FL (C:BD)(X:EV):Prop where
 tt:Cp C.P X.tt
 xt:MI C.P X.xt
 ft:∀f i,X.ft f=some i->∃fn,C.P.funcs[f]?=some fn/\fn.body=some i.code/\(fn.name == "runtime.NumGoroutine")=false/\DL fn.ntmps i.code=true/\fn.ntmps=i.nt/\fn.results.toList=i.res
 orc:∀f ds d,X.orc f ds=some d->AJ C f ds d/\Al ds
 mixed:C.P.follows .mixedOrders=true
 mt:∀t name f,X.mt t name=some f->∀v w,(method (C.P.types.size+Made.depth) t v name).run C.P w=.ok (f,v) w
 nat:∀f ds d,X.nat f ds=some d->Kl C f ds d
noncomputable def Vm (env:Au)(t:Nat):D:=List.rec (motive:=λ_=>D) .any (λp _ ih=>Bool.rec (motive:=λ_=>D) ih p.2 (Nat.beq p.1 t)) env
theorem Ze (t:Nat):∀env:Au,Vm env t=env.get t
 | []=>rfl
 |(k,d)::r=>by
  show Bool.rec (motive:=λ_=>D) (Vm r t) d (Nat.beq k t)=_;rw[Ze t r];simp only[Au.get];cases Nat.beq k t<;>rfl
noncomputable def NV (env:Au)(x:Operand):D:=match x with
 | .tmp t=>Vm env t
 | .const v=>Kv v
 | .global g=>.prim (.pointer (some ⟨g,0,none⟩))
 | .func f=>.clo (.func f) [] []
theorem Og (env:Au):NV env=BH env:=by
 funext x
 cases x<;>first|rfl|exact Ze _ _
noncomputable def R9 (i:Nat)(l:List Nat):Bool:=List.rec (motive:=λ_=>Bool) false (λj _ ih=>Bool.rec (motive:=λ_=>Bool) ih true (Nat.beq i j)) l
theorem Zm (i:Nat):∀l:List Nat,R9 i l=CV i l
 | []=>rfl
 |j::l=>by
  show Bool.rec (motive:=λ_=>Bool) (R9 i l) true (Nat.beq i j)=_;rw[Zm i l];simp only[CV];cases Nat.beq i j<;>rfl
abbrev Ic:=Nat->List D->Hp->Nat->Option (D×Hp×Nat)
abbrev Hu:=Nat->List D->Option D
def J8 (b:Bool)(r:D×Hp×Nat):Option (D×Hp×Nat):=match b with
 |true=>some r
 |false=>none
def R7 (tt:Nat->Option Az)(g:Operand->D)(t:Nat)(x ix:Operand):Option D:=match tt t with
 |some i=>match i.ti with
  | .slice _ esz _ _=>match g ix with
   | .prim (.int _ j)=>match g x with
    | .sl _ sz es=>match Nat.beq sz esz&&decide (0<=j)with
     |true=>match es[j.toNat]? with
      |some d=>some (.pptr d)
      |none=>none
     |false=>none
    |_=>none
   |_=>none
  |_=>none
 |none=>none
def PR (X:EV)(g:Operand->D)(H:Hp)(n:Nat)(op:Op):Option (D×Hp×Nat):=match Gm X.tt g op with
 |some (d,_)=>J8 (Ma X.tt g op) (d,H,n+1)
 |none=>none
def R6 (X:EV)(g:Operand->D)(H:Hp)(n:Nat)(op:Op):Option (D×Hp×Nat):=match GD X.tt X.xt g op with
 |some (d,_)=>J8 (Sb X.xt g op) (d,H,n+1)
 |none=>none
def Kq {α:Type}(a:Option α)(b:Option α):Option α:=match a with
 |some x=>some x
 |none=>b
def gJ (X:EV)(cl:Ic)(g:Operand->D)(H:Hp)(n:Nat)(op:Op):Option (D×Hp×Nat):=match op with
 | .call ⟨.value fop,args,_⟩=>match g fop with
  | .clo (.func f) first captured=>match X.nat f (first++args.toList.map g++captured)with
   |some d=>some (d,H,n+1)
   |none=>cl f (first++args.toList.map g++captured) H n
  |_=>none
 | .call ⟨.invoke r name,args,_⟩=>match g r with
  | .ifc t d0=>match X.mt t name with
   |some f=>cl f (d0::args.toList.map g) H n
   |none=>none
  |_=>none
 | .call ⟨.builtin .append,_,_⟩=>match EI X.tt H n n g op with
  |some (d,H',_)=>J8 (Pv X.tt H g op) (d,H',n+1)
  |none=>none
 | .makeSlice _ _ _=>match KP X.tt n n g op with
  |some (d,e,_)=>J8 (WE X.tt g op) (d,e::H,n+1)
  |none=>none
 | .store _ _ _=>match FD X.tt H g op with
  |some (k,e,_)=>J8 (Sc X.tt H g op) (.prim (.tuple #[]),Hp.set H k e,n+1)
  |none=>none
 | .load _ _ | .alloc _ | .box _ _ | .buildSlice _ _ _=>match EP X.tt H n n g op with
  |some (d,ne,_)=>J8 (KT X.tt H g op) (d,Cx ne H,n+1)
  |none=>none
 | .indexAddr t x ix=>Kq (PR X g H n op) (match R7 X.tt g t x ix with
  |some d=>some (d,H,n+1)
  |none=>none)
 | .makeInterface _ _ | .lookup _ _ _ _=>R6 X g H n op
 | .binOp _ _ _ _ _=>Kq (PR X g H n op) (R6 X g H n op)
 |_=>PR X g H n op
def Uj (X:EV)(cl:Ic)(ops:Array Oper)(s:St)(o:Oper):Option (D×Hp×Nat):=match CG ops s.env o with
 |some true=>gJ X cl (NV s.env) s.H s.n o.op
 |some false=>some (.prim (.tuple #[]),s.H,s.n+1)
 |none=>none
def MC (X:EV)(cl:Ic)(ops:Array Oper):List Oper->St->Option St
 | [],s=>some s
 |o::os,s=>match Uj X cl ops s o with
  |some (d,H',n')=>Nv d λd=>G9 n' λn'=>MC X cl ops os ⟨Ba s.env o.dst d,H',n'⟩
  |none=>none
def SZ (d:D)(H:Hp)(n:Nat):D->Hp->Nat->Prop:=λd1 H1 n1=>d1=d/\H1=H/\n1=n
def Mq (C:BD)(cl:Ic):Prop:=∀f ds H n d H' n',cl f ds H n=some (d,H',n')->Cg C f ds H n (SZ d H' n')
def Lv (C:BD)(cp:Hu):Prop:=∀f ds d,cp f ds=some d->AJ C f ds d/\Al ds
section
variable {C:BD} {F:Ac} {X:EV} {cl:Ic} {cp:Hu} {ops:Array Oper}
theorem Lh {b:Bool}{r r':D×Hp×Nat}(h:J8 b r=some r'):b=true/\r=r':=by
 cases b
 ·cases h
 ·cases h;exact⟨rfl,rfl⟩
theorem Xh {tt:Nat->Option Az}{g:Operand->D}{t:Nat}{x ix:Operand}{d:D}(h:R7 tt g t x ix=some d):∃i e esz eby ez kk j nn es d',tt t=some i/\i.ti=.slice e esz eby ez/\g ix=.prim (.int kk j) /\
  g x=.sl nn esz es/\0<=j/\es[j.toNat]?=some d'/\d=.pptr d':=by
 unfold R7 at h;split at h<;>try(cases h;done)
 rename_i i h1;split at h<;>try(cases h;done)
 rename_i e esz eby ez h2;split at h<;>try(cases h;done)
 rename_i kk j h3;split at h<;>try(cases h;done)
 rename_i nn sz es h4;split at h<;>try(cases h;done)
 rename_i h5;split at h<;>try(cases h;done)
 rename_i d' h6;cases h;simp only[BQ,F8]at h5;obtain rfl:=B6 h5.1;exact⟨i,e,sz,eby,ez,kk,j,nn,es,d',h1,h2,h3,h4,h5.2,h6,rfl⟩
theorem kg (hX:FL C X)(hcl:Mq C cl){s:St}{o:Oper}{os:List Oper}{K:St->Prop}{d:D}{H':Hp}{n':Nat}(h:Uj X cl ops s o=some (d,H',n'))
  (hk:BJ C F ops os ⟨Ba s.env o.dst d,H',n'⟩ K):BJ C F ops (o::os) s K:=by
 unfold Uj at h;rw[Og]at h;split at h<;>try(cases h;done)
 ·rename_i hw
  have pe:PR X (BH s.env) s.H s.n o.op=some (d,H',n')->BJ C F ops (o::os) s K:=λh=>by
   unfold PR at h;split at h<;>try(cases h;done)
   rename_i hp;obtain⟨hb,hr⟩:=Lh h;cases hr;exact BJ.p hX.tt hw hp (dL hp hb) hk
  have qe:R6 X (BH s.env) s.H s.n o.op=some (d,H',n')->BJ C F ops (o::os) s K:=λh=>by
   unfold R6 at h;split at h<;>try(cases h;done)
   rename_i hp;obtain⟨hb,hr⟩:=Lh h;cases hr;exact BJ.q hX.tt hX.xt hw hp (dO hp hb) hk
  have le:∀r,(match EP X.tt s.H s.n s.n (BH s.env) o.op with
    |some (d,ne,_)=>J8 (KT X.tt s.H (BH s.env) o.op) (d,Cx ne s.H,s.n+1)
    |none=>none)=some r->r=(d,H',n')->BJ C F ops (o::os) s K:=λr h hr=>by
   split at h<;>try(cases h;done)
   rename_i hp;obtain⟨hb,hr'⟩:=Lh h;rw[<-hr']at hr;cases hr;exact BJ.l' s.n hX.tt hw hp (U9 hp hb) hk
  unfold gJ at h;split at h
  ·rename_i fop args tys ho
   split at h<;>try(cases h;done)
   rename_i f first captured hf
   split at h
   ·rename_i hn
    cases h;exact BJ.nat hw ho hf rfl (hX.nat _ _ _ hn) hk
   refine zE hw ho hf rfl (hcl _ _ _ _ _ _ _ h) λd1 H1 n1 hΦ=>?_
   obtain⟨rfl,rfl,rfl⟩:=hΦ;exact hk
  ·rename_i r name args tys ho
   split at h<;>try(cases h;done)
   rename_i t d0 hr;split at h<;>try(cases h;done)
   rename_i f hf;refine zG hw ho hr (hX.mt _ _ _ hf) rfl (hcl _ _ _ _ _ _ _ h) λd1 H1 n1 hΦ=>?_
   obtain⟨rfl,rfl,rfl⟩:=hΦ;exact hk
  ·split at h<;>try(cases h;done)
   rename_i hp;obtain⟨hb,hr⟩:=Lh h;cases hr;exact gV s.n hX.tt hw hp (U8 hp hb) hk
  ·split at h<;>try(cases h;done)
   rename_i hp;obtain⟨hb,hr⟩:=Lh h;cases hr;exact gX s.n hX.tt hw hp (vW hp hb) hk
  ·split at h<;>try(cases h;done)
   rename_i hp;obtain⟨hb,hr⟩:=Lh h;cases hr;exact BJ.store hX.tt hw hp (dQ hp hb) hk
  ·exact le _ h rfl
  ·exact le _ h rfl
  ·exact le _ h rfl
  ·exact le _ h rfl
  ·rename_i t x ix ho
   unfold Kq at h;split at h
   ·rename_i hr;cases h;exact pe hr
   ·split at h<;>try(cases h;done)
    rename_i hi;cases h;obtain⟨i,e,esz,eby,ez,kk,j,nn,es,d',a1,a2,a3,a4,a5,a6,rfl⟩:=Xh hi;exact BJ.idx hX.tt hw ho a1 a2 a3 a4 a5 a6 hk
  ·exact qe h
  ·exact qe h
  ·unfold Kq at h
   split at h
   ·rename_i hr;cases h;exact pe hr
   ·exact qe h
  ·exact pe h
 ·rename_i hw
  cases h;exact BJ.skip hw hk
theorem Qe (hX:FL C X)(hcl:Mq C cl){K:St->Prop}:∀ {os:List Oper} {s s':St},MC X cl ops os s=some s'->K s'->BJ C F ops os s K
 | [],s,s',h,hk=>by
  simp only[MC,BM]at h;subst h;exact BJ.nil hk
 |o::os,s,s',h,hk=>by
  simp only[MC]at h;split at h<;>try(cases h;done)
  rename_i hs;rw[NG,Lz]at h;exact kg hX hcl hs (Qe hX hcl h hk)
theorem CQ.l' {H:Hp}{g:Nat}{env:Au}{o:Oper}{tt:Nat->Option Az}(k:Nat)(htt:Cp C.P tt){d:D}{ne:Option Ay}{p:Prop}(hw:CG ops env o=some true)(he:EP tt H g k (BH env) o.op=some (d,ne,p))(hp:p):CQ C F ops H g env o d ne:=by
 refine⟨λe h=>by subst h;exact ZE he,λHe ρ a w m hsub fr hne hr=>.inr ⟨IL hr hw,.inl ?_⟩⟩;obtain⟨g',h1,h2⟩:=I8 hr;obtain⟨v,ρ',w',r1,r2⟩:=aq (g:=g') hsub htt m fr hne h2 (by rw[<-kI h1];exact he) hp;exact⟨v,ρ',w',r1,r2⟩
theorem ke {tt:Nat->Option Az}{xt:Nat->Option XI}{g g':Operand->D}{op:Op}(h:∀x∈op.operands,g x=g' x):GD tt xt g op=GD tt xt g' op:=by
 cases op<;>simp only[Op.operands]at h<;>try rfl
 case binOp op t x y yt=>simp only[GD];rw[h x (by simp),h y (by simp)]
 case makeInterface t x=>simp only[GD];rw[h x (by simp)]
 case lookup t x ix ok=>simp only[GD];rw[h x (by simp),h ix (by simp)]
theorem CQ.q {H:Hp}{g:Nat}{env:Au}{o:Oper}{tt:Nat->Option Az}{xt:Nat->Option XI}(htt:Cp C.P tt)(hxt:MI C.P xt){d:D}{p:Prop}(hw:CG ops env o=some true)(he:GD tt xt (BH env) o.op=some (d,p))(hp:p):
  CQ C F ops H g env o d none:=by
 refine⟨by simp,λHe ρ a w m _ _ _ hr=>.inr ⟨IL hr hw,.inl ?_⟩⟩;obtain⟨g',h1,h2⟩:=I8 hr;obtain⟨v,r1,r2⟩:=au (g:=g') htt hxt h2 (by rw[<-ke h1];exact he) hp;exact⟨v,ρ,w,r1,m,.refl _ _ _,λ_ _ _=>rfl,r2⟩
def NW (b:Bool)(r:D×Option Ay):Option (D×Option Ay):=match b with
 |true=>some r
 |false=>none
theorem QU {b:Bool}{r r':D×Option Ay}(h:NW b r=some r'):b=true/\r=r':=by
 cases b
 ·cases h
 ·cases h;exact⟨rfl,rfl⟩
def Px (X:EV)(g:Operand->D)(op:Op):Option (D×Option Ay):=match Gm X.tt g op with
 |some (d,_)=>NW (Ma X.tt g op) (d,none)
 |none=>none
def Se (X:EV)(g:Operand->D)(op:Op):Option (D×Option Ay):=match GD X.tt X.xt g op with
 |some (d,_)=>NW (Sb X.xt g op) (d,none)
 |none=>none
def gQ (X:EV)(cp:Hu)(g:Operand->D)(H:Hp)(n:Nat)(op:Op):Option (D×Option Ay):=match op with
 | .call ⟨.value fop,args,_⟩=>match g fop with
  | .clo (.func f) first captured=>match X.nat f (first++args.toList.map g++captured)with
   |some d=>some (d,none)
   |none=>match cp f (first++args.toList.map g++captured)with
    |some d=>some (d,none)
    |none=>none
  |_=>none
 | .call ⟨.builtin .append,_,_⟩=>match EI X.tt [] n n g op with
  |some (d,[e],_)=>NW (Pv X.tt [] g op) (d,some e)
  |_=>none
 | .load _ _ | .alloc _ | .box _ _ | .buildSlice _ _ _=>match EP X.tt H n n g op with
  |some (d,ne,_)=>NW (KT X.tt H g op) (d,ne)
  |none=>none
 | .indexAddr t x ix=>Kq (Px X g op) (match R7 X.tt g t x ix with
  |some d=>some (d,none)
  |none=>none)
 | .makeInterface _ _ | .lookup _ _ _ _=>Se X g op
 | .binOp _ _ _ _ _=>Kq (Px X g op) (Se X g op)
 |_=>Px X g op
def O3 (X:EV)(cp:Hu)(ops:Array Oper)(H:Hp)(n:Nat)(env:Au)(o:Oper):Option (D×Option Ay):=match CG ops env o with
 |some true=>gQ X cp (NV env) H n o.op
 |some false=>some (.prim (.tuple #[]),none)
 |none=>none
theorem TH (hX:FL C X)(hcp:Lv C cp){H:Hp}{n:Nat}{env:Au}{o:Oper}{d:D}{ne:Option Ay}(h:O3 X cp ops H n env o=some (d,ne)):CQ C F ops H n env o d ne:=by
 unfold O3 at h;rw[Og]at h;split at h<;>try(cases h;done)
 ·rename_i hw
  have pe:Px X (BH env) o.op=some (d,ne)->CQ C F ops H n env o d ne:=λh=>by
   unfold Px at h;split at h<;>try(cases h;done)
   rename_i hp;obtain⟨hb,hr⟩:=QU h;cases hr;exact CQ.p hX.tt hw hp (dL hp hb)
  have qe:Se X (BH env) o.op=some (d,ne)->CQ C F ops H n env o d ne:=λh=>by
   unfold Se at h;split at h<;>try(cases h;done)
   rename_i hp;obtain⟨hb,hr⟩:=QU h;cases hr;exact CQ.q hX.tt hX.xt hw hp (dO hp hb)
  have le:∀r,(match EP X.tt H n n (BH env) o.op with
    |some (d,ne,_)=>NW (KT X.tt H (BH env) o.op) (d,ne)
    |none=>none)=some r->r=(d,ne)->CQ C F ops H n env o d ne:=λr h hr=>by
   split at h<;>try(cases h;done)
   rename_i hp;obtain⟨hb,hr'⟩:=QU h;rw[<-hr']at hr;cases hr;exact CQ.l' n hX.tt hw hp (U9 hp hb)
  unfold gQ at h;split at h
  ·rename_i fop args tys ho
   split at h<;>try(cases h;done)
   rename_i f first captured hf
   split at h
   ·rename_i hn
    cases h;exact CQ.nat hw ho hf rfl (hX.nat _ _ _ hn)
   split at h<;>try(cases h;done)
   rename_i hc;cases h;obtain⟨c1,c2⟩:=hcp _ _ _ hc;exact CQ.call hw ho hf rfl c1 c2
  ·split at h<;>try(cases h;done)
   rename_i hp;obtain⟨hb,hr⟩:=QU h;cases hr;exact gt n hX.tt hw hp (U8 hp hb)
  ·exact le _ h rfl
  ·exact le _ h rfl
  ·exact le _ h rfl
  ·exact le _ h rfl
  ·rename_i t x ix ho
   unfold Kq at h;split at h
   ·rename_i hr;cases h;exact pe hr
   ·split at h<;>try(cases h;done)
    rename_i hi;cases h;obtain⟨i,e,esz,eby,ez,kk,j,nn,es,d',a1,a2,a3,a4,a5,a6,rfl⟩:=Xh hi;exact CQ.idx hX.tt hw ho a1 a2 a3 a4 a5 a6
  ·exact qe h
  ·exact qe h
  ·unfold Kq at h
   split at h
   ·rename_i hr;cases h;exact pe hr
   ·exact qe h
  ·exact pe h
 ·rename_i hw
  cases h;exact CQ.skip hw
def NN (X:EV)(cp:Hu)(ops:Array Oper)(H:Hp)(n:Nat):List Nat->Au->Hp->Option (Au×Hp)
 | [],env,N=>some (env,N)
 |i::l,env,N=>match ops[i]? with
  |some o=>match O3 X cp ops H (n+i) env o with
   |some (d,ne)=>Nv d λd=>NN X cp ops H n l (Ba env o.dst d) (Cx ne N)
   |none=>none
  |none=>none
theorem YE (hX:FL C X)(hcp:Lv C cp){H:Hp}{n:Nat}:∀ {l:List Nat} {env env':Au} {N N':Hp},NN X cp ops H n l env N=some (env',N')->Iy C F ops H n l env N env' N'
 | [],env,env',N,N',h=>by
  simp only[NN,BM,Bh]at h;obtain⟨rfl,rfl⟩:=h;exact .nil _ _
 |i::l,env,env',N,N',h=>by
  simp only[NN]at h;split at h<;>try(cases h;done)
  rename_i o ho;split at h<;>try(cases h;done)
  rename_i d ne hs;rw[NG]at h;exact .cons ho (TH hX hcp hs) (YE hX hcp h)
def Xy (ops:Array Oper)(done:List Nat):List Nat->Option (Nat×List Nat)
 | []=>none
 |i::r=>match IW (GO ops i) done with
  |true=>some (i,r)
  |false=>match Xy ops done r with
   |some (j,r')=>some (j,i::r')
   |none=>none
def Vt (ops:Array Oper):Nat->List Nat->List Nat->List Nat
 | 0,done,rest=>done.reverse++rest
 |f+1,done,rest=>match Xy ops done rest with
  |some (i,rest')=>Vt ops f (i::done) rest'
  |none=>done.reverse++rest
def VL (clo:List (Nat×List Nat)):List Nat->List Nat->List Nat->List Nat->List Nat×List Nat
 |_,[],pre,cur=>(pre.reverse,cur.reverse)
 |done,i::l,pre,cur=>match IW done (FK clo i)with
  |true=>VL clo (i::done) l pre (i::cur)
  |false=>VL clo (i::done) l (i::(cur++pre)) []
def xy (ops:Array Oper):List Nat×List Nat:=
 VL (Ih ops (Vt ops ops.size [] (List.range ops.size)) []) [] (Vt ops ops.size [] (List.range ops.size)) [] []
def yK:Op->Bool
 | .store _ _ _=>true
 | .call ⟨.builtin .append,_,_⟩=>true
 |_=>false
def dm (ops:Array Oper):List Nat->Option Nat
 | []=>none
 |i::l=>match ops[i]? with
  |some o=>match yK o.op with
   |true=>some i
   |false=>dm ops l
  |none=>none
def gS (i:Nat):List Nat->List Nat
 | []=>[]
 |j::l=>match Nat.beq i j with
  |true=>[]
  |false=>j::gS i l
def xj (g:Operand->D):Op->Option Nat
 | .store _ x _=>match g x with
  | .optr k _ _ _ _=>some k
  |_=>none
 | .call ⟨.builtin .append,args,_⟩=>match args.toList with
  | [s,_]=>match g s with
   | .osl k _ _ _ _=>some k
   |_=>none
  |_=>none
 |_=>none
def Vp (X:EV)(e:Ay)(n:Nat)(g:Operand->D)(op:Op):Option (D×Ay):=match op with
 | .store _ _ _=>match FD X.tt [e] g op with
  |some (_,e',_)=>match Sc X.tt [e] g op with
   |true=>some (.prim (.tuple #[]),e')
   |false=>none
  |none=>none
 |_=>match EI X.tt [e] n n g op with
  |some (d,[e'],_)=>match Pv X.tt [e] g op with
   |true=>some (d,e')
   |false=>none
  |_=>none
def Ij (ia:Option Nat)(i:Nat):Bool:=match ia with
 |some j=>Nat.beq i j
 |none=>false
def Hw (ia:Option Nat)(accE:Option Ay)(R:Hp)(b:Bool):Hp:=match ia with
 |none=>match accE with
  |some e=>match b with
   |true=>e::R
   |false=>R
  |none=>R
 |some _=>R
def JJ (X:EV)(cp:Hu)(ops:Array Oper)(iw:Nat)(ia:Option Nat)(R:Hp)(clo:List Nat)(n:Nat):List Nat->Au->Hp->Option Ay->Option Ay->Option (Au×Hp×Ay×Ay)
 | [],env,N,accE,acc=>match accE with
  |some e=>match acc with
   |some e'=>some (env,N,e,e')
   |none=>none
  |none=>none
 |i::l,env,N,accE,acc=>match ops[i]? with
  |some o=>match Nat.beq i iw with
   |true=>match acc with
    |some _=>none
    |none=>match accE with
     |some e=>match CG ops env o with
      |some true=>match Vp X e (n+i) (NV env) o.op with
       |some (d,e')=>JJ X cp ops iw ia R clo n l (Ba env o.dst d) N accE (some e')
       |none=>none
      |_=>none
     |none=>none
   |false=>match Ij ia i with
    |true=>match accE with
     |some _=>none
     |none=>match O3 X cp ops R (n+i) env o with
      |some (d,some e)=>Nv d λd=>JJ X cp ops iw ia R clo n l (Ba env o.dst d) N (some e) acc
      |_=>none
    |false=>match O3 X cp ops (Hw ia accE R (CV i clo)) (n+i) env o with
     |some (d,ne)=>Nv d λd=>JJ X cp ops iw ia R clo n l (Ba env o.dst d) (Cx ne N) accE acc
     |none=>none
  |none=>none
theorem La {iw:Nat}{ia:Option Nat}{R:Hp}{clo:List Nat}{n:Nat}:∀ {l:List Nat} {env env':Au} {N N':Hp} {accE acc:Option Ay} {e e':Ay},JJ X cp ops iw ia R clo n l env N accE acc=some (env',N',e,e') ->
  (∀a,accE=some a->e=a)/\(∀a,acc=some a->e'=a)
 | [],_,_,_,_,_,_,_,_,h=>by
  simp only[JJ]at h;split at h<;>try(cases h;done)
  split at h<;>try(cases h;done)
  simp only[BM,Bh]at h;exact⟨λa ha=>by cases ha;exact h.2.2.1.symm,λa ha=>by cases ha;exact h.2.2.2.symm⟩
 |i::l,_,_,_,_,_,_,_,_,h=>by
  simp only[JJ]at h;split at h<;>try(cases h;done)
  split at h
  ·split at h<;>try(cases h;done)
   split at h<;>try(cases h;done)
   split at h<;>try(cases h;done)
   split at h<;>try(cases h;done)
   exact⟨(La h).1,by simp⟩
  ·split at h
   ·split at h<;>try(cases h;done)
    split at h<;>try(cases h;done)
    rw[NG]at h;exact⟨by simp,(La h).2⟩
   ·split at h<;>try(cases h;done)
    rw[NG]at h;exact La h
theorem oo (hX:FL C X){W:WR}{n:Nat}{env:Au}{o:Oper}{d:D}(hw:CG ops env o=some true)(h:Vp X W.e n (BH env) o.op=some (d,W.e')):Kk C F ops W n env o d:=by
 unfold Vp at h;split at h
 ·split at h<;>try(cases h;done)
  rename_i he;split at h<;>try(cases h;done)
  rename_i hk;simp only[BM,Bh]at h;obtain⟨rfl,h2⟩:=h;rw[h2]at he;exact Kk.store hX.tt hw he (dQ he hk)
 ·split at h<;>try(cases h;done)
  rename_i he;split at h<;>try(cases h;done)
  rename_i hk;simp only[BM,Bh]at h;obtain⟨rfl,h2⟩:=h;rw[h2]at he;exact gc n hX.tt hw he (U8 he hk)
theorem Qh {ia:Option Nat}{i:Nat}:Ij ia i=true↔ia=some i:=by
 cases ia with
 |none=>simp[Ij]
 |some j=>
  simp only[Ij,BM];exact⟨λh=>(B6 h).symm,λh=>by rw[h];exact MW _⟩
theorem QS (hX:FL C X)(hcp:Lv C cp){W:WR}(hwa:W.ia≠some W.iw){clo:List Nat}(hclo:∀j∈clo,Dz ops W.iw j){n:Nat}:∀ {l:List Nat} {env env':Au} {N N':Hp} {accE acc:Option Ay},
  JJ X cp ops W.iw W.ia W.R clo n l env N accE acc=some (env',N',W.e,W.e')->Ii C F ops W n l env N env' N'
 | [],env,env',N,N',accE,acc,h=>by
  simp only[JJ]at h;split at h<;>try(cases h;done)
  split at h<;>try(cases h;done)
  simp only[BM,Bh]at h;obtain⟨rfl,rfl,_⟩:=h;exact .nil _ _
 |i::l,env,env',N,N',accE,acc,h=>by
  simp only[JJ,Og]at h;split at h<;>try(cases h;done)
  rename_i o ho;split at h
  ·rename_i hb
   have hb:=B6 hb;split at h<;>try(cases h;done)
   split at h<;>try(cases h;done)
   rename_i e0;split at h<;>try(cases h;done)
   rename_i hw;split at h<;>try(cases h;done)
   rename_i d e1 he;obtain⟨h1,h2⟩:=La h;rw[<-h1 _ rfl,<-h2 _ rfl]at he;exact .cons (ne:=none) ho (.inr (.inl ⟨hb,by rw[hb];exact hwa,rfl,oo hX hw he⟩)) (QS hX hcp hwa hclo h)
  ·rename_i hb
   have hne:i≠W.iw:=λhi=>by rw[hi,MW]at hb;cases hb
   split at h
   ·rename_i hi
    have hi:=Qh.1 hi;split at h<;>try(cases h;done)
    split at h<;>try(cases h;done)
    rename_i d e0 hs;rw[NG]at h;have h1:=(La h).1 _ rfl;rw[<-h1]at hs;exact .cons (ne:=none) ho (.inr (.inr ⟨hne,hi,rfl,TH (F:=F) hX hcp hs⟩)) (QS hX hcp hwa hclo h)
   ·rename_i hi
    have hi:W.ia≠some i:=λh=>by rw[Qh.2 h]at hi;cases hi
    split at h<;>try(cases h;done)
    rename_i d ne hs;rw[NG]at h;have hacc:=(La h).1;refine .cons ho (.inl ⟨hne,hi,?_⟩) (QS hX hcp hwa hclo h);have hst:=TH (F:=F) hX hcp hs;unfold Hw at hst;cases hia:W.ia with
    |none=>
     rw[hia]at hst;cases accE with
     |none=>exact .inr hst
     |some a=>
      have:=hacc a rfl
      subst this;dsimp only at hst;cases hm:CV i clo with
      |true=>rw[hm]at hst;exact .inl ⟨rfl,hclo i (GJ.1 hm),hst⟩
      |false=>rw[hm]at hst;exact .inr hst
    |some ia=>rw[hia]at hst;exact .inr hst
def dE (s:St)(N1:Hp)(k:Nat):Option (Option Nat×Option Ay×Hp):=match Hp.get s.H k with
 |some e=>some (none,some e,Hp.del s.H k)
 |none=>match Hp.get N1 k with
  |some e=>some (some (e.g-s.n),none,s.H)
  |none=>none
def gM (n:Nat)(pre clo:List Nat)(e:Ay)(iw:Nat):Option Nat->Bool
 |none=>true
 |some ia=>Nat.beq e.g (n+ia)&&CV ia clo&&CV ia pre && !(Nat.beq ia iw)
def ZD (X:EV)(cl:Ic)(cp:Hu)(ops:Array Oper)(pre suf:List Nat)(iw:Nat)(s:St):Option St:=match NN X cp ops s.H s.n (gS iw pre) s.env []with
 |some (env1,N1)=>match xj (NV env1) (ops.getD iw default).op with
  |some k=>match dE s N1 k with
   |some (ia,accE,R)=>match CV iw pre with
    |true=>match JJ X cp ops iw ia R (FK (Ih ops (pre++suf) []) iw) s.n pre s.env [] accE none with
     |some (env,N,e,e')=>match (Nat.beq e'.g e.g||Nat.beq e'.g (s.n+iw))&&gM s.n pre (FK (Ih ops (pre++suf) []) iw) e iw ia with
      |true=>G9 (s.n+ops.size) λn=>MC X cl ops (suf.map λj=>ops.getD j default) ⟨env,N++e'::R,n⟩
      |false=>none
     |none=>none
    |false=>none
   |none=>none
  |none=>none
 |none=>none
def Ue (X:EV)(cl:Ic)(cp:Hu)(ops:Array Oper)(s:St):Option St:=match xy ops with
 |(pre,suf)=>match H4 ops pre suf with
  |true=>match (match dm ops pre with
    |some iw=>ZD X cl cp ops pre suf iw s
    |none=>none)with
   |some s'=>some s'
   |none=>match NN X cp ops s.H s.n pre s.env []with
    |some (env,N)=>G9 (s.n+ops.size) λn=>MC X cl ops (suf.map λj=>ops.getD j default) ⟨env,N++s.H,n⟩
    |none=>none
  |false=>none
noncomputable def dd (e:Au):List Nat->Au:=List.rec (motive:=λ_=>List Nat->Au) (λ_=>[]) (λp _ ih seen=>Bool.rec (motive:=λ_=>Au) (p::ih (p.1::seen)) (ih seen) (R9 p.1 seen)) e
theorem oa (k:Nat)(d:D)(r:Au)(seen:List Nat):dd ((k,d)::r) seen=match CV k seen with
  |true=>dd r seen
  |false=>(k,d)::dd r (k::seen):=by
 show Bool.rec (motive:=λ_=>Au) _ _ (R9 k seen)=_;rw[Zm];cases CV k seen<;>rfl
theorem Ub:∀(e:Au) (seen:List Nat) (t:Nat),t∉seen->(dd e seen).get t=e.get t
 | [],_,_,_=>rfl
 |(k,d)::r,seen,t,h=>by
  rw[oa];cases hb:CV k seen with
  |true=>
   dsimp only;have hk:k≠t:=λhk=>h (hk ▸ GJ.1 hb)
   rw[Ub r seen t h,In,AF hk]
  |false=>
   dsimp only;rw[In,In]
   by_cases hk:k=t
   ·rw[AH hk,AH hk]
   ·rw[AF hk,AF hk,Ub r (k::seen) t (by simp;exact⟨λh=>hk h.symm,h⟩)]
def NZ (f:D->List Nat->List Nat):List D->List Nat->List Nat
 | [],acc=>acc
 |d::l,acc=>NZ f l (f d acc)
def KF:Nat->D->List Nat->List Nat
 | 0,_,acc=>acc
 |n+1,d,acc=>match d with
  | .osl k _ _ _ _=>k::acc
  | .optr k _ _ _ _=>k::acc
  | .agg l=>NZ (KF n) l acc
  | .tup l=>NZ (KF n) l acc
  | .clo _ a b=>NZ (KF n) a (NZ (KF n) b acc)
  | .gd _ d=>KF n d acc
  | .ifc _ d=>KF n d acc
  |_=>acc
def dW:Au->List Nat->List Nat
 | [],acc=>acc
 |(_,d)::r,acc=>dW r (KF 5 d acc)
def Rw:Hp->List Nat->List Nat
 | [],acc=>acc
 |e::r,acc=>Rw r (NZ (KF 5) e.es acc)
def Kz (p:Ay->Bool):Hp->Hp
 | []=>[]
 |e::r=>match p e with
  |true=>e::Kz p r
  |false=>Kz p r
theorem QV (p:Ay->Bool):∀H:Hp,(Kz p H).Sublist H
 | []=>.slnil
 |e::r=>by
  simp only[Kz];split
  ·exact(QV p r).cons_cons e
  ·exact(QV p r).cons e
def NU {α:Type}:List Nat->(List Nat->α)->α
 | [],k=>k []
 |n::l,k=>G9 n λn=>NU l λl=>k (n::l)
theorem Q7 {α:Type}:∀(l:List Nat) (k:List Nat->α),NU l k=k l
 | [],_=>rfl
 |n::l,k=>by simp only[NU,Lz,Q7 l]
def PU {α:Type}:Hp->(Hp->α)->α
 | [],k=>k []
 |e::l,k=>PU l λl=>k (e::l)
theorem UV {α:Type}:∀(l:Hp) (k:Hp->α),PU l k=k l
 | [],_=>rfl
 |e::l,k=>by simp only[PU,UV l]
def WA {α:Type}(n:Nat)(env:Au)(H:Hp)(k:Hp->α):α:=NU (Rw H (dW env [])) λks=>PU (Kz (λe=>match Nat.blt e.g n with
  |true=>true
  |false=>CV e.k ks) H) k
theorem u6 {α:Type}(n:Nat)(env:Au)(H:Hp)(k:Hp->α):∃H':Hp,H'.Sublist H/\WA n env H k=k H':=⟨_,QV _ _,by unfold WA;rw[Q7,UV]⟩
def WB {α:Type}(n:Nat)(d:D)(H:Hp)(k:Hp->α):α:=
 NU (Rw (Kz (λe=>Nat.blt e.g n) H) (KF 5 d [])) λks=>NU (Rw (Kz (λe=>CV e.k ks) H) ks) λks=>PU (Kz (λe=>match Nat.blt e.g n with
  |true=>true
  |false=>CV e.k ks) H) k
theorem u7 {α:Type}(n:Nat)(d:D)(H:Hp)(k:Hp->α):∃H':Hp,H'.Sublist H/\WB n d H k=k H':=⟨_,QV _ _,by unfold WB;rw[Q7,Q7,UV]⟩
def PB (f:St->Option (Exit×St))(n0:Nat):Nat->St->Option (Exit×St)
 | 0,_=>none
 |k+1,s=>WA n0 s.env s.H λH=>match f ⟨dd s.env [],H,s.n⟩with
  |some (.normal,s')=>PB f n0 k s'
  |r=>r
def Dy (X:EV)(cl:Ic)(cp:Hu)(lf:Nat):Code->St->Option (Exit×St)
 | .skip,s=>some (.normal,s)
 | .region _ ops draw,s=>match draw with
  |true=>match Ue X cl cp ops s with
   |some s'=>some (.normal,s')
   |none=>none
  |false=>match MC X cl ops ops.toList s with
   |some s'=>some (.normal,s')
   |none=>none
 | .seq a b,s=>match Dy X cl cp lf a s with
  |some (.normal,s')=>Dy X cl cp lf b s'
  |r=>r
 | .cond c a b,s=>match NV s.env c with
  | .prim (.bool true)=>Dy X cl cp lf a s
  | .prim (.bool false)=>Dy X cl cp lf b s
  |_=>none
 | .block i b,s=>match Dy X cl cp lf b s with
  |some (.exit j,s')=>match Nat.beq j i with
   |true=>some (.normal,s')
   |false=>some (.exit j,s')
  |r=>r
 | .loop b,s=>PB (Dy X cl cp lf b) (lf/1048576) (lf%1048576) s
 | .exit i,s=>some (.exit i,s)
 | .ret,s=>some (.ret,s)
 |_,_=>none
def isS (e:Exit)(s:St):Exit->St->Prop:=λe1 s1=>e1=e/\s1=s
theorem zB {c:Code}{s s2:St}{Q:Exit->St->Prop}(he:∀t,s2.env.get t=s.env.get t)(hH:s2.H=s.H)(hn:s2.n=s.n)(h:Ok C F c s2 Q):Ok C F c s Q:=
 λhd ρ a w hs=>h hd ρ a w ⟨by rw[hH];exact hs.mem,by rw[hn];exact hs.fresh,by rw[hH,hn];exact hs.gen,λt=>by rw[he,hH];exact hs.env t,hs.nt,hs.dfr⟩
theorem Ok.subH {c:Code}{env:Au}{H H':Hp}{n:Nat}{Q:Exit->St->Prop}(hs:H'.Sublist H)(h:Ok C F c ⟨env,H',n⟩ Q):Ok C F c ⟨env,H,n⟩ Q:=
 λhd ρ a w hS=>by
  obtain⟨m,hO⟩:=hS.mem.sub hs;exact h hd ρ a w ⟨m,hS.fresh,λe he=>hS.gen e (hs.subset he),λt=>(hS.env t).anti hO,hS.nt,hS.dfr⟩
theorem Cg.subH {f:Nat}{ds:List D}{H H1 H2:Hp}{n n':Nat}{d:D}(hs:H2.Sublist H1)(h:Cg C f ds H n (SZ d H1 n')):Cg C f ds H n (SZ d H2 n'):=by
 refine⟨h.1,λF ρ w vs m hfr hg hvs hr=>(h.2 F ρ w vs m hfr hg hvs hr).mono ?_⟩;rintro e w' ⟨v,d',H',n2,ρ',rfl,⟨rfl,rfl,rfl⟩,m',x,fr,gn,rep⟩;obtain⟨m2,hO⟩:=m'.sub hs;exact⟨v,_,_,_,ρ',rfl,⟨rfl,rfl,rfl⟩,m2,⟨x.size,x.link,λb hb hb'=>⟨λh=>(x.pure b hb hb').1 (hO b h),(x.pure b hb hb').2⟩,x.shape⟩,fr,λe he=>gn e (hs.subset he),rep.anti hO⟩
theorem kH (hX:FL C X)(hcl:Mq C cl)(hcp:Lv C cp){i:Nat}{s s':St}(h:Ue X cl cp ops s=some s'):Ok C F (.region i ops true) s (isS .normal s'):=by
 unfold Ue at h;split at h;rename_i pre suf ho;split at h<;>try(cases h;done)
 rename_i hc;split at h
 ·rename_i s1 hh
  cases h
  revert hh
  intro h;split at h<;>try(cases h;done)
  rename_i iw _;unfold ZD at h;simp only[Og]at h;split at h<;>try(cases h;done)
  split at h<;>try(cases h;done)
  split at h<;>try(cases h;done)
  rename_i k _ ia accE R hwb;split at h<;>try(cases h;done)
  rename_i hm;split at h<;>try(cases h;done)
  rename_i env N e e' hp;split at h<;>try(cases h;done)
  rename_i hg;rw[Lz]at h;simp only[BQ,KN]at hg;obtain⟨hg1,hg2⟩:=hg;have hreach:∀j∈FK (Ih ops (pre++suf) []) iw,Dz ops iw j:=λj hj=>OB (N9 _ _ (by simp)) _ _ hj
  have hia:∀j,ia=some j->e.g=s.n+j/\Dz ops iw j/\j∈pre/\j≠iw:=λj hj=>by
   subst hj;simp only[gM,BQ,Bi]at hg2;exact⟨B6 hg2.1.1.1,hreach j (GJ.1 hg2.1.1.2),GJ.1 hg2.1.2,λh=>by rw[h,MW]at hg2;cases hg2.2⟩
  have hacc:=(La hp).1;have hst:s.H.Perm (WR.start ⟨iw,ia,e,e',R⟩):=by
   unfold dE at hwb;split at hwb
   ·rename_i e0 he
    cases hwb;obtain⟨H1,H2,q1,_,q3⟩:=MS e0 he;rw[q3,hacc e0 rfl];unfold WR.start;rw[q1];exact HY
   ·split at hwb<;>try(cases hwb;done)
    cases hwb;exact List.Perm.refl _
  exact zd (W:=⟨iw,ia,e,e',R⟩) hX.mixed hc hst (λj hj=>⟨(hia j hj).1,(hia j hj).2.1,(hia j hj).2.2.1⟩) (GJ.1 hm) (hg1.imp B6 B6)
   (QS (W:=⟨iw,ia,e,e',R⟩) hX hcp (λh=>(hia iw h).2.2.2 rfl) hreach hp) (Qe hX hcl h ⟨rfl,rfl⟩)
 ·split at h<;>try(cases h;done)
  rename_i env N hp;rw[Lz]at h;exact zc hX.mixed hc (YE hX hcp hp) (Qe hX hcl h ⟨rfl,rfl⟩)
theorem IM (hX:FL C X)(hcl:Mq C cl)(hcp:Lv C cp){lf:Nat}:∀ {c:Code} {s s':St} {e:Exit},Dy X cl cp lf c s=some (e,s')->Ok C F c s (isS e s')
 | .skip,s,s',e,h=>by simp only[Dy,BM,Bh]at h;obtain⟨rfl,rfl⟩:=h;exact Ok.skip ⟨rfl,rfl⟩
 | .region i ops draw,s,s',e,h=>by
  simp only[Dy]at h;split at h
  ·split at h<;>try(cases h;done)
   rename_i hd;cases h;exact kH hX hcl hcp hd
  ·split at h<;>try(cases h;done)
   rename_i hd;cases h;exact Ok.region (Qe hX hcl hd ⟨rfl,rfl⟩)
 | .seq a b,s,s',e,h=>by
  simp only[Dy]at h;refine Ok.seq ?_;split at h
  ·rename_i s1 h1
   refine(IM hX hcl hcp h1).mono ?_;rintro _ _ ⟨rfl,rfl⟩;exact IM hX hcl hcp h
  ·rename_i hne
   refine(IM hX hcl hcp h).mono ?_;rintro e1 s1 ⟨h1,h2⟩;rw[h1,h2];cases e with
   |normal=>exact Ae h (hne _)
   |_=>exact⟨rfl,rfl⟩
 | .cond c a b,s,s',e,h=>by
  simp only[Dy,Og]at h;have hr:∀x,BH s.env c=.prim (.bool x)->∀ρ a w,Bl C F ρ s a w->a.eval c=.bool x:=λx hx ρ a w hs=>by
   have:=DK hs.env c
   rw[hx]at this;generalize a.eval c=v at this;cases this;rfl
  split at h
  ·rename_i hx
   exact Ok.cond true (hr _ hx) (λ_=>IM hX hcl hcp h) (λh=>by cases h)
  ·rename_i hx
   exact Ok.cond false (hr _ hx) (λh=>by cases h) (λ_=>IM hX hcl hcp h)
  ·cases h
 | .block i b,s,s',e,h=>by
  simp only[Dy]at h;refine Ok.block ?_;split at h
  ·rename_i j s1 h1
   refine(IM hX hcl hcp h1).mono ?_;rintro _ _ ⟨rfl,rfl⟩;dsimp only;split at h
   ·rename_i hb
    cases h;rw[AH (B6 hb)];exact⟨rfl,rfl⟩
   ·rename_i hb
    cases h;rw[AF (λhj=>by rw[hj,MW]at hb;cases hb)];exact⟨rfl,rfl⟩
  ·rename_i hne
   refine(IM hX hcl hcp h).mono ?_;rintro e1 s1 ⟨h1,h2⟩;rw[h1,h2];cases e with
   |exit j=>exact Ae h (hne _ _)
   |_=>exact⟨rfl,rfl⟩
 | .loop b,s,s',e,h=>by
  simp only[Dy]at h;refine Ok.loop (λm s=>PB (Dy X cl cp lf b) (lf/1048576) m s=some (e,s')) h λm s1 hI=>?_
  cases m with
  |zero=>cases hI
  |succ m=>
   simp only[PB]at hI;obtain⟨H2,hsub,hgc⟩:=u6 (α:=Option (Exit×St)) (lf/1048576) s1.env s1.H (λH=>match Dy X cl cp lf b ⟨dd s1.env [],H,s1.n⟩with
    |some (.normal,s')=>PB (Dy X cl cp lf b) (lf/1048576) m s'
    |r=>r)
   rw[hgc]at hI;refine zB (s2:=⟨dd s1.env [],s1.H,s1.n⟩) (λt=>Ub _ _ _ (by simp)) rfl rfl ?_;refine Ok.subH hsub ?_;split at hI
   ·rename_i s2 h2
    refine(IM hX hcl hcp h2).mono ?_;rintro _ _ ⟨rfl,rfl⟩;exact⟨m,Ha m,hI⟩
   ·rename_i hne
    refine(IM hX hcl hcp hI).mono ?_;rintro e1 s1 ⟨h1,h2⟩;rw[h1,h2];cases e with
    |normal=>exact Ae hI (hne _)
    |_=>exact⟨rfl,rfl⟩
 | .exit i,s,s',e,h=>by simp only[Dy,BM,Bh]at h;obtain⟨rfl,rfl⟩:=h;exact Ok.exit ⟨rfl,rfl⟩
 | .ret,s,s',e,h=>by simp only[Dy,BM,Bh]at h;obtain⟨rfl,rfl⟩:=h;exact Ok.ret ⟨rfl,rfl⟩
 | .rangeFunc ..,_,_,_,h=>by simp[Dy]at h
 | .scope _,_,_,_,h=>by simp[Dy]at h
 | .label _,_,_,_,h=>by simp[Dy]at h
 | .goto _,_,_,_,h=>by simp[Dy]at h
 | .refuse _,_,_,_,h=>by simp[Dy]at h
def okR (tt:Nat->Option Az)(s:St):List ResultVar->Bool
 | []=>true
 | .tmp _::r=>okR tt s r
 | .cell a t::r=>KT tt s.H (λ_=>s.env.get a) (.load t (.tmp 0))&&okR tt s r
theorem Rk {tt:Nat->Option Az}{s:St}:∀ {rs:List ResultVar} {l:List D} {p:Prop},Jn tt s rs=some (l,p)->okR tt s rs=true->p
 | [],_,_,h,_=>by simp only[Jn,BM,Bh]at h;obtain⟨_,rfl⟩:=h;trivial
 |r::rs,l,p,h,hk=>by
  simp only[Jn]at h;split at h<;>try(cases h;done)
  rename_i d q h1;split at h<;>try(cases h;done)
  rename_i l' q' h2;cases h;cases r with
  |tmp t=>
   simp only[M6,BM,Bh]at h1;obtain⟨_,rfl⟩:=h1;exact⟨trivial,Rk h2 hk⟩
  |cell a t=>
   simp only[okR,BQ]at hk;simp only[M6]at h1;split at h1<;>try(cases h1;done)
   rename_i he;cases h1;exact⟨U9 he hk.1,Rk h2 hk.2⟩
def Ro (tt:Nat->Option Az)(s:St)(rs:List ResultVar):Option (D×Hp×Nat):=match Ik tt s rs with
 |some (d,_)=>J8 (okR tt s rs) (d,s.H,s.n)
 |none=>none
theorem YF {tt:Nat->Option Az}{s:St}{rs:List ResultVar}{d:D}{H:Hp}{n:Nat}(h:Ro tt s rs=some (d,H,n)):∃p,Ik tt s rs=some (d,p)/\p/\H=s.H/\n=s.n:=by
 unfold Ro at h;split at h<;>try(cases h;done)
 rename_i d' p hr;obtain⟨hb,he⟩:=Lh h;cases he;refine⟨p,hr,?_,rfl,rfl⟩;unfold Ik at hr;split at hr<;>try(cases hr;done)
 ·rename_i ha;cases hr;exact Rk ha hb
 ·rename_i ha;cases hr;exact Rk ha hb
def Rx (X:EV)(cl:Ic)(cp:Hu)(lf f:Nat)(ds:List D)(H:Hp)(n:Nat):Option (D×Hp×Nat):=match X.ft f with
 |some i=>match Nat.ble ds.length i.nt with
  |true=>match Dy X cl cp (lf+n*1048576) i.code ⟨DM 0 ds,H,n⟩with
   |some (.normal,s)=>Ro X.tt s i.res
   |some (.ret,s)=>Ro X.tt s i.res
   |_=>none
  |false=>none
 |none=>none
def Rl (X:EV)(cl:Ic)(cp:Hu)(lf f:Nat)(ds:List D):Option D:=match X.orc f ds with
 |some d=>some d
 |none=>match X.np f with
  |true=>none
  |false=>match H3 (HP 20) ds with
   |true=>match Rx X cl cp lf f ds [] 0 with
    |some (d,H,_)=>Nx 20 H d
    |none=>none
   |false=>none
def Gl (X:EV)(lf:Nat):Nat->Hu×Ic
 | 0=>(λ_ _=>none,λ_ _ _ _=>none)
 |fu+1=>(Rl X (Gl X lf fu).2 (Gl X lf fu).1 lf,λf ds H n=>match Rl X (Gl X lf fu).2 (Gl X lf fu).1 lf f ds with
  |some d=>some (d,H,n+1)
  |none=>match Rx X (Gl X lf fu).2 (Gl X lf fu).1 lf f ds H n with
   |some (d,H',n')=>WB n d H' λH2=>some (d,H2,n')
   |none=>none)
theorem Y0 (hX:FL C X){lf f:Nat}{ds:List D}{H H':Hp}{n n':Nat}{d:D}(h:Rx X cl cp lf f ds H n=some (d,H',n')):
  ∃fn i e s p,X.ft f=some i/\C.P.funcs[f]?=some fn/\fn.body=some i.code/\(fn.name == "runtime.NumGoroutine")=false/\DL fn.ntmps i.code=true/\Nat.ble ds.length fn.ntmps=true /\
   (e=.normal\/e=.ret)/\Dy X cl cp (lf+n*1048576) i.code ⟨DM 0 ds,H,n⟩=some (e,s)/\Ik X.tt s fn.results.toList=some (d,p)/\p/\H'=s.H/\n'=s.n:=by
 unfold Rx at h;split at h<;>try(cases h;done)
 rename_i i hi;obtain⟨fn,a1,a2,a3,a4,a5,a6⟩:=hX.ft f i hi;split at h<;>try(cases h;done)
 rename_i hb;split at h<;>try(cases h;done)
 ·rename_i s hc
  obtain⟨p,b1,b2,b3,b4⟩:=YF h;exact⟨fn,i,.normal,s,p,hi,a1,a2,a3,a4,by rw[a5];exact hb,.inl rfl,hc,by rw[a6];exact b1,b2,b3,b4⟩
 ·rename_i s hc
  obtain⟨p,b1,b2,b3,b4⟩:=YF h;exact⟨fn,i,.ret,s,p,hi,a1,a2,a3,a4,by rw[a5];exact hb,.inr rfl,hc,by rw[a6];exact b1,b2,b3,b4⟩
theorem Xz (hX:FL C X)(hcl:Mq C cl)(hcp:Lv C cp){lf f:Nat}{ds:List D}{d:D}(h:Rl X cl cp lf f ds=some d):AJ C f ds d/\Al ds:=by
 unfold Rl at h;split at h
 ·rename_i ho;cases h;exact hX.orc _ _ _ ho
 ·split at h<;>try(cases h;done)
  split at h<;>try(cases h;done)
  rename_i hp;split at h<;>try(cases h;done)
  rename_i d0 H0 n0 hr;obtain⟨fn,i,e,s,p,_,a1,a2,a3,a4,a5,a6,a7,a8,a9,rfl,rfl⟩:=Y0 hX hr;obtain⟨z1,z2⟩:=Kw h;refine⟨Aj.intro hX.tt a1 a2 a3 a4 a5 λF=>(IM hX hcl hcp a7).mono ?_,⟨λx hx=>HK (JD hp x hx)⟩⟩;rintro _ _ ⟨rfl,rfl⟩;exact⟨a6,d0,p,a8,a9,d,z1,z2,rfl⟩
theorem Cg.ofPure {f:Nat}{ds:List D}{d:D}{H:Hp}{n:Nat}(h:AJ C f ds d)(hp:Al ds):Cg C f ds H n (SZ d H (n+1)):=by
 refine⟨h.1,λF ρ w vs m hfr hg hvs hr=>(h.2 (AN F.X ρ H) w vs m.g (BR m.gn m.size) (λb hb=>m.own_lt hb) hvs λi x hx=>hp.out x (Aw hx) _ _ _ _ _ (hr i x hx)).mono ?_⟩;rintro e w' ⟨v,d',rfl,hb,rfl,hrep⟩;have x:BT ρ (AN F.X ρ H) w ρ (AN F.X ρ H) w':=⟨hb.size,λ_ _ _ h=>h,λb hb' hO=>⟨hO,hb.block b hb'⟩,λb cs T fz hh=>⟨cs,_,by
  rw[hb.block b (Array.getElem?_eq_some_iff.1 hh).1];exact hh,rfl⟩⟩
 exact⟨v,_,_,_,ρ,rfl,⟨rfl,rfl,rfl⟩,m.same x hb.os hb.tape hb.output hb.block,x,λk g hg=>hfr k g (by omega),λe he=>DD (hg e he),hrep.nol⟩
theorem ap (hX:FL C X)(lf:Nat):∀fu,Lv C (Gl X lf fu).1/\Mq C (Gl X lf fu).2
 | 0=>⟨λ_ _ _ h=>by simp[Gl]at h,λ_ _ _ _ _ _ _ h=>by simp[Gl]at h⟩
 |fu+1=>by
  obtain⟨hcp,hcl⟩:=ap hX lf fu;refine⟨λf ds d h=>Xz hX hcl hcp h,λf ds H n d H' n' h=>?_⟩;simp only[Gl]at h;split at h
  ·rename_i d0 hp
   cases h;obtain⟨h1,h2⟩:=Xz hX hcl hcp hp;exact .ofPure h1 h2
  ·split at h<;>try(cases h;done)
   rename_i d1 H1 n1 hrun;obtain⟨H2,hsub,hgc⟩:=u7 (α:=Option (D×Hp×Nat)) n d1 H1 (λH2=>some (d1,H2,n1));rw[hgc]at h;cases h;refine Cg.subH hsub ?_;obtain⟨fn,i,e,s,p,_,a1,a2,a3,a4,a5,a6,a7,a8,a9,rfl,rfl⟩:=Y0 hX hrun;refine Cg.intro hX.tt a1 a2 a3 a4 a5 λF _=>(IM hX hcl hcp a7).mono ?_
   rintro _ _ ⟨rfl,rfl⟩;exact⟨a6,d,p,a8,a9,rfl,rfl,rfl⟩
theorem CH (hX:FL C X)(lf fu:Nat){f:Nat}{ds:List D}{d:D}(h:(Gl X lf fu).1 f ds=some d):AJ C f ds d:=((ap hX lf fu).1 f ds d h).1
end
end
inductive Bt (α:Type) where
 |nil
 |node (k:Nat) (v:α) (l r:Bt α)
def Bt.get {α:Type}:Bt α->Nat->Option α
 | .nil,_=>none
 | .node k v l r,t=>match Nat.beq t k with
  |true=>some v
  |false=>match Nat.ble t k with
   |true=>l.get t
   |false=>r.get t
def Bt.toL {α:Type}:Bt α->List (Nat×α)
 | .nil=>[]
 | .node k v l r=>(k,v)::(l.toL++r.toL)
theorem Bt.get_mem {α:Type}:∀ {b:Bt α} {t:Nat} {v:α},b.get t=some v->(t,v)∈b.toL
 | .nil,_,_,h=>by cases h
 | .node k v l r,t,u,h=>by
  simp only[Bt.get]at h;split at h
  ·rename_i hb;cases h;rw[B6 hb];exact CA ..
  ·split at h
   ·exact CF _ (IF _ (Bt.get_mem h))
   ·exact CF _ (List.mem_append_right _ (Bt.get_mem h))
theorem zZ {P:Program}{b:Bt Az}(h:b.toL.map (λp=>ED P p.1)=b.toL.map (λp=>some p.2)):Cp P b.get:=λt i hi=>by
 have hm:=Bt.get_mem hi;obtain⟨j,hj,he⟩:=Np hm
 have:=congrArg (λl=>l[j]?) h
 simp only[A7,BG hj,he,JY,BM]at this;exact this
theorem z7 {P:Program}{b:Bt XI}(h:b.toL.map (λp=>MD P p.1)=b.toL.map (λp=>some p.2)):MI P b.get:=λt i hi=>by
 have hm:=Bt.get_mem hi;obtain⟨j,hj,he⟩:=Np hm
 have:=congrArg (λl=>l[j]?) h
 simp only[A7,BG hj,he,JY,BM]at this;exact this
def Ja (P:Program) (f:Nat) (i:FI):Prop:=∃fn,P.funcs[f]?=some fn/\fn.body=some i.code/\(fn.name == "runtime.NumGoroutine")=false/\DL fn.ntmps i.code=true/\fn.ntmps=i.nt/\fn.results.toList=i.res
def PL (P:Program):Bt FI->Prop
 | .nil=>True
 | .node k v l r=>Ja P k v/\PL P l/\PL P r
theorem V2 {P:Program}:∀ {b:Bt FI},PL P b->∀f i,b.get f=some i->Ja P f i
 | .nil,_,_,_,h=>by cases h
 | .node k v l r,h,f,i,hi=>by
  simp only[Bt.get]at hi;split at hi
  ·rename_i hb;cases hi;rw[B6 hb];exact h.1
  ·split at hi
   ·exact V2 h.2.1 f i hi
   ·exact V2 h.2.2 f i hi
def LD (f:Func):FI:=⟨f.ntmps,f.results.toList,f.body.getD .skip⟩
def fw (rd:Option Nat):Fence:={ Fence.wide with round:=rd }
theorem Ke {rd:Option Nat}{n:Nat}{P:Program}{f:FuncId}{args:Array Value}{w:World}{R:Ending->World->Prop}:CallsIn (fw rd) n P f args w R↔Calls P f args w R:=
 (show CallsIn (fw rd) n P f args w R↔CallsIn Fence.wide n P f args w R from Iff.rfl).trans callsIn_wide
theorem Ln {rd:Option Nat}{n:Nat}:(fw rd).depth.isSome=true->1<=n:=λh=>by cases h
theorem QK {P:Program}{ρ:Operand->Value}{o:Oper}{w w':World}{x:Next}(h:(execOp ρ o).run P w=.ok x w')(hx:∀d,x≠.defer d):∀c,o.op≠.defer c:=λc hc=>by
 unfold execOp at h;simp only[hc]at h;rw[run_bind]at h;split at h
 ·cases h;exact hx _ rfl
 ·cases h
section
variable {C:BD} {F:Ac} {ops:Array Oper} {rd:Option Nat} {Q:Exit->Act->World->Prop}
theorem OK {P:Program}{o:Oper}{a:Act}{w w':World}{v:Value}{K:Act->World->Prop}(h:(execOp a.eval o).run P w=.ok (.value v) w')(hk:K (a.put o.dst v) w'):o.wpIn (fw rd) 0 P a w K Q:=by
 refine⟨λ_ _=>trivial,?_⟩;rw[Oper.semAt_eq _ _ _ (QK h (by simp)),h];exact hk
theorem jb {P:Program}{o:Oper}{a:Act}{w w':World}{K:Act->World->Prop}(h:(execOp a.eval o).run P w=.ok .skip w')(hk:K (a.put o.dst undef) w'):o.wpIn (fw rd) 0 P a w K Q:=by
 refine⟨λ_ _=>trivial,?_⟩;rw[Oper.semAt_eq _ _ _ (QK h (by simp)),h];exact hk
theorem j9 {P:Program}{o:Oper}{a:Act}{w w':World}{f:Nat}{vs:Array Value}{K:Act->World->Prop}(h:(execOp a.eval o).run P w=.ok (.enter f vs) w')
  (hc:Calls P f vs w' λe w''=>∃v,e=.returned v/\K (a.put o.dst v) w''):o.wpIn (fw rd) 0 P a w K Q:=by
 refine⟨λ_ _=>trivial,?_⟩;rw[Oper.semAt_eq _ _ _ (QK h (by simp)),h];refine⟨Ln,Ke.2 (hc.mono ?_)⟩;rintro e w'' ⟨v,rfl,hk⟩;exact hk
theorem ja {P:Program}{o:Oper}{a:Act}{w w':World}{l f:Nat}{tmps:Array Value}{as bd:Code}{K:Act->World->Prop}(h:(execOp a.eval o).run P w=.ok (.round l f tmps as bd) w')
  (hc:RoundIn (fw rd) 0 P l f tmps as bd w' λe w''=>∃v,e=.returned v/\K (a.put o.dst v) w''):o.wpIn (fw rd) 0 P a w K Q:=by
 refine⟨λ_ _=>trivial,?_⟩;rw[Oper.semAt_eq _ _ _ (QK h (by simp)),h];refine⟨Ln,hc.mono ?_⟩;rintro e w'' ⟨v,rfl,hk⟩;exact hk
theorem Fd {R:Exit->Act->World->Prop}{l2:List Nat}(hR:∀e a w,R e a w->e=.normal/\wpOpsIn (fw rd) 0 C.P ops Q l2 a w)(hnd:∀(i:Nat) (o:Oper),ops[i]?=some o->∀c,o.op≠.defer c):
  ∀(l:List Nat) (a:Act) (w:World),wpOps C.P ops R l a w->wpOpsIn (fw rd) 0 C.P ops Q (l++l2) a w
 | [],a,w,h=>(hR _ _ _ h).2
 |i::l,a,w,h=>by
  have hlet:¬LetsOut R:=λ⟨a,w,h⟩=>by have:=(hR _ _ _ h).1;cases this
  simp only[wpOps]at h;simp only[Em,wpOpsIn];cases ho:ops[i]? with
  |none=>simp only[ho]at h;exact Fd hR hnd l a w h
  |some o=>
   simp only[ho]at h;dsimp only;split
   ·rename_i hw
    rw[AH hw]at h;rcases h with h|⟨_,h⟩
    ·unfold Oper.wp at h
     refine⟨λ_ _=>trivial,?_⟩;rw[Oper.semAt_eq _ _ _ (hnd i o ho)]
     revert h
     generalize(execOp a.eval o).run C.P w=r;intro h;unfold Oper.upon at h;unfold Oper.uponIn;split at h
     ·exact Fd hR hnd l _ _ h
     ·exact Fd hR hnd l _ _ h
     ·exact Fd hR hnd l _ _ h
     ·refine⟨Ln,Ke.2 (h.mono ?_)⟩
      intro e w'' h;cases e with
      |returned v=>exact Fd hR hnd l _ _ h
      |panicked c=>have:=(hR _ _ _ h).1;cases this
      |outgrown=>exact Ae h hlet
     ·exact⟨Ln,λc cs hr=>by
       obtain⟨v,w',h1,h2⟩:=h c cs;exact⟨v,w',Fd hR hnd l _ _ h1,stepsIn_wide.2 h2⟩⟩
     ·have:=(hR _ _ _ h).1;cases this
     ·exact h.elim
    ·exact Ae h hlet
   ·rename_i hw
    rw[AF hw]at h;exact⟨λ_ _=>trivial,Fd hR hnd l _ _ h⟩
theorem Sp {Q:Exit->Act->World->Prop}:∀(l:List Nat) (fuel:Nat) (L:Array Bool) (a:Act) (w:World),L.size=ops.size->l.length<=fuel->(∀i,i<ops.size->(Ls L i↔i∉l))->l.Nodup ->
  (∀A i B,l=A++i::B->(∀j∈GO ops i,j<ops.size/\j∉i::B)/\∀j∈A,Dz ops i j)->(∀i∈l,i<ops.size)->Cl ops L ->
  wpOpsIn (fw rd) 0 C.P ops Q l a w->wpAnyIn (fw rd) 0 C.P .any ops Q fuel L a w
 | [],fuel,L,a,w,hs,_,hl,_,_,_,_,h=>by
  have hr:Region.ready .any ops L=[]:=by
   apply List.eq_nil_iff_forall_not_mem.2;intro i hi;obtain⟨h1,h2,_⟩:=GM.1 hi
   have:=(hl i h1).2 (by simp)
   unfold Ls at this;rw[A0,Bn (by omega)]at this h2;simp at this h2;rw[this]at h2;cases h2
  cases fuel with
  |zero=>exact⟨hr,h⟩
  |succ fuel=>exact⟨λ_=>h,λi hi=>by rw[hr]at hi;simp at hi⟩
 |i::l,0,_,_,_,_,hf,_,_,_,_,_,_=>by simp at hf
 |i::l,fuel+1,L,a,w,hs,hf,hl,hnd,hd,hlt,hcl,h=>by
  have hil:=hlt i (by simp);have hLi:∀j,j<ops.size->(L.getD j true=true↔Ls L j):=λj hj=>by
   unfold Ls;rw[A0,A0,Bn (by omega)];simp
  have hready:∀j,j∈Region.ready .any ops L↔j=i:=by
   intro j;rw[GM];constructor
   ·rintro⟨h1,h2,h3⟩
    have hj:j∈i::l:=by
     apply Dd;intro hn
     have:=(hLi j h1).2 ((hl j h1).2 hn)
     rw[h2]at this;cases this
    apply Dd;intro hne;have hjl:j∈l:=by simpa[hne]using hj
    obtain⟨A,B,rfl⟩:=FA hjl;have hreach:=(hd (i::A) j B (by simp)).2 i (by simp)
    have:=Hj hs hcl hreach h3
    exact Ae ((hl i hil).1 this) (by simp)
   ·rintro rfl
    refine⟨hil,?_,λk hk=>?_⟩
    ·cases hb:L.getD j true with
     |false=>rfl
     |true=>exact Ae ((hl j hil).1 ((hLi j hil).1 hb)) (by simp)
    ·have hk2:=(hd [] j l rfl).1 k hk
     exact(hl k hk2.1).2 hk2.2
  have hset:∀j,Ls (L.setIfInBounds i true) j↔j=i\/Ls L j:=λj=>Ls.set (by omega)
  refine⟨λh0=>?_,λj hj=>?_⟩
  ·have:=(hready i).2 rfl
   rw[h0]at this;simp at this
  ·obtain rfl:=(hready j).1 hj
   rw[wpOpsIn_cons]at h;obtain⟨n1,n2⟩:=List.nodup_cons.1 hnd;refine wpOpIn_mono (λa w hk=>?_) h;refine Sp l fuel _ a w (by simp[hs]) (by simp at hf;omega) (λk hk2=>?_) n2 (λA k B hAB=>?_) (λk hk2=>hlt k (by simp[hk2])) ?_ hk
   ·rw[hset,hl k hk2]
    by_cases hkj:k=j
    ·subst hkj;simp[n1]
    ·simp[hkj]
   ·obtain⟨q1,q2⟩:=hd (j::A) k B (by simp[hAB])
    exact⟨q1,λx hx=>q2 x (by simp[hx])⟩
   ·intro k hk2 hks x hx
    have hk3:Ls (L.setIfInBounds j true) k:=by
     unfold Ls;rw[A0,Bn (by simp;omega)]at hk2⊢;simpa using hk2
    show Ls _ x;rw[hset];rcases(hset k).1 hk3 with rfl|hk3
    ·exact .inr ((GM.1 hj).2.2 x hx)
    ·exact .inr (hcl k ((hLi k hks).2 hk3) hks x hx)
theorem ik {Q:Exit->Act->World->Prop}{H:Hp}{n:Nat}{env:Au}{rs:List DR}{suf:List Nat}(ho:O6 ops rs suf)(hgen:∀e∈H,e.g<n)(hd:∀r∈rs,Dl F.nt r.o=true)
  (hst:∀A r B,rs=A++r::B->ops[r.i]?=some r.o/\CQ C F ops H (n+r.i) (Gx A env) r.o r.d r.ne)
  (hend:∀(L:Array Bool) (a:Act) (w:World) (ρ:Lk) (He:Hp),L.size=ops.size->(∀r∈rs,Ls L r.i)->DI C F H n env rs L a w ρ He->wpOpsIn (fw rd) 0 C.P ops Q suf a w):
  ∀(fuel:Nat) (L:Array Bool) (a:Act) (w:World) (ρ:Lk) (He:Hp),L.size=ops.size->((rs.map (·.i)++suf).filter (λi=>!L.getD i false)).length<=fuel->Cl ops L->(∀i∈suf,¬Ls L i) ->
   DI C F H n env rs L a w ρ He->wpAnyIn (fw rd) 0 C.P .any ops Q fuel L a w:=by
 intro fuel
 induction fuel with
 |zero=>
  intro L a w ρ He hL hf hc hs hi;have h0:(rs.map (·.i)++suf).filter (λi=>!L.getD i false)=[]:=En (by omega);have hall:∀r∈rs,Ls L r.i:=λr hr=>by
   have:=List.filter_eq_nil_iff.1 h0 r.i (by simp;exact .inl ⟨r,hr,rfl⟩)
   simpa[Ls]using this
  have hsuf:suf=[]:=by
   apply List.eq_nil_iff_forall_not_mem.2;intro i hi2
   have:=List.filter_eq_nil_iff.1 h0 i (by simp[hi2])
   exact hs i hi2 (by simpa[Ls]using this)
  subst hsuf;refine Sp [] 0 L a w hL (Ai _) (λi hi2=>⟨λ_=>by simp,λ_=>?_⟩) .nil (λA i B h=>by cases A<;>simp at h) (by simp) hc (hend L a w ρ He hL hall hi)
  have:=ho.all i hi2
  simp at this;obtain⟨r,hr,rfl⟩:=this;exact hall r hr
 |succ fuel ih=>
  intro L a w ρ He hL hf hc hs hi
  by_cases hall:∀r∈rs,Ls L r.i
  ·refine Sp suf (fuel+1) L a w hL ?_ (λi hi2=>?_) ?_ (λA i B hAB=>⟨λj hj=>?_,λj hj=>ho.suf A i B hAB j (by simp[hj])⟩) (λi hi2=>ho.lt i (by simp[hi2])) hc (hend L a w ρ He hL hall hi)
   ·refine BR ?_ hf
    rw[List.filter_append,Bk];rw[(List.filter_eq_self (l:=suf)).2 λi hi2=>by have:=hs i hi2;unfold Ls at this;simpa using this];omega
   ·constructor
    ·intro h1 h2;exact hs i h2 h1
    ·intro h1
     have:=ho.all i hi2
     rcases List.mem_append.1 this with h|h
     ·obtain⟨r,hr,rfl⟩:=List.mem_map.1 h;exact hall r hr
     ·exact Ae h h1
   ·exact(Ep.1 ho.nodup).2.1
   ·have hA:=ho.first (rs.map (·.i)++A) i B (by simp[hAB]) j hj
    refine⟨ho.lt j (by rw[hAB];rcases List.mem_append.1 hA with h|h<;>simp[h]),λhB=>?_⟩;have hnd:=ho.nodup;rw[hAB,<-Di,Ep]at hnd;exact hnd.2.2 j hA j hB rfl
  ·have hnot:∃r∈rs,¬Ls L r.i:=by
    apply Dd;intro hn;exact hall λr hr=>Dd λh=>hn ⟨r,hr,h⟩
   have hLt:∀j,j<ops.size->(L.getD j true=true↔Ls L j):=λj hj=>by
    unfold Ls;rw[A0,A0,Bn (by omega)];simp
   have hsome:Region.ready .any ops L≠[]:=by
    obtain⟨r0,hr0,hn0⟩:=hnot
    have:∀X:List DR,∀Y,rs=X++Y->(∃r∈Y,¬Ls L r.i)->(∀r∈X,Ls L r.i)->∃A r B,rs=A++r::B/\¬Ls L r.i/\∀r∈A,Ls L r.i:=by
     intro X Y
     induction Y generalizing X with
     |nil=>rintro _ ⟨r,hr,_⟩ _;simp at hr
     |cons y Y ihY=>
      intro hXY hex hX
      by_cases hy:Ls L y.i
      ·obtain⟨r,hr,hrn⟩:=hex
       rcases BA.1 hr with rfl|hr
       ·exact Ae hy hrn
       ·exact ihY (X++[y]) (by simp[hXY]) ⟨r,hr,hrn⟩ (λr hr=>by
         rcases List.mem_append.1 hr with h|h
         ·exact hX r h
         ·simp at h;subst h;exact hy)
      ·exact⟨X,y,Y,hXY,hy,hX⟩
    obtain⟨A,r,B,h1,h2,h3⟩:=this [] rs rfl ⟨r0,hr0,hn0⟩ (by simp);intro hnil;have hrlt:=ho.lt r.i (by rw[h1];simp)
    have:r.i∈Region.ready .any ops L:=by
     rw[GM];refine⟨hrlt,?_,λj hj=>?_⟩
     ·cases hb:L.getD r.i true with
      |false=>rfl
      |true=>exact Ae ((hLt r.i hrlt).1 hb) h2
     ·have:=ho.first (A.map (·.i)) r.i (B.map (·.i)++suf) (by rw[h1];simp) j hj
      obtain⟨r',hr',rfl⟩:=List.mem_map.1 this;exact h3 r' hr'
    rw[hnil]at this;simp at this
   refine⟨λh0=>Ae h0 hsome,λi hir=>?_⟩;obtain⟨hilt,hin,hid⟩:=GM.1 hir;have hnL:¬Ls L i:=λh=>by rw[(hLt i hilt).2 h]at hin;cases hin
   have hpre:i∈rs.map (·.i):=by
    rcases List.mem_append.1 (ho.all i hilt)with h|h
    ·exact h
    ·obtain⟨A,B,hAB⟩:=FA h
     obtain⟨r0,hr0,hn0⟩:=hnot
     have:=Hj hL hc (ho.suf A i B hAB r0.i (IF _ (List.mem_map.2 ⟨r0,hr0,rfl⟩))) hid
     exact Ae this hn0
   obtain⟨r,hr,rfl⟩:=List.mem_map.1 hpre;obtain⟨A,B,hAB⟩:=FA hr;obtain⟨hor,hgen2,hsteady⟩:=hst A r B hAB;have hset:∀j,Ls (L.setIfInBounds r.i true) j↔j=r.i\/Ls L j:=λj=>Ls.set (by omega)
   have hndr:(rs.map (·.i)).Nodup:=(Ep.1 ho.nodup).1;have hsub:∀e∈H,e∈He:=λe he=>hi.perm.mem_iff.2 (by simp[he])
   have hfr:∀k,ρ k (n+r.i)=none:=λk=>by
    apply Dd;intro hk;obtain⟨r',h1,h2,h3⟩:=hi.fresh k (n+r.i) (by omega) hk
    have:r'.i=r.i:=by omega
    rw[this]at h2;exact hnL h2
   have hne:∀e∈He,e.g≠n+r.i:=λe he hg=>by
    rcases List.mem_append.1 (hi.perm.mem_iff.1 he)with h|h
    ·obtain⟨r',h1,h2⟩:=List.mem_filterMap.1 h
     split at h2
     ·rename_i hl
      obtain⟨A',B',hAB'⟩:=FA h1
      have:=(hst A' r' B' hAB').2.1 e h2
      have:r'.i=r.i:=by omega
      rw[this]at hl;exact hnL hl
     ·cases h2
    ·have:=hgen e h;omega
   have next:∀v ρ' w',JL C F He ρ w (n+r.i) r.d r.ne v ρ' w'->wpAnyIn (fw rd) 0 C.P .any ops Q fuel (L.setIfInBounds r.i true) (a.put r.o.dst v) w':=by
    intro v ρ' w' p;have hi':=hi;rw[hAB]at hi' hndr;have hdst:=ho.dst;rw[hAB]at hdst;have hn':=DI.next hi' (by omega) hnL hndr hdst (hd r hr) p;rw[<-hAB]at hn';refine ih _ _ _ ρ' (Cx r.ne He) (by simp[hL]) ?_ ?_ (λj hj=>?_) hn'
    ·have:((rs.map (·.i)++suf).filter (λi=>!(L.setIfInBounds r.i true).getD i false)).length<((rs.map (·.i)++suf).filter (λi=>!L.getD i false)).length:=by
      have sub:(rs.map (·.i)++suf).filter (λi=>!(L.setIfInBounds r.i true).getD i false)=((rs.map (·.i)++suf).filter (λi=>!L.getD i false)).filter (λi=>!Nat.beq i r.i):=by
       rw[List.filter_filter];apply List.filter_congr;intro x hx;have h1:=hset x;unfold Ls at h1
       by_cases hxr:x=r.i
       ·subst hxr
        have:(L.setIfInBounds r.i true).getD r.i false=true:=h1.2 (.inl rfl)
        simp[this]
       ·have hb:Nat.beq x r.i=false:=by
         cases hb:Nat.beq x r.i with
         |false=>rfl
         |true=>exact Ae (B6 hb) hxr
        rw[hb]
        by_cases hlx:L.getD x false=true
        ·rw[h1.2 (.inr hlx),hlx];rfl
        ·have:¬(L.setIfInBounds r.i true).getD x false=true:=λh=>hlx ((h1.1 h).resolve_left hxr)
         simp only[Bool.not_eq_true]at this hlx;rw[this,hlx];rfl
      rw[sub];apply List.length_filter_lt_length_iff_exists.2;exact⟨r.i,by rw[List.mem_filter];exact⟨by simp;exact .inl ⟨r,hr,rfl⟩,by unfold Ls at hnL;simpa using hnL⟩,by simp⟩
     omega
    ·intro k hk2 hks x hx
     have hk3:Ls (L.setIfInBounds r.i true) k:=by
      unfold Ls;rw[A0,Bn (by simp;omega)]at hk2⊢;simpa using hk2
     show Ls _ x;rw[hset];rcases(hset k).1 hk3 with rfl|hk3
     ·exact .inr (hid x hx)
     ·exact .inr (hc k ((hLt k hks).2 hk3) hks x hx)
    ·rw[hset]
     rintro(rfl|h)
     ·have hnd:=ho.nodup
      rw[Ep]at hnd;exact hnd.2.2 r.i (List.mem_map.2 ⟨r,hr,rfl⟩) r.i hj rfl
     ·exact hs j hj h
   unfold wpOpIn;simp only[hor];rcases hsteady He ρ a w hi.mem hsub hfr hne (hi.look ho hL hc hAB hir)with⟨hw,hn0,hrep⟩|⟨hw,hout⟩
   ·rw[AF (by rw[hw];simp)]
    exact⟨λ_ _=>trivial,next undef ρ w ⟨by rw[hn0];exact hi.mem,by rw[hn0];exact .refl _ _ _,λ_ _ _=>rfl,by rw[hn0];exact hrep⟩⟩
   ·rw[AH hw]
    rcases hout with⟨v,ρ',w',h1,h2⟩|⟨f,vs,h1,h2⟩
    ·exact OK h1 (next v ρ' w' h2)
    ·refine j9 h1 (h2.mono ?_)
     rintro e w' ⟨v,rfl,ρ',h3⟩;exact⟨v,rfl,next v ρ' w' h3⟩
theorem xP {R:Exit->Act->World->Prop}{i:Nat}{s:St}{pre suf:List Nat}{envF:Au}{N:Hp}(hm:C.P.follows .mixedOrders=true)(hc:H4 ops pre suf=true)
  (hpre:Iy C F ops s.H s.n pre s.env [] envF N)
  (h:(∀j∈suf,j<ops.size)->∀(ρ:Lk) (a:Act) (w:World),Bl C F ρ ⟨envF,N++s.H,s.n+ops.size⟩ a w->wpOpsIn (fw rd) 0 C.P ops R suf a w) (hd:ops.toList.all (Dl F.nt)=true) (ρ:Lk) (a:Act) (w:World) (hs:Bl C F ρ s a w):
  (Code.region i ops true).wpIn (fw rd) 0 C.P R a w:=by
 obtain⟨rs,h1,h2,h3,h4⟩:=hpre.recs;have hor:∀r∈rs,ops[r.i]?=some r.o:=λr hr=>by
  obtain⟨A,B,hAB⟩:=FA hr;exact(h4 A r B hAB).1
 have ho:=Th h1 hor hc;have hds:∀r∈rs,Dl F.nt r.o=true:=λr hr=>by
  refine CS.1 hd r.o ?_
  have:=hor r hr
  exact Array.mem_toList_iff.2 (It this)
 have hrep:∀j,(Array.replicate ops.size false).getD j false=false:=λj=>by
  rw[A0];rw[Nk];split<;>rfl
 have hnL:∀j,¬Ls (Array.replicate ops.size false) j:=λj hj=>by unfold Ls at hj;rw[hrep]at hj;cases hj
 refine wpIn_region_any hm ?_;have hin:DI C F s.H s.n s.env rs (Array.replicate ops.size false) a w.drew ρ s.H:=by
  refine⟨hs.mem.drew,?_,λr _ hl=>Ae hl (hnL _),λt _=>(hs.env t).mono (.drew _ _ _),λk g hg hk=>Ae (hs.fresh k g hg) hk,hs.nt,hs.dfr⟩
  have:rs.filterMap (λr=>if(Array.replicate ops.size false).getD r.i false then r.ne else none)=[]:=by
   rw[V6];intro r _;rw[hrep];rfl
  rw[this];exact List.Perm.refl _
 refine ik ho hs.gen hds h4 ?_ ops.size _ a w.drew ρ s.H (by simp) ?_ ?_ (λj _=>hnL j) hin
 ·intro L a' w' ρ' He hL hall hi
  have hN:He.Perm (N++s.H):=by
   refine hi.perm.trans (List.Perm.append_right _ ?_);have e:rs.filterMap (λr=>if L.getD r.i false then r.ne else none)=rs.filterMap (·.ne):=Mk λr hr=>by
    have:=hall r hr;unfold Ls at this;rw[this];rfl
   rw[e,h3]
   have:=Lb rs []
   rw[DE]at this;exact this.symm
  refine h (λj hj=>ho.lt j (by simp[hj])) ρ' a' w' ⟨hi.mem.perm hN,?_,?_,λt=>?_,hi.nt,hi.dfr⟩
  ·intro k g hg
   apply Dd;intro hk;obtain⟨r,hr,_,he⟩:=hi.fresh k g (by simp at hg;omega) hk
   have:=ho.lt r.i (by simp;exact .inl ⟨r,hr,rfl⟩)
   simp at hg;omega
  ·intro e he
   rcases List.mem_append.1 he with he|he
   ·rw[h3]at he
    have he:=(Lb rs []).mem_iff.1 he;rw[DE]at he;obtain⟨r,hr,hre⟩:=List.mem_filterMap.1 he;obtain⟨A,B,hAB⟩:=FA hr
    have:=(h4 A r B hAB).2.1 e hre
    have:=ho.lt r.i (by simp;exact .inl ⟨r,hr,rfl⟩)
    show e.g<s.n+ops.size;omega
   ·have:=hs.gen e he
    show e.g<s.n+ops.size;omega
  ·show AW ρ' (AN F.X ρ' (N++s.H)) w' (envF.get t) _
   rw[<-AN.perm hN,h2]
   by_cases hw:∃r∈rs,r.o.dst=some t
   ·obtain⟨r,hr,hrd⟩:=hw
    rw[OW rs s.env t ho.dst r hr hrd];exact hi.reps r hr (hall r hr) t hrd
   ·rw[Le rs s.env t λr hr hrd=>hw ⟨r,hr,hrd⟩]
    exact hi.old t λr hr _ hrd=>hw ⟨r,hr,hrd⟩
 ·refine BR (List.length_filter_le _ _) ?_
  have hsub:∀(l:List Nat) (n:Nat),l.Nodup->(∀x∈l,x<n)->l.length<=n:=by
   intro l n
   induction n generalizing l with
   |zero=>intro _ h;cases l with
    |nil=>simp
    |cons x l=>exact Ae (h x (by simp)) (by omega)
   |succ n ihn=>
    intro hnd hlt;have h1:=ihn (l.erase n) (hnd.erase n) λx hx=>by
     have:=hlt x (List.mem_of_mem_erase hx)
     have:x≠n:=λh=>by subst h;exact(V8 hnd) hx
     omega
    have:=List.length_erase (a:=n) (l:=l)
    split at this<;>omega
  exact hsub _ _ ho.nodup ho.lt
 ·intro k hk
  have:k<ops.size\/¬k<ops.size:=by omega
  rcases this with hlt|hlt
  ·rw[A0,Nk,AH hlt]at hk;cases hk
  ·intro h;exact Ae h hlt
theorem Ki {R Q:Exit->Act->World->Prop}(hR:∀e a w,R e a w->e=.normal/\Q .normal a w)(hnd:∀(i:Nat) (o:Oper),ops[i]?=some o->∀c,o.op≠.defer c):
  ∀(fuel:Nat) (L:Array Bool) (a:Act) (w:World),wpAny C.P .any ops R fuel L a w->wpAnyIn (fw rd) 0 C.P .any ops Q fuel L a w
 | 0,L,a,w,h=>⟨h.1,(hR _ _ _ h.2).2⟩
 |fuel+1,L,a,w,h=>⟨λh0=>(hR _ _ _ (h.1 h0)).2,λi hi=>by
   have hlet:¬LetsOut R:=λ⟨a,w,h⟩=>by have:=(hR _ _ _ h).1;cases this
   have hq:=h.2 i hi;unfold wpOp at hq;unfold wpOpIn;split
   ·rename_i ho;simp only[ho]at hq;exact Ki hR hnd fuel _ a w hq
   ·rename_i o ho
    simp only[ho]at hq;split
    ·rename_i hw
     rw[AH hw]at hq;rcases hq with hq|⟨_,hq⟩
     ·unfold Oper.wp at hq
      refine⟨λ_ _=>trivial,?_⟩;rw[Oper.semAt_eq _ _ _ (hnd i o ho)]
      revert hq
      generalize(execOp a.eval o).run C.P w=r;intro hq;unfold Oper.upon at hq;unfold Oper.uponIn;split at hq
      ·exact Ki hR hnd fuel _ _ _ hq
      ·exact Ki hR hnd fuel _ _ _ hq
      ·exact Ki hR hnd fuel _ _ _ hq
      ·refine⟨Ln,Ke.2 (hq.mono ?_)⟩
       intro e w'' h;cases e with
       |returned v=>exact Ki hR hnd fuel _ _ _ h
       |panicked c=>have:=(hR _ _ _ h).1;cases this
       |outgrown=>exact Ae h hlet
      ·exact⟨Ln,λc cs hr=>by
        obtain⟨v,w',h1,h2⟩:=hq c cs;exact⟨v,w',Ki hR hnd fuel _ _ _ h1,stepsIn_wide.2 h2⟩⟩
      ·have:=(hR _ _ _ hq).1;cases this
      ·exact hq.elim
     ·exact Ae hq hlet
    ·rename_i hw
     rw[AF hw]at hq;exact⟨λ_ _=>trivial,Ki hR hnd fuel _ _ _ hq⟩⟩
end
end Go.Ide
